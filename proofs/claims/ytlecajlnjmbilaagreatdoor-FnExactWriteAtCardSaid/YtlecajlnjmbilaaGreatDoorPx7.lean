-- Printed walks.
import Derived.Test.YtlecajlnjmbilaaGreatDoorPx3
import Derived.Test.YtlecajlnjmbilaaGreatDoorPx5
set_option linter.all false
set_option maxHeartbeats 8000000
set_option maxRecDepth 100000
namespace Go.Proofs.YtlecajlnjmbilaaGreatDoor.P
open Go.RowKit Go.Proofs.ae.au Go.Proofs.ae.ba Go.Proofs.ae.bg
attribute [local go_sem] gh gi iR iS ft fu gj gl

mutual
def aA.l0:Nat→List (bh)→Int→Int→Option (Int)
 |0,_,_,_=>none
 |k+1,x0,x1,x5=>if x5<(x0.length:Int)then(aA.j1 k x0 x1 x5)else(some x1)
def aA.j1:Nat→List (bh)→Int→Int→Option (Int)
 |0,_,_,_=>none
 |k+1,x0,x1,x5=>if 0≤x5 then(if x5<(x0.length:Int)then(if((af x0 x5).f0)=x1 then(aA.j2 k x0 x1 x5)else(some (-1)))else(none))else(none)
def aA.j2:Nat→List (bh)→Int→Int→Option (Int)
 |0,_,_,_=>none
 |k+1,x0,x1,x5=>if 0≤x5 then(if x5<(x0.length:Int)then(if((af x0 x5).f1)=(wrap64 (x1+1))then(aA.j3 k x0 (wrap64 (x1+1)) x5)else(some (-1)))else(none))else(none)
def aA.j3:Nat→List (bh)→Int→Int→Option (Int)
 |0,_,_,_=>none
 |k+1,x0,x1,x5=>if 0≤x5 then(if x5<(x0.length:Int)then(if((af x0 x5).f2)=(wrap64 (x1+1))then(aA.j4 k x0 (wrap64 (x1+1)) x5)else(some (-1)))else(none))else(none)
def aA.j4:Nat→List (bh)→Int→Int→Option (Int)
 |0,_,_,_=>none
 |k+1,x0,x1,x5=>if 0≤x5 then(if x5<(x0.length:Int)then((db.f k ((af x0 x5).f3) (wrap64 (x1+1))).bind fun b1=>(if b1<0 then(some (-1))else(aA.j5 k x0 b1 x5)))else(none))else(none)
def aA.j5:Nat→List (bh)→Int→Int→Option (Int)
 |0,_,_,_=>none
 |k+1,x0,x1,x5=>if 0≤x5 then(if x5<(x0.length:Int)then((bw.f k ((af x0 x5).f4) x1).bind fun b1=>(if b1<0 then(some (-1))else((aM.f k ((af x0 x5).f5) b1).bind fun b2=>(if b2<0 then(some (-1))else(aA.l0 k x0 b2 (wrap64 (x5+1)))))))else(none))else(none)
end
def aA.f (k:Nat) (l0:List (bh)) (a1:Int):Option (Int):=aA.l0 k l0 a1 0
theorem aA.calls (k:Nat) (A0:Option Addr) (c0:Nat) (l0:List (bh)) (a1:Int) (r:Int) (w:World) (hr0:Kd.C fD w A0 l0.length l0) (hc0:l0.length≤c0) (h:aA.f k l0 a1=some r):
  Calls Tryz.prog 38 #[.slice A0 l0.length c0,.int .i64 a1] w fun e w'=>e= .returned (.int .i64 r)∧Below w.heap.size w w':=by
 have bV:=ab.mk hr0;have HC0:=ab.mk hc0;clear hr0 hc0;have HB:=am (Below.refl w.heap.size w);unfold aA.f at h;have H:=h;clear h;have H':=ab.mk H;clear H
 go_enter Tryz.func38,Tryz.ntmps38
 go_wp2
 go_loopg [1,5] k (fun kq v1 v5 w'=>∃(b2:Int) (b1:Int),v1= .int .i64 b2∧v5= .int .i64 b1∧ab (aA.l0 kq l0 b2 b1=some r)∧ab (kq≤k)∧ab (Below w.heap.size w w'))
 case atStart=>exact⟨(a1),(0),oS,oS,H',⟨Nat.le_refl _⟩,⟨oB⟩⟩
 case round=>
  clear H';obtain⟨b2,b1,rfl,rfl,HA,d3,HB⟩:=hrel
  cases gk with
  |zero=>exact absurd HA.out (by simp[aA.l0])
  |succ k1=>
   have H:=HA.out;clear HA;simp only[aA.l0]at H;have jI:=ab.mk H;clear H
   go_upto_if 9 with(fail)
   go_cut [] (fun wc=>∃(kq:Nat),ab (aA.j1 kq l0 b2 b1=some r)∧ab (kq≤k1)∧ab (Below w.heap.size w wc))
   case first=>
    have H:=jI.out;clear jI;replace H:=iH H;rcases H with⟨d4,H⟩|⟨d4,H⟩;rotate_left
    ·(first|rw[d4]|rw[ado]|(simp only[fo,gy];rw[d4])|skip)
     obtain rfl:=Option.some.inj H
     go_wp2
     go_ret
     exact⟨oE,oB⟩
    (first|rw[d4]|rw[ado]|(simp only[fo,gy];rw[d4])|skip)
    have H':=ab.mk H;clear H
    go_wp2
    go_meet
    case rel=>exact⟨_,H',⟨by have:=d3.out;first|omega|exact Nat.le_refl _⟩,⟨oB⟩⟩
   case rest=>
    clear jI;obtain⟨kq,HA,dB,HB⟩:=hcut
    cases kq with
    |zero=>exact absurd HA.out (by simp[aA.j1])
    |succ kj2=>
     have H:=HA.out;clear HA;simp only[aA.j1]at H;obtain⟨gQ,H⟩:=cU H;obtain⟨gR,H⟩:=cU H;have jJ:=ab.mk H;clear H;have b16:(0≤(b1:Int))=True:=oT;have b17:(b1<(l0.length:Int))=True:=oT;obtain⟨bG,zF,zG,zH,zI,zJ,zK,m5,mC,mD,mE,mF,mG,mH,mI,mJ,mK,mL,mM,mN⟩:=fc bV HB b1 oa oa
     cases m5
     go_upto_if 18 with(fail)
     go_cut [] (fun wc=>∃(kq:Nat),ab (aA.j2 kq l0 b2 b1=some r)∧ab (kq≤kj2)∧ab (Below w.heap.size w wc))
     case first=>
      have H:=jJ.out;clear jJ
      by_cases c8:((af l0 b1).f0)=b2
      rotate_left
      ·rw[if_neg c8]at H;have d5:(((af l0 b1).f0)==b2)=false:=beq_eq_false_iff_ne.mpr c8;have m6:(((af l0 b1).f0) !=b2)=true:=bne_iff_ne.mpr c8
       (first|rw[d5]|rw[aep]|(simp only[fo,gy];rw[d5])|skip)
       obtain rfl:=Option.some.inj H
       go_wp2
       go_ret
       exact⟨oE,oB⟩
      rw[if_pos c8]at H;have d5:(((af l0 b1).f0)==b2)=true:=beq_iff_eq.mpr c8;have m6:(((af l0 b1).f0) !=b2)=false:=bne_eq_false_iff_eq.mpr c8;clear c8
      (first|rw[d5]|rw[aep]|(simp only[fo,gy];rw[d5])|skip)
      have H':=ab.mk H;clear H
      go_wp2
      go_meet
      case rel=>exact⟨_,H',⟨by have:=d3.out;have:=dB.out;first|omega|exact Nat.le_refl _⟩,⟨oB⟩⟩
     case rest=>
      clear jJ
      try clear gQ
      try clear gR
      obtain⟨kq,HA,gV,HB⟩:=hcut
      cases kq with
      |zero=>exact absurd HA.out (by simp[aA.j2])
      |succ kj6=>
       have H:=HA.out;clear HA;simp only[aA.j2]at H;obtain⟨j3,H⟩:=cU H;obtain⟨gS,H⟩:=cU H;have j4:=ab.mk H;clear H;have b18:(0≤(b1:Int))=True:=oT;have b19:(b1<(l0.length:Int))=True:=oT;obtain⟨jU,zL,zM,zN,zO,zP,zQ,m7,dC,dD,dE,dF,dG,dH,dI,dJ,dK,dL,dM,dN⟩:=fl bV.out b1 oa oa;obtain rfl:bG=jU:=(by injection m7);replace dC:=cB HB dC;replace dD:=cB HB dD;replace dE:=cB HB dE;replace dF:=cB HB dF;replace dG:=cB HB dG;replace dH:=cB HB dH;have mO:=ab.mk dJ;have mP:=ab.mk dI;clear dJ dI;have mQ:=ab.mk dL;have mS:=ab.mk dK;clear dL dK;have mT:=ab.mk dN;have mU:=ab.mk dM;clear dN dM
       go_upto_if 27 with(fail)
       go_cut [] (fun wc=>∃(kq:Nat),ab (aA.j3 kq l0 (wrap64 (b2+1)) b1=some r)∧ab (kq≤kj6)∧ab (Below w.heap.size w wc))
       case first=>
        have H:=j4.out;clear j4
        by_cases d6:((af l0 b1).f1)=(wrap64 (b2+1))
        rotate_left
        ·rw[if_neg d6]at H;have bW:(((af l0 b1).f1)==(wrap64 (b2+1)))=false:=beq_eq_false_iff_ne.mpr d6;have jV:(((af l0 b1).f1) !=(wrap64 (b2+1)))=true:=bne_iff_ne.mpr d6
         (first|rw[bW]|rw[adV]|(simp only[fo,gy];rw[bW])|skip)
         obtain rfl:=Option.some.inj H
         go_wp2
         go_ret
         exact⟨oE,oB⟩
        rw[if_pos d6]at H;have bW:(((af l0 b1).f1)==(wrap64 (b2+1)))=true:=beq_iff_eq.mpr d6;have jV:(((af l0 b1).f1) !=(wrap64 (b2+1)))=false:=bne_eq_false_iff_eq.mpr d6;clear d6
        (first|rw[bW]|rw[adV]|(simp only[fo,gy];rw[bW])|skip)
        have H':=ab.mk H;clear H
        go_wp2
        go_meet
        case rel=>exact⟨_,H',⟨by have:=d3.out;have:=dB.out;have:=gV.out;first|omega|exact Nat.le_refl _⟩,⟨oB⟩⟩
       case rest=>
        clear j4
        try clear gQ
        try clear gR
        try clear j3
        try clear gS
        obtain⟨kq,HA,gT,HB⟩:=hcut
        cases kq with
        |zero=>exact absurd HA.out (by simp[aA.j3])
        |succ tZ=>
         have H:=HA.out;clear HA;simp only[aA.j3]at H;obtain⟨jA,H⟩:=cU H;obtain⟨jB,H⟩:=cU H;have j5:=ab.mk H;clear H;have b1A:(0≤(b1:Int))=True:=oT;have b1B:(b1<(l0.length:Int))=True:=oT;obtain⟨jW,zR,zS,zT,zU,zV,zW,m8,dO,dP,dQ,dR,dS,dT,dU,dV,dW,dX,dY,dZ⟩:=fl bV.out b1 oa oa;obtain rfl:bG=jW:=(by injection m8);replace dO:=cB HB dO;replace dP:=cB HB dP;replace dQ:=cB HB dQ;replace dR:=cB HB dR;replace dS:=cB HB dS;replace dT:=cB HB dT;have mV:=ab.mk dV;have mW:=ab.mk dU;clear dV dU;have mX:=ab.mk dX;have mY:=ab.mk dW;clear dX dW;have mZ:=ab.mk dZ;have zA:=ab.mk dY;clear dZ dY
         go_upto_if 36 with(fail)
         go_cut [] (fun wc=>∃(kq:Nat),ab (aA.j4 kq l0 (wrap64 ((wrap64 (b2+1))+1)) b1=some r)∧ab (kq≤tZ)∧ab (Below w.heap.size w wc))
         case first=>
          have H:=j5.out;clear j5
          by_cases d7:((af l0 b1).f2)=(wrap64 ((wrap64 (b2+1))+1))
          rotate_left
          ·rw[if_neg d7]at H;have bX:(((af l0 b1).f2)==(wrap64 ((wrap64 (b2+1))+1)))=false:=beq_eq_false_iff_ne.mpr d7;have jX:(((af l0 b1).f2) !=(wrap64 ((wrap64 (b2+1))+1)))=true:=bne_iff_ne.mpr d7
           (first|rw[bX]|rw[adW]|(simp only[fo,gy];rw[bX])|skip)
           obtain rfl:=Option.some.inj H
           go_wp2
           go_ret
           exact⟨oE,oB⟩
          rw[if_pos d7]at H;have bX:(((af l0 b1).f2)==(wrap64 ((wrap64 (b2+1))+1)))=true:=beq_iff_eq.mpr d7;have jX:(((af l0 b1).f2) !=(wrap64 ((wrap64 (b2+1))+1)))=false:=bne_eq_false_iff_eq.mpr d7;clear d7
          (first|rw[bX]|rw[adW]|(simp only[fo,gy];rw[bX])|skip)
          have H':=ab.mk H;clear H
          go_wp2
          go_meet
          case rel=>exact⟨_,H',⟨by have:=d3.out;have:=dB.out;have:=gV.out;have:=gT.out;first|omega|exact Nat.le_refl _⟩,⟨oB⟩⟩
         case rest=>
          clear j5
          try clear gQ
          try clear gR
          try clear j3
          try clear gS
          try clear jA
          try clear jB
          obtain⟨kq,HA,j6,HB⟩:=hcut
          cases kq with
          |zero=>exact absurd HA.out (by simp[aA.j4])
          |succ adX=>
           have H:=HA.out;clear HA;simp only[aA.j4]at H;obtain⟨jY,H⟩:=cU H;obtain⟨jZ,H⟩:=cU H;replace H:=bA H;obtain⟨d8,zX,H⟩:=H
           try dsimp only at H
           have j7:=ab.mk H;clear H;have b1C:(0≤(b1:Int))=True:=oT;have b1D:(b1<(l0.length:Int))=True:=oT;obtain⟨m1,zY,zZ,b10,b11,b12,b13,m9,gA,gB,gC,gD,gE,gF,gG,gH,gI,gJ,gK,gL⟩:=fl bV.out b1 oa oa;obtain rfl:bG=m1:=(by injection m9);replace gA:=cB HB gA;replace gB:=cB HB gB;replace gC:=cB HB gC;replace gD:=cB HB gD;replace gE:=cB HB gE;replace gF:=cB HB gF;have jC:=ab.mk gH;have jD:=ab.mk gG;clear gH gG;have zB:=ab.mk gJ;have zC:=ab.mk gI;clear gJ gI;have zD:=ab.mk gL;have zE:=ab.mk gK;clear gL gK
           go_upto_if 47 with(first|((with_reducible refine aj (f:=75) rfl ?_);refine eI 45 Tryz.func75 (db.calls adX _ _ ((af l0 b1).f3) (wrap64 ((wrap64 ((wrap64 (b2+1))+1))+1)) d8 _ (kC jC) jD.out zX.out) ?_;rintro e w' ⟨rfl,⟨nd,rfl⟩⟩;refine⟨_,rfl,?_⟩))
           (try simp only[Act.put,List.setIfInBounds_toArray,List.set_cons_zero,List.set_cons_succ])
           go_cut [] (fun wc=>∃(kq:Nat),ab (aA.j5 kq l0 d8 b1=some r)∧ab (kq≤adX)∧ab (Below w.heap.size w wc))
           case first=>
            have H:=j7.out;clear j7;replace H:=iH H;rcases H with⟨bY,H⟩|⟨bY,H⟩
            ·(first|rw[bY]|rw[adY]|(simp only[fo,gy];rw[bY])|skip)
             obtain rfl:=Option.some.inj H
             go_wp2
             go_ret
             exact⟨oE,oB⟩
            (first|rw[bY]|rw[adY]|(simp only[fo,gy];rw[bY])|skip)
            have H':=ab.mk H;clear H
            go_wp2
            go_meet
            case rel=>exact⟨_,H',⟨by have:=d3.out;have:=dB.out;have:=gV.out;have:=gT.out;have:=j6.out;first|omega|exact Nat.le_refl _⟩,⟨oB⟩⟩
           case rest=>
            clear j7
            try clear gQ
            try clear gR
            try clear j3
            try clear gS
            try clear jA
            try clear jB
            try clear jY
            try clear jZ
            obtain⟨kq,HA,jK,HB⟩:=hcut
            cases kq with
            |zero=>exact absurd HA.out (by simp[aA.j5])
            |succ xj=>
             have H:=HA.out;clear HA;simp only[aA.j5]at H;obtain⟨b14,H⟩:=cU H;obtain⟨b15,H⟩:=cU H;replace H:=bA H;obtain⟨d9,jL,H⟩:=H
             try dsimp only at H
             replace H:=iH H;rcases H with⟨m2,H⟩|⟨m2,H⟩
             ·obtain rfl:=Option.some.inj H;have jM:(0≤(b1:Int))=True:=oT;have jN:(b1<(l0.length:Int))=True:=oT;obtain⟨bZ,gW,gX,gY,gZ,j1,j2,dA,b3,b4,b5,b6,b7,b8,b9,bB,bC,bD,bE,bF⟩:=fl bV.out b1 oa oa;obtain rfl:bG=bZ:=(by injection dA);replace b3:=cB HB b3;replace b4:=cB HB b4;replace b5:=cB HB b5;replace b6:=cB HB b6;replace b7:=cB HB b7;replace b8:=cB HB b8;have gM:=ab.mk bB;have gN:=ab.mk b9;clear bB b9;have bH:=ab.mk bD;have bI:=ab.mk bC;clear bD bC;have gO:=ab.mk bF;have gP:=ab.mk bE;clear bF bE
              go_wp2_with (first|((with_reducible refine aj (f:=76) rfl ?_);refine eI 54 Tryz.func76 (bw.calls xj _ _ ((af l0 b1).f4) d8 d9 _ (kC bH) bI.out jL.out) ?_;rintro e w26 ⟨rfl,hb⟩;refine⟨_,rfl,?_⟩;replace HB:=hB HB hb))
              go_ret
              exact⟨oE,oB⟩
             replace H:=bA H;obtain⟨j8,m4,H⟩:=H
             try dsimp only at H
             replace H:=iH H;rcases H with⟨m3,H⟩|⟨m3,H⟩
             ·obtain rfl:=Option.some.inj H;have jM:(0≤(b1:Int))=True:=oT;have jN:(b1<(l0.length:Int))=True:=oT;obtain⟨bZ,gW,gX,gY,gZ,j1,j2,dA,b3,b4,b5,b6,b7,b8,b9,bB,bC,bD,bE,bF⟩:=fl bV.out b1 oa oa;obtain rfl:bG=bZ:=(by injection dA);replace b3:=cB HB b3;replace b4:=cB HB b4;replace b5:=cB HB b5;replace b6:=cB HB b6;replace b7:=cB HB b7;replace b8:=cB HB b8;have gM:=ab.mk bB;have gN:=ab.mk b9;clear bB b9;have bH:=ab.mk bD;have bI:=ab.mk bC;clear bD bC;have gO:=ab.mk bF;have gP:=ab.mk bE;clear bF bE
              go_wp2_with (first|((with_reducible refine aj (f:=76) rfl ?_);refine eI 54 Tryz.func76 (bw.calls xj _ _ ((af l0 b1).f4) d8 d9 _ (kC bH) bI.out jL.out) ?_;rintro e w29 ⟨rfl,hb⟩;refine⟨_,rfl,?_⟩;replace HB:=hB HB hb;have mA:(0≤(b1:Int))=True:=oT;have mB:(b1<(l0.length:Int))=True:=oT;obtain⟨gU,jO,jP,jQ,jR,jS,jT,j9,bJ,bK,bL,bM,bN,bO,bP,bQ,bR,bS,bT,bU⟩:=fl bV.out b1 oa oa;obtain rfl:bG=gU:=(by injection j9);replace bJ:=cB HB bJ;replace bK:=cB HB bK;replace bL:=cB HB bL;replace bM:=cB HB bM;replace bN:=cB HB bN;replace bO:=cB HB bO;have jE:=ab.mk bQ;have jF:=ab.mk bP;clear bQ bP;have jG:=ab.mk bS;have jH:=ab.mk bR;clear bS bR;have d1:=ab.mk bU;have d2:=ab.mk bT;clear bU bT)|((with_reducible refine aj (f:=77) rfl ?_);refine eI 63 Tryz.func77 (aM.calls xj _ _ ((af l0 b1).f5) d9 j8 _ (kC d1) d2.out m4.out) ?_;rintro e w30 ⟨rfl,hb⟩;refine⟨_,rfl,?_⟩;replace HB:=hB HB hb))
              go_ret
              exact⟨oE,oB⟩
             have H':=ab.mk H;clear H;have jM:(0≤(b1:Int))=True:=oT;have jN:(b1<(l0.length:Int))=True:=oT;obtain⟨bZ,gW,gX,gY,gZ,j1,j2,dA,b3,b4,b5,b6,b7,b8,b9,bB,bC,bD,bE,bF⟩:=fl bV.out b1 oa oa;obtain rfl:bG=bZ:=(by injection dA);replace b3:=cB HB b3;replace b4:=cB HB b4;replace b5:=cB HB b5;replace b6:=cB HB b6;replace b7:=cB HB b7;replace b8:=cB HB b8;have gM:=ab.mk bB;have gN:=ab.mk b9;clear bB b9;have bH:=ab.mk bD;have bI:=ab.mk bC;clear bD bC;have gO:=ab.mk bF;have gP:=ab.mk bE;clear bF bE
             go_wp2_with (first|((with_reducible refine aj (f:=76) rfl ?_);refine eI 54 Tryz.func76 (bw.calls xj _ _ ((af l0 b1).f4) d8 d9 _ (kC bH) bI.out jL.out) ?_;rintro e w31 ⟨rfl,hb⟩;refine⟨_,rfl,?_⟩;replace HB:=hB HB hb;have mA:(0≤(b1:Int))=True:=oT;have mB:(b1<(l0.length:Int))=True:=oT;obtain⟨gU,jO,jP,jQ,jR,jS,jT,j9,bJ,bK,bL,bM,bN,bO,bP,bQ,bR,bS,bT,bU⟩:=fl bV.out b1 oa oa;obtain rfl:bG=gU:=(by injection j9);replace bJ:=cB HB bJ;replace bK:=cB HB bK;replace bL:=cB HB bL;replace bM:=cB HB bM;replace bN:=cB HB bN;replace bO:=cB HB bO;have jE:=ab.mk bQ;have jF:=ab.mk bP;clear bQ bP;have jG:=ab.mk bS;have jH:=ab.mk bR;clear bS bR;have d1:=ab.mk bU;have d2:=ab.mk bT;clear bU bT)|((with_reducible refine aj (f:=77) rfl ?_);refine eI 63 Tryz.func77 (aM.calls xj _ _ ((af l0 b1).f5) d9 j8 _ (kC d1) d2.out m4.out) ?_;rintro e w32 ⟨rfl,hb⟩;refine⟨_,rfl,?_⟩;replace HB:=hB HB hb))
             go_roundg xj
             case measure=>have:=d3.out;have:=dB.out;have:=gV.out;have:=gT.out;have:=j6.out;have:=jK.out;omega
             case rel=>exact⟨(j8),(wrap64 (b1+1)),oS,oS,H',⟨by have:=d3.out;have:=dB.out;have:=gV.out;have:=gT.out;have:=j6.out;have:=jK.out;omega⟩,⟨oB⟩⟩

def cl.l0:Nat→List (bh)→Int→Int→List (bh)→Int→Option ((List (bh))×Int)
 |0,_,_,_,_,_=>none
 |k+1,b4,b6,b2,b3,b5=>if b2<b6 then(if 0≤b2 then(if b2<(b4.length:Int)then((er.f ((af b4 b2).f0) ((af b4 b2).f1) ((af b4 b2).f2) ((af b4 b2).f3) ((af b4 b2).f4) ((af b4 b2).f5)).bind fun b1=>(if b3.length<1466015503701 then(cl.l0 k b4 b6 (wrap64 (b2+1)) (b3++[(⟨b1.1,b1.2.1,b1.2.2.1,b1.2.2.2.1,b1.2.2.2.2.1,b1.2.2.2.2.2⟩:bh)]) b5)else(none)))else(none))else(none))else(some (b3,b5))
def cl.f (k:Nat) (ag:List (bh)) (ak:Int):Option ((List (bh))×Int):=cl.l0 k ag (ag.length:Int) 0 ([]:List (bh)) ak
def cl.T5:Bool×List (List Nat×List Nat):=(true,[([],[]),([0],[0]),([],[]),([2],[2]),([3],[3]),([1,4,3],[1,4]),([0,1,2,3,4,5],[]),([6,5,5,0,1,2,3,4,5],[5,6])])
def cl.B5:List Nat:=[0,1,0,4,12,31,63,127]
theorem cl.aaS:gf .any (opsOf Tryz.f45 5)=cl.T5:=by kernel_rfl
theorem cl.t_:eL cl.T5.2 cl.B5=true:=by kernel_rfl
theorem cl.calls (k:Nat) (bj:Option Addr) (aW:Nat) (ag:List (bh)) (ak:Int) (r1:List (bh)) (r2:Int) (w:World) (ch:Kd.C fD w bj ag.length ag) (ck:ag.length≤aW) (h:cl.f k ag ak=some (r1,r2)):
  Calls Tryz.prog 45 #[.agg #[.slice bj ag.length aW,.int .i64 ak]] w fun e w'=>∃jd:Value,e= .returned (.agg #[jd,.int .i64 r2])∧Kd.S fD 58 w' w.heap.size (fun _=>True) jd r1∧Below w.heap.size w w':=by
 have jO:=Tryz.underlying28;have jP:=Tryz.underlying58;have gD:=ab.mk ch;have j4:=ab.mk ck;clear ch ck;have HB:=am (Below.refl w.heap.size w);unfold cl.f at h;have H:=h;clear h;have H':=ab.mk H;clear H
 go_enter Tryz.func45,Tryz.ntmps45
 go_wp2_with (first|((with_reducible refine ai (N:=1) rfl ?_);refine di 1 #[.slice bj ag.length aW,.int .i64 ak] 28 ?_;intro d9 hg w2 hbox hb;have b4:=am (hbox);have j5:=dh hg;replace HB:=hB HB hb;clear hb hbox hg)|((with_reducible refine ai (N:=2) rfl ?_);refine di 2 #[.slice none 0 0,.int .i64 0] 28 ?_;intro bM hg w3 hbox hb;have b5:=am (hbox);have j6:=dh hg;have bQ:=eJ hg b4;have bR:=eK hg b4;replace b4:=bn b4 hb;replace HB:=hB HB hb;clear hb hbox hg;have jQ:=bQ.out;have jR:=bR.out;obtain⟨⟨_,_⟩,_,_⟩:=z2 b4)|((with_reducible refine ai (N:=3) rfl ?_);refine di 3 #[.slice none 0 0,.int .i64 0] 28 ?_;intro bL hg w6 hbox hb;have b6:=am (hbox);have j7:=dh hg;have bH:=eJ hg b4;have bI:=eK hg b4;have bJ:=eJ hg b5;have bK:=eK hg b5;replace b4:=bn b4 hb;replace b5:=bn b5 hb;replace HB:=hB HB hb;clear hb hbox hg;have jS:=bI.out;have jT:=bH.out;have jU:=bK.out;have jV:=bJ.out;obtain⟨⟨_,_⟩,_,_⟩:=z2 b6;obtain⟨⟨_,_⟩,_,_⟩:=z2 b4))
 go_loopg [12] k (fun kq gZ w'=>∃(b1:Int) (b9:List (bh)) (b8:Value),gZ= .int .i64 b1∧ab (cl.l0 kq ag (ag.length:Int) b1 b9 ak=some (r1,r2))∧ab (kq≤k)∧ab (Kd.S fD 58 w' w.heap.size (fun _=>True) b8 b9)∧ab (w'.heap[d9]? =some (.cells #[(.slice bj ag.length aW),.int .i64 ak] 28 (0,0)))∧ab (w'.heap[bM]? =some (.cells #[(.slice none 0 0),.int .i64 0] 28 (0,0)))∧ab (w'.heap[bL]? =some (.cells #[b8,.int .i64 ak] 28 (0,0)))∧ab (Below w.heap.size w w'))
 case atStart=>exact⟨(0),(([]:List (bh))),(.slice none 0 0),oS,H',⟨Nat.le_refl _⟩,⟨by first|exact Kd.iC _ _ _ _ _|exact Kd.iD _ _ _ _ _|exact Kd.iE _ _ _ _ _|exact Kd.iB _ _ _ _ _|exact Kd.fy _ _ _ _ _⟩,⟨oF b4⟩,⟨oF b5⟩,⟨oP b6⟩,⟨oB⟩⟩
 case round=>
  clear H';obtain⟨b1,b9,b8,rfl,HA,gI,b3,b4,b5,b6,HB⟩:=hrel
  cases gk with
  |zero=>exact absurd HA.out (by simp[cl.l0])
  |succ k1=>
   have H:=HA.out;clear HA;simp only[cl.l0]at H;replace H:=iH H;rcases H with⟨gE,H⟩|⟨gE,H⟩;rotate_left
   ·simp only[Option.some.injEq,Prod.mk.injEq]at H;obtain⟨rfl,rfl⟩:=H;have j8:=bI.out;have j9:=bH.out;have jA:=bK.out;have jB:=bJ.out;obtain⟨⟨_,_⟩,_,_⟩:=z2 b6;obtain⟨dH,dI,gL⟩:=Kd.im b3.out;subst gL;have jC:=bR.out;have jD:=bQ.out;obtain⟨⟨_,_⟩,_,_⟩:=z2 b5
    go_wp2
    refine bodyPost_ret (results_cell_row rfl _ _ bM 28 #[.slice dH b9.length dI,.int .i64 ak] (0,0) _ rfl (oP b5) Tryz.underlying28 rfl (by kernel_rfl)) rfl ?_;exact⟨_,oE,by(with_reducible repeat(first|apply Kd.fA|apply Kd.fR|apply Kd.gm));exact Kd.eY (Kd.fK (p:=⟨bM,1,none⟩) (Kd.fK (p:=⟨bM,0,none⟩) (Kd.og b3.out b5.out (by decide)) (fun _ hk=>hk.2) (.slice dH b9.length dI)) (fun _ hk=>hk.2) (.int .i64 ak)) (fun _ hk=>trivial),oB⟩
   obtain⟨jE,H⟩:=cU H;obtain⟨jF,H⟩:=cU H;replace H:=bA H;obtain⟨⟨bX,bY,bZ,bN,bO,bP⟩,j1,H⟩:=H
   try dsimp only at H
   obtain⟨gJ,H⟩:=lH H;have gF:=ab.mk gJ;clear gJ;obtain⟨d4,dn⟩:∃y_:List (bh),y_=(b9++[(⟨bX,bY,bZ,bN,bO,bP⟩:bh)]):=⟨_,rfl⟩;replace H:(cl.l0 k1 ag (ag.length:Int) (wrap64 (b1+1)) d4 ak)=some (r1,r2):=oY;have gG:=ab.mk dn;clear dn;have H':=ab.mk H;clear H;have jW:(0≤(b1:Int))=True:=oT;have jX:(b1<(ag.length:Int))=True:=oT;obtain⟨gH,bB,bC,bD,bE,bF,bG,gM,gN,gO,gP,gQ,gR,gS,dB,dC,dD,dE,dF,dG⟩:=fc gD HB b1 oa oa
   cases gM
   try go_wp2_with (first|((with_reducible refine ai (N:=5) rfl ?_);refine di 5 #[.int .i64 0,.int .i64 0,.int .i64 0,.slice none 0 0,.slice none 0 0,.slice none 0 0] 58 ?_;intro b2 hg d1 hbox hb;have b7:=am (hbox);have jG:=dh hg;have d5:=eJ hg b4;have d6:=eK hg b4;have d7:=eJ hg b5;have d8:=eK hg b5;have bS:=eJ hg b6;have bT:=eK hg b6;replace b3:=am (Kd.gz (Kd.aaH (nS0 b3) b2 (Nat.le_of_eq hg.symm)) hb);replace b4:=bn b4 hb;replace b5:=bn b5 hb;replace b6:=bn b6 hb;replace HB:=hB HB hb;clear hb hbox hg;have jH:=d6.out;have jI:=d5.out;have jJ:=d8.out;have jK:=d7.out;have jL:=bT.out;have jM:=bS.out;obtain⟨⟨_,_,_,_,_,_⟩,_,_,_,_,_,_⟩:=z6 b7))
   have dJ:ab (Kd.S fD 58 ((((((d1.setCell ⟨b2,0,none⟩ (.int .i64 ((af ag b1).f0))).setCell ⟨b2,1,none⟩ (.int .i64 ((af ag b1).f1))).setCell ⟨b2,2,none⟩ (.int .i64 ((af ag b1).f2))).setCell ⟨b2,3,none⟩ (.slice bB ((af ag b1).f3).length bC)).setCell ⟨b2,4,none⟩ (.slice bD ((af ag b1).f4).length bE)).setCell ⟨b2,5,none⟩ (.slice bF ((af ag b1).f5).length bG)) w.heap.size (fun k_=>k_≠b2) b8 b9):=⟨by(with_reducible repeat(first|apply Kd.fA|apply Kd.fR|apply Kd.gm));exact Kd.eY (Kd.fK (p:=⟨b2,5,none⟩) (Kd.fK (p:=⟨b2,4,none⟩) (Kd.fK (p:=⟨b2,3,none⟩) (Kd.fK (p:=⟨b2,2,none⟩) (Kd.fK (p:=⟨b2,1,none⟩) (Kd.fK (p:=⟨b2,0,none⟩) (Kd.eY b3.out (fun k_ hk=>(⟨hk,hk.2⟩:_∧k_≠b2))) (fun _ hk=>hk.2) (.int .i64 ((af ag b1).f0))) (fun _ hk=>hk.2) (.int .i64 ((af ag b1).f1))) (fun _ hk=>hk.2) (.int .i64 ((af ag b1).f2))) (fun _ hk=>hk.2) (.slice bB ((af ag b1).f3).length bC)) (fun _ hk=>hk.2) (.slice bD ((af ag b1).f4).length bE)) (fun _ hk=>hk.2) (.slice bF ((af ag b1).f5).length bG)) (fun _ hk=>hk.1.2)⟩;have dK:ab (((((((d1.setCell ⟨b2,0,none⟩ (.int .i64 ((af ag b1).f0))).setCell ⟨b2,1,none⟩ (.int .i64 ((af ag b1).f1))).setCell ⟨b2,2,none⟩ (.int .i64 ((af ag b1).f2))).setCell ⟨b2,3,none⟩ (.slice bB ((af ag b1).f3).length bC)).setCell ⟨b2,4,none⟩ (.slice bD ((af ag b1).f4).length bE)).setCell ⟨b2,5,none⟩ (.slice bF ((af ag b1).f5).length bG)).heap[d9]? =some (.cells #[.slice (some gH) ag.length aW,.int .i64 ak] 28 (0,0))):=⟨oF b4⟩;have dL:ab (((((((d1.setCell ⟨b2,0,none⟩ (.int .i64 ((af ag b1).f0))).setCell ⟨b2,1,none⟩ (.int .i64 ((af ag b1).f1))).setCell ⟨b2,2,none⟩ (.int .i64 ((af ag b1).f2))).setCell ⟨b2,3,none⟩ (.slice bB ((af ag b1).f3).length bC)).setCell ⟨b2,4,none⟩ (.slice bD ((af ag b1).f4).length bE)).setCell ⟨b2,5,none⟩ (.slice bF ((af ag b1).f5).length bG)).heap[bM]? =some (.cells #[.slice none 0 0,.int .i64 0] 28 (0,0))):=⟨oF b5⟩;have dM:ab (((((((d1.setCell ⟨b2,0,none⟩ (.int .i64 ((af ag b1).f0))).setCell ⟨b2,1,none⟩ (.int .i64 ((af ag b1).f1))).setCell ⟨b2,2,none⟩ (.int .i64 ((af ag b1).f2))).setCell ⟨b2,3,none⟩ (.slice bB ((af ag b1).f3).length bC)).setCell ⟨b2,4,none⟩ (.slice bD ((af ag b1).f4).length bE)).setCell ⟨b2,5,none⟩ (.slice bF ((af ag b1).f5).length bG)).heap[bL]? =some (.cells #[b8,.int .i64 ak] 28 (0,0))):=⟨oF b6⟩;have dN:ab (((((((d1.setCell ⟨b2,0,none⟩ (.int .i64 ((af ag b1).f0))).setCell ⟨b2,1,none⟩ (.int .i64 ((af ag b1).f1))).setCell ⟨b2,2,none⟩ (.int .i64 ((af ag b1).f2))).setCell ⟨b2,3,none⟩ (.slice bB ((af ag b1).f3).length bC)).setCell ⟨b2,4,none⟩ (.slice bD ((af ag b1).f4).length bE)).setCell ⟨b2,5,none⟩ (.slice bF ((af ag b1).f5).length bG)).heap[b2]? =some (.cells #[.int .i64 ((af ag b1).f0),.int .i64 ((af ag b1).f1),.int .i64 ((af ag b1).f2),.slice bB ((af ag b1).f3).length bC,.slice bD ((af ag b1).f4).length bE,.slice bF ((af ag b1).f5).length bG] 58 (0,0))):=⟨oP b7⟩;have dO:ab (Below w.heap.size w ((((((d1.setCell ⟨b2,0,none⟩ (.int .i64 ((af ag b1).f0))).setCell ⟨b2,1,none⟩ (.int .i64 ((af ag b1).f1))).setCell ⟨b2,2,none⟩ (.int .i64 ((af ag b1).f2))).setCell ⟨b2,3,none⟩ (.slice bB ((af ag b1).f3).length bC)).setCell ⟨b2,4,none⟩ (.slice bD ((af ag b1).f4).length bE)).setCell ⟨b2,5,none⟩ (.slice bF ((af ag b1).f5).length bG))):=⟨oB⟩
   (try clear b3)
   (try clear b4)
   (try clear b5)
   (try clear b6)
   (try clear b7)
   (try clear HB)
   generalize ((((((d1.setCell ⟨b2,0,none⟩ (.int .i64 ((af ag b1).f0))).setCell ⟨b2,1,none⟩ (.int .i64 ((af ag b1).f1))).setCell ⟨b2,2,none⟩ (.int .i64 ((af ag b1).f2))).setCell ⟨b2,3,none⟩ (.slice bB ((af ag b1).f3).length bC)).setCell ⟨b2,4,none⟩ (.slice bD ((af ag b1).f4).length bE)).setCell ⟨b2,5,none⟩ (.slice bF ((af ag b1).f5).length bG))=j2 at dJ dK dL dM dN dO⊢;have b3:=dJ;have b4:=dK;have b5:=dL;have b6:=dM;have b7:=dN;have HB:=dO;clear dJ dK dL dM dN dO;replace b3:=am (Kd.gm b3.out);replace b4:=am (ao b4.out);replace b5:=am (ao b5.out);replace b6:=am (ao b6.out);replace b7:=am (ao b7.out);replace HB:=am (ar HB.out);refine pJ (n:=8) (S:=fun w'=>w'.cell? ⟨bL,0,none⟩=some (b8)∧w'.cell? ⟨bL,1,none⟩=some (.int .i64 ak)∧w'.cell? ⟨b2,0,none⟩=some (.int .i64 ((af ag b1).f0))∧w'.cell? ⟨b2,1,none⟩=some (.int .i64 ((af ag b1).f1))∧w'.cell? ⟨b2,2,none⟩=some (.int .i64 ((af ag b1).f2))∧w'.cell? ⟨b2,3,none⟩=some (.slice bB ((af ag b1).f3).length bC)∧w'.cell? ⟨b2,4,none⟩=some (.slice bD ((af ag b1).f4).length bE)∧w'.cell? ⟨b2,5,none⟩=some (.slice bF ((af ag b1).f5).length bG)) (ds:=[7]) (lb 8 0) (by kernel_rfl) rfl rfl oH (fun hHeld=> ?_);refine pO cl.aaS cl.t_ (fun av ey=> ?_);generalize j2.drew=m4 at b3 b4 b5 b6 b7 HB hHeld⊢;refine b_ 0 16 av ?_;refine fJ 1 17 av ey hHeld ?_;refine fJ 2 18 av ey hHeld ?_;refine kF 3 19 av (fun K hK=> ?_);refine lU 19 Tryz.func87 (er.calls ((af ag b1).f0) ((af ag b1).f1) ((af ag b1).f2) _ _ ((af ag b1).f3) _ _ ((af ag b1).f4) _ _ ((af ag b1).f5) bX bY bZ bN bO bP _ (kC dC) dB.out (kC dE) dD.out (kC dG) dF.out j1.out) ?_;rintro e m5 ⟨jY,jZ,m1,rfl,gK,dP,dQ,hb⟩;refine⟨_,rfl,?_⟩;have bU:=am (Kd.ay gK (ah oB));have bV:=am (Kd.ay dP (ah oB));have bW:=am (Kd.ay dQ (ah oB));replace b3:=acN (acM b3 hb) (Kd.eB gK) (Kd.eB dP) (Kd.eB dQ);replace b4:=bn b4 hb;replace b5:=bn b5 hb;replace b6:=bn b6 hb;replace b7:=bn b7 hb;replace HB:=hB HB hb
   (try clear dP)
   (try clear dQ)
   obtain⟨dR,dS,dT⟩:=Kd.ax bU.out
   (first|subst dT|(injection dT with kH nF kI;have d2:=kH.symm;have d3:=kI.symm;clear kH nF kI;subst d2;subst d3))
   obtain⟨dU,dV,dW⟩:=Kd.ax bV.out
   (first|subst dW|(injection dW with kH nF kI;have d2:=kH.symm;have d3:=kI.symm;clear kH nF kI;subst d2;subst d3))
   obtain⟨dX,dY,dZ⟩:=Kd.ax bW.out
   (first|subst dZ|(injection dZ with kH nF kI;have d2:=kH.symm;have d3:=kI.symm;clear kH nF kI;subst d2;subst d3))
   refine fV hK 19 oH (fun hHeld=> ?_);clear hK K;refine kF 4 20 av (fun K hK=> ?_);refine sR (w1:= ?_) (v:= ?_) (by rfl) rfl ?_ ?_;rotate_left 2
   ·go_simp
    constructor
    ·rfl
    ·rfl
   refine fV hK 20 ⟨(aq (aD b6.out _) 0).trans rfl,(aq (aD b6.out _) 1).trans rfl,(aq (aD b7.out _) 0).trans rfl,(aq (aD b7.out _) 1).trans rfl,(aq (aD b7.out _) 2).trans rfl,(aq (aD b7.out _) 3).trans rfl,(aq (aD b7.out _) 4).trans rfl,(aq (aD b7.out _) 5).trans rfl⟩ (fun hHeld=> ?_);clear hK K;refine kF 5 21 av (fun K hK=> ?_);refine Kd.ox fD (w0:=w) w.heap.size (by rfl) (.tmp 17) (.tmp 20) 26 58 (.agg #[(.int .i64 0),(.int .i64 0),(.int .i64 0),(.slice none 0 0),(.slice none 0 0),(.slice none 0 0)]) 96 rfl Tryz.underlying26 kM rfl (by decide) (by omega) b8 b9 (⟨bX,bY,bZ,bN,bO,bP⟩:bh) [.int .i64 bX,.int .i64 bY,.int .i64 bZ,.slice dR bN.length dS,.slice dU bO.length dV,.slice dX bP.length dY] (fun k_=>k_≠b2) (fun k_=>some k_=(.slice dR bN.length dS:Value).ownBlock∨some k_=(.slice dU bO.length dV:Value).ownBlock∨some k_=(.slice dX bP.length dY:Value).ownBlock) rfl rfl ?aP (fun k_ fV=>fV.elim (fun h_=>((Kd.bm (ok':=fun k_=>((fun k_=>k_≠b2)) k_∧some k_≠(b8:Value).ownBlock) (Kd.aI (Kd.cG (bU.out) (Kd.gq b3.out) (by decide)) b7.out (by decide)) (fun k_ hk=>⟨hk.2,hk.1.2⟩))).1 k_ h_.symm) (fun h_=>h_.elim (fun h_=>((Kd.bm (ok':=fun k_=>((fun k_=>k_≠b2)) k_∧some k_≠(b8:Value).ownBlock) (Kd.aI (Kd.cG (bV.out) (Kd.gq b3.out) (by decide)) b7.out (by decide)) (fun k_ hk=>⟨hk.2,hk.1.2⟩))).1 k_ h_.symm) (fun h_=>((Kd.bm (ok':=fun k_=>((fun k_=>k_≠b2)) k_∧some k_≠(b8:Value).ownBlock) (Kd.aI (Kd.cG (bW.out) (Kd.gq b3.out) (by decide)) b7.out (by decide)) (fun k_ hk=>⟨hk.2,hk.1.2⟩))).1 k_ h_.symm))) ?aF ?aO ?aB ?aS ?aL ?_
   (case aP=>exact nY _ _ _ (⟨bX,bY,bZ,bN,bO,bP⟩:bh) (Kd.bm (Kd.jc rfl (Kd.bm (ok':=fun k_=>((fun k_=>k_≠b2)) k_∧some k_≠(b8:Value).ownBlock) (Kd.aI (Kd.cG (bU.out) (Kd.gq b3.out) (by decide)) b7.out (by decide)) (fun k_ hk=>⟨hk.2,hk.1.2⟩))) (fun _ h_=>Or.inl h_)) (Kd.bm (Kd.jc rfl (Kd.bm (ok':=fun k_=>((fun k_=>k_≠b2)) k_∧some k_≠(b8:Value).ownBlock) (Kd.aI (Kd.cG (bV.out) (Kd.gq b3.out) (by decide)) b7.out (by decide)) (fun k_ hk=>⟨hk.2,hk.1.2⟩))) (fun _ h_=>Or.inr (Or.inl h_))) (Kd.bm (Kd.jc rfl (Kd.bm (ok':=fun k_=>((fun k_=>k_≠b2)) k_∧some k_≠(b8:Value).ownBlock) (Kd.aI (Kd.cG (bW.out) (Kd.gq b3.out) (by decide)) b7.out (by decide)) (fun k_ hk=>⟨hk.2,hk.1.2⟩))) (fun _ h_=>Or.inr (Or.inr (h_)))))
   (case aB=>exact oB)
   (case aF=>exact(fun k_ hk=>Kd.eM (g:=b2) (o:= .cells #[.int .i64 ((af ag b1).f0),.int .i64 ((af ag b1).f1),.int .i64 ((af ag b1).f2),.slice bB ((af ag b1).f3).length bC,.slice bD ((af ag b1).f4).length bE,.slice bF ((af ag b1).f5).length bG] 58 (0,0)) (oF b7) k_ hk))
   (case aO=>exact(by(with_reducible repeat(first|apply Kd.fA|apply Kd.fR|apply Kd.gm));exact Kd.eY b3.out (fun k_ hk=>⟨hk.1.1.1,fun e_=>e_.elim (fun h_=>hk.1.1.2 h_) (fun h_=>h_.elim (fun h_=>hk.1.2 h_) (fun h_=>hk.2 h_))⟩)))
   (case aS=>exact(ah oB))
   (case aL=>have:=gF.out;omega)
   intro m2 j3 ho hb hg hat;rw[←gG.out]at ho;have dA:=am (ho);replace b4:=lA b4 hg (Kd.xe b3.out b4.out (by decide));replace b5:=lA b5 hg (Kd.xe b3.out b5.out (by decide));replace b6:=lA b6 hg (Kd.xe b3.out b6.out (by decide));replace b7:=lA b7 hg (Kd.ac7 b3.out (fun _ hk=>hk.1.1.1));replace HB:=am (hb);clear b3;clear bU;clear bV;clear bW;clear ho hb hg hat;obtain⟨gA,gB,gC⟩:=Kd.im dA.out
   (first|subst gC|(injection gC with kH nF kI;have d2:=kH.symm;have d3:=kI.symm;clear kH nF kI;subst d2;subst d3))
   refine fV hK 21 oH (fun hHeld=> ?_);clear hK K;refine b_ 6 22 av ?_;refine wy (i:=7) (N:=none) (lb 8 255) rfl rfl (qN av.out (by kernel_rfl)) (by decide) (fun K hK=> ?_);have m3:j3.cell? ⟨bL,0,none⟩=some (b8):=(aq b6.out 0).trans rfl;have jN:=aH b6.out 0;have gT:=bH.out;have gU:=bJ.out;have gV:=bT.out;have gW:=bI.out;have gX:=bK.out;have gY:=bS.out;refine tO (w1:= ?_) (by rfl) rfl ?_ ?_;rotate_left
   ·go_simp
    rfl
   refine hK.out _ _ ?_;clear hK K;refine lX av ?_
   try go_wp2
   go_roundg k1
   case measure=>have:=gI.out;omega
   case rel=>exact⟨(wrap64 (b1+1)),(d4),(.slice gA d4.length gB),oS,H',⟨by have:=gI.out;omega⟩,⟨by(with_reducible repeat(first|apply Kd.fA|apply Kd.fR|apply Kd.gm));exact Kd.eY (Kd.fK (p:=⟨bL,0,none⟩) (Kd.og dA.out b6.out (by decide)) (fun _ hk=>hk.2) (.slice gA d4.length gB)) (fun _ hk=>trivial)⟩,⟨oF b4⟩,⟨oF b5⟩,⟨oP b6⟩,⟨oB⟩⟩

mutual
def aX.l0:Nat→ByteArray→List ByteArray→Int→Int→Option (List ByteArray×Bool)
 |0,_,_,_,_=>none
 |k+1,x0,x4,x5,x6=>if x6≤(x0.size:Int)then(if x6<(x0.size:Int)then(if 0≤x6 then(aX.j1 k x0 x4 x5 x6 ((bt x0 x6) !=47))else(none))else(aX.j1 k x0 x4 x5 x6 false))else(if(x0.size:Int)=0 then(some ((([]:List ByteArray)),false))else(if 0<(x0.size:Int)then(if(bt x0 0)=47 then(some (x4,true))else(some ((([]:List ByteArray)),false)))else(none)))
def aX.j1:Nat→ByteArray→List ByteArray→Int→Int→Bool→Option (List ByteArray×Bool)
 |0,_,_,_,_,_=>none
 |k+1,x0,x4,x5,x6,b2=>if b2=true then(aX.l0 k x0 x4 x5 (wrap64 (x6+1)))else(if x6>0 then(if 0≤x5 then(if x5≤x6 then(if x6≤(x0.size:Int)then((aQ.f k (x0.extract (x5:Int).toNat (x6:Int).toNat)).bind fun b1=>(if b1=true then(if(x4.length:Int)=30 then(some ((([]:List ByteArray)),false))else(if x4.length<8796093022208 then(aX.l0 k x0 (x4++[x0.extract (x5:Int).toNat (x6:Int).toNat]) (wrap64 (x6+1)) (wrap64 (x6+1)))else(none)))else(some ((([]:List ByteArray)),false))))else(none))else(none))else(none))else(aX.l0 k x0 x4 (wrap64 (x6+1)) (wrap64 (x6+1))))
end
def aX.f (k:Nat) (a0:ByteArray):Option (List ByteArray×Bool):=(some (([]:List ByteArray):List ByteArray)).bind fun b1=>(if a0.toList=([47]:List UInt8)then(some (b1,true))else(aX.l0 k a0 b1 0 0))
theorem aX.calls (k:Nat) (a0:ByteArray) (r1:List ByteArray) (r2:Bool) (w:World) (h:aX.f k a0=some (r1,r2)):
  Calls Tryz.prog 51 #[.string a0] w fun e w'=>∃jd:Value,e= .returned (.tuple #[jd,.bool r2])∧Kd.R Kd.string 9 w' w.heap.size (fun _=>True) jd r1∧Below w.heap.size w w':=by
 have HB:=am (Below.refl w.heap.size w);unfold aX.f at h;have H:=h;clear h;obtain⟨bM,dn⟩:∃y_:List ByteArray,y_=(([]:List ByteArray)):=⟨_,rfl⟩;replace H:(if a0.toList=([47]:List UInt8)then(some (bM,true))else(aX.l0 k a0 bM 0 0))=some (r1,r2):=oY;have bB:=ab.mk dn;clear dn
 by_cases c2:a0.toList=([47]:List UInt8)
 ·rw[if_pos c2]at H;have dG:(a0.toList==([47]:List UInt8))=true:=beq_iff_eq.mpr c2;have dH:(a0.toList !=([47]:List UInt8))=false:=bne_eq_false_iff_eq.mpr c2;clear c2;simp only[Option.some.injEq,Prod.mk.injEq]at H;obtain⟨rfl,rfl⟩:=H
  go_enter Tryz.func51,Tryz.ntmps51
  go_wp2_with (first|((with_reducible refine ai (N:=8) rfl ?_);(try(refine bx (by rfl) ?_;dsimp only));refine Kd.jy Kd.string _ 9 ?hg (N:=8) ?hd (xs:=([]:List ByteArray)) (inner:=[]) (ok:=fun _=>True) (fm:=fun _=>True) ?hr ?hp (fun _ hk=>hk) trivial (Below.refl _ _) (Nat.le_refl _) (by simp) ?_;(case hd=>rfl);(case hg=>rfl);(case hr=>first|(go_simp;done)|(go_simp;rfl));(case hp=>exact(cS.none _ _));intro dI w3 bJ hb kB ep;clear kB ep;(first|rw[←bB.out]at bJ|(simp only[Int.reduceToNat]at bJ;rw[←bB.out]at bJ));have bH:=am (Kd.ay bJ (ah oB));replace HB:=hB HB hb;clear hb bJ))
  go_ret2
  exact⟨_,oE,oR bH,oB⟩
 rw[if_neg c2]at H;have dG:(a0.toList==([47]:List UInt8))=false:=beq_eq_false_iff_ne.mpr c2;have dH:(a0.toList !=([47]:List UInt8))=true:=bne_iff_ne.mpr c2;have H':=ab.mk H;clear H
 go_enter Tryz.func51,Tryz.ntmps51
 go_wp2_with (first|((with_reducible refine ai (N:=8) rfl ?_);(try(refine bx (by rfl) ?_;dsimp only));refine Kd.jy Kd.string _ 9 ?hg (N:=8) ?hd (xs:=([]:List ByteArray)) (inner:=[]) (ok:=fun _=>True) (fm:=fun _=>True) ?hr ?hp (fun _ hk=>hk) trivial (Below.refl _ _) (Nat.le_refl _) (by simp) ?_;(case hd=>rfl);(case hg=>rfl);(case hr=>first|(go_simp;done)|(go_simp;rfl));(case hp=>exact(cS.none _ _));intro dI w5 bK hb kB ep;clear kB ep;(first|rw[←bB.out]at bK|(simp only[Int.reduceToNat]at bK;rw[←bB.out]at bK));have bH:=am (Kd.ay bK (ah oB));replace HB:=hB HB hb;clear hb bK))
 go_loopg [4,5,6] k (fun kq v4 v5 v6 w'=>∃(b3:List ByteArray) (b4:Int) (b1:Int),v5= .int .i64 b4∧v6= .int .i64 b1∧ab (aX.l0 kq a0 b3 b4 b1=some (r1,r2))∧ab (kq≤k)∧ab (Kd.R Kd.string 9 w' w.heap.size (fun _=>True) v4 b3)∧ab (Below w.heap.size w w'))
 case atStart=>exact⟨(bM),(0),(0),oS,oS,H',⟨Nat.le_refl _⟩,⟨oR bH⟩,⟨oB⟩⟩
 case round=>
  clear H'
  try clear c2
  obtain⟨b3,b4,b1,rfl,rfl,HA,b9,b2,HB⟩:=hrel
  cases gk with
  |zero=>exact absurd HA.out (by simp[aX.l0])
  |succ k1=>
   have H:=HA.out;clear HA;simp only[aX.l0]at H;replace H:=iH H;rcases H with⟨bR,H⟩|⟨bR,H⟩;rotate_left
   ·by_cases bC:(a0.size:Int)=0
    ·rw[if_pos bC]at H;have bZ:((a0.size:Int)==0)=true:=beq_iff_eq.mpr bC;have d1:((a0.size:Int) !=0)=false:=bne_eq_false_iff_eq.mpr bC;clear bC;obtain⟨dJ,dn⟩:∃y_:List ByteArray,y_=(([]:List ByteArray)):=⟨_,rfl⟩;replace H:(some (dJ,false))=some (r1,r2):=oY;have bN:=ab.mk dn;clear dn;simp only[Option.some.injEq,Prod.mk.injEq]at H;obtain⟨rfl,rfl⟩:=H
     go_wp2_with (first|((with_reducible refine ai (N:=57) rfl ?_);(try(refine bx (by rfl) ?_;dsimp only));refine Kd.jy Kd.string _ 9 ?hg (N:=57) ?hd (xs:=([]:List ByteArray)) (inner:=[]) (ok:=fun _=>True) (fm:=fun _=>True) ?hr ?hp (fun _ hk=>hk) trivial (Below.refl _ _) (Nat.le_refl _) (by simp) ?_;(case hd=>rfl);(case hg=>rfl);(case hr=>first|(go_simp;done)|(go_simp;rfl));(case hp=>exact(cS.none _ _));intro gD gM b5 hb kB ep;clear kB ep;(first|rw[←bN.out]at b5|(simp only[Int.reduceToNat]at b5;rw[←bN.out]at b5));have d2:=am (Kd.ay (Kd.qU b5 (kl_ b2)) (ah oB));replace b2:=ke_ b2 b5 hb;replace HB:=hB HB hb;clear hb b5))
     go_ret2
     exact⟨_,oE,mR d2,oB⟩
    rw[if_neg bC]at H;have bZ:((a0.size:Int)==0)=false:=beq_eq_false_iff_ne.mpr bC;have d1:((a0.size:Int) !=0)=true:=bne_iff_ne.mpr bC;obtain⟨dE,H⟩:=lH H;have dU:decide (0<(a0.size:Int))=true:=decide_eq_true dE;have dV:decide (0<a0.size)=true:=decide_eq_true (by omega);clear dE
    by_cases bD:(bt a0 0)=47
    ·rw[if_pos bD]at H;have d3:((bt a0 0)==47)=true:=beq_iff_eq.mpr bD;have d4:((bt a0 0) !=47)=false:=bne_eq_false_iff_eq.mpr bD;clear bD;simp only[Option.some.injEq,Prod.mk.injEq]at H;obtain⟨rfl,rfl⟩:=H;have bS:0≤(0:Int):=(by omega);have bL:0<a0.size:=(by have:(0:Int)<(a0.size:Int):=oa;omega);have dK:∀h:0<a0.size,((a0[0]'h).toNat:Int)=bt a0 0:=hL a0 0;clear bS;have dL:(0<(a0.size:Int))=True:=eq_true oa;replace bL:=eq_true bL
     go_wp2
     go_ret2
     exact⟨_,oE,oR b2,oB⟩
    rw[if_neg bD]at H;have d3:((bt a0 0)==47)=false:=beq_eq_false_iff_ne.mpr bD;have d4:((bt a0 0) !=47)=true:=bne_iff_ne.mpr bD;obtain⟨dM,dn⟩:∃y_:List ByteArray,y_=(([]:List ByteArray)):=⟨_,rfl⟩;replace H:(some (dM,false))=some (r1,r2):=oY;have bO:=ab.mk dn;clear dn;simp only[Option.some.injEq,Prod.mk.injEq]at H;obtain⟨rfl,rfl⟩:=H;have bS:0≤(0:Int):=(by omega);have bL:0<a0.size:=(by have:(0:Int)<(a0.size:Int):=oa;omega);have dK:∀h:0<a0.size,((a0[0]'h).toNat:Int)=bt a0 0:=hL a0 0;clear bS;have dL:(0<(a0.size:Int))=True:=eq_true oa;replace bL:=eq_true bL
    go_wp2_with (first|((with_reducible refine ai (N:=57) rfl ?_);(try(refine bx (by rfl) ?_;dsimp only));refine Kd.jy Kd.string _ 9 ?hg (N:=57) ?hd (xs:=([]:List ByteArray)) (inner:=[]) (ok:=fun _=>True) (fm:=fun _=>True) ?hr ?hp (fun _ hk=>hk) trivial (Below.refl _ _) (Nat.le_refl _) (by simp) ?_;(case hd=>rfl);(case hg=>rfl);(case hr=>first|(go_simp;done)|(go_simp;rfl));(case hp=>exact(cS.none _ _));intro gE gN b6 hb kB ep;clear kB ep;(first|rw[←bO.out]at b6|(simp only[Int.reduceToNat]at b6;rw[←bO.out]at b6));have d5:=am (Kd.ay (Kd.qU b6 (kl_ b2)) (ah oB));replace b2:=ke_ b2 b6 hb;replace HB:=hB HB hb;clear hb b6))
    go_ret2
    exact⟨_,oE,mR d5,oB⟩
   have bT:=ab.mk H;clear H
   go_upto_region 8 with(fail)
   go_cut [27] (fun dT wc=>∃(kq:Nat) (bI:Bool),dT= .bool bI∧ab (aX.j1 kq a0 b3 b4 b1 bI=some (r1,r2))∧ab (kq≤k1)∧ab (Kd.R Kd.string 9 wc w.heap.size (fun _=>True) u4 b3)∧ab (Below w.heap.size w wc))
   case first=>
    have H:=bT.out;clear bT;replace H:=iH H;rcases H with⟨bE,H⟩|⟨bE,H⟩;rotate_left
    ·(first|rw[bE]|rw[aeq]|(simp only[fo,gy];rw[bE])|skip)
     have H':=ab.mk H;clear H
     go_wp2
     go_meet
     case rel=>exact⟨_,(false),oS,H',⟨by have:=b9.out;first|omega|exact Nat.le_refl _⟩,⟨oR b2⟩,⟨oB⟩⟩
    (first|rw[bE]|rw[aeq]|(simp only[fo,gy];rw[bE])|skip)
    obtain⟨dW,H⟩:=cU H;have H':=ab.mk H;clear H;have gO:(0≤(b1:Int))=True:=oT;have gP:(b1<(a0.size:Int))=True:=oT;have gF:=hL a0 b1
    go_wp2
    go_meet
    case rel=>exact⟨_,(((bt a0 b1) !=47)),oS,H',⟨by have:=b9.out;first|omega|exact Nat.le_refl _⟩,⟨oR b2⟩,⟨oB⟩⟩
   case rest=>
    clear bT
    try clear c2
    try clear bR
    obtain⟨kq,bI,rfl,HA,bG,b2,HB⟩:=hcut
    cases kq with
    |zero=>exact absurd HA.out (by simp[aX.j1])
    |succ kj7=>
     have H:=HA.out;clear HA;simp only[aX.j1]at H;replace H:=ll H;rcases H with⟨rfl,H⟩|⟨rfl,H⟩
     ·have H':=ab.mk H;clear H
      go_wp2
      go_roundg kj7
      case measure=>have:=b9.out;have:=bG.out;omega
      case rel=>exact⟨(b3),(b4),(wrap64 (b1+1)),oS,oS,H',⟨by have:=b9.out;have:=bG.out;omega⟩,⟨oR b2⟩,⟨oB⟩⟩
     replace H:=itG H;rcases H with⟨d6,H⟩|⟨d6,H⟩;rotate_left
     ·have H':=ab.mk H;clear H
      go_wp2
      go_roundg kj7
      case measure=>have:=b9.out;have:=bG.out;omega
      case rel=>exact⟨(b3),(wrap64 (b1+1)),(wrap64 (b1+1)),oS,oS,H',⟨by have:=b9.out;have:=bG.out;omega⟩,⟨oR b2⟩,⟨oB⟩⟩
     obtain⟨bU,H⟩:=lH H;have dX:=eq_true bU;have dY:decide (0≤b4)=true:=decide_eq_true bU;clear bU;obtain⟨bV,H⟩:=lH H;have dZ:=eq_true bV;have gA:decide (b4≤b1)=true:=decide_eq_true bV;clear bV;obtain⟨bW,H⟩:=lH H;have gB:=eq_true bW;have gC:decide (b1≤(a0.size:Int))=true:=decide_eq_true bW;clear bW;replace H:=bA H;obtain⟨gG,bX,H⟩:=H
     try dsimp only at H
     replace H:=ll H;rcases H with⟨rfl,H⟩|⟨rfl,H⟩;rotate_left
     ·obtain⟨dN,dn⟩:∃y_:List ByteArray,y_=(([]:List ByteArray)):=⟨_,rfl⟩;replace H:(some (dN,false))=some (r1,r2):=oY;have bP:=ab.mk dn;clear dn;simp only[Option.some.injEq,Prod.mk.injEq]at H;obtain⟨rfl,rfl⟩:=H
      go_wp2_with (first|((with_reducible refine aj (f:=63) rfl ?_);refine eI 35 Tryz.func63 (aQ.calls kj7 (a0.extract (b4:Int).toNat (b1:Int).toNat) false _ bX.out) ?_;rintro e w' ⟨rfl,⟨nd,rfl⟩⟩;refine⟨_,rfl,?_⟩)|((with_reducible refine ai (N:=42) rfl ?_);(try(refine bx (by rfl) ?_;dsimp only));refine Kd.jy Kd.string _ 9 ?hg (N:=42) ?hd (xs:=([]:List ByteArray)) (inner:=[]) (ok:=fun _=>True) (fm:=fun _=>True) ?hr ?hp (fun _ hk=>hk) trivial (Below.refl _ _) (Nat.le_refl _) (by simp) ?_;(case hd=>rfl);(case hg=>rfl);(case hr=>first|(go_simp;done)|(go_simp;rfl));(case hp=>exact(cS.none _ _));intro gH gQ b7 hb kB ep;clear kB ep;(first|rw[←bP.out]at b7|(simp only[Int.reduceToNat]at b7;rw[←bP.out]at b7));have d7:=am (Kd.ay (Kd.qU b7 (kl_ b2)) (ah oB));replace b2:=ke_ b2 b7 hb;replace HB:=hB HB hb;clear hb b7))
      go_ret2
      exact⟨_,oE,mR d7,oB⟩
     by_cases bF:(b3.length:Int)=30
     ·rw[if_pos bF]at H;have d8:((b3.length:Int)==30)=true:=beq_iff_eq.mpr bF;have d9:((b3.length:Int) !=30)=false:=bne_eq_false_iff_eq.mpr bF;clear bF;obtain⟨dO,dn⟩:∃y_:List ByteArray,y_=(([]:List ByteArray)):=⟨_,rfl⟩;replace H:(some (dO,false))=some (r1,r2):=oY;have bQ:=ab.mk dn;clear dn;simp only[Option.some.injEq,Prod.mk.injEq]at H;obtain⟨rfl,rfl⟩:=H
      go_wp2_with (first|((with_reducible refine aj (f:=63) rfl ?_);refine eI 35 Tryz.func63 (aQ.calls kj7 (a0.extract (b4:Int).toNat (b1:Int).toNat) true _ bX.out) ?_;rintro e w' ⟨rfl,⟨nd,rfl⟩⟩;refine⟨_,rfl,?_⟩;obtain⟨gI,gJ,dP⟩:=Kd.ax b2.out;subst dP)|((with_reducible refine ai (N:=42) rfl ?_);(try(refine bx (by rfl) ?_;dsimp only));refine Kd.jy Kd.string _ 9 ?hg (N:=42) ?hd (xs:=([]:List ByteArray)) (inner:=[]) (ok:=fun _=>True) (fm:=fun _=>True) ?hr ?hp (fun _ hk=>hk) trivial (Below.refl _ _) (Nat.le_refl _) (by simp) ?_;(case hd=>rfl);(case hg=>rfl);(case hr=>first|(go_simp;done)|(go_simp;rfl));(case hp=>exact(cS.none _ _));intro gK gR b8 hb kB ep;clear kB ep;(first|rw[←bQ.out]at b8|(simp only[Int.reduceToNat]at b8;rw[←bQ.out]at b8));have dA:=am (Kd.ay (Kd.qU b8 (kl_ b2)) (ah oB));replace b2:=ke_ b2 b8 hb;replace HB:=hB HB hb;clear hb b8))
      go_ret2
      exact⟨_,oE,mR dA,oB⟩
     rw[if_neg bF]at H;have d8:((b3.length:Int)==30)=false:=beq_eq_false_iff_ne.mpr bF;have d9:((b3.length:Int) !=30)=true:=bne_iff_ne.mpr bF;obtain⟨dF,H⟩:=lH H;have dB:=ab.mk dF;clear dF;obtain⟨bY,dn⟩:∃y_:List ByteArray,y_=(b3++[a0.extract (b4:Int).toNat (b1:Int).toNat]):=⟨_,rfl⟩;replace H:(aX.l0 kj7 a0 bY (wrap64 (b1+1)) (wrap64 (b1+1)))=some (r1,r2):=oY;have dC:=ab.mk dn;clear dn;have H':=ab.mk H;clear H
     go_wp2_with (first|((with_reducible refine aj (f:=63) rfl ?_);refine eI 35 Tryz.func63 (aQ.calls kj7 (a0.extract (b4:Int).toNat (b1:Int).toNat) true _ bX.out) ?_;rintro e w' ⟨rfl,⟨nd,rfl⟩⟩;refine⟨_,rfl,?_⟩;obtain⟨dQ,dR,dS⟩:=Kd.ax b2.out;subst dS)|((with_reducible refine dp (b:= .append) (xs:= #[.tmp 43,.tmp 45]) rfl ?_);(try(refine bx (by rfl) ?_;dsimp only));at_builtin;refine Kd.mr Kd.string (w0:=w) w.heap.size rfl (.tmp 43) (.tmp 45) 68 9 (.string ⟨#[]⟩) 16 rfl Tryz.underlying68 info9 rfl (by decide) (by omega) (.slice dQ b3.length dR) b3 (a0.extract (b4:Int).toNat (b1:Int).toNat) [.string (a0.extract (b4:Int).toNat (b1:Int).toNat)] (fun _=>True) (fun _=>False) rfl rfl ?aP (fun _ hk=>hk.elim) ?aF ?aO ?aB ?aS ?aL ?_;(case aP=>exact rfl);(case aB=>exact oB);(case aF=>exact(fun _ _=>trivial));(case aO=>exact(oR b2));(case aS=>exact(ah oB));(case aL=>have:=dB.out;omega);intro gL gS ho hb hg hat;rw[←dC.out]at ho;have dD:=am (ho);replace HB:=am (hb);clear b2;clear ho hb hg hat))
     go_roundg kj7
     case measure=>have:=b9.out;have:=bG.out;omega
     case rel=>exact⟨(bY),(wrap64 (b1+1)),(wrap64 (b1+1)),oS,oS,H',⟨by have:=b9.out;have:=bG.out;omega⟩,⟨oR dD⟩,⟨oB⟩⟩

def du.l0:Nat→List (eb)→Int→Option (Bool)
 |0,_,_=>none
 |k+1,x0,x3=>if x3<(x0.length:Int)then(if 0≤x3 then((aQ.f k ((al x0 x3).f0)).bind fun b1=>(if b1=true then((aT.f ((al x0 x3).f1) 2 1000).bind fun b2=>(if b2=true then(if x3>0 then(if 0≤(wrap64 (x3-1))then(if(wrap64 (x3-1))<(x0.length:Int)then(if((Op.bytesLess (((al x0 (wrap64 (x3-1))).f0).toList) (((al x0 x3).f0).toList))=true)then(du.l0 k x0 (wrap64 (x3+1)))else(some false))else(none))else(none))else(du.l0 k x0 (wrap64 (x3+1))))else(some false)))else(some false)))else(none))else(some (decide ((x0.length:Int)≤10)))
def du.f (k:Nat) (l0:List (eb)):Option (Bool):=du.l0 k l0 0
theorem du.calls (k:Nat) (A0:Option Addr) (c0:Nat) (l0:List (eb)) (r:Bool) (w:World) (hr0:Kd.C iT w A0 l0.length l0) (hc0:l0.length≤c0) (h:du.f k l0=some r):
  Calls Tryz.prog 139 #[.slice A0 l0.length c0] w fun e w'=>e= .returned (.bool r)∧eX w w':=by
 have b7:=ab.mk hr0;have d6:=ab.mk hc0;clear hr0 hc0;unfold du.f at h;have H:=h;clear h;have H':=ab.mk H;clear H
 go_enter Tryz.func139,Tryz.ntmps139
 go_wp2
 repeat(go_quiet (fail);try go_wp2)
 go_loopg [3] k (fun kq v3 w'=>∃(b1:Int),v3= .int .i64 b1∧ab (du.l0 kq l0 b1=some r)∧ab (kq≤k)∧eX w w')
 case atStart=>exact⟨(0),oS,H',⟨Nat.le_refl _⟩,oD⟩
 case round=>
  clear H';obtain⟨b1,rfl,HA,bV,⟨m1,rfl⟩⟩:=hrel
  cases gk with
  |zero=>exact absurd HA.out (by simp[du.l0])
  |succ k1=>
   have H:=HA.out;clear HA;simp only[du.l0]at H;replace H:=iH H;rcases H with⟨bX,H⟩|⟨bX,H⟩;rotate_left
   ·obtain rfl:=Option.some.inj H
    go_wp2
    repeat(go_quiet (fail);try go_wp2)
    go_ret
    exact⟨oS,oD⟩
   obtain⟨d3,H⟩:=cU H;replace H:=bA H;obtain⟨d4,A4,H⟩:=H
   try dsimp only at H
   replace H:=ll H;rcases H with⟨rfl,H⟩|⟨rfl,H⟩;rotate_left
   ·obtain rfl:=Option.some.inj H;have bT:(0≤(b1:Int))=True:=oT;have bU:(b1<(l0.length:Int))=True:=oT;obtain⟨b2,bO,bP,bQ⟩:=cV b7.out b1 oa oa
    cases bO
    go_wp2_with (first|(go_at_call 63;(with_reducible refine(aQ.calls k1 ((al l0 b1).f0) false _ A4.out).mono ?_);rintro e w' ⟨rfl,⟨nd,rfl⟩⟩))
    repeat(go_quiet (first|(go_at_call 63;(with_reducible refine(aQ.calls k1 ((al l0 b1).f0) false _ A4.out).mono ?_);rintro e w' ⟨rfl,⟨nd,rfl⟩⟩;exact oQ));try go_wp2_with (first|(go_at_call 63;(with_reducible refine(aQ.calls k1 ((al l0 b1).f0) false _ A4.out).mono ?_);rintro e w' ⟨rfl,⟨nd,rfl⟩⟩)))
    go_ret
    exact⟨oS,oD⟩
   replace H:=bA H;obtain⟨d5,A6,H⟩:=H
   try dsimp only at H
   replace H:=ll H;rcases H with⟨rfl,H⟩|⟨rfl,H⟩;rotate_left
   ·obtain rfl:=Option.some.inj H;have bT:(0≤(b1:Int))=True:=oT;have bU:(b1<(l0.length:Int))=True:=oT;obtain⟨b2,bO,bP,bQ⟩:=cV b7.out b1 oa oa
    cases bO
    go_wp2_with (first|(go_at_call 63;(with_reducible refine(aQ.calls k1 ((al l0 b1).f0) true _ A4.out).mono ?_);rintro e w' ⟨rfl,⟨nd,rfl⟩⟩;have b4:(0≤(b1:Int))=True:=oT;have b5:(b1<(l0.length:Int))=True:=oT;obtain⟨b3,b6,b8,b9⟩:=cV b7.out b1 oa oa;obtain rfl:b2=b3:=(by injection b6))|(go_at_call 60;(with_reducible refine(aT.calls ((al l0 b1).f1) 2 1000 false _ A6.out).mono ?_);rintro e w' ⟨rfl,⟨nd,rfl⟩⟩))
    try(have b4:0≤(b1:Int):=oa;have b5:b1<(l0.length:Int):=oa;obtain⟨b3,b6,b8,b9⟩:=cV b7.out b1 b4 b5;obtain rfl:b2=b3:=(by injection b6);replace b4:=eq_true b4;replace b5:=eq_true b5)
    repeat(go_quiet (first|(go_at_call 63;(with_reducible refine(aQ.calls k1 ((al l0 b1).f0) true _ A4.out).mono ?_);rintro e w' ⟨rfl,⟨nd,rfl⟩⟩;exact oQ)|(go_at_call 60;(with_reducible refine(aT.calls ((al l0 b1).f1) 2 1000 false _ A6.out).mono ?_);rintro e w' ⟨rfl,⟨nd,rfl⟩⟩;exact oQ));try go_wp2_with (first|(go_at_call 63;(with_reducible refine(aQ.calls k1 ((al l0 b1).f0) true _ A4.out).mono ?_);rintro e w' ⟨rfl,⟨nd,rfl⟩⟩;have b4:(0≤(b1:Int))=True:=oT;have b5:(b1<(l0.length:Int))=True:=oT;obtain⟨b3,b6,b8,b9⟩:=cV b7.out b1 oa oa;obtain rfl:b2=b3:=(by injection b6))|(go_at_call 60;(with_reducible refine(aT.calls ((al l0 b1).f1) 2 1000 false _ A6.out).mono ?_);rintro e w' ⟨rfl,⟨nd,rfl⟩⟩)))
    go_ret
    exact⟨oS,oD⟩
   replace H:=itG H;rcases H with⟨bY,H⟩|⟨bY,H⟩;rotate_left
   ·have H':=ab.mk H;clear H;have bT:(0≤(b1:Int))=True:=oT;have bU:(b1<(l0.length:Int))=True:=oT;obtain⟨b2,bO,bP,bQ⟩:=cV b7.out b1 oa oa
    cases bO
    go_wp2_with (first|(go_at_call 63;(with_reducible refine(aQ.calls k1 ((al l0 b1).f0) true _ A4.out).mono ?_);rintro e w' ⟨rfl,⟨nd,rfl⟩⟩;have b4:(0≤(b1:Int))=True:=oT;have b5:(b1<(l0.length:Int))=True:=oT;obtain⟨b3,b6,b8,b9⟩:=cV b7.out b1 oa oa;obtain rfl:b2=b3:=(by injection b6))|(go_at_call 60;(with_reducible refine(aT.calls ((al l0 b1).f1) 2 1000 true _ A6.out).mono ?_);rintro e w' ⟨rfl,⟨nd,rfl⟩⟩))
    try(have b4:0≤(b1:Int):=oa;have b5:b1<(l0.length:Int):=oa;obtain⟨b3,b6,b8,b9⟩:=cV b7.out b1 b4 b5;obtain rfl:b2=b3:=(by injection b6);replace b4:=eq_true b4;replace b5:=eq_true b5)
    repeat(go_quiet (first|(go_at_call 63;(with_reducible refine(aQ.calls k1 ((al l0 b1).f0) true _ A4.out).mono ?_);rintro e w' ⟨rfl,⟨nd,rfl⟩⟩;exact oQ)|(go_at_call 60;(with_reducible refine(aT.calls ((al l0 b1).f1) 2 1000 true _ A6.out).mono ?_);rintro e w' ⟨rfl,⟨nd,rfl⟩⟩;exact oQ));try go_wp2_with (first|(go_at_call 63;(with_reducible refine(aQ.calls k1 ((al l0 b1).f0) true _ A4.out).mono ?_);rintro e w' ⟨rfl,⟨nd,rfl⟩⟩;have b4:(0≤(b1:Int))=True:=oT;have b5:(b1<(l0.length:Int))=True:=oT;obtain⟨b3,b6,b8,b9⟩:=cV b7.out b1 oa oa;obtain rfl:b2=b3:=(by injection b6))|(go_at_call 60;(with_reducible refine(aT.calls ((al l0 b1).f1) 2 1000 true _ A6.out).mono ?_);rintro e w' ⟨rfl,⟨nd,rfl⟩⟩)))
    go_roundg k1
    case measure=>have:=bV.out;omega
    case rel=>exact⟨(wrap64 (b1+1)),oS,H',⟨by have:=bV.out;omega⟩,oD⟩
   obtain⟨bB,bR⟩:∃j_:Int,(wrap64 (b1-1))=j_:=⟨_,rfl⟩
   replace H:(if 0≤(bB)then(if(bB)<(l0.length:Int)then(if((Op.bytesLess (((al l0 (bB)).f0).toList) (((al l0 b1).f0).toList))=true)then(du.l0 k1 l0 (wrap64 (b1+1)))else(some false))else(none))else(none))=some r:=by first|(rw[bR]at H;exact H)|(simp only[bR]at H⊢;exact H)
   (try rw[bR]at A4)
   (try rw[bR]at A6)
   have bZ:(IntKind.i64.wrap (b1-1))=bB:=(fo _).trans bR;obtain⟨d1,H⟩:=cU H;obtain⟨d2,H⟩:=cU H
   by_cases bS:((Op.bytesLess (((al l0 (bB)).f0).toList) (((al l0 b1).f0).toList))=true)
   rotate_left
   ·rw[if_neg bS]at H
    have bW:(Op.bytesLess (((al l0 (bB)).f0).toList) (((al l0 b1).f0).toList))=false:=by simpa using bS
    clear bS;obtain rfl:=Option.some.inj H;have bT:(0≤(b1:Int))=True:=oT;have bU:(b1<(l0.length:Int))=True:=oT;obtain⟨b2,bO,bP,bQ⟩:=cV b7.out b1 oa oa
    cases bO
    go_wp2_with (first|(go_at_call 63;(with_reducible refine(aQ.calls k1 ((al l0 b1).f0) true _ A4.out).mono ?_);rintro e w' ⟨rfl,⟨nd,rfl⟩⟩;have b4:(0≤(b1:Int))=True:=oT;have b5:(b1<(l0.length:Int))=True:=oT;obtain⟨b3,b6,b8,b9⟩:=cV b7.out b1 oa oa;obtain rfl:b2=b3:=(by injection b6))|(go_at_call 60;(with_reducible refine(aT.calls ((al l0 b1).f1) 2 1000 true _ A6.out).mono ?_);rintro e w' ⟨rfl,⟨nd,rfl⟩⟩;have bE:(0≤((bB):Int))=True:=oT;have bF:((bB)<(l0.length:Int))=True:=oT;obtain⟨bC,bG,bK,bL⟩:=cV b7.out (bB) oa oa;obtain rfl:b2=bC:=(by injection bG);have bH:(0≤(b1:Int))=True:=oT;have bI:(b1<(l0.length:Int))=True:=oT;obtain⟨bD,bJ,bM,bN⟩:=cV b7.out b1 oa oa;obtain rfl:b2=bD:=(by injection bJ)))
    try(have b4:0≤(b1:Int):=oa;have b5:b1<(l0.length:Int):=oa;obtain⟨b3,b6,b8,b9⟩:=cV b7.out b1 b4 b5;obtain rfl:b2=b3:=(by injection b6);replace b4:=eq_true b4;replace b5:=eq_true b5)
    try(have bE:0≤((bB):Int):=oa;have bF:(bB)<(l0.length:Int):=oa;obtain⟨bC,bG,bK,bL⟩:=cV b7.out (bB) bE bF;obtain rfl:b2=bC:=(by injection bG);replace bE:=eq_true bE;replace bF:=eq_true bF;have bH:0≤(b1:Int):=oa;have bI:b1<(l0.length:Int):=oa;obtain⟨bD,bJ,bM,bN⟩:=cV b7.out b1 bH bI;obtain rfl:b2=bD:=(by injection bJ);replace bH:=eq_true bH;replace bI:=eq_true bI)
    repeat(go_quiet (first|(go_at_call 63;(with_reducible refine(aQ.calls k1 ((al l0 b1).f0) true _ A4.out).mono ?_);rintro e w' ⟨rfl,⟨nd,rfl⟩⟩;exact oQ)|(go_at_call 60;(with_reducible refine(aT.calls ((al l0 b1).f1) 2 1000 true _ A6.out).mono ?_);rintro e w' ⟨rfl,⟨nd,rfl⟩⟩;exact oQ));try go_wp2_with (first|(go_at_call 63;(with_reducible refine(aQ.calls k1 ((al l0 b1).f0) true _ A4.out).mono ?_);rintro e w' ⟨rfl,⟨nd,rfl⟩⟩;have b4:(0≤(b1:Int))=True:=oT;have b5:(b1<(l0.length:Int))=True:=oT;obtain⟨b3,b6,b8,b9⟩:=cV b7.out b1 oa oa;obtain rfl:b2=b3:=(by injection b6))|(go_at_call 60;(with_reducible refine(aT.calls ((al l0 b1).f1) 2 1000 true _ A6.out).mono ?_);rintro e w' ⟨rfl,⟨nd,rfl⟩⟩;have bE:(0≤((bB):Int))=True:=oT;have bF:((bB)<(l0.length:Int))=True:=oT;obtain⟨bC,bG,bK,bL⟩:=cV b7.out (bB) oa oa;obtain rfl:b2=bC:=(by injection bG);have bH:(0≤(b1:Int))=True:=oT;have bI:(b1<(l0.length:Int))=True:=oT;obtain⟨bD,bJ,bM,bN⟩:=cV b7.out b1 oa oa;obtain rfl:b2=bD:=(by injection bJ))))
    go_ret
    exact⟨by first|rfl|(simp;done)|(simp only[←bR]<;>(first|rfl|simp))|(simp[*];done),oD⟩
   rw[if_pos bS]at H;have bW:(Op.bytesLess (((al l0 (bB)).f0).toList) (((al l0 b1).f0).toList))=true:=bS;clear bS;have H':=ab.mk H;clear H;have bT:(0≤(b1:Int))=True:=oT;have bU:(b1<(l0.length:Int))=True:=oT;obtain⟨b2,bO,bP,bQ⟩:=cV b7.out b1 oa oa
   cases bO
   go_wp2_with (first|(go_at_call 63;(with_reducible refine(aQ.calls k1 ((al l0 b1).f0) true _ A4.out).mono ?_);rintro e w' ⟨rfl,⟨nd,rfl⟩⟩;have b4:(0≤(b1:Int))=True:=oT;have b5:(b1<(l0.length:Int))=True:=oT;obtain⟨b3,b6,b8,b9⟩:=cV b7.out b1 oa oa;obtain rfl:b2=b3:=(by injection b6))|(go_at_call 60;(with_reducible refine(aT.calls ((al l0 b1).f1) 2 1000 true _ A6.out).mono ?_);rintro e w' ⟨rfl,⟨nd,rfl⟩⟩;have bE:(0≤((bB):Int))=True:=oT;have bF:((bB)<(l0.length:Int))=True:=oT;obtain⟨bC,bG,bK,bL⟩:=cV b7.out (bB) oa oa;obtain rfl:b2=bC:=(by injection bG);have bH:(0≤(b1:Int))=True:=oT;have bI:(b1<(l0.length:Int))=True:=oT;obtain⟨bD,bJ,bM,bN⟩:=cV b7.out b1 oa oa;obtain rfl:b2=bD:=(by injection bJ)))
   try(have b4:0≤(b1:Int):=oa;have b5:b1<(l0.length:Int):=oa;obtain⟨b3,b6,b8,b9⟩:=cV b7.out b1 b4 b5;obtain rfl:b2=b3:=(by injection b6);replace b4:=eq_true b4;replace b5:=eq_true b5)
   try(have bE:0≤((bB):Int):=oa;have bF:(bB)<(l0.length:Int):=oa;obtain⟨bC,bG,bK,bL⟩:=cV b7.out (bB) bE bF;obtain rfl:b2=bC:=(by injection bG);replace bE:=eq_true bE;replace bF:=eq_true bF;have bH:0≤(b1:Int):=oa;have bI:b1<(l0.length:Int):=oa;obtain⟨bD,bJ,bM,bN⟩:=cV b7.out b1 bH bI;obtain rfl:b2=bD:=(by injection bJ);replace bH:=eq_true bH;replace bI:=eq_true bI)
   repeat(go_quiet (first|(go_at_call 63;(with_reducible refine(aQ.calls k1 ((al l0 b1).f0) true _ A4.out).mono ?_);rintro e w' ⟨rfl,⟨nd,rfl⟩⟩;exact oQ)|(go_at_call 60;(with_reducible refine(aT.calls ((al l0 b1).f1) 2 1000 true _ A6.out).mono ?_);rintro e w' ⟨rfl,⟨nd,rfl⟩⟩;exact oQ));try go_wp2_with (first|(go_at_call 63;(with_reducible refine(aQ.calls k1 ((al l0 b1).f0) true _ A4.out).mono ?_);rintro e w' ⟨rfl,⟨nd,rfl⟩⟩;have b4:(0≤(b1:Int))=True:=oT;have b5:(b1<(l0.length:Int))=True:=oT;obtain⟨b3,b6,b8,b9⟩:=cV b7.out b1 oa oa;obtain rfl:b2=b3:=(by injection b6))|(go_at_call 60;(with_reducible refine(aT.calls ((al l0 b1).f1) 2 1000 true _ A6.out).mono ?_);rintro e w' ⟨rfl,⟨nd,rfl⟩⟩;have bE:(0≤((bB):Int))=True:=oT;have bF:((bB)<(l0.length:Int))=True:=oT;obtain⟨bC,bG,bK,bL⟩:=cV b7.out (bB) oa oa;obtain rfl:b2=bC:=(by injection bG);have bH:(0≤(b1:Int))=True:=oT;have bI:(b1<(l0.length:Int))=True:=oT;obtain⟨bD,bJ,bM,bN⟩:=cV b7.out b1 oa oa;obtain rfl:b2=bD:=(by injection bJ))))
   go_roundg k1
   case measure=>have:=bV.out;omega
   case rel=>exact⟨(wrap64 (b1+1)),oS,H',⟨by have:=bV.out;omega⟩,oD⟩

def de.l0:Nat→List (eh)→Int→Option (Bool)
 |0,_,_=>none
 |k+1,x0,x3=>if x3<(x0.length:Int)then(if 0≤x3 then((aQ.f k ((an x0 x3).f0)).bind fun b1=>(if b1=true then((aT.f (((an x0 x3).f1).size:Int) 1 16).bind fun b2=>(if b2=true then(if x3>0 then(if 0≤(wrap64 (x3-1))then(if(wrap64 (x3-1))<(x0.length:Int)then(if((Op.bytesLess (((an x0 (wrap64 (x3-1))).f0).toList) (((an x0 x3).f0).toList))=true)then(de.l0 k x0 (wrap64 (x3+1)))else(some false))else(none))else(none))else(de.l0 k x0 (wrap64 (x3+1))))else(some false)))else(some false)))else(none))else(some (decide ((x0.length:Int)≤4)))
def de.f (k:Nat) (l0:List (eh)):Option (Bool):=de.l0 k l0 0
theorem de.calls (k:Nat) (A0:Option Addr) (c0:Nat) (l0:List (eh)) (r:Bool) (w:World) (hr0:Kd.C iU w A0 l0.length l0) (hc0:l0.length≤c0) (h:de.f k l0=some r):
  Calls Tryz.prog 140 #[.slice A0 l0.length c0] w fun e w'=>e= .returned (.bool r)∧eX w w':=by
 have b7:=ab.mk hr0;have d6:=ab.mk hc0;clear hr0 hc0;unfold de.f at h;have H:=h;clear h;have H':=ab.mk H;clear H
 go_enter Tryz.func140,Tryz.ntmps140
 go_wp2
 repeat(go_quiet (fail);try go_wp2)
 go_loopg [3] k (fun kq v3 w'=>∃(b1:Int),v3= .int .i64 b1∧ab (de.l0 kq l0 b1=some r)∧ab (kq≤k)∧eX w w')
 case atStart=>exact⟨(0),oS,H',⟨Nat.le_refl _⟩,oD⟩
 case round=>
  clear H';obtain⟨b1,rfl,HA,bV,⟨m1,rfl⟩⟩:=hrel
  cases gk with
  |zero=>exact absurd HA.out (by simp[de.l0])
  |succ k1=>
   have H:=HA.out;clear HA;simp only[de.l0]at H;replace H:=iH H;rcases H with⟨bX,H⟩|⟨bX,H⟩;rotate_left
   ·obtain rfl:=Option.some.inj H
    go_wp2
    repeat(go_quiet (fail);try go_wp2)
    go_ret
    exact⟨oS,oD⟩
   obtain⟨d3,H⟩:=cU H;replace H:=bA H;obtain⟨d4,A4,H⟩:=H
   try dsimp only at H
   replace H:=ll H;rcases H with⟨rfl,H⟩|⟨rfl,H⟩;rotate_left
   ·obtain rfl:=Option.some.inj H;have bT:(0≤(b1:Int))=True:=oT;have bU:(b1<(l0.length:Int))=True:=oT;obtain⟨b2,bO,bP,bQ⟩:=dw b7.out b1 oa oa
    cases bO
    go_wp2_with (first|(go_at_call 63;(with_reducible refine(aQ.calls k1 ((an l0 b1).f0) false _ A4.out).mono ?_);rintro e w' ⟨rfl,⟨nd,rfl⟩⟩))
    repeat(go_quiet (first|(go_at_call 63;(with_reducible refine(aQ.calls k1 ((an l0 b1).f0) false _ A4.out).mono ?_);rintro e w' ⟨rfl,⟨nd,rfl⟩⟩;exact oQ));try go_wp2_with (first|(go_at_call 63;(with_reducible refine(aQ.calls k1 ((an l0 b1).f0) false _ A4.out).mono ?_);rintro e w' ⟨rfl,⟨nd,rfl⟩⟩)))
    go_ret
    exact⟨oS,oD⟩
   replace H:=bA H;obtain⟨d5,A6,H⟩:=H
   try dsimp only at H
   replace H:=ll H;rcases H with⟨rfl,H⟩|⟨rfl,H⟩;rotate_left
   ·obtain rfl:=Option.some.inj H;have bT:(0≤(b1:Int))=True:=oT;have bU:(b1<(l0.length:Int))=True:=oT;obtain⟨b2,bO,bP,bQ⟩:=dw b7.out b1 oa oa
    cases bO
    go_wp2_with (first|(go_at_call 63;(with_reducible refine(aQ.calls k1 ((an l0 b1).f0) true _ A4.out).mono ?_);rintro e w' ⟨rfl,⟨nd,rfl⟩⟩;have b4:(0≤(b1:Int))=True:=oT;have b5:(b1<(l0.length:Int))=True:=oT;obtain⟨b3,b6,b8,b9⟩:=dw b7.out b1 oa oa;obtain rfl:b2=b3:=(by injection b6))|(go_at_call 60;(with_reducible refine(aT.calls (((an l0 b1).f1).size:Int) 1 16 false _ A6.out).mono ?_);rintro e w' ⟨rfl,⟨nd,rfl⟩⟩))
    try(have b4:0≤(b1:Int):=oa;have b5:b1<(l0.length:Int):=oa;obtain⟨b3,b6,b8,b9⟩:=dw b7.out b1 b4 b5;obtain rfl:b2=b3:=(by injection b6);replace b4:=eq_true b4;replace b5:=eq_true b5)
    repeat(go_quiet (first|(go_at_call 63;(with_reducible refine(aQ.calls k1 ((an l0 b1).f0) true _ A4.out).mono ?_);rintro e w' ⟨rfl,⟨nd,rfl⟩⟩;exact oQ)|(go_at_call 60;(with_reducible refine(aT.calls (((an l0 b1).f1).size:Int) 1 16 false _ A6.out).mono ?_);rintro e w' ⟨rfl,⟨nd,rfl⟩⟩;exact oQ));try go_wp2_with (first|(go_at_call 63;(with_reducible refine(aQ.calls k1 ((an l0 b1).f0) true _ A4.out).mono ?_);rintro e w' ⟨rfl,⟨nd,rfl⟩⟩;have b4:(0≤(b1:Int))=True:=oT;have b5:(b1<(l0.length:Int))=True:=oT;obtain⟨b3,b6,b8,b9⟩:=dw b7.out b1 oa oa;obtain rfl:b2=b3:=(by injection b6))|(go_at_call 60;(with_reducible refine(aT.calls (((an l0 b1).f1).size:Int) 1 16 false _ A6.out).mono ?_);rintro e w' ⟨rfl,⟨nd,rfl⟩⟩)))
    go_ret
    exact⟨oS,oD⟩
   replace H:=itG H;rcases H with⟨bY,H⟩|⟨bY,H⟩;rotate_left
   ·have H':=ab.mk H;clear H;have bT:(0≤(b1:Int))=True:=oT;have bU:(b1<(l0.length:Int))=True:=oT;obtain⟨b2,bO,bP,bQ⟩:=dw b7.out b1 oa oa
    cases bO
    go_wp2_with (first|(go_at_call 63;(with_reducible refine(aQ.calls k1 ((an l0 b1).f0) true _ A4.out).mono ?_);rintro e w' ⟨rfl,⟨nd,rfl⟩⟩;have b4:(0≤(b1:Int))=True:=oT;have b5:(b1<(l0.length:Int))=True:=oT;obtain⟨b3,b6,b8,b9⟩:=dw b7.out b1 oa oa;obtain rfl:b2=b3:=(by injection b6))|(go_at_call 60;(with_reducible refine(aT.calls (((an l0 b1).f1).size:Int) 1 16 true _ A6.out).mono ?_);rintro e w' ⟨rfl,⟨nd,rfl⟩⟩))
    try(have b4:0≤(b1:Int):=oa;have b5:b1<(l0.length:Int):=oa;obtain⟨b3,b6,b8,b9⟩:=dw b7.out b1 b4 b5;obtain rfl:b2=b3:=(by injection b6);replace b4:=eq_true b4;replace b5:=eq_true b5)
    repeat(go_quiet (first|(go_at_call 63;(with_reducible refine(aQ.calls k1 ((an l0 b1).f0) true _ A4.out).mono ?_);rintro e w' ⟨rfl,⟨nd,rfl⟩⟩;exact oQ)|(go_at_call 60;(with_reducible refine(aT.calls (((an l0 b1).f1).size:Int) 1 16 true _ A6.out).mono ?_);rintro e w' ⟨rfl,⟨nd,rfl⟩⟩;exact oQ));try go_wp2_with (first|(go_at_call 63;(with_reducible refine(aQ.calls k1 ((an l0 b1).f0) true _ A4.out).mono ?_);rintro e w' ⟨rfl,⟨nd,rfl⟩⟩;have b4:(0≤(b1:Int))=True:=oT;have b5:(b1<(l0.length:Int))=True:=oT;obtain⟨b3,b6,b8,b9⟩:=dw b7.out b1 oa oa;obtain rfl:b2=b3:=(by injection b6))|(go_at_call 60;(with_reducible refine(aT.calls (((an l0 b1).f1).size:Int) 1 16 true _ A6.out).mono ?_);rintro e w' ⟨rfl,⟨nd,rfl⟩⟩)))
    go_roundg k1
    case measure=>have:=bV.out;omega
    case rel=>exact⟨(wrap64 (b1+1)),oS,H',⟨by have:=bV.out;omega⟩,oD⟩
   obtain⟨bB,bR⟩:∃j_:Int,(wrap64 (b1-1))=j_:=⟨_,rfl⟩
   replace H:(if 0≤(bB)then(if(bB)<(l0.length:Int)then(if((Op.bytesLess (((an l0 (bB)).f0).toList) (((an l0 b1).f0).toList))=true)then(de.l0 k1 l0 (wrap64 (b1+1)))else(some false))else(none))else(none))=some r:=by first|(rw[bR]at H;exact H)|(simp only[bR]at H⊢;exact H)
   (try rw[bR]at A4)
   (try rw[bR]at A6)
   have bZ:(IntKind.i64.wrap (b1-1))=bB:=(fo _).trans bR;obtain⟨d1,H⟩:=cU H;obtain⟨d2,H⟩:=cU H
   by_cases bS:((Op.bytesLess (((an l0 (bB)).f0).toList) (((an l0 b1).f0).toList))=true)
   rotate_left
   ·rw[if_neg bS]at H
    have bW:(Op.bytesLess (((an l0 (bB)).f0).toList) (((an l0 b1).f0).toList))=false:=by simpa using bS
    clear bS;obtain rfl:=Option.some.inj H;have bT:(0≤(b1:Int))=True:=oT;have bU:(b1<(l0.length:Int))=True:=oT;obtain⟨b2,bO,bP,bQ⟩:=dw b7.out b1 oa oa
    cases bO
    go_wp2_with (first|(go_at_call 63;(with_reducible refine(aQ.calls k1 ((an l0 b1).f0) true _ A4.out).mono ?_);rintro e w' ⟨rfl,⟨nd,rfl⟩⟩;have b4:(0≤(b1:Int))=True:=oT;have b5:(b1<(l0.length:Int))=True:=oT;obtain⟨b3,b6,b8,b9⟩:=dw b7.out b1 oa oa;obtain rfl:b2=b3:=(by injection b6))|(go_at_call 60;(with_reducible refine(aT.calls (((an l0 b1).f1).size:Int) 1 16 true _ A6.out).mono ?_);rintro e w' ⟨rfl,⟨nd,rfl⟩⟩;have bE:(0≤((bB):Int))=True:=oT;have bF:((bB)<(l0.length:Int))=True:=oT;obtain⟨bC,bG,bK,bL⟩:=dw b7.out (bB) oa oa;obtain rfl:b2=bC:=(by injection bG);have bH:(0≤(b1:Int))=True:=oT;have bI:(b1<(l0.length:Int))=True:=oT;obtain⟨bD,bJ,bM,bN⟩:=dw b7.out b1 oa oa;obtain rfl:b2=bD:=(by injection bJ)))
    try(have b4:0≤(b1:Int):=oa;have b5:b1<(l0.length:Int):=oa;obtain⟨b3,b6,b8,b9⟩:=dw b7.out b1 b4 b5;obtain rfl:b2=b3:=(by injection b6);replace b4:=eq_true b4;replace b5:=eq_true b5)
    try(have bE:0≤((bB):Int):=oa;have bF:(bB)<(l0.length:Int):=oa;obtain⟨bC,bG,bK,bL⟩:=dw b7.out (bB) bE bF;obtain rfl:b2=bC:=(by injection bG);replace bE:=eq_true bE;replace bF:=eq_true bF;have bH:0≤(b1:Int):=oa;have bI:b1<(l0.length:Int):=oa;obtain⟨bD,bJ,bM,bN⟩:=dw b7.out b1 bH bI;obtain rfl:b2=bD:=(by injection bJ);replace bH:=eq_true bH;replace bI:=eq_true bI)
    repeat(go_quiet (first|(go_at_call 63;(with_reducible refine(aQ.calls k1 ((an l0 b1).f0) true _ A4.out).mono ?_);rintro e w' ⟨rfl,⟨nd,rfl⟩⟩;exact oQ)|(go_at_call 60;(with_reducible refine(aT.calls (((an l0 b1).f1).size:Int) 1 16 true _ A6.out).mono ?_);rintro e w' ⟨rfl,⟨nd,rfl⟩⟩;exact oQ));try go_wp2_with (first|(go_at_call 63;(with_reducible refine(aQ.calls k1 ((an l0 b1).f0) true _ A4.out).mono ?_);rintro e w' ⟨rfl,⟨nd,rfl⟩⟩;have b4:(0≤(b1:Int))=True:=oT;have b5:(b1<(l0.length:Int))=True:=oT;obtain⟨b3,b6,b8,b9⟩:=dw b7.out b1 oa oa;obtain rfl:b2=b3:=(by injection b6))|(go_at_call 60;(with_reducible refine(aT.calls (((an l0 b1).f1).size:Int) 1 16 true _ A6.out).mono ?_);rintro e w' ⟨rfl,⟨nd,rfl⟩⟩;have bE:(0≤((bB):Int))=True:=oT;have bF:((bB)<(l0.length:Int))=True:=oT;obtain⟨bC,bG,bK,bL⟩:=dw b7.out (bB) oa oa;obtain rfl:b2=bC:=(by injection bG);have bH:(0≤(b1:Int))=True:=oT;have bI:(b1<(l0.length:Int))=True:=oT;obtain⟨bD,bJ,bM,bN⟩:=dw b7.out b1 oa oa;obtain rfl:b2=bD:=(by injection bJ))))
    go_ret
    exact⟨by first|rfl|(simp;done)|(simp only[←bR]<;>(first|rfl|simp))|(simp[*];done),oD⟩
   rw[if_pos bS]at H;have bW:(Op.bytesLess (((an l0 (bB)).f0).toList) (((an l0 b1).f0).toList))=true:=bS;clear bS;have H':=ab.mk H;clear H;have bT:(0≤(b1:Int))=True:=oT;have bU:(b1<(l0.length:Int))=True:=oT;obtain⟨b2,bO,bP,bQ⟩:=dw b7.out b1 oa oa
   cases bO
   go_wp2_with (first|(go_at_call 63;(with_reducible refine(aQ.calls k1 ((an l0 b1).f0) true _ A4.out).mono ?_);rintro e w' ⟨rfl,⟨nd,rfl⟩⟩;have b4:(0≤(b1:Int))=True:=oT;have b5:(b1<(l0.length:Int))=True:=oT;obtain⟨b3,b6,b8,b9⟩:=dw b7.out b1 oa oa;obtain rfl:b2=b3:=(by injection b6))|(go_at_call 60;(with_reducible refine(aT.calls (((an l0 b1).f1).size:Int) 1 16 true _ A6.out).mono ?_);rintro e w' ⟨rfl,⟨nd,rfl⟩⟩;have bE:(0≤((bB):Int))=True:=oT;have bF:((bB)<(l0.length:Int))=True:=oT;obtain⟨bC,bG,bK,bL⟩:=dw b7.out (bB) oa oa;obtain rfl:b2=bC:=(by injection bG);have bH:(0≤(b1:Int))=True:=oT;have bI:(b1<(l0.length:Int))=True:=oT;obtain⟨bD,bJ,bM,bN⟩:=dw b7.out b1 oa oa;obtain rfl:b2=bD:=(by injection bJ)))
   try(have b4:0≤(b1:Int):=oa;have b5:b1<(l0.length:Int):=oa;obtain⟨b3,b6,b8,b9⟩:=dw b7.out b1 b4 b5;obtain rfl:b2=b3:=(by injection b6);replace b4:=eq_true b4;replace b5:=eq_true b5)
   try(have bE:0≤((bB):Int):=oa;have bF:(bB)<(l0.length:Int):=oa;obtain⟨bC,bG,bK,bL⟩:=dw b7.out (bB) bE bF;obtain rfl:b2=bC:=(by injection bG);replace bE:=eq_true bE;replace bF:=eq_true bF;have bH:0≤(b1:Int):=oa;have bI:b1<(l0.length:Int):=oa;obtain⟨bD,bJ,bM,bN⟩:=dw b7.out b1 bH bI;obtain rfl:b2=bD:=(by injection bJ);replace bH:=eq_true bH;replace bI:=eq_true bI)
   repeat(go_quiet (first|(go_at_call 63;(with_reducible refine(aQ.calls k1 ((an l0 b1).f0) true _ A4.out).mono ?_);rintro e w' ⟨rfl,⟨nd,rfl⟩⟩;exact oQ)|(go_at_call 60;(with_reducible refine(aT.calls (((an l0 b1).f1).size:Int) 1 16 true _ A6.out).mono ?_);rintro e w' ⟨rfl,⟨nd,rfl⟩⟩;exact oQ));try go_wp2_with (first|(go_at_call 63;(with_reducible refine(aQ.calls k1 ((an l0 b1).f0) true _ A4.out).mono ?_);rintro e w' ⟨rfl,⟨nd,rfl⟩⟩;have b4:(0≤(b1:Int))=True:=oT;have b5:(b1<(l0.length:Int))=True:=oT;obtain⟨b3,b6,b8,b9⟩:=dw b7.out b1 oa oa;obtain rfl:b2=b3:=(by injection b6))|(go_at_call 60;(with_reducible refine(aT.calls (((an l0 b1).f1).size:Int) 1 16 true _ A6.out).mono ?_);rintro e w' ⟨rfl,⟨nd,rfl⟩⟩;have bE:(0≤((bB):Int))=True:=oT;have bF:((bB)<(l0.length:Int))=True:=oT;obtain⟨bC,bG,bK,bL⟩:=dw b7.out (bB) oa oa;obtain rfl:b2=bC:=(by injection bG);have bH:(0≤(b1:Int))=True:=oT;have bI:(b1<(l0.length:Int))=True:=oT;obtain⟨bD,bJ,bM,bN⟩:=dw b7.out b1 oa oa;obtain rfl:b2=bD:=(by injection bJ))))
   go_roundg k1
   case measure=>have:=bV.out;omega
   case rel=>exact⟨(wrap64 (b1+1)),oS,H',⟨by have:=bV.out;omega⟩,oD⟩

/-- An element of a row of inodes, lent: its cells, its rows, and the row without it. -/
structure nT (w0 W:World) (ok:Nat→Prop) (g n co:Nat) (xs:List bh) (i:Nat) (kj:Nat→Prop) (v3 v4 v5:Value) (y:bh):Prop where
 lt:i<n
 h:Kd.H fD 58 W w0.heap.size ok (.slice (some ⟨g,0,none⟩) n co) xs (i:Int) kj [.int .i64 y.f0,.int .i64 y.f1,.int .i64 y.f2,v3,v4,v5]
 r3:(Kd.int .u8).R 5 W w0.heap.size kj v3 y.f3
 r4:iT.R 75 W w0.heap.size kj v4 y.f4
 r5:iU.R 82 W w0.heap.size kj v5 y.f5
 fr:∀j,W.frozen? ⟨g,i*6+j,none⟩=false
 hg:∀k,kj k→ok k∧k≠g
section
variable {w0 W W':World}{ok kj:Nat→Prop}{g n co i:Nat}{xs:List bh}{v3 v4 v5:Value}{y:bh}
theorem nT.start (hS:Kd.S fD 58 W w0.heap.size ok (.slice (some ⟨g,0,none⟩) n co) xs) (hi:i<n):∃kj v3 v4 v5,nT w0 W ok g n co xs i kj v3 v4 v5 (af xs (i:Int)):=by
 obtain⟨kj,c,hcl,hM,hcc,hfr,adb,hH⟩:=Kd.vq hS z58 (i:Int) (by omega) (by omega);obtain⟨v3,v4,v5,rfl,g3,g4,g5⟩:=pK hM;exact⟨kj,v3,v4,v5,hi,hH,g3,g4,g5,hfr,adb⟩
theorem nT.cells (m:nT w0 W ok g n co xs i kj v3 v4 v5 y):W.cell? ⟨g,i*6,none⟩=some (.int .i64 y.f0)∧W.cell? ⟨g,i*6+1,none⟩=some (.int .i64 y.f1)∧W.cell? ⟨g,i*6+2,none⟩=some (.int .i64 y.f2)∧W.cell? ⟨g,i*6+3,none⟩=some v3∧W.cell? ⟨g,i*6+4,none⟩=some v4∧W.cell? ⟨g,i*6+5,none⟩=some v5:=by
 obtain⟨_,_,_,_,_,hcc,_⟩:=Kd.acn m.h (by omega) (by have:=m.lt;omega);exact⟨hcc 0 _ rfl,hcc 1 _ rfl,hcc 2 _ rfl,hcc 3 _ rfl,hcc 4 _ rfl,hcc 5 _ rfl⟩
theorem nT.typed (m:nT w0 W ok g n co xs i kj v3 v4 v5 y):∃cells,W.heap[g]? =some (.cells cells 58 (0,0)):=by
 obtain⟨_,f,hR⟩:=m.h;exact Kd.fT hR g (by simp[Value.ownBlock])
theorem nT.xK (m:nT w0 W ok g n co xs i kj v3 v4 v5 y):ok g:=by
 obtain⟨_,f,hR⟩:=m.h;exact(hR.1 g (by simp[Value.ownBlock])).1
theorem nT.base (m:nT w0 W ok g n co xs i kj v3 v4 v5 y):w0.heap.size≤g:=by
 obtain⟨_,f,hR⟩:=m.h;exact Kd.eB hR g (by simp[Value.ownBlock])
theorem nT.back (m:nT w0 W ok g n co xs i kj v3 v4 v5 y):Kd.S fD 58 W w0.heap.size ok (.slice (some ⟨g,0,none⟩) n co) (xs.set i y):=by
 have:=Kd.aaJ m.h (nY W w0.heap.size kj y m.r3 m.r4 m.r5) (fun _ hk=>hk)
 simpa using this
theorem nT.aaT (m:nT w0 W ok g n co xs i kj v3 v4 v5 y) (j:Nat) (u:Value):∀q,(W.setCell ⟨g,i*6+j,none⟩ u).frozen? ⟨g,i*6+q,none⟩=false:=by
 intro q;obtain⟨cs,hc⟩:=m.typed;exact aH (ph hc _ _) _
theorem nT.set0 (m:nT w0 W ok g n co xs i kj v3 v4 v5 y) (a:Int):nT w0 (W.setCell ⟨g,i*6,none⟩ (.int .i64 a)) ok g n co xs i kj v3 v4 v5 ⟨a,y.f1,y.f2,y.f3,y.f4,y.f5⟩:=
 ⟨m.lt,(Kd.wB m.h (seg:=[.int .i64 a]) (j:=0) (by omega) (by have:=m.lt;omega) (show 1≤6 by decide) (by simp;rfl)).1,Kd.dm m.r3 (fun k hk=>(m.hg k hk).2) _,Kd.dm m.r4 (fun k hk=>(m.hg k hk).2) _,Kd.dm m.r5 (fun k hk=>(m.hg k hk).2) _,m.aaT 0 _,m.hg⟩
theorem nT.set1 (m:nT w0 W ok g n co xs i kj v3 v4 v5 y) (a:Int):nT w0 (W.setCell ⟨g,i*6+1,none⟩ (.int .i64 a)) ok g n co xs i kj v3 v4 v5 ⟨y.f0,a,y.f2,y.f3,y.f4,y.f5⟩:=
 ⟨m.lt,(Kd.wB m.h (seg:=[.int .i64 a]) (j:=1) (by omega) (by have:=m.lt;omega) (show 2≤6 by decide) (by simp;rfl)).1,Kd.dm m.r3 (fun k hk=>(m.hg k hk).2) _,Kd.dm m.r4 (fun k hk=>(m.hg k hk).2) _,Kd.dm m.r5 (fun k hk=>(m.hg k hk).2) _,m.aaT 1 _,m.hg⟩
theorem nT.set2 (m:nT w0 W ok g n co xs i kj v3 v4 v5 y) (a:Int):nT w0 (W.setCell ⟨g,i*6+2,none⟩ (.int .i64 a)) ok g n co xs i kj v3 v4 v5 ⟨y.f0,y.f1,a,y.f3,y.f4,y.f5⟩:=
 ⟨m.lt,(Kd.wB m.h (seg:=[.int .i64 a]) (j:=2) (by omega) (by have:=m.lt;omega) (show 3≤6 by decide) (by simp;rfl)).1,Kd.dm m.r3 (fun k hk=>(m.hg k hk).2) _,Kd.dm m.r4 (fun k hk=>(m.hg k hk).2) _,Kd.dm m.r5 (fun k hk=>(m.hg k hk).2) _,m.aaT 2 _,m.hg⟩
theorem nT.vv (m:nT w0 W ok g n co xs i kj v3 v4 v5 y) {S:Nat→Prop}(hk:Kept W W' S) (hn:¬S g):∀q,W'.frozen? ⟨g,i*6+q,none⟩=false:=by
 intro q;obtain⟨cs,hc⟩:=m.typed;exact aH (tH hc hk hn) _
theorem nT.adp (m:nT w0 W ok g n co xs i kj v3 v4 v5 y) {l:List Int}(hk:Kept W W' (fun k=>some k=v3.ownBlock)) (hr:(Kd.int .u8).R 5 W' w0.heap.size (fun k=>some k=v3.ownBlock∨W.heap.size≤k) v3 l):nT w0 W' ok g n co xs i kj v3 v4 v5 ⟨y.f0,y.f1,y.f2,l,y.f4,y.f5⟩:=by
 obtain⟨cs,hc⟩:=m.typed;exact⟨m.lt,Kd.vr m.h hk (fun k _ hn hs=>hn (m.r3.1 k hs.symm)),Kd.vt rfl hr (fun k e=>m.r3.1 k e),Kd.bm (Kd.oM (Kd.cG m.r4 (Kd.fT m.r3) (by decide)) hk (fun k hk hs=>hk.2 hs)) (fun _ hk=>hk.1),Kd.bm (Kd.oM (Kd.cG m.r5 (Kd.fT m.r3) (by decide)) hk (fun k hk hs=>hk.2 hs)) (fun _ hk=>hk.1),m.vv hk (fun e=>Kd.lr m.r3 hc (by decide) e),m.hg⟩
theorem nT.adq (m:nT w0 W ok g n co xs i kj v3 v4 v5 y) {l:List eb}(hk:Kept W W' (fun k=>some k=v4.ownBlock)) (hr:iT.R 75 W' w0.heap.size (fun k=>some k=v4.ownBlock∨W.heap.size≤k) v4 l):nT w0 W' ok g n co xs i kj v3 v4 v5 ⟨y.f0,y.f1,y.f2,y.f3,l,y.f5⟩:=by
 obtain⟨cs,hc⟩:=m.typed;exact⟨m.lt,Kd.vr m.h hk (fun k _ hn hs=>hn (m.r4.1 k hs.symm)),Kd.bm (Kd.oM (Kd.cG m.r3 (Kd.fT m.r4) (by decide)) hk (fun k hk hs=>hk.2 hs)) (fun _ hk=>hk.1),Kd.vt rfl hr (fun k e=>m.r4.1 k e),Kd.bm (Kd.oM (Kd.cG m.r5 (Kd.fT m.r4) (by decide)) hk (fun k hk hs=>hk.2 hs)) (fun _ hk=>hk.1),m.vv hk (fun e=>Kd.lr m.r4 hc (by decide) e),m.hg⟩
theorem nT.adr (m:nT w0 W ok g n co xs i kj v3 v4 v5 y) {l:List eh}(hk:Kept W W' (fun k=>some k=v5.ownBlock)) (hr:iU.R 82 W' w0.heap.size (fun k=>some k=v5.ownBlock∨W.heap.size≤k) v5 l):nT w0 W' ok g n co xs i kj v3 v4 v5 ⟨y.f0,y.f1,y.f2,y.f3,y.f4,l⟩:=by
 obtain⟨cs,hc⟩:=m.typed;exact⟨m.lt,Kd.vr m.h hk (fun k _ hn hs=>hn (m.r5.1 k hs.symm)),Kd.bm (Kd.oM (Kd.cG m.r3 (Kd.fT m.r5) (by decide)) hk (fun k hk hs=>hk.2 hs)) (fun _ hk=>hk.1),Kd.bm (Kd.oM (Kd.cG m.r4 (Kd.fT m.r5) (by decide)) hk (fun k hk hs=>hk.2 hs)) (fun _ hk=>hk.1),Kd.vt rfl hr (fun k e=>m.r5.1 k e),m.vv hk (fun e=>Kd.lr m.r5 hc (by decide) e),m.hg⟩
end
def sZ (k:Nat) (x:bh) (a:Int):Option (Int×bh):=
 (cI.f k x.f3 (wrap64 (wrap64 (wrap64 (a+1)+1)+1))).bind fun b=>(cX.f k x.f4 b.1).bind fun c=>(cQ.f k x.f5 c.1).bind fun d=>some (d.1,⟨a,wrap64 (a+1),wrap64 (wrap64 (a+1)+1),b.2,c.2,d.2⟩)
def qg (k:Nat):List bh→Int→Option (Int×List bh)
 |[],a=>some (a,[])
 |x::l,a=>(sZ k x a).bind fun p=>(qg k l p.1).bind fun q=>some (q.1,p.2::q.2)
def eo.f (k:Nat) (l0:List bh) (a1:Int):Option (Int×List bh):=if(l0.length:Int)≤9223372036854775807 then qg k l0 a1 else none
theorem eo.calls (k:Nat) (kD:Nat→Prop) (ij:Value) (l0:List bh) (a1 r1:Int) (r2:List bh) (w0 w:World) (hB:Below w0.heap.size w0 w) (ho0:Kd.S fD 58 w w0.heap.size kD ij l0) (h:eo.f k l0 a1=some (r1,r2)):
  Calls Tryz.prog 37 #[ij,.int .i64 a1] w fun e w'=>e= .returned (.int .i64 r1)∧Kd.S fD 58 w' w0.heap.size (fun k_=>kD k_∨w.heap.size≤k_) ij r2∧Below w0.heap.size w0 w'∧Kept w w' kD:=by
 unfold eo.f at h
 split at h
 case isFalse=>cases h
 case isTrue hl=>
 obtain⟨A,co,rfl⟩:=Kd.im ho0;have HO:=am (show Kd.S fD 58 w w0.heap.size (fun k_=>kD k_∨w.heap.size≤k_) (.slice A l0.length co) l0 from Kd.eY ho0 (fun _ hk=> .inl hk));have HB:=ab.mk hB;have HK:=am (Kept.refl w kD);have H':ab (∃rest,qg k (l0.drop 0) a1=some (r1,rest)∧r2=[]++rest):=⟨r2,h,rfl⟩;have HW:=ab.mk hB.size;clear hB ho0 h
 have hl':l0.length≤9223372036854775807:=by omega
 clear hl
 go_enter Tryz.func37,Tryz.ntmps37
 go_wp2
 go_loopg [1,5] l0.length (fun gg s1 s5 wr=>∃(kk:Nat) (a:Int) (done:List bh),kk≤l0.length∧l0.length-kk≤gg∧s1= .int .i64 a∧s5= .int .i64 kk∧ab (done.length=kk)∧ab (∃rest,qg k (l0.drop kk) a=some (r1,rest)∧r2=done++rest)∧ab (Kd.S fD 58 wr w0.heap.size (fun k_=>kD k_∨w.heap.size≤k_) (.slice A l0.length co) (done++l0.drop kk))∧ab (Below w0.heap.size w0 wr)∧ab (Kept w wr kD))
 case atStart=>exact⟨0,a1,[],Nat.zero_le _,by omega,rfl,rfl,⟨rfl⟩,H',HO,HB,HK⟩
 case round=>
  clear HO HB HK H';obtain⟨kk,a,done,hkk,hgg,rfl,rfl,HD,HA,HO,HB,HK⟩:=hrel
  by_cases hlt:kk<l0.length
  rotate_left
  ·have hltz:¬(kk:Int)<(l0.length:Int):=by omega
   obtain rfl:kk=l0.length:=by omega
   obtain⟨rest,hm,b2⟩:=HA.out;rw[List.drop_length,qg]at hm;simp only[Option.some.injEq,Prod.mk.injEq]at hm;obtain⟨rfl,rfl⟩:=hm;subst b2;have b3:=HO.out;rw[List.drop_length]at b3;have b4:=ab.mk b3;clear HO b3 HA
   go_wp2
   go_ret
   exact⟨rfl,by simpa using b4.out,HB.out,HK.out⟩
  have hltz:(kk:Int)<(l0.length:Int):=by omega
  have hnn:(0:Int)≤(kk:Int):=by omega
  obtain⟨rest,hm,b2⟩:=HA.out;clear HA
  have hx:af (done++l0.drop kk) (kk:Int)=l0[kk]:=by
   have hd:=HD.out;simp only[af,Int.toNat_natCast,List.getD_eq_getElem?_getD];rw[List.getElem?_append_right (by omega),hd,Nat.sub_self,List.drop_eq_getElem_cons hlt]
   rfl
  rw[List.drop_eq_getElem_cons hlt,qg]at hm;replace hm:=bA hm;obtain⟨⟨a',x'⟩,A1,hm⟩:=hm;replace hm:=bA hm;obtain⟨⟨b1,rest'⟩,A2,hm⟩:=hm;simp only[Option.some.injEq,Prod.mk.injEq]at hm;obtain⟨rfl,rfl⟩:=hm;have A1:=A1.out;unfold sZ at A1;replace A1:=bA A1;obtain⟨⟨k3,l3⟩,B3,A1⟩:=A1;replace A1:=bA A1;obtain⟨⟨k4,l4⟩,B4,A1⟩:=A1;replace A1:=bA A1;obtain⟨⟨k5,l5⟩,B5,A1⟩:=A1;simp only[Option.some.injEq,Prod.mk.injEq]at A1;obtain⟨rfl,rfl⟩:=A1;have b5:=ab.mk b2;clear b2;obtain⟨g,cap,ev,_,_,_⟩:=Kd.vp HO.out (by have hd:=HD.out;simp;omega);injection ev with ea en ec;subst ea;clear en;subst ec;obtain⟨kj,v3,v4,v5,m⟩:=nT.start HO.out hlt;rw[hx]at m;clear hx HO;obtain⟨bF,bG,bH,bI,bJ,bK⟩:=m.cells;have bL:wr.frozen? ⟨g,kk*6,none⟩=false:=m.fr 0;have bM:wr.frozen? ⟨g,kk*6+1,none⟩=false:=m.fr 1;have bN:wr.frozen? ⟨g,kk*6+2,none⟩=false:=m.fr 2;have m3:=((m.set0 a).set1 (wrap64 (a+1))).set2 (wrap64 (wrap64 (a+1)+1));have b6:=am (((HB.out.setCell (p:=⟨g,kk*6,none⟩) m.base (.int .i64 a)).setCell (p:=⟨g,kk*6+1,none⟩) m.base (.int .i64 (wrap64 (a+1)))).setCell (p:=⟨g,kk*6+2,none⟩) m.base (.int .i64 (wrap64 (wrap64 (a+1)+1))));have b7:=am (((HK.out.setCell (p:=⟨g,kk*6,none⟩) m.xK (.int .i64 a)).setCell (p:=⟨g,kk*6+1,none⟩) m.xK (.int .i64 (wrap64 (a+1)))).setCell (p:=⟨g,kk*6+2,none⟩) m.xK (.int .i64 (wrap64 (wrap64 (a+1)+1))));obtain⟨A3,n3,e3⟩:=Kd.ax m.r3;obtain⟨A4,n4,e4⟩:=Kd.ax m.r4;obtain⟨A5,n5,e5⟩:=Kd.ax m.r5;subst e3;subst e4;subst e5;clear HB HK
  go_wp2_with (first
   |(go_at_call 27;refine(cI.calls k _ _ _ _ k3 l3 w0 _ b6.out (Kd.jc rfl m3.r3) B3.out).mono ?_;rintro e w4 ⟨rfl,hy,hb,hk⟩;have m4:=m3.adp hk hy;have b8:=ab.mk hb;have b9:=am (b7.out.then_ hk (fun q hs=>(m3.hg q (m3.r3.1 q hs.symm)).1));clear hb hk hy;obtain⟨_,_,_,_,d4,d5⟩:=m4.cells)
   |(go_at_call 73;refine(cX.calls k _ _ _ _ k4 l4 w0 _ b8.out (Kd.jc rfl m4.r4) B4.out).mono ?_;rintro e w5 ⟨rfl,hy,hb,hk⟩;have m5:=m4.adq hk hy;have bB:=ab.mk hb;have bC:=am (b9.out.then_ hk (fun q hs=>(m4.hg q (m4.r4.1 q hs.symm)).1));clear hb hk hy;obtain⟨_,_,_,_,_,e5⟩:=m5.cells)
   |(go_at_call 74;refine(cQ.calls k _ _ _ _ k5 l5 w0 _ bB.out (Kd.jc rfl m5.r5) B5.out).mono ?_;rintro e w6 ⟨rfl,hy,hb,hk⟩;have m6:=m5.adr hk hy;have bD:=ab.mk hb;have bE:=am (bC.out.then_ hk (fun q hs=>(m5.hg q (m5.r5.1 q hs.symm)).1));clear hb hk hy))
  go_roundg (l0.length-(kk+1))
  case measure=>omega
  case rel=>
   refine⟨kk+1,k5,done++[⟨a,wrap64 (a+1),wrap64 (wrap64 (a+1)+1),l3,l4,l5⟩],by omega,by omega,rfl,by go_num,⟨by have hd:=HD.out;simp;omega⟩,⟨rest',A2.out,by rw[b5.out];simp⟩,⟨?_⟩,bD,bE⟩;have hs:=m6.back;have hd:=HD.out;rw[List.set_append_right _ _ (by omega),hd,Nat.sub_self,List.drop_eq_getElem_cons hlt,List.set_cons_zero]at hs
   simpa using hs
end Go.Proofs.YtlecajlnjmbilaaGreatDoor.P
