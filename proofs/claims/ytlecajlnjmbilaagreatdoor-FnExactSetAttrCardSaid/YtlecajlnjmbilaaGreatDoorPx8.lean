-- Printed walks.
import Derived.Test.YtlecajlnjmbilaaGreatDoorPx4
import Derived.Test.YtlecajlnjmbilaaGreatDoorPx5
set_option linter.all false
set_option maxHeartbeats 8000000
set_option maxRecDepth 100000
namespace Go.Proofs.YtlecajlnjmbilaaGreatDoor.P
open Go.RowKit Go.Proofs.ab.aq Go.Proofs.ab.aM Go.Proofs.ab.aT Go.Proofs.Tryz
attribute [local go_sem] gn gp iF iG fC fD gq gr

mutual
def aA.l0:Nat→List (bm)→Int→Int→Option (Int)
 |0,_,_,_=>none
 |k+1,x0,x1,x5=>if x5<(x0.length:Int)then(aA.j1 k x0 x1 x5)else(some x1)
def aA.j1:Nat→List (bm)→Int→Int→Option (Int)
 |0,_,_,_=>none
 |k+1,x0,x1,x5=>if 0≤x5 then(if x5<(x0.length:Int)then(if((af x0 x5).f0)=x1 then(aA.j2 k x0 x1 x5)else(some (-1)))else(none))else(none)
def aA.j2:Nat→List (bm)→Int→Int→Option (Int)
 |0,_,_,_=>none
 |k+1,x0,x1,x5=>if 0≤x5 then(if x5<(x0.length:Int)then(if((af x0 x5).f1)=(wrap64 (x1+1))then(aA.j3 k x0 (wrap64 (x1+1)) x5)else(some (-1)))else(none))else(none)
def aA.j3:Nat→List (bm)→Int→Int→Option (Int)
 |0,_,_,_=>none
 |k+1,x0,x1,x5=>if 0≤x5 then(if x5<(x0.length:Int)then(if((af x0 x5).f2)=(wrap64 (x1+1))then(aA.j4 k x0 (wrap64 (x1+1)) x5)else(some (-1)))else(none))else(none)
def aA.j4:Nat→List (bm)→Int→Int→Option (Int)
 |0,_,_,_=>none
 |k+1,x0,x1,x5=>if 0≤x5 then(if x5<(x0.length:Int)then((dn.f k ((af x0 x5).f3) (wrap64 (x1+1))).bind fun b1=>(if b1<0 then(some (-1))else(aA.j5 k x0 b1 x5)))else(none))else(none)
def aA.j5:Nat→List (bm)→Int→Int→Option (Int)
 |0,_,_,_=>none
 |k+1,x0,x1,x5=>if 0≤x5 then(if x5<(x0.length:Int)then((bz.f k ((af x0 x5).f4) x1).bind fun b1=>(if b1<0 then(some (-1))else((aN.f k ((af x0 x5).f5) b1).bind fun b2=>(if b2<0 then(some (-1))else(aA.l0 k x0 b2 (wrap64 (x5+1)))))))else(none))else(none)
end
def aA.f (k:Nat) (l0:List (bm)) (a1:Int):Option (Int):=aA.l0 k l0 a1 0
theorem aA.calls (k:Nat) (A0:Option Addr) (c0:Nat) (l0:List (bm)) (a1:Int) (r:Int) (w:World) (hr0:Kd.C fN w A0 l0.length l0) (hc0:l0.length≤c0) (h:aA.f k l0 a1=some r):
  Calls Tryz.prog 38 #[.slice A0 l0.length c0,.int .i64 a1] w fun e w'=>e= .returned (.int .i64 r)∧Below w.heap.size w w':=by
 have bV:=ae.mk hr0;have HC0:=ae.mk hc0;clear hr0 hc0;have HB:=am (Below.refl w.heap.size w);unfold aA.f at h;have H:=h;clear h;have H':=ae.mk H;clear H
 go_enter func38,ntmps38
 go_wp2
 go_loopg [1,5] k (fun kq v1 v5 w'=>∃(b2:Int) (b1:Int),v1= .int .i64 b2∧v5= .int .i64 b1∧ae (aA.l0 kq l0 b2 b1=some r)∧ae (kq≤k)∧ae (Below w.heap.size w w'))
 case atStart=>exact⟨(a1),(0),oS,oS,H',⟨Nat.le_refl _⟩,⟨oB⟩⟩
 case round=>
  clear H';obtain⟨b2,b1,rfl,rfl,HA,d2,HB⟩:=hrel
  cases gk with
  |zero=>exact absurd HA.out (by simp[aA.l0])
  |succ k1=>
   have H:=HA.out;clear HA;simp only[aA.l0]at H;have jL:=ae.mk H;clear H
   go_upto_if 9 with(fail)
   go_cut [] (fun wc=>∃(kq:Nat),ae (aA.j1 kq l0 b2 b1=some r)∧ae (kq≤k1)∧ae (Below w.heap.size w wc))
   case first=>
    have H:=jL.out;clear jL;replace H:=iM H;rcases H with⟨j3,H⟩|⟨j3,H⟩;rotate_left
    ·(first|rw[j3]|skip)
     obtain rfl:=Option.some.inj H
     go_wp2
     go_ret
     exact⟨oE,oB⟩
    (first|rw[j3]|skip)
    have H':=ae.mk H;clear H
    go_wp2
    go_meet
    case rel=>exact⟨_,H',⟨by have:=d2.out;first|omega|exact Nat.le_refl _⟩,⟨oB⟩⟩
   case rest=>
    clear jL;obtain⟨kq,HA,d8,HB⟩:=hcut
    cases kq with
    |zero=>exact absurd HA.out (by simp[aA.j1])
    |succ kj2=>
     have H:=HA.out;clear HA;simp only[aA.j1]at H;obtain⟨gN,H⟩:=cO H;obtain⟨gO,H⟩:=cO H;have jM:=ae.mk H;clear H;have b16:(0≤(b1:Int))=True:=oT;have b17:(b1<(l0.length:Int))=True:=oT;obtain⟨bG,zF,zG,zH,zI,zJ,zK,m6,mC,mD,mE,mF,mG,mH,mI,mJ,mK,mL,mM,mN⟩:=fw bV HB b1 oa oa
     cases m6
     go_upto_if 18 with(fail)
     go_cut [] (fun wc=>∃(kq:Nat),ae (aA.j2 kq l0 b2 b1=some r)∧ae (kq≤kj2)∧ae (Below w.heap.size w wc))
     case first=>
      have H:=jM.out;clear jM
      by_cases c8:((af l0 b1).f0)=b2
      rotate_left
      ·rw[if_neg c8]at H;have j4:(((af l0 b1).f0)==b2)=false:=beq_eq_false_iff_ne.mpr c8;have j5:(((af l0 b1).f0) !=b2)=true:=bne_iff_ne.mpr c8
       (first|rw[j4]|rw[j5]|skip)
       obtain rfl:=Option.some.inj H
       go_wp2
       go_ret
       exact⟨oE,oB⟩
      rw[if_pos c8]at H;have j4:(((af l0 b1).f0)==b2)=true:=beq_iff_eq.mpr c8;have j5:(((af l0 b1).f0) !=b2)=false:=bne_eq_false_iff_eq.mpr c8;clear c8
      (first|rw[j4]|rw[j5]|skip)
      have H':=ae.mk H;clear H
      go_wp2
      go_meet
      case rel=>exact⟨_,H',⟨by have:=d2.out;have:=d8.out;first|omega|exact Nat.le_refl _⟩,⟨oB⟩⟩
     case rest=>
      clear jM
      try clear gN
      try clear gO
      obtain⟨kq,HA,gV,HB⟩:=hcut
      cases kq with
      |zero=>exact absurd HA.out (by simp[aA.j2])
      |succ kj6=>
       have H:=HA.out;clear HA;simp only[aA.j2]at H;obtain⟨j6,H⟩:=cO H;obtain⟨gP,H⟩:=cO H;have j7:=ae.mk H;clear H;have b18:(0≤(b1:Int))=True:=oT;have b19:(b1<(l0.length:Int))=True:=oT;obtain⟨jX,zL,zM,zN,zO,zP,zQ,m7,d9,dA,dB,dC,dD,dE,dF,dG,dH,dI,dJ,dK⟩:=fI bV.out b1 oa oa;obtain rfl:bG=jX:=(by injection m7);replace d9:=cB HB d9;replace dA:=cB HB dA;replace dB:=cB HB dB;replace dC:=cB HB dC;replace dD:=cB HB dD;replace dE:=cB HB dE;have mO:=ae.mk dG;have mP:=ae.mk dF;clear dG dF;have mQ:=ae.mk dI;have mS:=ae.mk dH;clear dI dH;have mT:=ae.mk dK;have mU:=ae.mk dJ;clear dK dJ
       go_upto_if 27 with(fail)
       go_cut [] (fun wc=>∃(kq:Nat),ae (aA.j3 kq l0 (wrap64 (b2+1)) b1=some r)∧ae (kq≤kj6)∧ae (Below w.heap.size w wc))
       case first=>
        have H:=j7.out;clear j7
        by_cases d3:((af l0 b1).f1)=(wrap64 (b2+1))
        rotate_left
        ·rw[if_neg d3]at H;have bW:(((af l0 b1).f1)==(wrap64 (b2+1)))=false:=beq_eq_false_iff_ne.mpr d3;have gQ:(((af l0 b1).f1) !=(wrap64 (b2+1)))=true:=bne_iff_ne.mpr d3
         (first|rw[bW]|rw[gQ]|(simp only[kR,oU];rw[bW])|skip)
         obtain rfl:=Option.some.inj H
         go_wp2
         go_ret
         exact⟨oE,oB⟩
        rw[if_pos d3]at H;have bW:(((af l0 b1).f1)==(wrap64 (b2+1)))=true:=beq_iff_eq.mpr d3;have gQ:(((af l0 b1).f1) !=(wrap64 (b2+1)))=false:=bne_eq_false_iff_eq.mpr d3;clear d3
        (first|rw[bW]|rw[gQ]|(simp only[kR,oU];rw[bW])|skip)
        have H':=ae.mk H;clear H
        go_wp2
        go_meet
        case rel=>exact⟨_,H',⟨by have:=d2.out;have:=d8.out;have:=gV.out;first|omega|exact Nat.le_refl _⟩,⟨oB⟩⟩
       case rest=>
        clear j7
        try clear gN
        try clear gO
        try clear j6
        try clear gP
        obtain⟨kq,HA,gR,HB⟩:=hcut
        cases kq with
        |zero=>exact absurd HA.out (by simp[aA.j3])
        |succ uR=>
         have H:=HA.out;clear HA;simp only[aA.j3]at H;obtain⟨jD,H⟩:=cO H;obtain⟨jE,H⟩:=cO H;have j8:=ae.mk H;clear H;have b1A:(0≤(b1:Int))=True:=oT;have b1B:(b1<(l0.length:Int))=True:=oT;obtain⟨jY,zR,zS,zT,zU,zV,zW,m8,dL,dM,dN,dO,dP,dQ,dR,dS,dT,dU,dV,dW⟩:=fI bV.out b1 oa oa;obtain rfl:bG=jY:=(by injection m8);replace dL:=cB HB dL;replace dM:=cB HB dM;replace dN:=cB HB dN;replace dO:=cB HB dO;replace dP:=cB HB dP;replace dQ:=cB HB dQ;have mV:=ae.mk dS;have mW:=ae.mk dR;clear dS dR;have mX:=ae.mk dU;have mY:=ae.mk dT;clear dU dT;have mZ:=ae.mk dW;have zA:=ae.mk dV;clear dW dV
         go_upto_if 36 with(fail)
         go_cut [] (fun wc=>∃(kq:Nat),ae (aA.j4 kq l0 (wrap64 ((wrap64 (b2+1))+1)) b1=some r)∧ae (kq≤uR)∧ae (Below w.heap.size w wc))
         case first=>
          have H:=j8.out;clear j8
          by_cases d4:((af l0 b1).f2)=(wrap64 ((wrap64 (b2+1))+1))
          rotate_left
          ·rw[if_neg d4]at H;have bX:(((af l0 b1).f2)==(wrap64 ((wrap64 (b2+1))+1)))=false:=beq_eq_false_iff_ne.mpr d4;have gS:(((af l0 b1).f2) !=(wrap64 ((wrap64 (b2+1))+1)))=true:=bne_iff_ne.mpr d4
           (first|rw[bX]|rw[gS]|(simp only[kR,oU];rw[bX])|skip)
           obtain rfl:=Option.some.inj H
           go_wp2
           go_ret
           exact⟨oE,oB⟩
          rw[if_pos d4]at H;have bX:(((af l0 b1).f2)==(wrap64 ((wrap64 (b2+1))+1)))=true:=beq_iff_eq.mpr d4;have gS:(((af l0 b1).f2) !=(wrap64 ((wrap64 (b2+1))+1)))=false:=bne_eq_false_iff_eq.mpr d4;clear d4
          (first|rw[bX]|rw[gS]|(simp only[kR,oU];rw[bX])|skip)
          have H':=ae.mk H;clear H
          go_wp2
          go_meet
          case rel=>exact⟨_,H',⟨by have:=d2.out;have:=d8.out;have:=gV.out;have:=gR.out;first|omega|exact Nat.le_refl _⟩,⟨oB⟩⟩
         case rest=>
          clear j8
          try clear gN
          try clear gO
          try clear j6
          try clear gP
          try clear jD
          try clear jE
          obtain⟨kq,HA,j9,HB⟩:=hcut
          cases kq with
          |zero=>exact absurd HA.out (by simp[aA.j4])
          |succ aea=>
           have H:=HA.out;clear HA;simp only[aA.j4]at H;obtain⟨jZ,H⟩:=cO H;obtain⟨m1,H⟩:=cO H;replace H:=bA H;obtain⟨d5,zX,H⟩:=H
           try dsimp only at H
           have jA:=ae.mk H;clear H;have b1C:(0≤(b1:Int))=True:=oT;have b1D:(b1<(l0.length:Int))=True:=oT;obtain⟨m2,zY,zZ,b10,b11,b12,b13,m9,dX,dY,dZ,gA,gB,gC,gD,gE,gF,gG,gH,gI⟩:=fI bV.out b1 oa oa;obtain rfl:bG=m2:=(by injection m9);replace dX:=cB HB dX;replace dY:=cB HB dY;replace dZ:=cB HB dZ;replace gA:=cB HB gA;replace gB:=cB HB gB;replace gC:=cB HB gC;have jF:=ae.mk gE;have jG:=ae.mk gD;clear gE gD;have zB:=ae.mk gG;have zC:=ae.mk gF;clear gG gF;have zD:=ae.mk gI;have zE:=ae.mk gH;clear gI gH
           go_upto_if 47 with(first|((with_reducible refine ak (f:=75) rfl ?_);refine fe 45 func75 (dn.calls aea _ _ ((af l0 b1).f3) (wrap64 ((wrap64 ((wrap64 (b2+1))+1))+1)) d5 _ (kC jF) jG.out zX.out) ?_;rintro e w' ⟨rfl,⟨nd,rfl⟩⟩;refine⟨_,rfl,?_⟩))
           (try simp only[Act.put,List.setIfInBounds_toArray,List.set_cons_zero,List.set_cons_succ])
           go_cut [] (fun wc=>∃(kq:Nat),ae (aA.j5 kq l0 d5 b1=some r)∧ae (kq≤aea)∧ae (Below w.heap.size w wc))
           case first=>
            have H:=jA.out;clear jA;replace H:=iM H;rcases H with⟨gT,H⟩|⟨gT,H⟩
            ·(first|rw[gT]|skip)
             obtain rfl:=Option.some.inj H
             go_wp2
             go_ret
             exact⟨oE,oB⟩
            (first|rw[gT]|skip)
            have H':=ae.mk H;clear H
            go_wp2
            go_meet
            case rel=>exact⟨_,H',⟨by have:=d2.out;have:=d8.out;have:=gV.out;have:=gR.out;have:=j9.out;first|omega|exact Nat.le_refl _⟩,⟨oB⟩⟩
           case rest=>
            clear jA
            try clear gN
            try clear gO
            try clear j6
            try clear gP
            try clear jD
            try clear jE
            try clear jZ
            try clear m1
            obtain⟨kq,HA,jN,HB⟩:=hcut
            cases kq with
            |zero=>exact absurd HA.out (by simp[aA.j5])
            |succ yc=>
             have H:=HA.out;clear HA;simp only[aA.j5]at H;obtain⟨b14,H⟩:=cO H;obtain⟨b15,H⟩:=cO H;replace H:=bA H;obtain⟨d6,jO,H⟩:=H
             try dsimp only at H
             replace H:=iM H;rcases H with⟨m3,H⟩|⟨m3,H⟩
             ·obtain rfl:=Option.some.inj H;have jP:(0≤(b1:Int))=True:=oT;have jQ:(b1<(l0.length:Int))=True:=oT;obtain⟨bY,gW,gX,gY,gZ,j1,j2,d7,b3,b4,b5,b6,b7,b8,b9,bB,bC,bD,bE,bF⟩:=fI bV.out b1 oa oa;obtain rfl:bG=bY:=(by injection d7);replace b3:=cB HB b3;replace b4:=cB HB b4;replace b5:=cB HB b5;replace b6:=cB HB b6;replace b7:=cB HB b7;replace b8:=cB HB b8;have gJ:=ae.mk bB;have gK:=ae.mk b9;clear bB b9;have bH:=ae.mk bD;have bI:=ae.mk bC;clear bD bC;have gL:=ae.mk bF;have gM:=ae.mk bE;clear bF bE
              go_wp2_with (first|((with_reducible refine ak (f:=76) rfl ?_);refine fe 54 func76 (bz.calls yc _ _ ((af l0 b1).f4) d5 d6 _ (kC bH) bI.out jO.out) ?_;rintro e w26 ⟨rfl,hb⟩;refine⟨_,rfl,?_⟩;replace HB:=hB HB hb))
              go_ret
              exact⟨oE,oB⟩
             replace H:=bA H;obtain⟨jB,m5,H⟩:=H
             try dsimp only at H
             replace H:=iM H;rcases H with⟨m4,H⟩|⟨m4,H⟩
             ·obtain rfl:=Option.some.inj H;have jP:(0≤(b1:Int))=True:=oT;have jQ:(b1<(l0.length:Int))=True:=oT;obtain⟨bY,gW,gX,gY,gZ,j1,j2,d7,b3,b4,b5,b6,b7,b8,b9,bB,bC,bD,bE,bF⟩:=fI bV.out b1 oa oa;obtain rfl:bG=bY:=(by injection d7);replace b3:=cB HB b3;replace b4:=cB HB b4;replace b5:=cB HB b5;replace b6:=cB HB b6;replace b7:=cB HB b7;replace b8:=cB HB b8;have gJ:=ae.mk bB;have gK:=ae.mk b9;clear bB b9;have bH:=ae.mk bD;have bI:=ae.mk bC;clear bD bC;have gL:=ae.mk bF;have gM:=ae.mk bE;clear bF bE
              go_wp2_with (first|((with_reducible refine ak (f:=76) rfl ?_);refine fe 54 func76 (bz.calls yc _ _ ((af l0 b1).f4) d5 d6 _ (kC bH) bI.out jO.out) ?_;rintro e w29 ⟨rfl,hb⟩;refine⟨_,rfl,?_⟩;replace HB:=hB HB hb;have mA:(0≤(b1:Int))=True:=oT;have mB:(b1<(l0.length:Int))=True:=oT;obtain⟨gU,jR,jS,jT,jU,jV,jW,jC,bJ,bK,bL,bM,bN,bO,bP,bQ,bR,bS,bT,bU⟩:=fI bV.out b1 oa oa;obtain rfl:bG=gU:=(by injection jC);replace bJ:=cB HB bJ;replace bK:=cB HB bK;replace bL:=cB HB bL;replace bM:=cB HB bM;replace bN:=cB HB bN;replace bO:=cB HB bO;have jH:=ae.mk bQ;have jI:=ae.mk bP;clear bQ bP;have jJ:=ae.mk bS;have jK:=ae.mk bR;clear bS bR;have bZ:=ae.mk bU;have d1:=ae.mk bT;clear bU bT)|((with_reducible refine ak (f:=77) rfl ?_);refine fe 63 func77 (aN.calls yc _ _ ((af l0 b1).f5) d6 jB _ (kC bZ) d1.out m5.out) ?_;rintro e w30 ⟨rfl,hb⟩;refine⟨_,rfl,?_⟩;replace HB:=hB HB hb))
              go_ret
              exact⟨oE,oB⟩
             have H':=ae.mk H;clear H;have jP:(0≤(b1:Int))=True:=oT;have jQ:(b1<(l0.length:Int))=True:=oT;obtain⟨bY,gW,gX,gY,gZ,j1,j2,d7,b3,b4,b5,b6,b7,b8,b9,bB,bC,bD,bE,bF⟩:=fI bV.out b1 oa oa;obtain rfl:bG=bY:=(by injection d7);replace b3:=cB HB b3;replace b4:=cB HB b4;replace b5:=cB HB b5;replace b6:=cB HB b6;replace b7:=cB HB b7;replace b8:=cB HB b8;have gJ:=ae.mk bB;have gK:=ae.mk b9;clear bB b9;have bH:=ae.mk bD;have bI:=ae.mk bC;clear bD bC;have gL:=ae.mk bF;have gM:=ae.mk bE;clear bF bE
             go_wp2_with (first|((with_reducible refine ak (f:=76) rfl ?_);refine fe 54 func76 (bz.calls yc _ _ ((af l0 b1).f4) d5 d6 _ (kC bH) bI.out jO.out) ?_;rintro e w31 ⟨rfl,hb⟩;refine⟨_,rfl,?_⟩;replace HB:=hB HB hb;have mA:(0≤(b1:Int))=True:=oT;have mB:(b1<(l0.length:Int))=True:=oT;obtain⟨gU,jR,jS,jT,jU,jV,jW,jC,bJ,bK,bL,bM,bN,bO,bP,bQ,bR,bS,bT,bU⟩:=fI bV.out b1 oa oa;obtain rfl:bG=gU:=(by injection jC);replace bJ:=cB HB bJ;replace bK:=cB HB bK;replace bL:=cB HB bL;replace bM:=cB HB bM;replace bN:=cB HB bN;replace bO:=cB HB bO;have jH:=ae.mk bQ;have jI:=ae.mk bP;clear bQ bP;have jJ:=ae.mk bS;have jK:=ae.mk bR;clear bS bR;have bZ:=ae.mk bU;have d1:=ae.mk bT;clear bU bT)|((with_reducible refine ak (f:=77) rfl ?_);refine fe 63 func77 (aN.calls yc _ _ ((af l0 b1).f5) d6 jB _ (kC bZ) d1.out m5.out) ?_;rintro e w32 ⟨rfl,hb⟩;refine⟨_,rfl,?_⟩;replace HB:=hB HB hb))
             go_roundg yc
             case measure=>have:=d2.out;have:=d8.out;have:=gV.out;have:=gR.out;have:=j9.out;have:=jN.out;omega
             case rel=>exact⟨(jB),(wrap64 (b1+1)),oS,oS,H',⟨by have:=d2.out;have:=d8.out;have:=gV.out;have:=gR.out;have:=j9.out;have:=jN.out;omega⟩,⟨oB⟩⟩

def ck.l0:Nat→List (bm)→Int→Int→List (bm)→Int→Option ((List (bm))×Int)
 |0,_,_,_,_,_=>none
 |k+1,b4,b6,b2,b3,b5=>if b2<b6 then(if 0≤b2 then(if b2<(b4.length:Int)then((eD.f ((af b4 b2).f0) ((af b4 b2).f1) ((af b4 b2).f2) ((af b4 b2).f3) ((af b4 b2).f4) ((af b4 b2).f5)).bind fun b1=>(if b3.length<1466015503701 then(ck.l0 k b4 b6 (wrap64 (b2+1)) (b3++[(⟨b1.1,b1.2.1,b1.2.2.1,b1.2.2.2.1,b1.2.2.2.2.1,b1.2.2.2.2.2⟩:bm)]) b5)else(none)))else(none))else(none))else(some (b3,b5))
def ck.f (k:Nat) (ag:List (bm)) (aj:Int):Option ((List (bm))×Int):=ck.l0 k ag (ag.length:Int) 0 ([]:List (bm)) aj
def ck.T5:Bool×List (List Nat×List Nat):=(true,[([],[]),([0],[0]),([],[]),([2],[2]),([3],[3]),([1,4,3],[1,4]),([0,1,2,3,4,5],[]),([6,5,5,0,1,2,3,4,5],[5,6])])
def ck.B5:List Nat:=[0,1,0,4,12,31,63,127]
theorem ck.aaU:g_ .any (opsOf Tryz.f45 5)=ck.T5:=by kernel_rfl
theorem ck.uS:eX ck.T5.2 ck.B5=true:=by kernel_rfl
theorem ck.calls (k:Nat) (bo:Option Addr) (bg:Nat) (ag:List (bm)) (aj:Int) (r1:List (bm)) (r2:Int) (w:World) (cv:Kd.C fN w bo ag.length ag) (cA:ag.length≤bg) (h:ck.f k ag aj=some (r1,r2)):
  Calls Tryz.prog 45 #[.agg #[.slice bo ag.length bg,.int .i64 aj]] w fun e w'=>∃iV:Value,e= .returned (.agg #[iV,.int .i64 r2])∧Kd.S fN 58 w' w.heap.size (fun _=>True) iV r1∧Below w.heap.size w w':=by
 have jO:=underlying28;have jP:=underlying58;have gD:=ae.mk cv;have j4:=ae.mk cA;clear cv cA;have HB:=am (Below.refl w.heap.size w);unfold ck.f at h;have H:=h;clear h;have H':=ae.mk H;clear H
 go_enter func45,ntmps45
 go_wp2_with (first|((with_reducible refine ai (N:=1) rfl ?_);refine eh 1 #[.slice bo ag.length bg,.int .i64 aj] 28 ?_;intro d9 hg w2 hbox hb;have b4:=am (hbox);have j5:=eg hg;replace HB:=hB HB hb;clear hb hbox hg)|((with_reducible refine ai (N:=2) rfl ?_);refine eh 2 #[.slice none 0 0,.int .i64 0] 28 ?_;intro bM hg w3 hbox hb;have b5:=am (hbox);have j6:=eg hg;have bQ:=eY hg b4;have bR:=eZ hg b4;replace b4:=aQ b4 hb;replace HB:=hB HB hb;clear hb hbox hg;have jQ:=bQ.out;have jR:=bR.out;obtain⟨⟨_,_⟩,_,_⟩:=z2 b4)|((with_reducible refine ai (N:=3) rfl ?_);refine eh 3 #[.slice none 0 0,.int .i64 0] 28 ?_;intro bL hg w6 hbox hb;have b6:=am (hbox);have j7:=eg hg;have bH:=eY hg b4;have bI:=eZ hg b4;have bJ:=eY hg b5;have bK:=eZ hg b5;replace b4:=aQ b4 hb;replace b5:=aQ b5 hb;replace HB:=hB HB hb;clear hb hbox hg;have jS:=bI.out;have jT:=bH.out;have jU:=bK.out;have jV:=bJ.out;obtain⟨⟨_,_⟩,_,_⟩:=z2 b6;obtain⟨⟨_,_⟩,_,_⟩:=z2 b4))
 go_loopg [12] k (fun kq gZ w'=>∃(b1:Int) (b9:List (bm)) (b8:Value),gZ= .int .i64 b1∧ae (ck.l0 kq ag (ag.length:Int) b1 b9 aj=some (r1,r2))∧ae (kq≤k)∧ae (Kd.S fN 58 w' w.heap.size (fun _=>True) b8 b9)∧ae (w'.heap[d9]? =some (.cells #[(.slice bo ag.length bg),.int .i64 aj] 28 (0,0)))∧ae (w'.heap[bM]? =some (.cells #[(.slice none 0 0),.int .i64 0] 28 (0,0)))∧ae (w'.heap[bL]? =some (.cells #[b8,.int .i64 aj] 28 (0,0)))∧ae (Below w.heap.size w w'))
 case atStart=>exact⟨(0),(([]:List (bm))),(.slice none 0 0),oS,H',⟨Nat.le_refl _⟩,⟨by first|exact Kd.ji _ _ _ _ _|exact Kd.jj _ _ _ _ _|exact Kd.jk _ _ _ _ _|exact Kd.jg _ _ _ _ _|exact Kd.gv _ _ _ _ _⟩,⟨oF b4⟩,⟨oF b5⟩,⟨oP b6⟩,⟨oB⟩⟩
 case round=>
  clear H';obtain⟨b1,b9,b8,rfl,HA,gI,b3,b4,b5,b6,HB⟩:=hrel
  cases gk with
  |zero=>exact absurd HA.out (by simp[ck.l0])
  |succ k1=>
   have H:=HA.out;clear HA;simp only[ck.l0]at H;replace H:=iM H;rcases H with⟨gE,H⟩|⟨gE,H⟩;rotate_left
   ·simp only[Option.some.injEq,Prod.mk.injEq]at H;obtain⟨rfl,rfl⟩:=H;have j8:=bI.out;have j9:=bH.out;have jA:=bK.out;have jB:=bJ.out;obtain⟨⟨_,_⟩,_,_⟩:=z2 b6;obtain⟨dH,dI,gL⟩:=Kd.eM b3.out;subst gL;have jC:=bR.out;have jD:=bQ.out;obtain⟨⟨_,_⟩,_,_⟩:=z2 b5
    go_wp2
    refine bodyPost_ret (results_cell_row rfl _ _ bM 28 #[.slice dH b9.length dI,.int .i64 aj] (0,0) _ rfl (oP b5) underlying28 rfl (by kernel_rfl)) rfl ?_;exact⟨_,oE,by(with_reducible repeat(first|apply Kd.cV|apply Kd.cW|apply Kd.ei));exact Kd.cS (Kd.eS (p:=⟨bM,1,none⟩) (Kd.eS (p:=⟨bM,0,none⟩) (Kd.je b3.out b5.out (by decide)) (fun _ hk=>hk.2) (.slice dH b9.length dI)) (fun _ hk=>hk.2) (.int .i64 aj)) (fun _ hk=>trivial),oB⟩
   obtain⟨jE,H⟩:=cO H;obtain⟨jF,H⟩:=cO H;replace H:=bA H;obtain⟨⟨bX,bY,bZ,bN,bO,bP⟩,j1,H⟩:=H
   try dsimp only at H
   obtain⟨gJ,H⟩:=lu H;have gF:=ae.mk gJ;clear gJ;obtain⟨d4,cX⟩:∃y_:List (bm),y_=(b9++[(⟨bX,bY,bZ,bN,bO,bP⟩:bm)]):=⟨_,rfl⟩;replace H:(ck.l0 k1 ag (ag.length:Int) (wrap64 (b1+1)) d4 aj)=some (r1,r2):=oY;have gG:=ae.mk cX;clear cX;have H':=ae.mk H;clear H;have jW:(0≤(b1:Int))=True:=oT;have jX:(b1<(ag.length:Int))=True:=oT;obtain⟨gH,bB,bC,bD,bE,bF,bG,gM,gN,gO,gP,gQ,gR,gS,dB,dC,dD,dE,dF,dG⟩:=fw gD HB b1 oa oa
   cases gM
   try go_wp2_with (first|((with_reducible refine ai (N:=5) rfl ?_);refine eh 5 #[.int .i64 0,.int .i64 0,.int .i64 0,.slice none 0 0,.slice none 0 0,.slice none 0 0] 58 ?_;intro b2 hg d1 hbox hb;have b7:=am (hbox);have jG:=eg hg;have d5:=eY hg b4;have d6:=eZ hg b4;have d7:=eY hg b5;have d8:=eZ hg b5;have bS:=eY hg b6;have bT:=eZ hg b6;replace b3:=am (Kd.iY (Kd.nV (nS0 b3) b2 (Nat.le_of_eq hg.symm)) hb);replace b4:=aQ b4 hb;replace b5:=aQ b5 hb;replace b6:=aQ b6 hb;replace HB:=hB HB hb;clear hb hbox hg;have jH:=d6.out;have jI:=d5.out;have jJ:=d8.out;have jK:=d7.out;have jL:=bT.out;have jM:=bS.out;obtain⟨⟨_,_,_,_,_,_⟩,_,_,_,_,_,_⟩:=z6 b7))
   have dJ:ae (Kd.S fN 58 ((((((d1.setCell ⟨b2,0,none⟩ (.int .i64 ((af ag b1).f0))).setCell ⟨b2,1,none⟩ (.int .i64 ((af ag b1).f1))).setCell ⟨b2,2,none⟩ (.int .i64 ((af ag b1).f2))).setCell ⟨b2,3,none⟩ (.slice bB ((af ag b1).f3).length bC)).setCell ⟨b2,4,none⟩ (.slice bD ((af ag b1).f4).length bE)).setCell ⟨b2,5,none⟩ (.slice bF ((af ag b1).f5).length bG)) w.heap.size (fun k_=>k_≠b2) b8 b9):=⟨by(with_reducible repeat(first|apply Kd.cV|apply Kd.cW|apply Kd.ei));exact Kd.cS (Kd.eS (p:=⟨b2,5,none⟩) (Kd.eS (p:=⟨b2,4,none⟩) (Kd.eS (p:=⟨b2,3,none⟩) (Kd.eS (p:=⟨b2,2,none⟩) (Kd.eS (p:=⟨b2,1,none⟩) (Kd.eS (p:=⟨b2,0,none⟩) (Kd.cS b3.out (fun k_ hk=>(⟨hk,hk.2⟩:_∧k_≠b2))) (fun _ hk=>hk.2) (.int .i64 ((af ag b1).f0))) (fun _ hk=>hk.2) (.int .i64 ((af ag b1).f1))) (fun _ hk=>hk.2) (.int .i64 ((af ag b1).f2))) (fun _ hk=>hk.2) (.slice bB ((af ag b1).f3).length bC)) (fun _ hk=>hk.2) (.slice bD ((af ag b1).f4).length bE)) (fun _ hk=>hk.2) (.slice bF ((af ag b1).f5).length bG)) (fun _ hk=>hk.1.2)⟩;have dK:ae (((((((d1.setCell ⟨b2,0,none⟩ (.int .i64 ((af ag b1).f0))).setCell ⟨b2,1,none⟩ (.int .i64 ((af ag b1).f1))).setCell ⟨b2,2,none⟩ (.int .i64 ((af ag b1).f2))).setCell ⟨b2,3,none⟩ (.slice bB ((af ag b1).f3).length bC)).setCell ⟨b2,4,none⟩ (.slice bD ((af ag b1).f4).length bE)).setCell ⟨b2,5,none⟩ (.slice bF ((af ag b1).f5).length bG)).heap[d9]? =some (.cells #[.slice (some gH) ag.length bg,.int .i64 aj] 28 (0,0))):=⟨oF b4⟩;have dL:ae (((((((d1.setCell ⟨b2,0,none⟩ (.int .i64 ((af ag b1).f0))).setCell ⟨b2,1,none⟩ (.int .i64 ((af ag b1).f1))).setCell ⟨b2,2,none⟩ (.int .i64 ((af ag b1).f2))).setCell ⟨b2,3,none⟩ (.slice bB ((af ag b1).f3).length bC)).setCell ⟨b2,4,none⟩ (.slice bD ((af ag b1).f4).length bE)).setCell ⟨b2,5,none⟩ (.slice bF ((af ag b1).f5).length bG)).heap[bM]? =some (.cells #[.slice none 0 0,.int .i64 0] 28 (0,0))):=⟨oF b5⟩;have dM:ae (((((((d1.setCell ⟨b2,0,none⟩ (.int .i64 ((af ag b1).f0))).setCell ⟨b2,1,none⟩ (.int .i64 ((af ag b1).f1))).setCell ⟨b2,2,none⟩ (.int .i64 ((af ag b1).f2))).setCell ⟨b2,3,none⟩ (.slice bB ((af ag b1).f3).length bC)).setCell ⟨b2,4,none⟩ (.slice bD ((af ag b1).f4).length bE)).setCell ⟨b2,5,none⟩ (.slice bF ((af ag b1).f5).length bG)).heap[bL]? =some (.cells #[b8,.int .i64 aj] 28 (0,0))):=⟨oF b6⟩;have dN:ae (((((((d1.setCell ⟨b2,0,none⟩ (.int .i64 ((af ag b1).f0))).setCell ⟨b2,1,none⟩ (.int .i64 ((af ag b1).f1))).setCell ⟨b2,2,none⟩ (.int .i64 ((af ag b1).f2))).setCell ⟨b2,3,none⟩ (.slice bB ((af ag b1).f3).length bC)).setCell ⟨b2,4,none⟩ (.slice bD ((af ag b1).f4).length bE)).setCell ⟨b2,5,none⟩ (.slice bF ((af ag b1).f5).length bG)).heap[b2]? =some (.cells #[.int .i64 ((af ag b1).f0),.int .i64 ((af ag b1).f1),.int .i64 ((af ag b1).f2),.slice bB ((af ag b1).f3).length bC,.slice bD ((af ag b1).f4).length bE,.slice bF ((af ag b1).f5).length bG] 58 (0,0))):=⟨oP b7⟩;have dO:ae (Below w.heap.size w ((((((d1.setCell ⟨b2,0,none⟩ (.int .i64 ((af ag b1).f0))).setCell ⟨b2,1,none⟩ (.int .i64 ((af ag b1).f1))).setCell ⟨b2,2,none⟩ (.int .i64 ((af ag b1).f2))).setCell ⟨b2,3,none⟩ (.slice bB ((af ag b1).f3).length bC)).setCell ⟨b2,4,none⟩ (.slice bD ((af ag b1).f4).length bE)).setCell ⟨b2,5,none⟩ (.slice bF ((af ag b1).f5).length bG))):=⟨oB⟩
   (try clear b3)
   (try clear b4)
   (try clear b5)
   (try clear b6)
   (try clear b7)
   (try clear HB)
   generalize ((((((d1.setCell ⟨b2,0,none⟩ (.int .i64 ((af ag b1).f0))).setCell ⟨b2,1,none⟩ (.int .i64 ((af ag b1).f1))).setCell ⟨b2,2,none⟩ (.int .i64 ((af ag b1).f2))).setCell ⟨b2,3,none⟩ (.slice bB ((af ag b1).f3).length bC)).setCell ⟨b2,4,none⟩ (.slice bD ((af ag b1).f4).length bE)).setCell ⟨b2,5,none⟩ (.slice bF ((af ag b1).f5).length bG))=j2 at dJ dK dL dM dN dO⊢;have b3:=dJ;have b4:=dK;have b5:=dL;have b6:=dM;have b7:=dN;have HB:=dO;clear dJ dK dL dM dN dO;replace b3:=am (Kd.ei b3.out);replace b4:=am (ar b4.out);replace b5:=am (ar b5.out);replace b6:=am (ar b6.out);replace b7:=am (ar b7.out);replace HB:=am (au HB.out);refine q_ (n:=8) (S:=fun w'=>w'.cell? ⟨bL,0,none⟩=some (b8)∧w'.cell? ⟨bL,1,none⟩=some (.int .i64 aj)∧w'.cell? ⟨b2,0,none⟩=some (.int .i64 ((af ag b1).f0))∧w'.cell? ⟨b2,1,none⟩=some (.int .i64 ((af ag b1).f1))∧w'.cell? ⟨b2,2,none⟩=some (.int .i64 ((af ag b1).f2))∧w'.cell? ⟨b2,3,none⟩=some (.slice bB ((af ag b1).f3).length bC)∧w'.cell? ⟨b2,4,none⟩=some (.slice bD ((af ag b1).f4).length bE)∧w'.cell? ⟨b2,5,none⟩=some (.slice bF ((af ag b1).f5).length bG)) (ds:=[7]) (lb 8 0) (by kernel_rfl) rfl rfl oH (fun hHeld=> ?_);refine sM ck.aaU ck.uS (fun av eH=> ?_);generalize j2.drew=m4 at b3 b4 b5 b6 b7 HB hHeld⊢;refine bx 0 16 av ?_;refine fO 1 17 av eH hHeld ?_;refine fO 2 18 av eH hHeld ?_;refine kQ 3 19 av (fun K hK=> ?_);refine l_ 19 func87 (eD.calls ((af ag b1).f0) ((af ag b1).f1) ((af ag b1).f2) _ _ ((af ag b1).f3) _ _ ((af ag b1).f4) _ _ ((af ag b1).f5) bX bY bZ bN bO bP _ (kC dC) dB.out (kC dE) dD.out (kC dG) dF.out j1.out) ?_;rintro e m5 ⟨jY,jZ,m1,rfl,gK,dP,dQ,hb⟩;refine⟨_,rfl,?_⟩;have bU:=am (Kd.aw gK (ah oB));have bV:=am (Kd.aw dP (ah oB));have bW:=am (Kd.aw dQ (ah oB));replace b3:=tk (tj b3 hb) (Kd.cQ gK) (Kd.cQ dP) (Kd.cQ dQ);replace b4:=aQ b4 hb;replace b5:=aQ b5 hb;replace b6:=aQ b6 hb;replace b7:=aQ b7 hb;replace HB:=hB HB hb
   (try clear dP)
   (try clear dQ)
   obtain⟨dR,dS,dT⟩:=Kd.ax bU.out
   (first|subst dT|(injection dT with kL nA kM;have d2:=kL.symm;have d3:=kM.symm;clear kL nA kM;subst d2;subst d3))
   obtain⟨dU,dV,dW⟩:=Kd.ax bV.out
   (first|subst dW|(injection dW with kL nA kM;have d2:=kL.symm;have d3:=kM.symm;clear kL nA kM;subst d2;subst d3))
   obtain⟨dX,dY,dZ⟩:=Kd.ax bW.out
   (first|subst dZ|(injection dZ with kL nA kM;have d2:=kL.symm;have d3:=kM.symm;clear kL nA kM;subst d2;subst d3))
   refine eP hK 19 oH (fun hHeld=> ?_);clear hK K;refine kQ 4 20 av (fun K hK=> ?_);refine tC (w1:= ?_) (v:= ?_) (by rfl) rfl ?_ ?_;rotate_left 2
   ·go_simp
    constructor
    ·rfl
    ·rfl
   refine eP hK 20 ⟨(ao (aG b6.out _) 0).trans rfl,(ao (aG b6.out _) 1).trans rfl,(ao (aG b7.out _) 0).trans rfl,(ao (aG b7.out _) 1).trans rfl,(ao (aG b7.out _) 2).trans rfl,(ao (aG b7.out _) 3).trans rfl,(ao (aG b7.out _) 4).trans rfl,(ao (aG b7.out _) 5).trans rfl⟩ (fun hHeld=> ?_);clear hK K;refine kQ 5 21 av (fun K hK=> ?_);refine Kd.o_ fN (w0:=w) w.heap.size (by rfl) (.tmp 17) (.tmp 20) 26 58 (.agg #[(.int .i64 0),(.int .i64 0),(.int .i64 0),(.slice none 0 0),(.slice none 0 0),(.slice none 0 0)]) 96 rfl underlying26 kT rfl (by decide) (by omega) b8 b9 (⟨bX,bY,bZ,bN,bO,bP⟩:bm) [.int .i64 bX,.int .i64 bY,.int .i64 bZ,.slice dR bN.length dS,.slice dU bO.length dV,.slice dX bP.length dY] (fun k_=>k_≠b2) (fun k_=>some k_=(.slice dR bN.length dS:Value).ownBlock∨some k_=(.slice dU bO.length dV:Value).ownBlock∨some k_=(.slice dX bP.length dY:Value).ownBlock) rfl rfl ?aP (fun k_ eP=>eP.elim (fun h_=>((Kd.bn (ok':=fun k_=>((fun k_=>k_≠b2)) k_∧some k_≠(b8:Value).ownBlock) (Kd.bf (Kd.cH (bU.out) (Kd.ia b3.out) (by decide)) b7.out (by decide)) (fun k_ hk=>⟨hk.2,hk.1.2⟩))).1 k_ h_.symm) (fun h_=>h_.elim (fun h_=>((Kd.bn (ok':=fun k_=>((fun k_=>k_≠b2)) k_∧some k_≠(b8:Value).ownBlock) (Kd.bf (Kd.cH (bV.out) (Kd.ia b3.out) (by decide)) b7.out (by decide)) (fun k_ hk=>⟨hk.2,hk.1.2⟩))).1 k_ h_.symm) (fun h_=>((Kd.bn (ok':=fun k_=>((fun k_=>k_≠b2)) k_∧some k_≠(b8:Value).ownBlock) (Kd.bf (Kd.cH (bW.out) (Kd.ia b3.out) (by decide)) b7.out (by decide)) (fun k_ hk=>⟨hk.2,hk.1.2⟩))).1 k_ h_.symm))) ?aF ?aO ?aB ?aS ?aL ?_
   (case aP=>exact ou _ _ _ (⟨bX,bY,bZ,bN,bO,bP⟩:bm) (Kd.bn (Kd.jh rfl (Kd.bn (ok':=fun k_=>((fun k_=>k_≠b2)) k_∧some k_≠(b8:Value).ownBlock) (Kd.bf (Kd.cH (bU.out) (Kd.ia b3.out) (by decide)) b7.out (by decide)) (fun k_ hk=>⟨hk.2,hk.1.2⟩))) (fun _ h_=>Or.inl h_)) (Kd.bn (Kd.jh rfl (Kd.bn (ok':=fun k_=>((fun k_=>k_≠b2)) k_∧some k_≠(b8:Value).ownBlock) (Kd.bf (Kd.cH (bV.out) (Kd.ia b3.out) (by decide)) b7.out (by decide)) (fun k_ hk=>⟨hk.2,hk.1.2⟩))) (fun _ h_=>Or.inr (Or.inl h_))) (Kd.bn (Kd.jh rfl (Kd.bn (ok':=fun k_=>((fun k_=>k_≠b2)) k_∧some k_≠(b8:Value).ownBlock) (Kd.bf (Kd.cH (bW.out) (Kd.ia b3.out) (by decide)) b7.out (by decide)) (fun k_ hk=>⟨hk.2,hk.1.2⟩))) (fun _ h_=>Or.inr (Or.inr (h_)))))
   (case aB=>exact oB)
   (case aF=>exact(fun k_ hk=>Kd.eC (g:=b2) (o:= .cells #[.int .i64 ((af ag b1).f0),.int .i64 ((af ag b1).f1),.int .i64 ((af ag b1).f2),.slice bB ((af ag b1).f3).length bC,.slice bD ((af ag b1).f4).length bE,.slice bF ((af ag b1).f5).length bG] 58 (0,0)) (oF b7) k_ hk))
   (case aO=>exact(by(with_reducible repeat(first|apply Kd.cV|apply Kd.cW|apply Kd.ei));exact Kd.cS b3.out (fun k_ hk=>⟨hk.1.1.1,fun e_=>e_.elim (fun h_=>hk.1.1.2 h_) (fun h_=>h_.elim (fun h_=>hk.1.2 h_) (fun h_=>hk.2 h_))⟩)))
   (case aS=>exact(ah oB))
   (case aL=>have:=gF.out;omega)
   intro m2 j3 ho hb hg hat;rw[←gG.out]at ho;have dA:=am (ho);replace b4:=ks b4 hg (Kd.xU b3.out b4.out (by decide));replace b5:=ks b5 hg (Kd.xU b3.out b5.out (by decide));replace b6:=ks b6 hg (Kd.xU b3.out b6.out (by decide));replace b7:=ks b7 hg (Kd.adj b3.out (fun _ hk=>hk.1.1.1));replace HB:=am (hb);clear b3;clear bU;clear bV;clear bW;clear ho hb hg hat;obtain⟨gA,gB,gC⟩:=Kd.eM dA.out
   (first|subst gC|(injection gC with kL nA kM;have d2:=kL.symm;have d3:=kM.symm;clear kL nA kM;subst d2;subst d3))
   refine eP hK 21 oH (fun hHeld=> ?_);clear hK K;refine bx 6 22 av ?_;refine aaC (i:=7) (N:=none) (lb 8 255) rfl rfl (th av.out (by kernel_rfl)) (by decide) (fun K hK=> ?_);have m3:j3.cell? ⟨bL,0,none⟩=some (b8):=(ao b6.out 0).trans rfl;have jN:=aC b6.out 0;have gT:=bH.out;have gU:=bJ.out;have gV:=bT.out;have gW:=bI.out;have gX:=bK.out;have gY:=bS.out;refine xi (w1:= ?_) (by rfl) rfl ?_ ?_;rotate_left
   ·go_simp
    rfl
   refine hK.out _ _ ?_;clear hK K;refine lZ av ?_
   try go_wp2
   go_roundg k1
   case measure=>have:=gI.out;omega
   case rel=>exact⟨(wrap64 (b1+1)),(d4),(.slice gA d4.length gB),oS,H',⟨by have:=gI.out;omega⟩,⟨by(with_reducible repeat(first|apply Kd.cV|apply Kd.cW|apply Kd.ei));exact Kd.cS (Kd.eS (p:=⟨bL,0,none⟩) (Kd.je dA.out b6.out (by decide)) (fun _ hk=>hk.2) (.slice gA d4.length gB)) (fun _ hk=>trivial)⟩,⟨oF b4⟩,⟨oF b5⟩,⟨oP b6⟩,⟨oB⟩⟩

mutual
def bb.l0:Nat→ByteArray→List ByteArray→Int→Int→Option (List ByteArray×Bool)
 |0,_,_,_,_=>none
 |k+1,x0,x4,x5,x6=>if x6≤(x0.size:Int)then(if x6<(x0.size:Int)then(if 0≤x6 then(bb.j1 k x0 x4 x5 x6 ((bt x0 x6) !=47))else(none))else(bb.j1 k x0 x4 x5 x6 false))else(if(x0.size:Int)=0 then(some ((([]:List ByteArray)),false))else(if 0<(x0.size:Int)then(if(bt x0 0)=47 then(some (x4,true))else(some ((([]:List ByteArray)),false)))else(none)))
def bb.j1:Nat→ByteArray→List ByteArray→Int→Int→Bool→Option (List ByteArray×Bool)
 |0,_,_,_,_,_=>none
 |k+1,x0,x4,x5,x6,b2=>if b2=true then(bb.l0 k x0 x4 x5 (wrap64 (x6+1)))else(if x6>0 then(if 0≤x5 then(if x5≤x6 then(if x6≤(x0.size:Int)then((aI.f k (x0.extract (x5:Int).toNat (x6:Int).toNat)).bind fun b1=>(if b1=true then(if(x4.length:Int)=30 then(some ((([]:List ByteArray)),false))else(if x4.length<8796093022208 then(bb.l0 k x0 (x4++[x0.extract (x5:Int).toNat (x6:Int).toNat]) (wrap64 (x6+1)) (wrap64 (x6+1)))else(none)))else(some ((([]:List ByteArray)),false))))else(none))else(none))else(none))else(bb.l0 k x0 x4 (wrap64 (x6+1)) (wrap64 (x6+1))))
end
def bb.f (k:Nat) (a0:ByteArray):Option (List ByteArray×Bool):=(some (([]:List ByteArray):List ByteArray)).bind fun b1=>(if a0.toList=([47]:List UInt8)then(some (b1,true))else(bb.l0 k a0 b1 0 0))
theorem bb.calls (k:Nat) (a0:ByteArray) (r1:List ByteArray) (r2:Bool) (w:World) (h:bb.f k a0=some (r1,r2)):
  Calls Tryz.prog 51 #[.string a0] w fun e w'=>∃iV:Value,e= .returned (.tuple #[iV,.bool r2])∧Kd.R Kd.string 9 w' w.heap.size (fun _=>True) iV r1∧Below w.heap.size w w':=by
 have HB:=am (Below.refl w.heap.size w);unfold bb.f at h;have H:=h;clear h;obtain⟨bL,cX⟩:∃y_:List ByteArray,y_=(([]:List ByteArray)):=⟨_,rfl⟩;replace H:(if a0.toList=([47]:List UInt8)then(some (bL,true))else(bb.l0 k a0 bL 0 0))=some (r1,r2):=oY;have bB:=ae.mk cX;clear cX
 by_cases c2:a0.toList=([47]:List UInt8)
 ·rw[if_pos c2]at H;have dG:(a0.toList==([47]:List UInt8))=true:=beq_iff_eq.mpr c2;have dH:(a0.toList !=([47]:List UInt8))=false:=bne_eq_false_iff_eq.mpr c2;clear c2;simp only[Option.some.injEq,Prod.mk.injEq]at H;obtain⟨rfl,rfl⟩:=H
  go_enter func51,ntmps51
  go_wp2_with (first|((with_reducible refine ai (N:=8) rfl ?_);(try(refine aW (by rfl) ?_;dsimp only));refine Kd.iO Kd.string _ 9 ?hg (N:=8) ?hd (xs:=([]:List ByteArray)) (inner:=[]) (ok:=fun _=>True) (ft:=fun _=>True) ?hr ?hp (fun _ hk=>hk) trivial (Below.refl _ _) (Nat.le_refl _) (by simp) ?_;(case hd=>rfl);(case hg=>rfl);(case hr=>first|(go_simp;done)|(go_simp;rfl));(case hp=>exact(cK.none _ _));intro dI w3 bI hb fc da;clear fc da;(first|rw[←bB.out]at bI|(simp only[Int.reduceToNat]at bI;rw[←bB.out]at bI));have bG:=am (Kd.aw bI (ah oB));replace HB:=hB HB hb;clear hb bI))
  go_ret2
  exact⟨_,oE,oR bG,oB⟩
 rw[if_neg c2]at H;have dG:(a0.toList==([47]:List UInt8))=false:=beq_eq_false_iff_ne.mpr c2;have dH:(a0.toList !=([47]:List UInt8))=true:=bne_iff_ne.mpr c2;have H':=ae.mk H;clear H
 go_enter func51,ntmps51
 go_wp2_with (first|((with_reducible refine ai (N:=8) rfl ?_);(try(refine aW (by rfl) ?_;dsimp only));refine Kd.iO Kd.string _ 9 ?hg (N:=8) ?hd (xs:=([]:List ByteArray)) (inner:=[]) (ok:=fun _=>True) (ft:=fun _=>True) ?hr ?hp (fun _ hk=>hk) trivial (Below.refl _ _) (Nat.le_refl _) (by simp) ?_;(case hd=>rfl);(case hg=>rfl);(case hr=>first|(go_simp;done)|(go_simp;rfl));(case hp=>exact(cK.none _ _));intro dI w5 bJ hb fc da;clear fc da;(first|rw[←bB.out]at bJ|(simp only[Int.reduceToNat]at bJ;rw[←bB.out]at bJ));have bG:=am (Kd.aw bJ (ah oB));replace HB:=hB HB hb;clear hb bJ))
 go_loopg [4,5,6] k (fun kq v4 v5 v6 w'=>∃(b3:List ByteArray) (b4:Int) (b1:Int),v5= .int .i64 b4∧v6= .int .i64 b1∧ae (bb.l0 kq a0 b3 b4 b1=some (r1,r2))∧ae (kq≤k)∧ae (Kd.R Kd.string 9 w' w.heap.size (fun _=>True) v4 b3)∧ae (Below w.heap.size w w'))
 case atStart=>exact⟨(bL),(0),(0),oS,oS,H',⟨Nat.le_refl _⟩,⟨oR bG⟩,⟨oB⟩⟩
 case round=>
  clear H'
  try clear c2
  obtain⟨b3,b4,b1,rfl,rfl,HA,b9,b2,HB⟩:=hrel
  cases gk with
  |zero=>exact absurd HA.out (by simp[bb.l0])
  |succ k1=>
   have H:=HA.out;clear HA;simp only[bb.l0]at H;replace H:=iM H;rcases H with⟨bR,H⟩|⟨bR,H⟩;rotate_left
   ·by_cases bC:(a0.size:Int)=0
    ·rw[if_pos bC]at H;have bZ:((a0.size:Int)==0)=true:=beq_iff_eq.mpr bC;have d1:((a0.size:Int) !=0)=false:=bne_eq_false_iff_eq.mpr bC;clear bC;obtain⟨dJ,cX⟩:∃y_:List ByteArray,y_=(([]:List ByteArray)):=⟨_,rfl⟩;replace H:(some (dJ,false))=some (r1,r2):=oY;have bN:=ae.mk cX;clear cX;simp only[Option.some.injEq,Prod.mk.injEq]at H;obtain⟨rfl,rfl⟩:=H
     go_wp2_with (first|((with_reducible refine ai (N:=57) rfl ?_);(try(refine aW (by rfl) ?_;dsimp only));refine Kd.iO Kd.string _ 9 ?hg (N:=57) ?hd (xs:=([]:List ByteArray)) (inner:=[]) (ok:=fun _=>True) (ft:=fun _=>True) ?hr ?hp (fun _ hk=>hk) trivial (Below.refl _ _) (Nat.le_refl _) (by simp) ?_;(case hd=>rfl);(case hg=>rfl);(case hr=>first|(go_simp;done)|(go_simp;rfl));(case hp=>exact(cK.none _ _));intro gD gM b5 hb fc da;clear fc da;(first|rw[←bN.out]at b5|(simp only[Int.reduceToNat]at b5;rw[←bN.out]at b5));have d2:=am (Kd.aw (Kd.ly b5 (nK b2)) (ah oB));replace b2:=ke_ b2 b5 hb;replace HB:=hB HB hb;clear hb b5))
     go_ret2
     exact⟨_,oE,mR d2,oB⟩
    rw[if_neg bC]at H;have bZ:((a0.size:Int)==0)=false:=beq_eq_false_iff_ne.mpr bC;have d1:((a0.size:Int) !=0)=true:=bne_iff_ne.mpr bC;obtain⟨dE,H⟩:=lu H;have dU:decide (0<(a0.size:Int))=true:=decide_eq_true dE;have dV:decide (0<a0.size)=true:=decide_eq_true (by omega);clear dE
    by_cases bD:(bt a0 0)=47
    ·rw[if_pos bD]at H;have d3:((bt a0 0)==47)=true:=beq_iff_eq.mpr bD;have d4:((bt a0 0) !=47)=false:=bne_eq_false_iff_eq.mpr bD;clear bD;simp only[Option.some.injEq,Prod.mk.injEq]at H;obtain⟨rfl,rfl⟩:=H;have bS:0≤(0:Int):=(by omega);have bK:0<a0.size:=(by have:(0:Int)<(a0.size:Int):=oa;omega);have dK:∀h:0<a0.size,((a0[0]'h).toNat:Int)=bt a0 0:=iu a0 0;clear bS;have dL:(0<(a0.size:Int))=True:=eq_true oa;replace bK:=eq_true bK
     go_wp2
     go_ret2
     exact⟨_,oE,oR b2,oB⟩
    rw[if_neg bD]at H;have d3:((bt a0 0)==47)=false:=beq_eq_false_iff_ne.mpr bD;have d4:((bt a0 0) !=47)=true:=bne_iff_ne.mpr bD;obtain⟨dM,cX⟩:∃y_:List ByteArray,y_=(([]:List ByteArray)):=⟨_,rfl⟩;replace H:(some (dM,false))=some (r1,r2):=oY;have bO:=ae.mk cX;clear cX;simp only[Option.some.injEq,Prod.mk.injEq]at H;obtain⟨rfl,rfl⟩:=H;have bS:0≤(0:Int):=(by omega);have bK:0<a0.size:=(by have:(0:Int)<(a0.size:Int):=oa;omega);have dK:∀h:0<a0.size,((a0[0]'h).toNat:Int)=bt a0 0:=iu a0 0;clear bS;have dL:(0<(a0.size:Int))=True:=eq_true oa;replace bK:=eq_true bK
    go_wp2_with (first|((with_reducible refine ai (N:=57) rfl ?_);(try(refine aW (by rfl) ?_;dsimp only));refine Kd.iO Kd.string _ 9 ?hg (N:=57) ?hd (xs:=([]:List ByteArray)) (inner:=[]) (ok:=fun _=>True) (ft:=fun _=>True) ?hr ?hp (fun _ hk=>hk) trivial (Below.refl _ _) (Nat.le_refl _) (by simp) ?_;(case hd=>rfl);(case hg=>rfl);(case hr=>first|(go_simp;done)|(go_simp;rfl));(case hp=>exact(cK.none _ _));intro gE gN b6 hb fc da;clear fc da;(first|rw[←bO.out]at b6|(simp only[Int.reduceToNat]at b6;rw[←bO.out]at b6));have d5:=am (Kd.aw (Kd.ly b6 (nK b2)) (ah oB));replace b2:=ke_ b2 b6 hb;replace HB:=hB HB hb;clear hb b6))
    go_ret2
    exact⟨_,oE,mR d5,oB⟩
   have bT:=ae.mk H;clear H
   go_upto_region 8 with(fail)
   go_cut [27] (fun dT wc=>∃(kq:Nat) (bH:Bool),dT= .bool bH∧ae (bb.j1 kq a0 b3 b4 b1 bH=some (r1,r2))∧ae (kq≤k1)∧ae (Kd.R Kd.string 9 wc w.heap.size (fun _=>True) u4 b3)∧ae (Below w.heap.size w wc))
   case first=>
    have H:=bT.out;clear bT;replace H:=iM H;rcases H with⟨bM,H⟩|⟨bM,H⟩;rotate_left
    ·(first|rw[bM]|skip)
     have H':=ae.mk H;clear H
     go_wp2
     go_meet
     case rel=>exact⟨_,(false),oS,H',⟨by have:=b9.out;first|omega|exact Nat.le_refl _⟩,⟨oR b2⟩,⟨oB⟩⟩
    (first|rw[bM]|skip)
    obtain⟨dW,H⟩:=cO H;have H':=ae.mk H;clear H;have gO:(0≤(b1:Int))=True:=oT;have gP:(b1<(a0.size:Int))=True:=oT;have gF:=iu a0 b1
    go_wp2
    go_meet
    case rel=>exact⟨_,(((bt a0 b1) !=47)),oS,H',⟨by have:=b9.out;first|omega|exact Nat.le_refl _⟩,⟨oR b2⟩,⟨oB⟩⟩
   case rest=>
    clear bT
    try clear c2
    try clear bR
    obtain⟨kq,bH,rfl,HA,bF,b2,HB⟩:=hcut
    cases kq with
    |zero=>exact absurd HA.out (by simp[bb.j1])
    |succ kj7=>
     have H:=HA.out;clear HA;simp only[bb.j1]at H;replace H:=kN H;rcases H with⟨rfl,H⟩|⟨rfl,H⟩
     ·have H':=ae.mk H;clear H
      go_wp2
      go_roundg kj7
      case measure=>have:=b9.out;have:=bF.out;omega
      case rel=>exact⟨(b3),(b4),(wrap64 (b1+1)),oS,oS,H',⟨by have:=b9.out;have:=bF.out;omega⟩,⟨oR b2⟩,⟨oB⟩⟩
     replace H:=yJ H;rcases H with⟨d6,H⟩|⟨d6,H⟩;rotate_left
     ·have H':=ae.mk H;clear H
      go_wp2
      go_roundg kj7
      case measure=>have:=b9.out;have:=bF.out;omega
      case rel=>exact⟨(b3),(wrap64 (b1+1)),(wrap64 (b1+1)),oS,oS,H',⟨by have:=b9.out;have:=bF.out;omega⟩,⟨oR b2⟩,⟨oB⟩⟩
     obtain⟨bU,H⟩:=lu H;have dX:=eq_true bU;have dY:decide (0≤b4)=true:=decide_eq_true bU;clear bU;obtain⟨bV,H⟩:=lu H;have dZ:=eq_true bV;have gA:decide (b4≤b1)=true:=decide_eq_true bV;clear bV;obtain⟨bW,H⟩:=lu H;have gB:=eq_true bW;have gC:decide (b1≤(a0.size:Int))=true:=decide_eq_true bW;clear bW;replace H:=bA H;obtain⟨gG,bX,H⟩:=H
     try dsimp only at H
     replace H:=kN H;rcases H with⟨rfl,H⟩|⟨rfl,H⟩;rotate_left
     ·obtain⟨dN,cX⟩:∃y_:List ByteArray,y_=(([]:List ByteArray)):=⟨_,rfl⟩;replace H:(some (dN,false))=some (r1,r2):=oY;have bP:=ae.mk cX;clear cX;simp only[Option.some.injEq,Prod.mk.injEq]at H;obtain⟨rfl,rfl⟩:=H
      go_wp2_with (first|((with_reducible refine ak (f:=63) rfl ?_);refine fe 35 func63 (aI.calls kj7 (a0.extract (b4:Int).toNat (b1:Int).toNat) false _ bX.out) ?_;rintro e w' ⟨rfl,⟨nd,rfl⟩⟩;refine⟨_,rfl,?_⟩)|((with_reducible refine ai (N:=42) rfl ?_);(try(refine aW (by rfl) ?_;dsimp only));refine Kd.iO Kd.string _ 9 ?hg (N:=42) ?hd (xs:=([]:List ByteArray)) (inner:=[]) (ok:=fun _=>True) (ft:=fun _=>True) ?hr ?hp (fun _ hk=>hk) trivial (Below.refl _ _) (Nat.le_refl _) (by simp) ?_;(case hd=>rfl);(case hg=>rfl);(case hr=>first|(go_simp;done)|(go_simp;rfl));(case hp=>exact(cK.none _ _));intro gH gQ b7 hb fc da;clear fc da;(first|rw[←bP.out]at b7|(simp only[Int.reduceToNat]at b7;rw[←bP.out]at b7));have d7:=am (Kd.aw (Kd.ly b7 (nK b2)) (ah oB));replace b2:=ke_ b2 b7 hb;replace HB:=hB HB hb;clear hb b7))
      go_ret2
      exact⟨_,oE,mR d7,oB⟩
     by_cases bE:(b3.length:Int)=30
     ·rw[if_pos bE]at H;have d8:((b3.length:Int)==30)=true:=beq_iff_eq.mpr bE;have d9:((b3.length:Int) !=30)=false:=bne_eq_false_iff_eq.mpr bE;clear bE;obtain⟨dO,cX⟩:∃y_:List ByteArray,y_=(([]:List ByteArray)):=⟨_,rfl⟩;replace H:(some (dO,false))=some (r1,r2):=oY;have bQ:=ae.mk cX;clear cX;simp only[Option.some.injEq,Prod.mk.injEq]at H;obtain⟨rfl,rfl⟩:=H
      go_wp2_with (first|((with_reducible refine ak (f:=63) rfl ?_);refine fe 35 func63 (aI.calls kj7 (a0.extract (b4:Int).toNat (b1:Int).toNat) true _ bX.out) ?_;rintro e w' ⟨rfl,⟨nd,rfl⟩⟩;refine⟨_,rfl,?_⟩;obtain⟨gI,gJ,dP⟩:=Kd.ax b2.out;subst dP)|((with_reducible refine ai (N:=42) rfl ?_);(try(refine aW (by rfl) ?_;dsimp only));refine Kd.iO Kd.string _ 9 ?hg (N:=42) ?hd (xs:=([]:List ByteArray)) (inner:=[]) (ok:=fun _=>True) (ft:=fun _=>True) ?hr ?hp (fun _ hk=>hk) trivial (Below.refl _ _) (Nat.le_refl _) (by simp) ?_;(case hd=>rfl);(case hg=>rfl);(case hr=>first|(go_simp;done)|(go_simp;rfl));(case hp=>exact(cK.none _ _));intro gK gR b8 hb fc da;clear fc da;(first|rw[←bQ.out]at b8|(simp only[Int.reduceToNat]at b8;rw[←bQ.out]at b8));have dA:=am (Kd.aw (Kd.ly b8 (nK b2)) (ah oB));replace b2:=ke_ b2 b8 hb;replace HB:=hB HB hb;clear hb b8))
      go_ret2
      exact⟨_,oE,mR dA,oB⟩
     rw[if_neg bE]at H;have d8:((b3.length:Int)==30)=false:=beq_eq_false_iff_ne.mpr bE;have d9:((b3.length:Int) !=30)=true:=bne_iff_ne.mpr bE;obtain⟨dF,H⟩:=lu H;have dB:=ae.mk dF;clear dF;obtain⟨bY,cX⟩:∃y_:List ByteArray,y_=(b3++[a0.extract (b4:Int).toNat (b1:Int).toNat]):=⟨_,rfl⟩;replace H:(bb.l0 kj7 a0 bY (wrap64 (b1+1)) (wrap64 (b1+1)))=some (r1,r2):=oY;have dC:=ae.mk cX;clear cX;have H':=ae.mk H;clear H
     go_wp2_with (first|((with_reducible refine ak (f:=63) rfl ?_);refine fe 35 func63 (aI.calls kj7 (a0.extract (b4:Int).toNat (b1:Int).toNat) true _ bX.out) ?_;rintro e w' ⟨rfl,⟨nd,rfl⟩⟩;refine⟨_,rfl,?_⟩;obtain⟨dQ,dR,dS⟩:=Kd.ax b2.out;subst dS)|((with_reducible refine et (b:= .append) (xs:= #[.tmp 43,.tmp 45]) rfl ?_);(try(refine aW (by rfl) ?_;dsimp only));at_builtin;refine Kd.nf Kd.string (w0:=w) w.heap.size rfl (.tmp 43) (.tmp 45) 68 9 (.string ⟨#[]⟩) 16 rfl underlying68 info9 rfl (by decide) (by omega) (.slice dQ b3.length dR) b3 (a0.extract (b4:Int).toNat (b1:Int).toNat) [.string (a0.extract (b4:Int).toNat (b1:Int).toNat)] (fun _=>True) (fun _=>False) rfl rfl ?aP (fun _ hk=>hk.elim) ?aF ?aO ?aB ?aS ?aL ?_;(case aP=>exact rfl);(case aB=>exact oB);(case aF=>exact(fun _ _=>trivial));(case aO=>exact(oR b2));(case aS=>exact(ah oB));(case aL=>have:=dB.out;omega);intro gL gS ho hb hg hat;rw[←dC.out]at ho;have dD:=am (ho);replace HB:=am (hb);clear b2;clear ho hb hg hat))
     go_roundg kj7
     case measure=>have:=b9.out;have:=bF.out;omega
     case rel=>exact⟨(bY),(wrap64 (b1+1)),(wrap64 (b1+1)),oS,oS,H',⟨by have:=b9.out;have:=bF.out;omega⟩,⟨oR dD⟩,⟨oB⟩⟩

def ef.l0:Nat→List (ey)→Int→Option (Bool)
 |0,_,_=>none
 |k+1,x0,x3=>if x3<(x0.length:Int)then(if 0≤x3 then((aI.f k ((al x0 x3).f0)).bind fun b1=>(if b1=true then((ba.f ((al x0 x3).f1) 2 1000).bind fun b2=>(if b2=true then(if x3>0 then(if 0≤(wrap64 (x3-1))then(if(wrap64 (x3-1))<(x0.length:Int)then(if((Op.bytesLess (((al x0 (wrap64 (x3-1))).f0).toList) (((al x0 x3).f0).toList))=true)then(ef.l0 k x0 (wrap64 (x3+1)))else(some false))else(none))else(none))else(ef.l0 k x0 (wrap64 (x3+1))))else(some false)))else(some false)))else(none))else(some (decide ((x0.length:Int)≤10)))
def ef.f (k:Nat) (l0:List (ey)):Option (Bool):=ef.l0 k l0 0
theorem ef.calls (k:Nat) (A0:Option Addr) (c0:Nat) (l0:List (ey)) (r:Bool) (w:World) (hr0:Kd.C jc w A0 l0.length l0) (hc0:l0.length≤c0) (h:ef.f k l0=some r):
  Calls Tryz.prog 139 #[.slice A0 l0.length c0] w fun e w'=>e= .returned (.bool r)∧fv w w':=by
 have b7:=ae.mk hr0;have d6:=ae.mk hc0;clear hr0 hc0;unfold ef.f at h;have H:=h;clear h;have H':=ae.mk H;clear H
 go_enter func139,ntmps139
 go_wp2
 repeat(go_quiet (fail);try go_wp2)
 go_loopg [3] k (fun kq v3 w'=>∃(b1:Int),v3= .int .i64 b1∧ae (ef.l0 kq l0 b1=some r)∧ae (kq≤k)∧fv w w')
 case atStart=>exact⟨(0),oS,H',⟨Nat.le_refl _⟩,oD⟩
 case round=>
  clear H';obtain⟨b1,rfl,HA,bV,⟨m1,rfl⟩⟩:=hrel
  cases gk with
  |zero=>exact absurd HA.out (by simp[ef.l0])
  |succ k1=>
   have H:=HA.out;clear HA;simp only[ef.l0]at H;replace H:=iM H;rcases H with⟨bX,H⟩|⟨bX,H⟩;rotate_left
   ·obtain rfl:=Option.some.inj H
    go_wp2
    repeat(go_quiet (fail);try go_wp2)
    go_ret
    exact⟨oS,oD⟩
   obtain⟨d3,H⟩:=cO H;replace H:=bA H;obtain⟨d4,A4,H⟩:=H
   try dsimp only at H
   replace H:=kN H;rcases H with⟨rfl,H⟩|⟨rfl,H⟩;rotate_left
   ·obtain rfl:=Option.some.inj H;have bT:(0≤(b1:Int))=True:=oT;have bU:(b1<(l0.length:Int))=True:=oT;obtain⟨b2,bO,bP,bQ⟩:=dd b7.out b1 oa oa
    cases bO
    go_wp2_with (first|(go_at_call 63;(with_reducible refine(aI.calls k1 ((al l0 b1).f0) false _ A4.out).mono ?_);rintro e w' ⟨rfl,⟨nd,rfl⟩⟩))
    repeat(go_quiet (first|(go_at_call 63;(with_reducible refine(aI.calls k1 ((al l0 b1).f0) false _ A4.out).mono ?_);rintro e w' ⟨rfl,⟨nd,rfl⟩⟩;exact oQ));try go_wp2_with (first|(go_at_call 63;(with_reducible refine(aI.calls k1 ((al l0 b1).f0) false _ A4.out).mono ?_);rintro e w' ⟨rfl,⟨nd,rfl⟩⟩)))
    go_ret
    exact⟨oS,oD⟩
   replace H:=bA H;obtain⟨d5,A6,H⟩:=H
   try dsimp only at H
   replace H:=kN H;rcases H with⟨rfl,H⟩|⟨rfl,H⟩;rotate_left
   ·obtain rfl:=Option.some.inj H;have bT:(0≤(b1:Int))=True:=oT;have bU:(b1<(l0.length:Int))=True:=oT;obtain⟨b2,bO,bP,bQ⟩:=dd b7.out b1 oa oa
    cases bO
    go_wp2_with (first|(go_at_call 63;(with_reducible refine(aI.calls k1 ((al l0 b1).f0) true _ A4.out).mono ?_);rintro e w' ⟨rfl,⟨nd,rfl⟩⟩;have b4:(0≤(b1:Int))=True:=oT;have b5:(b1<(l0.length:Int))=True:=oT;obtain⟨b3,b6,b8,b9⟩:=dd b7.out b1 oa oa;obtain rfl:b2=b3:=(by injection b6))|(go_at_call 60;(with_reducible refine(ba.calls ((al l0 b1).f1) 2 1000 false _ A6.out).mono ?_);rintro e w' ⟨rfl,⟨nd,rfl⟩⟩))
    try(have b4:0≤(b1:Int):=oa;have b5:b1<(l0.length:Int):=oa;obtain⟨b3,b6,b8,b9⟩:=dd b7.out b1 b4 b5;obtain rfl:b2=b3:=(by injection b6);replace b4:=eq_true b4;replace b5:=eq_true b5)
    repeat(go_quiet (first|(go_at_call 63;(with_reducible refine(aI.calls k1 ((al l0 b1).f0) true _ A4.out).mono ?_);rintro e w' ⟨rfl,⟨nd,rfl⟩⟩;exact oQ)|(go_at_call 60;(with_reducible refine(ba.calls ((al l0 b1).f1) 2 1000 false _ A6.out).mono ?_);rintro e w' ⟨rfl,⟨nd,rfl⟩⟩;exact oQ));try go_wp2_with (first|(go_at_call 63;(with_reducible refine(aI.calls k1 ((al l0 b1).f0) true _ A4.out).mono ?_);rintro e w' ⟨rfl,⟨nd,rfl⟩⟩;have b4:(0≤(b1:Int))=True:=oT;have b5:(b1<(l0.length:Int))=True:=oT;obtain⟨b3,b6,b8,b9⟩:=dd b7.out b1 oa oa;obtain rfl:b2=b3:=(by injection b6))|(go_at_call 60;(with_reducible refine(ba.calls ((al l0 b1).f1) 2 1000 false _ A6.out).mono ?_);rintro e w' ⟨rfl,⟨nd,rfl⟩⟩)))
    go_ret
    exact⟨oS,oD⟩
   replace H:=yJ H;rcases H with⟨bY,H⟩|⟨bY,H⟩;rotate_left
   ·have H':=ae.mk H;clear H;have bT:(0≤(b1:Int))=True:=oT;have bU:(b1<(l0.length:Int))=True:=oT;obtain⟨b2,bO,bP,bQ⟩:=dd b7.out b1 oa oa
    cases bO
    go_wp2_with (first|(go_at_call 63;(with_reducible refine(aI.calls k1 ((al l0 b1).f0) true _ A4.out).mono ?_);rintro e w' ⟨rfl,⟨nd,rfl⟩⟩;have b4:(0≤(b1:Int))=True:=oT;have b5:(b1<(l0.length:Int))=True:=oT;obtain⟨b3,b6,b8,b9⟩:=dd b7.out b1 oa oa;obtain rfl:b2=b3:=(by injection b6))|(go_at_call 60;(with_reducible refine(ba.calls ((al l0 b1).f1) 2 1000 true _ A6.out).mono ?_);rintro e w' ⟨rfl,⟨nd,rfl⟩⟩))
    try(have b4:0≤(b1:Int):=oa;have b5:b1<(l0.length:Int):=oa;obtain⟨b3,b6,b8,b9⟩:=dd b7.out b1 b4 b5;obtain rfl:b2=b3:=(by injection b6);replace b4:=eq_true b4;replace b5:=eq_true b5)
    repeat(go_quiet (first|(go_at_call 63;(with_reducible refine(aI.calls k1 ((al l0 b1).f0) true _ A4.out).mono ?_);rintro e w' ⟨rfl,⟨nd,rfl⟩⟩;exact oQ)|(go_at_call 60;(with_reducible refine(ba.calls ((al l0 b1).f1) 2 1000 true _ A6.out).mono ?_);rintro e w' ⟨rfl,⟨nd,rfl⟩⟩;exact oQ));try go_wp2_with (first|(go_at_call 63;(with_reducible refine(aI.calls k1 ((al l0 b1).f0) true _ A4.out).mono ?_);rintro e w' ⟨rfl,⟨nd,rfl⟩⟩;have b4:(0≤(b1:Int))=True:=oT;have b5:(b1<(l0.length:Int))=True:=oT;obtain⟨b3,b6,b8,b9⟩:=dd b7.out b1 oa oa;obtain rfl:b2=b3:=(by injection b6))|(go_at_call 60;(with_reducible refine(ba.calls ((al l0 b1).f1) 2 1000 true _ A6.out).mono ?_);rintro e w' ⟨rfl,⟨nd,rfl⟩⟩)))
    go_roundg k1
    case measure=>have:=bV.out;omega
    case rel=>exact⟨(wrap64 (b1+1)),oS,H',⟨by have:=bV.out;omega⟩,oD⟩
   obtain⟨bB,bR⟩:∃j_:Int,(wrap64 (b1-1))=j_:=⟨_,rfl⟩
   replace H:(if 0≤(bB)then(if(bB)<(l0.length:Int)then(if((Op.bytesLess (((al l0 (bB)).f0).toList) (((al l0 b1).f0).toList))=true)then(ef.l0 k1 l0 (wrap64 (b1+1)))else(some false))else(none))else(none))=some r:=by first|(rw[bR]at H;exact H)|(simp only[bR]at H⊢;exact H)
   (try rw[bR]at A4)
   (try rw[bR]at A6)
   have bZ:(IntKind.i64.wrap (b1-1))=bB:=(kR _).trans bR;obtain⟨d1,H⟩:=cO H;obtain⟨d2,H⟩:=cO H
   by_cases bS:((Op.bytesLess (((al l0 (bB)).f0).toList) (((al l0 b1).f0).toList))=true)
   rotate_left
   ·rw[if_neg bS]at H
    have bW:(Op.bytesLess (((al l0 (bB)).f0).toList) (((al l0 b1).f0).toList))=false:=by simpa using bS
    clear bS;obtain rfl:=Option.some.inj H;have bT:(0≤(b1:Int))=True:=oT;have bU:(b1<(l0.length:Int))=True:=oT;obtain⟨b2,bO,bP,bQ⟩:=dd b7.out b1 oa oa
    cases bO
    go_wp2_with (first|(go_at_call 63;(with_reducible refine(aI.calls k1 ((al l0 b1).f0) true _ A4.out).mono ?_);rintro e w' ⟨rfl,⟨nd,rfl⟩⟩;have b4:(0≤(b1:Int))=True:=oT;have b5:(b1<(l0.length:Int))=True:=oT;obtain⟨b3,b6,b8,b9⟩:=dd b7.out b1 oa oa;obtain rfl:b2=b3:=(by injection b6))|(go_at_call 60;(with_reducible refine(ba.calls ((al l0 b1).f1) 2 1000 true _ A6.out).mono ?_);rintro e w' ⟨rfl,⟨nd,rfl⟩⟩;have bE:(0≤((bB):Int))=True:=oT;have bF:((bB)<(l0.length:Int))=True:=oT;obtain⟨bC,bG,bK,bL⟩:=dd b7.out (bB) oa oa;obtain rfl:b2=bC:=(by injection bG);have bH:(0≤(b1:Int))=True:=oT;have bI:(b1<(l0.length:Int))=True:=oT;obtain⟨bD,bJ,bM,bN⟩:=dd b7.out b1 oa oa;obtain rfl:b2=bD:=(by injection bJ)))
    try(have b4:0≤(b1:Int):=oa;have b5:b1<(l0.length:Int):=oa;obtain⟨b3,b6,b8,b9⟩:=dd b7.out b1 b4 b5;obtain rfl:b2=b3:=(by injection b6);replace b4:=eq_true b4;replace b5:=eq_true b5)
    try(have bE:0≤((bB):Int):=oa;have bF:(bB)<(l0.length:Int):=oa;obtain⟨bC,bG,bK,bL⟩:=dd b7.out (bB) bE bF;obtain rfl:b2=bC:=(by injection bG);replace bE:=eq_true bE;replace bF:=eq_true bF;have bH:0≤(b1:Int):=oa;have bI:b1<(l0.length:Int):=oa;obtain⟨bD,bJ,bM,bN⟩:=dd b7.out b1 bH bI;obtain rfl:b2=bD:=(by injection bJ);replace bH:=eq_true bH;replace bI:=eq_true bI)
    repeat(go_quiet (first|(go_at_call 63;(with_reducible refine(aI.calls k1 ((al l0 b1).f0) true _ A4.out).mono ?_);rintro e w' ⟨rfl,⟨nd,rfl⟩⟩;exact oQ)|(go_at_call 60;(with_reducible refine(ba.calls ((al l0 b1).f1) 2 1000 true _ A6.out).mono ?_);rintro e w' ⟨rfl,⟨nd,rfl⟩⟩;exact oQ));try go_wp2_with (first|(go_at_call 63;(with_reducible refine(aI.calls k1 ((al l0 b1).f0) true _ A4.out).mono ?_);rintro e w' ⟨rfl,⟨nd,rfl⟩⟩;have b4:(0≤(b1:Int))=True:=oT;have b5:(b1<(l0.length:Int))=True:=oT;obtain⟨b3,b6,b8,b9⟩:=dd b7.out b1 oa oa;obtain rfl:b2=b3:=(by injection b6))|(go_at_call 60;(with_reducible refine(ba.calls ((al l0 b1).f1) 2 1000 true _ A6.out).mono ?_);rintro e w' ⟨rfl,⟨nd,rfl⟩⟩;have bE:(0≤((bB):Int))=True:=oT;have bF:((bB)<(l0.length:Int))=True:=oT;obtain⟨bC,bG,bK,bL⟩:=dd b7.out (bB) oa oa;obtain rfl:b2=bC:=(by injection bG);have bH:(0≤(b1:Int))=True:=oT;have bI:(b1<(l0.length:Int))=True:=oT;obtain⟨bD,bJ,bM,bN⟩:=dd b7.out b1 oa oa;obtain rfl:b2=bD:=(by injection bJ))))
    go_ret
    exact⟨by first|rfl|(simp;done)|(simp only[←bR]<;>(first|rfl|simp))|(simp[*];done),oD⟩
   rw[if_pos bS]at H;have bW:(Op.bytesLess (((al l0 (bB)).f0).toList) (((al l0 b1).f0).toList))=true:=bS;clear bS;have H':=ae.mk H;clear H;have bT:(0≤(b1:Int))=True:=oT;have bU:(b1<(l0.length:Int))=True:=oT;obtain⟨b2,bO,bP,bQ⟩:=dd b7.out b1 oa oa
   cases bO
   go_wp2_with (first|(go_at_call 63;(with_reducible refine(aI.calls k1 ((al l0 b1).f0) true _ A4.out).mono ?_);rintro e w' ⟨rfl,⟨nd,rfl⟩⟩;have b4:(0≤(b1:Int))=True:=oT;have b5:(b1<(l0.length:Int))=True:=oT;obtain⟨b3,b6,b8,b9⟩:=dd b7.out b1 oa oa;obtain rfl:b2=b3:=(by injection b6))|(go_at_call 60;(with_reducible refine(ba.calls ((al l0 b1).f1) 2 1000 true _ A6.out).mono ?_);rintro e w' ⟨rfl,⟨nd,rfl⟩⟩;have bE:(0≤((bB):Int))=True:=oT;have bF:((bB)<(l0.length:Int))=True:=oT;obtain⟨bC,bG,bK,bL⟩:=dd b7.out (bB) oa oa;obtain rfl:b2=bC:=(by injection bG);have bH:(0≤(b1:Int))=True:=oT;have bI:(b1<(l0.length:Int))=True:=oT;obtain⟨bD,bJ,bM,bN⟩:=dd b7.out b1 oa oa;obtain rfl:b2=bD:=(by injection bJ)))
   try(have b4:0≤(b1:Int):=oa;have b5:b1<(l0.length:Int):=oa;obtain⟨b3,b6,b8,b9⟩:=dd b7.out b1 b4 b5;obtain rfl:b2=b3:=(by injection b6);replace b4:=eq_true b4;replace b5:=eq_true b5)
   try(have bE:0≤((bB):Int):=oa;have bF:(bB)<(l0.length:Int):=oa;obtain⟨bC,bG,bK,bL⟩:=dd b7.out (bB) bE bF;obtain rfl:b2=bC:=(by injection bG);replace bE:=eq_true bE;replace bF:=eq_true bF;have bH:0≤(b1:Int):=oa;have bI:b1<(l0.length:Int):=oa;obtain⟨bD,bJ,bM,bN⟩:=dd b7.out b1 bH bI;obtain rfl:b2=bD:=(by injection bJ);replace bH:=eq_true bH;replace bI:=eq_true bI)
   repeat(go_quiet (first|(go_at_call 63;(with_reducible refine(aI.calls k1 ((al l0 b1).f0) true _ A4.out).mono ?_);rintro e w' ⟨rfl,⟨nd,rfl⟩⟩;exact oQ)|(go_at_call 60;(with_reducible refine(ba.calls ((al l0 b1).f1) 2 1000 true _ A6.out).mono ?_);rintro e w' ⟨rfl,⟨nd,rfl⟩⟩;exact oQ));try go_wp2_with (first|(go_at_call 63;(with_reducible refine(aI.calls k1 ((al l0 b1).f0) true _ A4.out).mono ?_);rintro e w' ⟨rfl,⟨nd,rfl⟩⟩;have b4:(0≤(b1:Int))=True:=oT;have b5:(b1<(l0.length:Int))=True:=oT;obtain⟨b3,b6,b8,b9⟩:=dd b7.out b1 oa oa;obtain rfl:b2=b3:=(by injection b6))|(go_at_call 60;(with_reducible refine(ba.calls ((al l0 b1).f1) 2 1000 true _ A6.out).mono ?_);rintro e w' ⟨rfl,⟨nd,rfl⟩⟩;have bE:(0≤((bB):Int))=True:=oT;have bF:((bB)<(l0.length:Int))=True:=oT;obtain⟨bC,bG,bK,bL⟩:=dd b7.out (bB) oa oa;obtain rfl:b2=bC:=(by injection bG);have bH:(0≤(b1:Int))=True:=oT;have bI:(b1<(l0.length:Int))=True:=oT;obtain⟨bD,bJ,bM,bN⟩:=dd b7.out b1 oa oa;obtain rfl:b2=bD:=(by injection bJ))))
   go_roundg k1
   case measure=>have:=bV.out;omega
   case rel=>exact⟨(wrap64 (b1+1)),oS,H',⟨by have:=bV.out;omega⟩,oD⟩

def dr.l0:Nat→List (ct)→Int→Option (Bool)
 |0,_,_=>none
 |k+1,x0,x3=>if x3<(x0.length:Int)then(if 0≤x3 then((aI.f k ((an x0 x3).f0)).bind fun b1=>(if b1=true then((ba.f (((an x0 x3).f1).size:Int) 1 16).bind fun b2=>(if b2=true then(if x3>0 then(if 0≤(wrap64 (x3-1))then(if(wrap64 (x3-1))<(x0.length:Int)then(if((Op.bytesLess (((an x0 (wrap64 (x3-1))).f0).toList) (((an x0 x3).f0).toList))=true)then(dr.l0 k x0 (wrap64 (x3+1)))else(some false))else(none))else(none))else(dr.l0 k x0 (wrap64 (x3+1))))else(some false)))else(some false)))else(none))else(some (decide ((x0.length:Int)≤4)))
def dr.f (k:Nat) (l0:List (ct)):Option (Bool):=dr.l0 k l0 0
theorem dr.calls (k:Nat) (A0:Option Addr) (c0:Nat) (l0:List (ct)) (r:Bool) (w:World) (hr0:Kd.C fa w A0 l0.length l0) (hc0:l0.length≤c0) (h:dr.f k l0=some r):
  Calls Tryz.prog 140 #[.slice A0 l0.length c0] w fun e w'=>e= .returned (.bool r)∧fv w w':=by
 have b7:=ae.mk hr0;have d6:=ae.mk hc0;clear hr0 hc0;unfold dr.f at h;have H:=h;clear h;have H':=ae.mk H;clear H
 go_enter func140,ntmps140
 go_wp2
 repeat(go_quiet (fail);try go_wp2)
 go_loopg [3] k (fun kq v3 w'=>∃(b1:Int),v3= .int .i64 b1∧ae (dr.l0 kq l0 b1=some r)∧ae (kq≤k)∧fv w w')
 case atStart=>exact⟨(0),oS,H',⟨Nat.le_refl _⟩,oD⟩
 case round=>
  clear H';obtain⟨b1,rfl,HA,bV,⟨m1,rfl⟩⟩:=hrel
  cases gk with
  |zero=>exact absurd HA.out (by simp[dr.l0])
  |succ k1=>
   have H:=HA.out;clear HA;simp only[dr.l0]at H;replace H:=iM H;rcases H with⟨bX,H⟩|⟨bX,H⟩;rotate_left
   ·obtain rfl:=Option.some.inj H
    go_wp2
    repeat(go_quiet (fail);try go_wp2)
    go_ret
    exact⟨oS,oD⟩
   obtain⟨d3,H⟩:=cO H;replace H:=bA H;obtain⟨d4,A4,H⟩:=H
   try dsimp only at H
   replace H:=kN H;rcases H with⟨rfl,H⟩|⟨rfl,H⟩;rotate_left
   ·obtain rfl:=Option.some.inj H;have bT:(0≤(b1:Int))=True:=oT;have bU:(b1<(l0.length:Int))=True:=oT;obtain⟨b2,bO,bP,bQ⟩:=cZ b7.out b1 oa oa
    cases bO
    go_wp2_with (first|(go_at_call 63;(with_reducible refine(aI.calls k1 ((an l0 b1).f0) false _ A4.out).mono ?_);rintro e w' ⟨rfl,⟨nd,rfl⟩⟩))
    repeat(go_quiet (first|(go_at_call 63;(with_reducible refine(aI.calls k1 ((an l0 b1).f0) false _ A4.out).mono ?_);rintro e w' ⟨rfl,⟨nd,rfl⟩⟩;exact oQ));try go_wp2_with (first|(go_at_call 63;(with_reducible refine(aI.calls k1 ((an l0 b1).f0) false _ A4.out).mono ?_);rintro e w' ⟨rfl,⟨nd,rfl⟩⟩)))
    go_ret
    exact⟨oS,oD⟩
   replace H:=bA H;obtain⟨d5,A6,H⟩:=H
   try dsimp only at H
   replace H:=kN H;rcases H with⟨rfl,H⟩|⟨rfl,H⟩;rotate_left
   ·obtain rfl:=Option.some.inj H;have bT:(0≤(b1:Int))=True:=oT;have bU:(b1<(l0.length:Int))=True:=oT;obtain⟨b2,bO,bP,bQ⟩:=cZ b7.out b1 oa oa
    cases bO
    go_wp2_with (first|(go_at_call 63;(with_reducible refine(aI.calls k1 ((an l0 b1).f0) true _ A4.out).mono ?_);rintro e w' ⟨rfl,⟨nd,rfl⟩⟩;have b4:(0≤(b1:Int))=True:=oT;have b5:(b1<(l0.length:Int))=True:=oT;obtain⟨b3,b6,b8,b9⟩:=cZ b7.out b1 oa oa;obtain rfl:b2=b3:=(by injection b6))|(go_at_call 60;(with_reducible refine(ba.calls (((an l0 b1).f1).size:Int) 1 16 false _ A6.out).mono ?_);rintro e w' ⟨rfl,⟨nd,rfl⟩⟩))
    try(have b4:0≤(b1:Int):=oa;have b5:b1<(l0.length:Int):=oa;obtain⟨b3,b6,b8,b9⟩:=cZ b7.out b1 b4 b5;obtain rfl:b2=b3:=(by injection b6);replace b4:=eq_true b4;replace b5:=eq_true b5)
    repeat(go_quiet (first|(go_at_call 63;(with_reducible refine(aI.calls k1 ((an l0 b1).f0) true _ A4.out).mono ?_);rintro e w' ⟨rfl,⟨nd,rfl⟩⟩;exact oQ)|(go_at_call 60;(with_reducible refine(ba.calls (((an l0 b1).f1).size:Int) 1 16 false _ A6.out).mono ?_);rintro e w' ⟨rfl,⟨nd,rfl⟩⟩;exact oQ));try go_wp2_with (first|(go_at_call 63;(with_reducible refine(aI.calls k1 ((an l0 b1).f0) true _ A4.out).mono ?_);rintro e w' ⟨rfl,⟨nd,rfl⟩⟩;have b4:(0≤(b1:Int))=True:=oT;have b5:(b1<(l0.length:Int))=True:=oT;obtain⟨b3,b6,b8,b9⟩:=cZ b7.out b1 oa oa;obtain rfl:b2=b3:=(by injection b6))|(go_at_call 60;(with_reducible refine(ba.calls (((an l0 b1).f1).size:Int) 1 16 false _ A6.out).mono ?_);rintro e w' ⟨rfl,⟨nd,rfl⟩⟩)))
    go_ret
    exact⟨oS,oD⟩
   replace H:=yJ H;rcases H with⟨bY,H⟩|⟨bY,H⟩;rotate_left
   ·have H':=ae.mk H;clear H;have bT:(0≤(b1:Int))=True:=oT;have bU:(b1<(l0.length:Int))=True:=oT;obtain⟨b2,bO,bP,bQ⟩:=cZ b7.out b1 oa oa
    cases bO
    go_wp2_with (first|(go_at_call 63;(with_reducible refine(aI.calls k1 ((an l0 b1).f0) true _ A4.out).mono ?_);rintro e w' ⟨rfl,⟨nd,rfl⟩⟩;have b4:(0≤(b1:Int))=True:=oT;have b5:(b1<(l0.length:Int))=True:=oT;obtain⟨b3,b6,b8,b9⟩:=cZ b7.out b1 oa oa;obtain rfl:b2=b3:=(by injection b6))|(go_at_call 60;(with_reducible refine(ba.calls (((an l0 b1).f1).size:Int) 1 16 true _ A6.out).mono ?_);rintro e w' ⟨rfl,⟨nd,rfl⟩⟩))
    try(have b4:0≤(b1:Int):=oa;have b5:b1<(l0.length:Int):=oa;obtain⟨b3,b6,b8,b9⟩:=cZ b7.out b1 b4 b5;obtain rfl:b2=b3:=(by injection b6);replace b4:=eq_true b4;replace b5:=eq_true b5)
    repeat(go_quiet (first|(go_at_call 63;(with_reducible refine(aI.calls k1 ((an l0 b1).f0) true _ A4.out).mono ?_);rintro e w' ⟨rfl,⟨nd,rfl⟩⟩;exact oQ)|(go_at_call 60;(with_reducible refine(ba.calls (((an l0 b1).f1).size:Int) 1 16 true _ A6.out).mono ?_);rintro e w' ⟨rfl,⟨nd,rfl⟩⟩;exact oQ));try go_wp2_with (first|(go_at_call 63;(with_reducible refine(aI.calls k1 ((an l0 b1).f0) true _ A4.out).mono ?_);rintro e w' ⟨rfl,⟨nd,rfl⟩⟩;have b4:(0≤(b1:Int))=True:=oT;have b5:(b1<(l0.length:Int))=True:=oT;obtain⟨b3,b6,b8,b9⟩:=cZ b7.out b1 oa oa;obtain rfl:b2=b3:=(by injection b6))|(go_at_call 60;(with_reducible refine(ba.calls (((an l0 b1).f1).size:Int) 1 16 true _ A6.out).mono ?_);rintro e w' ⟨rfl,⟨nd,rfl⟩⟩)))
    go_roundg k1
    case measure=>have:=bV.out;omega
    case rel=>exact⟨(wrap64 (b1+1)),oS,H',⟨by have:=bV.out;omega⟩,oD⟩
   obtain⟨bB,bR⟩:∃j_:Int,(wrap64 (b1-1))=j_:=⟨_,rfl⟩
   replace H:(if 0≤(bB)then(if(bB)<(l0.length:Int)then(if((Op.bytesLess (((an l0 (bB)).f0).toList) (((an l0 b1).f0).toList))=true)then(dr.l0 k1 l0 (wrap64 (b1+1)))else(some false))else(none))else(none))=some r:=by first|(rw[bR]at H;exact H)|(simp only[bR]at H⊢;exact H)
   (try rw[bR]at A4)
   (try rw[bR]at A6)
   have bZ:(IntKind.i64.wrap (b1-1))=bB:=(kR _).trans bR;obtain⟨d1,H⟩:=cO H;obtain⟨d2,H⟩:=cO H
   by_cases bS:((Op.bytesLess (((an l0 (bB)).f0).toList) (((an l0 b1).f0).toList))=true)
   rotate_left
   ·rw[if_neg bS]at H
    have bW:(Op.bytesLess (((an l0 (bB)).f0).toList) (((an l0 b1).f0).toList))=false:=by simpa using bS
    clear bS;obtain rfl:=Option.some.inj H;have bT:(0≤(b1:Int))=True:=oT;have bU:(b1<(l0.length:Int))=True:=oT;obtain⟨b2,bO,bP,bQ⟩:=cZ b7.out b1 oa oa
    cases bO
    go_wp2_with (first|(go_at_call 63;(with_reducible refine(aI.calls k1 ((an l0 b1).f0) true _ A4.out).mono ?_);rintro e w' ⟨rfl,⟨nd,rfl⟩⟩;have b4:(0≤(b1:Int))=True:=oT;have b5:(b1<(l0.length:Int))=True:=oT;obtain⟨b3,b6,b8,b9⟩:=cZ b7.out b1 oa oa;obtain rfl:b2=b3:=(by injection b6))|(go_at_call 60;(with_reducible refine(ba.calls (((an l0 b1).f1).size:Int) 1 16 true _ A6.out).mono ?_);rintro e w' ⟨rfl,⟨nd,rfl⟩⟩;have bE:(0≤((bB):Int))=True:=oT;have bF:((bB)<(l0.length:Int))=True:=oT;obtain⟨bC,bG,bK,bL⟩:=cZ b7.out (bB) oa oa;obtain rfl:b2=bC:=(by injection bG);have bH:(0≤(b1:Int))=True:=oT;have bI:(b1<(l0.length:Int))=True:=oT;obtain⟨bD,bJ,bM,bN⟩:=cZ b7.out b1 oa oa;obtain rfl:b2=bD:=(by injection bJ)))
    try(have b4:0≤(b1:Int):=oa;have b5:b1<(l0.length:Int):=oa;obtain⟨b3,b6,b8,b9⟩:=cZ b7.out b1 b4 b5;obtain rfl:b2=b3:=(by injection b6);replace b4:=eq_true b4;replace b5:=eq_true b5)
    try(have bE:0≤((bB):Int):=oa;have bF:(bB)<(l0.length:Int):=oa;obtain⟨bC,bG,bK,bL⟩:=cZ b7.out (bB) bE bF;obtain rfl:b2=bC:=(by injection bG);replace bE:=eq_true bE;replace bF:=eq_true bF;have bH:0≤(b1:Int):=oa;have bI:b1<(l0.length:Int):=oa;obtain⟨bD,bJ,bM,bN⟩:=cZ b7.out b1 bH bI;obtain rfl:b2=bD:=(by injection bJ);replace bH:=eq_true bH;replace bI:=eq_true bI)
    repeat(go_quiet (first|(go_at_call 63;(with_reducible refine(aI.calls k1 ((an l0 b1).f0) true _ A4.out).mono ?_);rintro e w' ⟨rfl,⟨nd,rfl⟩⟩;exact oQ)|(go_at_call 60;(with_reducible refine(ba.calls (((an l0 b1).f1).size:Int) 1 16 true _ A6.out).mono ?_);rintro e w' ⟨rfl,⟨nd,rfl⟩⟩;exact oQ));try go_wp2_with (first|(go_at_call 63;(with_reducible refine(aI.calls k1 ((an l0 b1).f0) true _ A4.out).mono ?_);rintro e w' ⟨rfl,⟨nd,rfl⟩⟩;have b4:(0≤(b1:Int))=True:=oT;have b5:(b1<(l0.length:Int))=True:=oT;obtain⟨b3,b6,b8,b9⟩:=cZ b7.out b1 oa oa;obtain rfl:b2=b3:=(by injection b6))|(go_at_call 60;(with_reducible refine(ba.calls (((an l0 b1).f1).size:Int) 1 16 true _ A6.out).mono ?_);rintro e w' ⟨rfl,⟨nd,rfl⟩⟩;have bE:(0≤((bB):Int))=True:=oT;have bF:((bB)<(l0.length:Int))=True:=oT;obtain⟨bC,bG,bK,bL⟩:=cZ b7.out (bB) oa oa;obtain rfl:b2=bC:=(by injection bG);have bH:(0≤(b1:Int))=True:=oT;have bI:(b1<(l0.length:Int))=True:=oT;obtain⟨bD,bJ,bM,bN⟩:=cZ b7.out b1 oa oa;obtain rfl:b2=bD:=(by injection bJ))))
    go_ret
    exact⟨by first|rfl|(simp;done)|(simp only[←bR]<;>(first|rfl|simp))|(simp[*];done),oD⟩
   rw[if_pos bS]at H;have bW:(Op.bytesLess (((an l0 (bB)).f0).toList) (((an l0 b1).f0).toList))=true:=bS;clear bS;have H':=ae.mk H;clear H;have bT:(0≤(b1:Int))=True:=oT;have bU:(b1<(l0.length:Int))=True:=oT;obtain⟨b2,bO,bP,bQ⟩:=cZ b7.out b1 oa oa
   cases bO
   go_wp2_with (first|(go_at_call 63;(with_reducible refine(aI.calls k1 ((an l0 b1).f0) true _ A4.out).mono ?_);rintro e w' ⟨rfl,⟨nd,rfl⟩⟩;have b4:(0≤(b1:Int))=True:=oT;have b5:(b1<(l0.length:Int))=True:=oT;obtain⟨b3,b6,b8,b9⟩:=cZ b7.out b1 oa oa;obtain rfl:b2=b3:=(by injection b6))|(go_at_call 60;(with_reducible refine(ba.calls (((an l0 b1).f1).size:Int) 1 16 true _ A6.out).mono ?_);rintro e w' ⟨rfl,⟨nd,rfl⟩⟩;have bE:(0≤((bB):Int))=True:=oT;have bF:((bB)<(l0.length:Int))=True:=oT;obtain⟨bC,bG,bK,bL⟩:=cZ b7.out (bB) oa oa;obtain rfl:b2=bC:=(by injection bG);have bH:(0≤(b1:Int))=True:=oT;have bI:(b1<(l0.length:Int))=True:=oT;obtain⟨bD,bJ,bM,bN⟩:=cZ b7.out b1 oa oa;obtain rfl:b2=bD:=(by injection bJ)))
   try(have b4:0≤(b1:Int):=oa;have b5:b1<(l0.length:Int):=oa;obtain⟨b3,b6,b8,b9⟩:=cZ b7.out b1 b4 b5;obtain rfl:b2=b3:=(by injection b6);replace b4:=eq_true b4;replace b5:=eq_true b5)
   try(have bE:0≤((bB):Int):=oa;have bF:(bB)<(l0.length:Int):=oa;obtain⟨bC,bG,bK,bL⟩:=cZ b7.out (bB) bE bF;obtain rfl:b2=bC:=(by injection bG);replace bE:=eq_true bE;replace bF:=eq_true bF;have bH:0≤(b1:Int):=oa;have bI:b1<(l0.length:Int):=oa;obtain⟨bD,bJ,bM,bN⟩:=cZ b7.out b1 bH bI;obtain rfl:b2=bD:=(by injection bJ);replace bH:=eq_true bH;replace bI:=eq_true bI)
   repeat(go_quiet (first|(go_at_call 63;(with_reducible refine(aI.calls k1 ((an l0 b1).f0) true _ A4.out).mono ?_);rintro e w' ⟨rfl,⟨nd,rfl⟩⟩;exact oQ)|(go_at_call 60;(with_reducible refine(ba.calls (((an l0 b1).f1).size:Int) 1 16 true _ A6.out).mono ?_);rintro e w' ⟨rfl,⟨nd,rfl⟩⟩;exact oQ));try go_wp2_with (first|(go_at_call 63;(with_reducible refine(aI.calls k1 ((an l0 b1).f0) true _ A4.out).mono ?_);rintro e w' ⟨rfl,⟨nd,rfl⟩⟩;have b4:(0≤(b1:Int))=True:=oT;have b5:(b1<(l0.length:Int))=True:=oT;obtain⟨b3,b6,b8,b9⟩:=cZ b7.out b1 oa oa;obtain rfl:b2=b3:=(by injection b6))|(go_at_call 60;(with_reducible refine(ba.calls (((an l0 b1).f1).size:Int) 1 16 true _ A6.out).mono ?_);rintro e w' ⟨rfl,⟨nd,rfl⟩⟩;have bE:(0≤((bB):Int))=True:=oT;have bF:((bB)<(l0.length:Int))=True:=oT;obtain⟨bC,bG,bK,bL⟩:=cZ b7.out (bB) oa oa;obtain rfl:b2=bC:=(by injection bG);have bH:(0≤(b1:Int))=True:=oT;have bI:(b1<(l0.length:Int))=True:=oT;obtain⟨bD,bJ,bM,bN⟩:=cZ b7.out b1 oa oa;obtain rfl:b2=bD:=(by injection bJ))))
   go_roundg k1
   case measure=>have:=bV.out;omega
   case rel=>exact⟨(wrap64 (b1+1)),oS,H',⟨by have:=bV.out;omega⟩,oD⟩

/-- An element of a row of inodes, lent: its cells, its rows, and the row without it. -/
structure nX (w0 W:World) (ok:Nat→Prop) (g n co:Nat) (xs:List bm) (i:Nat) (ku:Nat→Prop) (v3 v4 v5:Value) (y:bm):Prop where
 lt:i<n
 h:Kd.H fN 58 W w0.heap.size ok (.slice (some ⟨g,0,none⟩) n co) xs (i:Int) ku [.int .i64 y.f0,.int .i64 y.f1,.int .i64 y.f2,v3,v4,v5]
 r3:(Kd.int .u8).R 5 W w0.heap.size ku v3 y.f3
 r4:jc.R 75 W w0.heap.size ku v4 y.f4
 r5:fa.R 82 W w0.heap.size ku v5 y.f5
 fr:∀j,W.frozen? ⟨g,i*6+j,none⟩=false
 hg:∀k,ku k→ok k∧k≠g
section
variable {w0 W W':World}{ok ku:Nat→Prop}{g n co i:Nat}{xs:List bm}{v3 v4 v5:Value}{y:bm}
theorem nX.start (hS:Kd.S fN 58 W w0.heap.size ok (.slice (some ⟨g,0,none⟩) n co) xs) (hi:i<n):∃ku v3 v4 v5,nX w0 W ok g n co xs i ku v3 v4 v5 (af xs (i:Int)):=by
 obtain⟨ku,c,hcl,hM,hcc,hfr,ado,hH⟩:=Kd.wa hS z58 (i:Int) (by omega) (by omega);obtain⟨v3,v4,v5,rfl,g3,g4,g5⟩:=qc hM;exact⟨ku,v3,v4,v5,hi,hH,g3,g4,g5,hfr,ado⟩
theorem nX.cells (m:nX w0 W ok g n co xs i ku v3 v4 v5 y):W.cell? ⟨g,i*6,none⟩=some (.int .i64 y.f0)∧W.cell? ⟨g,i*6+1,none⟩=some (.int .i64 y.f1)∧W.cell? ⟨g,i*6+2,none⟩=some (.int .i64 y.f2)∧W.cell? ⟨g,i*6+3,none⟩=some v3∧W.cell? ⟨g,i*6+4,none⟩=some v4∧W.cell? ⟨g,i*6+5,none⟩=some v5:=by
 obtain⟨_,_,_,_,_,hcc,_⟩:=Kd.acE m.h (by omega) (by have:=m.lt;omega);exact⟨hcc 0 _ rfl,hcc 1 _ rfl,hcc 2 _ rfl,hcc 3 _ rfl,hcc 4 _ rfl,hcc 5 _ rfl⟩
theorem nX.typed (m:nX w0 W ok g n co xs i ku v3 v4 v5 y):∃cells,W.heap[g]? =some (.cells cells 58 (0,0)):=by
 obtain⟨_,f,hR⟩:=m.h;exact Kd.fj hR g (by simp[Value.ownBlock])
theorem nX.yK (m:nX w0 W ok g n co xs i ku v3 v4 v5 y):ok g:=by
 obtain⟨_,f,hR⟩:=m.h;exact(hR.1 g (by simp[Value.ownBlock])).1
theorem nX.base (m:nX w0 W ok g n co xs i ku v3 v4 v5 y):w0.heap.size≤g:=by
 obtain⟨_,f,hR⟩:=m.h;exact Kd.cQ hR g (by simp[Value.ownBlock])
theorem nX.back (m:nX w0 W ok g n co xs i ku v3 v4 v5 y):Kd.S fN 58 W w0.heap.size ok (.slice (some ⟨g,0,none⟩) n co) (xs.set i y):=by
 have:=Kd.aaF m.h (ou W w0.heap.size ku y m.r3 m.r4 m.r5) (fun _ hk=>hk)
 simpa using this
theorem nX.aaV (m:nX w0 W ok g n co xs i ku v3 v4 v5 y) (j:Nat) (u:Value):∀q,(W.setCell ⟨g,i*6+j,none⟩ u).frozen? ⟨g,i*6+q,none⟩=false:=by
 intro q;obtain⟨cs,hc⟩:=m.typed;exact aC (pD hc _ _) _
theorem nX.set0 (m:nX w0 W ok g n co xs i ku v3 v4 v5 y) (a:Int):nX w0 (W.setCell ⟨g,i*6,none⟩ (.int .i64 a)) ok g n co xs i ku v3 v4 v5 ⟨a,y.f1,y.f2,y.f3,y.f4,y.f5⟩:=
 ⟨m.lt,(Kd.xl m.h (seg:=[.int .i64 a]) (j:=0) (by omega) (by have:=m.lt;omega) (show 1≤6 by decide) (by simp;rfl)).1,Kd.kE m.r3 (fun k hk=>(m.hg k hk).2) _,Kd.kE m.r4 (fun k hk=>(m.hg k hk).2) _,Kd.kE m.r5 (fun k hk=>(m.hg k hk).2) _,m.aaV 0 _,m.hg⟩
theorem nX.set1 (m:nX w0 W ok g n co xs i ku v3 v4 v5 y) (a:Int):nX w0 (W.setCell ⟨g,i*6+1,none⟩ (.int .i64 a)) ok g n co xs i ku v3 v4 v5 ⟨y.f0,a,y.f2,y.f3,y.f4,y.f5⟩:=
 ⟨m.lt,(Kd.xl m.h (seg:=[.int .i64 a]) (j:=1) (by omega) (by have:=m.lt;omega) (show 2≤6 by decide) (by simp;rfl)).1,Kd.kE m.r3 (fun k hk=>(m.hg k hk).2) _,Kd.kE m.r4 (fun k hk=>(m.hg k hk).2) _,Kd.kE m.r5 (fun k hk=>(m.hg k hk).2) _,m.aaV 1 _,m.hg⟩
theorem nX.set2 (m:nX w0 W ok g n co xs i ku v3 v4 v5 y) (a:Int):nX w0 (W.setCell ⟨g,i*6+2,none⟩ (.int .i64 a)) ok g n co xs i ku v3 v4 v5 ⟨y.f0,y.f1,a,y.f3,y.f4,y.f5⟩:=
 ⟨m.lt,(Kd.xl m.h (seg:=[.int .i64 a]) (j:=2) (by omega) (by have:=m.lt;omega) (show 3≤6 by decide) (by simp;rfl)).1,Kd.kE m.r3 (fun k hk=>(m.hg k hk).2) _,Kd.kE m.r4 (fun k hk=>(m.hg k hk).2) _,Kd.kE m.r5 (fun k hk=>(m.hg k hk).2) _,m.aaV 2 _,m.hg⟩
theorem nX.wi (m:nX w0 W ok g n co xs i ku v3 v4 v5 y) {S:Nat→Prop}(hk:Kept W W' S) (hn:¬S g):∀q,W'.frozen? ⟨g,i*6+q,none⟩=false:=by
 intro q;obtain⟨cs,hc⟩:=m.typed;exact aC (uw hc hk hn) _
theorem nX.adB (m:nX w0 W ok g n co xs i ku v3 v4 v5 y) {l:List Int}(hk:Kept W W' (fun k=>some k=v3.ownBlock)) (hr:(Kd.int .u8).R 5 W' w0.heap.size (fun k=>some k=v3.ownBlock∨W.heap.size≤k) v3 l):nX w0 W' ok g n co xs i ku v3 v4 v5 ⟨y.f0,y.f1,y.f2,l,y.f4,y.f5⟩:=by
 obtain⟨cs,hc⟩:=m.typed;exact⟨m.lt,Kd.wb m.h hk (fun k _ hn hs=>hn (m.r3.1 k hs.symm)),Kd.we rfl hr (fun k e=>m.r3.1 k e),Kd.bn (Kd.pl (Kd.cH m.r4 (Kd.fj m.r3) (by decide)) hk (fun k hk hs=>hk.2 hs)) (fun _ hk=>hk.1),Kd.bn (Kd.pl (Kd.cH m.r5 (Kd.fj m.r3) (by decide)) hk (fun k hk hs=>hk.2 hs)) (fun _ hk=>hk.1),m.wi hk (fun e=>Kd.kz m.r3 hc (by decide) e),m.hg⟩
theorem nX.adC (m:nX w0 W ok g n co xs i ku v3 v4 v5 y) {l:List ey}(hk:Kept W W' (fun k=>some k=v4.ownBlock)) (hr:jc.R 75 W' w0.heap.size (fun k=>some k=v4.ownBlock∨W.heap.size≤k) v4 l):nX w0 W' ok g n co xs i ku v3 v4 v5 ⟨y.f0,y.f1,y.f2,y.f3,l,y.f5⟩:=by
 obtain⟨cs,hc⟩:=m.typed;exact⟨m.lt,Kd.wb m.h hk (fun k _ hn hs=>hn (m.r4.1 k hs.symm)),Kd.bn (Kd.pl (Kd.cH m.r3 (Kd.fj m.r4) (by decide)) hk (fun k hk hs=>hk.2 hs)) (fun _ hk=>hk.1),Kd.we rfl hr (fun k e=>m.r4.1 k e),Kd.bn (Kd.pl (Kd.cH m.r5 (Kd.fj m.r4) (by decide)) hk (fun k hk hs=>hk.2 hs)) (fun _ hk=>hk.1),m.wi hk (fun e=>Kd.kz m.r4 hc (by decide) e),m.hg⟩
theorem nX.adD (m:nX w0 W ok g n co xs i ku v3 v4 v5 y) {l:List ct}(hk:Kept W W' (fun k=>some k=v5.ownBlock)) (hr:fa.R 82 W' w0.heap.size (fun k=>some k=v5.ownBlock∨W.heap.size≤k) v5 l):nX w0 W' ok g n co xs i ku v3 v4 v5 ⟨y.f0,y.f1,y.f2,y.f3,y.f4,l⟩:=by
 obtain⟨cs,hc⟩:=m.typed;exact⟨m.lt,Kd.wb m.h hk (fun k _ hn hs=>hn (m.r5.1 k hs.symm)),Kd.bn (Kd.pl (Kd.cH m.r3 (Kd.fj m.r5) (by decide)) hk (fun k hk hs=>hk.2 hs)) (fun _ hk=>hk.1),Kd.bn (Kd.pl (Kd.cH m.r4 (Kd.fj m.r5) (by decide)) hk (fun k hk hs=>hk.2 hs)) (fun _ hk=>hk.1),Kd.we rfl hr (fun k e=>m.r5.1 k e),m.wi hk (fun e=>Kd.kz m.r5 hc (by decide) e),m.hg⟩
end
def tJ (k:Nat) (x:bm) (a:Int):Option (Int×bm):=
 (db.f k x.f3 (wrap64 (wrap64 (wrap64 (a+1)+1)+1))).bind fun b=>(dg.f k x.f4 b.1).bind fun c=>(cT.f k x.f5 c.1).bind fun d=>some (d.1,⟨a,wrap64 (a+1),wrap64 (wrap64 (a+1)+1),b.2,c.2,d.2⟩)
def qq (k:Nat):List bm→Int→Option (Int×List bm)
 |[],a=>some (a,[])
 |x::l,a=>(tJ k x a).bind fun p=>(qq k l p.1).bind fun q=>some (q.1,p.2::q.2)
def eB.f (k:Nat) (l0:List bm) (a1:Int):Option (Int×List bm):=if(l0.length:Int)≤9223372036854775807 then qq k l0 a1 else none
theorem eB.calls (k:Nat) (kP:Nat→Prop) (iD:Value) (l0:List bm) (a1 r1:Int) (r2:List bm) (w0 w:World) (hB:Below w0.heap.size w0 w) (ho0:Kd.S fN 58 w w0.heap.size kP iD l0) (h:eB.f k l0 a1=some (r1,r2)):
  Calls Tryz.prog 37 #[iD,.int .i64 a1] w fun e w'=>e= .returned (.int .i64 r1)∧Kd.S fN 58 w' w0.heap.size (fun k_=>kP k_∨w.heap.size≤k_) iD r2∧Below w0.heap.size w0 w'∧Kept w w' kP:=by
 unfold eB.f at h
 split at h
 case isFalse=>cases h
 case isTrue hl=>
 obtain⟨A,co,rfl⟩:=Kd.eM ho0;have HO:=am (show Kd.S fN 58 w w0.heap.size (fun k_=>kP k_∨w.heap.size≤k_) (.slice A l0.length co) l0 from Kd.cS ho0 (fun _ hk=> .inl hk));have HB:=ae.mk hB;have HK:=am (Kept.refl w kP);have H':ae (∃rest,qq k (l0.drop 0) a1=some (r1,rest)∧r2=[]++rest):=⟨r2,h,rfl⟩;have HW:=ae.mk hB.size;clear hB ho0 h
 have hl':l0.length≤9223372036854775807:=by omega
 clear hl
 go_enter func37,ntmps37
 go_wp2
 go_loopg [1,5] l0.length (fun gg s1 s5 wr=>∃(kk:Nat) (a:Int) (done:List bm),kk≤l0.length∧l0.length-kk≤gg∧s1= .int .i64 a∧s5= .int .i64 kk∧ae (done.length=kk)∧ae (∃rest,qq k (l0.drop kk) a=some (r1,rest)∧r2=done++rest)∧ae (Kd.S fN 58 wr w0.heap.size (fun k_=>kP k_∨w.heap.size≤k_) (.slice A l0.length co) (done++l0.drop kk))∧ae (Below w0.heap.size w0 wr)∧ae (Kept w wr kP))
 case atStart=>exact⟨0,a1,[],Nat.zero_le _,by omega,rfl,rfl,⟨rfl⟩,H',HO,HB,HK⟩
 case round=>
  clear HO HB HK H';obtain⟨kk,a,done,hkk,hgg,rfl,rfl,HD,HA,HO,HB,HK⟩:=hrel
  by_cases hlt:kk<l0.length
  rotate_left
  ·have hltz:¬(kk:Int)<(l0.length:Int):=by omega
   obtain rfl:kk=l0.length:=by omega
   obtain⟨rest,hm,b2⟩:=HA.out;rw[List.drop_length,qq]at hm;simp only[Option.some.injEq,Prod.mk.injEq]at hm;obtain⟨rfl,rfl⟩:=hm;subst b2;have b3:=HO.out;rw[List.drop_length]at b3;have b4:=ae.mk b3;clear HO b3 HA
   go_wp2
   go_ret
   exact⟨rfl,by simpa using b4.out,HB.out,HK.out⟩
  have hltz:(kk:Int)<(l0.length:Int):=by omega
  have hnn:(0:Int)≤(kk:Int):=by omega
  obtain⟨rest,hm,b2⟩:=HA.out;clear HA
  have hx:af (done++l0.drop kk) (kk:Int)=l0[kk]:=by
   have hd:=HD.out;simp only[af,Int.toNat_natCast,List.getD_eq_getElem?_getD];rw[List.getElem?_append_right (by omega),hd,Nat.sub_self,List.drop_eq_getElem_cons hlt]
   rfl
  rw[List.drop_eq_getElem_cons hlt,qq]at hm;replace hm:=bA hm;obtain⟨⟨a',x'⟩,A1,hm⟩:=hm;replace hm:=bA hm;obtain⟨⟨b1,rest'⟩,A2,hm⟩:=hm;simp only[Option.some.injEq,Prod.mk.injEq]at hm;obtain⟨rfl,rfl⟩:=hm;have A1:=A1.out;unfold tJ at A1;replace A1:=bA A1;obtain⟨⟨k3,l3⟩,B3,A1⟩:=A1;replace A1:=bA A1;obtain⟨⟨k4,l4⟩,B4,A1⟩:=A1;replace A1:=bA A1;obtain⟨⟨k5,l5⟩,B5,A1⟩:=A1;simp only[Option.some.injEq,Prod.mk.injEq]at A1;obtain⟨rfl,rfl⟩:=A1;have b5:=ae.mk b2;clear b2;obtain⟨g,cap,ev,_,_,_⟩:=Kd.v_ HO.out (by have hd:=HD.out;simp;omega);injection ev with ea en ec;subst ea;clear en;subst ec;obtain⟨ku,v3,v4,v5,m⟩:=nX.start HO.out hlt;rw[hx]at m;clear hx HO;obtain⟨bF,bG,bH,bI,bJ,bK⟩:=m.cells;have bL:wr.frozen? ⟨g,kk*6,none⟩=false:=m.fr 0;have bM:wr.frozen? ⟨g,kk*6+1,none⟩=false:=m.fr 1;have bN:wr.frozen? ⟨g,kk*6+2,none⟩=false:=m.fr 2;have m3:=((m.set0 a).set1 (wrap64 (a+1))).set2 (wrap64 (wrap64 (a+1)+1));have b6:=am (((HB.out.setCell (p:=⟨g,kk*6,none⟩) m.base (.int .i64 a)).setCell (p:=⟨g,kk*6+1,none⟩) m.base (.int .i64 (wrap64 (a+1)))).setCell (p:=⟨g,kk*6+2,none⟩) m.base (.int .i64 (wrap64 (wrap64 (a+1)+1))));have b7:=am (((HK.out.setCell (p:=⟨g,kk*6,none⟩) m.yK (.int .i64 a)).setCell (p:=⟨g,kk*6+1,none⟩) m.yK (.int .i64 (wrap64 (a+1)))).setCell (p:=⟨g,kk*6+2,none⟩) m.yK (.int .i64 (wrap64 (wrap64 (a+1)+1))));obtain⟨A3,n3,e3⟩:=Kd.ax m.r3;obtain⟨A4,n4,e4⟩:=Kd.ax m.r4;obtain⟨A5,n5,e5⟩:=Kd.ax m.r5;subst e3;subst e4;subst e5;clear HB HK
  go_wp2_with (first
   |(go_at_call 27;refine(db.calls k _ _ _ _ k3 l3 w0 _ b6.out (Kd.jh rfl m3.r3) B3.out).mono ?_;rintro e w4 ⟨rfl,hy,hb,hk⟩;have m4:=m3.adB hk hy;have b8:=ae.mk hb;have b9:=am (b7.out.then_ hk (fun q hs=>(m3.hg q (m3.r3.1 q hs.symm)).1));clear hb hk hy;obtain⟨_,_,_,_,d4,d5⟩:=m4.cells)
   |(go_at_call 73;refine(dg.calls k _ _ _ _ k4 l4 w0 _ b8.out (Kd.jh rfl m4.r4) B4.out).mono ?_;rintro e w5 ⟨rfl,hy,hb,hk⟩;have m5:=m4.adC hk hy;have bB:=ae.mk hb;have bC:=am (b9.out.then_ hk (fun q hs=>(m4.hg q (m4.r4.1 q hs.symm)).1));clear hb hk hy;obtain⟨_,_,_,_,_,e5⟩:=m5.cells)
   |(go_at_call 74;refine(cT.calls k _ _ _ _ k5 l5 w0 _ bB.out (Kd.jh rfl m5.r5) B5.out).mono ?_;rintro e w6 ⟨rfl,hy,hb,hk⟩;have m6:=m5.adD hk hy;have bD:=ae.mk hb;have bE:=am (bC.out.then_ hk (fun q hs=>(m5.hg q (m5.r5.1 q hs.symm)).1));clear hb hk hy))
  go_roundg (l0.length-(kk+1))
  case measure=>omega
  case rel=>
   refine⟨kk+1,k5,done++[⟨a,wrap64 (a+1),wrap64 (wrap64 (a+1)+1),l3,l4,l5⟩],by omega,by omega,rfl,by go_num,⟨by have hd:=HD.out;simp;omega⟩,⟨rest',A2.out,by rw[b5.out];simp⟩,⟨?_⟩,bD,bE⟩;have hs:=m6.back;have hd:=HD.out;rw[List.set_append_right _ _ (by omega),hd,Nat.sub_self,List.drop_eq_getElem_cons hlt,List.set_cons_zero]at hs
   simpa using hs
end Go.Proofs.YtlecajlnjmbilaaGreatDoor.P
