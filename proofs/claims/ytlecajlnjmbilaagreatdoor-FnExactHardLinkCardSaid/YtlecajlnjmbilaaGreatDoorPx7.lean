-- Printed walks.
import Derived.Test.YtlecajlnjmbilaaGreatDoorPx5
set_option linter.all false
set_option maxHeartbeats 8000000
set_option maxRecDepth 100000
namespace Go.Proofs.YtlecajlnjmbilaaGreatDoor.P
open Go.RowKit Go.Proofs.ab.ar Go.Proofs.ab.aH Go.Proofs.ab.aN Go.Proofs.Tryz
attribute [local go_sem] ib ic jc jd fU fV ie ig

mutual
def aA.l0:Nat→List (aX)→Int→Int→Option (Int)
 |0,_,_,_=>none
 |k+1,x0,x1,x5=>if x5<(x0.length:Int)then(aA.j1 k x0 x1 x5)else(some x1)
def aA.j1:Nat→List (aX)→Int→Int→Option (Int)
 |0,_,_,_=>none
 |k+1,x0,x1,x5=>if 0≤x5 then(if x5<(x0.length:Int)then(if((af x0 x5).f0)=x1 then(aA.j2 k x0 x1 x5)else(some (-1)))else(none))else(none)
def aA.j2:Nat→List (aX)→Int→Int→Option (Int)
 |0,_,_,_=>none
 |k+1,x0,x1,x5=>if 0≤x5 then(if x5<(x0.length:Int)then(if((af x0 x5).f1)=(wrap64 (x1+1))then(aA.j3 k x0 (wrap64 (x1+1)) x5)else(some (-1)))else(none))else(none)
def aA.j3:Nat→List (aX)→Int→Int→Option (Int)
 |0,_,_,_=>none
 |k+1,x0,x1,x5=>if 0≤x5 then(if x5<(x0.length:Int)then(if((af x0 x5).f2)=(wrap64 (x1+1))then(aA.j4 k x0 (wrap64 (x1+1)) x5)else(some (-1)))else(none))else(none)
def aA.j4:Nat→List (aX)→Int→Int→Option (Int)
 |0,_,_,_=>none
 |k+1,x0,x1,x5=>if 0≤x5 then(if x5<(x0.length:Int)then((dk.f k ((af x0 x5).f3) (wrap64 (x1+1))).bind fun b1=>(if b1<0 then(some (-1))else(aA.j5 k x0 b1 x5)))else(none))else(none)
def aA.j5:Nat→List (aX)→Int→Int→Option (Int)
 |0,_,_,_=>none
 |k+1,x0,x1,x5=>if 0≤x5 then(if x5<(x0.length:Int)then((b_.f k ((af x0 x5).f4) x1).bind fun b1=>(if b1<0 then(some (-1))else((aW.f k ((af x0 x5).f5) b1).bind fun b2=>(if b2<0 then(some (-1))else(aA.l0 k x0 b2 (wrap64 (x5+1)))))))else(none))else(none)
end
def aA.f (k:Nat) (l0:List (aX)) (a1:Int):Option (Int):=aA.l0 k l0 a1 0
theorem aA.calls (k:Nat) (A0:Option Addr) (c0:Nat) (l0:List (aX)) (a1:Int) (r:Int) (w:World) (hr0:Kd.C gh w A0 l0.length l0) (hc0:l0.length≤c0) (h:aA.f k l0 a1=some r):
  Calls Tryz.prog 38 #[.slice A0 l0.length c0,.int .i64 a1] w fun e w'=>e= .returned (.int .i64 r)∧Below w.heap.size w w':=by
 have bV:=ae.mk hr0;have HC0:=ae.mk hc0;clear hr0 hc0;have HB:=am (Below.refl w.heap.size w);unfold aA.f at h;have H:=h;clear h;have H':=ae.mk H;clear H
 go_enter func38,ntmps38
 go_wp2
 go_loopg [1,5] k (fun kq v1 v5 w'=>∃(b2:Int) (b1:Int),v1= .int .i64 b2∧v5= .int .i64 b1∧ae (aA.l0 kq l0 b2 b1=some r)∧ae (kq≤k)∧ae (Below w.heap.size w w'))
 case atStart=>exact⟨(a1),(0),oS,oS,H',⟨Nat.le_refl _⟩,⟨oB⟩⟩
 case round=>
  clear H';obtain⟨b2,b1,rfl,rfl,HA,d2,HB⟩:=hrel
  cases gk with
  |zero=>exact absurd HA.out (by simp[aA.l0])
  |succ k1=>
   have H:=HA.out;clear HA;simp only[aA.l0]at H;have jL:=ae.mk H;clear H
   go_upto_if 9 with(fail)
   go_cut [] (fun wc=>∃(kq:Nat),ae (aA.j1 kq l0 b2 b1=some r)∧ae (kq≤k1)∧ae (Below w.heap.size w wc))
   case first=>
    have H:=jL.out;clear jL;replace H:=jm H;rcases H with⟨j3,H⟩|⟨j3,H⟩;rotate_left
    ·(first|rw[j3]|skip)
     obtain rfl:=Option.some.inj H
     go_wp2
     go_ret
     exact⟨oE,oB⟩
    (first|rw[j3]|skip)
    have H':=ae.mk H;clear H
    go_wp2
    go_meet
    case rel=>exact⟨_,H',⟨by have:=d2.out;first|omega|exact Nat.le_refl _⟩,⟨oB⟩⟩
   case rest=>
    clear jL;obtain⟨kq,HA,d8,HB⟩:=hcut
    cases kq with
    |zero=>exact absurd HA.out (by simp[aA.j1])
    |succ kj2=>
     have H:=HA.out;clear HA;simp only[aA.j1]at H;obtain⟨gN,H⟩:=cU H;obtain⟨gO,H⟩:=cU H;have jM:=ae.mk H;clear H;have b16:(0≤(b1:Int))=True:=oT;have b17:(b1<(l0.length:Int))=True:=oT;obtain⟨bG,zF,zG,zH,zI,zJ,zK,m6,mC,mD,mE,mF,mG,mH,mI,mJ,mK,mL,mM,mN⟩:=fN bV HB b1 oa oa
     cases m6
     go_upto_if 18 with(fail)
     go_cut [] (fun wc=>∃(kq:Nat),ae (aA.j2 kq l0 b2 b1=some r)∧ae (kq≤kj2)∧ae (Below w.heap.size w wc))
     case first=>
      have H:=jM.out;clear jM
      by_cases c8:((af l0 b1).f0)=b2
      rotate_left
      ·rw[if_neg c8]at H;have j4:(((af l0 b1).f0)==b2)=false:=beq_eq_false_iff_ne.mpr c8;have j5:(((af l0 b1).f0) !=b2)=true:=bne_iff_ne.mpr c8
       (first|rw[j4]|rw[j5]|skip)
       obtain rfl:=Option.some.inj H
       go_wp2
       go_ret
       exact⟨oE,oB⟩
      rw[if_pos c8]at H;have j4:(((af l0 b1).f0)==b2)=true:=beq_iff_eq.mpr c8;have j5:(((af l0 b1).f0) !=b2)=false:=bne_eq_false_iff_eq.mpr c8;clear c8
      (first|rw[j4]|rw[j5]|skip)
      have H':=ae.mk H;clear H
      go_wp2
      go_meet
      case rel=>exact⟨_,H',⟨by have:=d2.out;have:=d8.out;first|omega|exact Nat.le_refl _⟩,⟨oB⟩⟩
     case rest=>
      clear jM
      try clear gN
      try clear gO
      obtain⟨kq,HA,gV,HB⟩:=hcut
      cases kq with
      |zero=>exact absurd HA.out (by simp[aA.j2])
      |succ kj6=>
       have H:=HA.out;clear HA;simp only[aA.j2]at H;obtain⟨j6,H⟩:=cU H;obtain⟨gP,H⟩:=cU H;have j7:=ae.mk H;clear H;have b18:(0≤(b1:Int))=True:=oT;have b19:(b1<(l0.length:Int))=True:=oT;obtain⟨jX,zL,zM,zN,zO,zP,zQ,m7,d9,dA,dB,dC,dD,dE,dF,dG,dH,dI,dJ,dK⟩:=gi bV.out b1 oa oa;obtain rfl:bG=jX:=(by injection m7);replace d9:=cB HB d9;replace dA:=cB HB dA;replace dB:=cB HB dB;replace dC:=cB HB dC;replace dD:=cB HB dD;replace dE:=cB HB dE;have mO:=ae.mk dG;have mP:=ae.mk dF;clear dG dF;have mQ:=ae.mk dI;have mS:=ae.mk dH;clear dI dH;have mT:=ae.mk dK;have mU:=ae.mk dJ;clear dK dJ
       go_upto_if 27 with(fail)
       go_cut [] (fun wc=>∃(kq:Nat),ae (aA.j3 kq l0 (wrap64 (b2+1)) b1=some r)∧ae (kq≤kj6)∧ae (Below w.heap.size w wc))
       case first=>
        have H:=j7.out;clear j7
        by_cases d3:((af l0 b1).f1)=(wrap64 (b2+1))
        rotate_left
        ·rw[if_neg d3]at H;have bW:(((af l0 b1).f1)==(wrap64 (b2+1)))=false:=beq_eq_false_iff_ne.mpr d3;have gQ:(((af l0 b1).f1) !=(wrap64 (b2+1)))=true:=bne_iff_ne.mpr d3
         (first|rw[bW]|rw[gQ]|(simp only[kK,oV];rw[bW])|skip)
         obtain rfl:=Option.some.inj H
         go_wp2
         go_ret
         exact⟨oE,oB⟩
        rw[if_pos d3]at H;have bW:(((af l0 b1).f1)==(wrap64 (b2+1)))=true:=beq_iff_eq.mpr d3;have gQ:(((af l0 b1).f1) !=(wrap64 (b2+1)))=false:=bne_eq_false_iff_eq.mpr d3;clear d3
        (first|rw[bW]|rw[gQ]|(simp only[kK,oV];rw[bW])|skip)
        have H':=ae.mk H;clear H
        go_wp2
        go_meet
        case rel=>exact⟨_,H',⟨by have:=d2.out;have:=d8.out;have:=gV.out;first|omega|exact Nat.le_refl _⟩,⟨oB⟩⟩
       case rest=>
        clear j7
        try clear gN
        try clear gO
        try clear j6
        try clear gP
        obtain⟨kq,HA,gR,HB⟩:=hcut
        cases kq with
        |zero=>exact absurd HA.out (by simp[aA.j3])
        |succ vS=>
         have H:=HA.out;clear HA;simp only[aA.j3]at H;obtain⟨jD,H⟩:=cU H;obtain⟨jE,H⟩:=cU H;have j8:=ae.mk H;clear H;have b1A:(0≤(b1:Int))=True:=oT;have b1B:(b1<(l0.length:Int))=True:=oT;obtain⟨jY,zR,zS,zT,zU,zV,zW,m8,dL,dM,dN,dO,dP,dQ,dR,dS,dT,dU,dV,dW⟩:=gi bV.out b1 oa oa;obtain rfl:bG=jY:=(by injection m8);replace dL:=cB HB dL;replace dM:=cB HB dM;replace dN:=cB HB dN;replace dO:=cB HB dO;replace dP:=cB HB dP;replace dQ:=cB HB dQ;have mV:=ae.mk dS;have mW:=ae.mk dR;clear dS dR;have mX:=ae.mk dU;have mY:=ae.mk dT;clear dU dT;have mZ:=ae.mk dW;have zA:=ae.mk dV;clear dW dV
         go_upto_if 36 with(fail)
         go_cut [] (fun wc=>∃(kq:Nat),ae (aA.j4 kq l0 (wrap64 ((wrap64 (b2+1))+1)) b1=some r)∧ae (kq≤vS)∧ae (Below w.heap.size w wc))
         case first=>
          have H:=j8.out;clear j8
          by_cases d4:((af l0 b1).f2)=(wrap64 ((wrap64 (b2+1))+1))
          rotate_left
          ·rw[if_neg d4]at H;have bX:(((af l0 b1).f2)==(wrap64 ((wrap64 (b2+1))+1)))=false:=beq_eq_false_iff_ne.mpr d4;have gS:(((af l0 b1).f2) !=(wrap64 ((wrap64 (b2+1))+1)))=true:=bne_iff_ne.mpr d4
           (first|rw[bX]|rw[gS]|(simp only[kK,oV];rw[bX])|skip)
           obtain rfl:=Option.some.inj H
           go_wp2
           go_ret
           exact⟨oE,oB⟩
          rw[if_pos d4]at H;have bX:(((af l0 b1).f2)==(wrap64 ((wrap64 (b2+1))+1)))=true:=beq_iff_eq.mpr d4;have gS:(((af l0 b1).f2) !=(wrap64 ((wrap64 (b2+1))+1)))=false:=bne_eq_false_iff_eq.mpr d4;clear d4
          (first|rw[bX]|rw[gS]|(simp only[kK,oV];rw[bX])|skip)
          have H':=ae.mk H;clear H
          go_wp2
          go_meet
          case rel=>exact⟨_,H',⟨by have:=d2.out;have:=d8.out;have:=gV.out;have:=gR.out;first|omega|exact Nat.le_refl _⟩,⟨oB⟩⟩
         case rest=>
          clear j8
          try clear gN
          try clear gO
          try clear j6
          try clear gP
          try clear jD
          try clear jE
          obtain⟨kq,HA,j9,HB⟩:=hcut
          cases kq with
          |zero=>exact absurd HA.out (by simp[aA.j4])
          |succ ad1=>
           have H:=HA.out;clear HA;simp only[aA.j4]at H;obtain⟨jZ,H⟩:=cU H;obtain⟨m1,H⟩:=cU H;replace H:=bA H;obtain⟨d5,zX,H⟩:=H
           try dsimp only at H
           have jA:=ae.mk H;clear H;have b1C:(0≤(b1:Int))=True:=oT;have b1D:(b1<(l0.length:Int))=True:=oT;obtain⟨m2,zY,zZ,b10,b11,b12,b13,m9,dX,dY,dZ,gA,gB,gC,gD,gE,gF,gG,gH,gI⟩:=gi bV.out b1 oa oa;obtain rfl:bG=m2:=(by injection m9);replace dX:=cB HB dX;replace dY:=cB HB dY;replace dZ:=cB HB dZ;replace gA:=cB HB gA;replace gB:=cB HB gB;replace gC:=cB HB gC;have jF:=ae.mk gE;have jG:=ae.mk gD;clear gE gD;have zB:=ae.mk gG;have zC:=ae.mk gF;clear gG gF;have zD:=ae.mk gI;have zE:=ae.mk gH;clear gI gH
           go_upto_if 47 with(first|((with_reducible refine ai (f:=75) rfl ?_);refine ej 45 func75 (dk.calls ad1 _ _ ((af l0 b1).f3) (wrap64 ((wrap64 ((wrap64 (b2+1))+1))+1)) d5 _ (kC jF) jG.out zX.out) ?_;rintro e w' ⟨rfl,⟨nd,rfl⟩⟩;refine⟨_,rfl,?_⟩))
           (try simp only[Act.put,List.setIfInBounds_toArray,List.set_cons_zero,List.set_cons_succ])
           go_cut [] (fun wc=>∃(kq:Nat),ae (aA.j5 kq l0 d5 b1=some r)∧ae (kq≤ad1)∧ae (Below w.heap.size w wc))
           case first=>
            have H:=jA.out;clear jA;replace H:=jm H;rcases H with⟨gT,H⟩|⟨gT,H⟩
            ·(first|rw[gT]|skip)
             obtain rfl:=Option.some.inj H
             go_wp2
             go_ret
             exact⟨oE,oB⟩
            (first|rw[gT]|skip)
            have H':=ae.mk H;clear H
            go_wp2
            go_meet
            case rel=>exact⟨_,H',⟨by have:=d2.out;have:=d8.out;have:=gV.out;have:=gR.out;have:=j9.out;first|omega|exact Nat.le_refl _⟩,⟨oB⟩⟩
           case rest=>
            clear jA
            try clear gN
            try clear gO
            try clear j6
            try clear gP
            try clear jD
            try clear jE
            try clear jZ
            try clear m1
            obtain⟨kq,HA,jN,HB⟩:=hcut
            cases kq with
            |zero=>exact absurd HA.out (by simp[aA.j5])
            |succ zl=>
             have H:=HA.out;clear HA;simp only[aA.j5]at H;obtain⟨b14,H⟩:=cU H;obtain⟨b15,H⟩:=cU H;replace H:=bA H;obtain⟨d6,jO,H⟩:=H
             try dsimp only at H
             replace H:=jm H;rcases H with⟨m3,H⟩|⟨m3,H⟩
             ·obtain rfl:=Option.some.inj H;have jP:(0≤(b1:Int))=True:=oT;have jQ:(b1<(l0.length:Int))=True:=oT;obtain⟨bY,gW,gX,gY,gZ,j1,j2,d7,b3,b4,b5,b6,b7,b8,b9,bB,bC,bD,bE,bF⟩:=gi bV.out b1 oa oa;obtain rfl:bG=bY:=(by injection d7);replace b3:=cB HB b3;replace b4:=cB HB b4;replace b5:=cB HB b5;replace b6:=cB HB b6;replace b7:=cB HB b7;replace b8:=cB HB b8;have gJ:=ae.mk bB;have gK:=ae.mk b9;clear bB b9;have bH:=ae.mk bD;have bI:=ae.mk bC;clear bD bC;have gL:=ae.mk bF;have gM:=ae.mk bE;clear bF bE
              go_wp2_with (first|((with_reducible refine ai (f:=76) rfl ?_);refine ej 54 func76 (b_.calls zl _ _ ((af l0 b1).f4) d5 d6 _ (kC bH) bI.out jO.out) ?_;rintro e w26 ⟨rfl,hb⟩;refine⟨_,rfl,?_⟩;replace HB:=hB HB hb))
              go_ret
              exact⟨oE,oB⟩
             replace H:=bA H;obtain⟨jB,m5,H⟩:=H
             try dsimp only at H
             replace H:=jm H;rcases H with⟨m4,H⟩|⟨m4,H⟩
             ·obtain rfl:=Option.some.inj H;have jP:(0≤(b1:Int))=True:=oT;have jQ:(b1<(l0.length:Int))=True:=oT;obtain⟨bY,gW,gX,gY,gZ,j1,j2,d7,b3,b4,b5,b6,b7,b8,b9,bB,bC,bD,bE,bF⟩:=gi bV.out b1 oa oa;obtain rfl:bG=bY:=(by injection d7);replace b3:=cB HB b3;replace b4:=cB HB b4;replace b5:=cB HB b5;replace b6:=cB HB b6;replace b7:=cB HB b7;replace b8:=cB HB b8;have gJ:=ae.mk bB;have gK:=ae.mk b9;clear bB b9;have bH:=ae.mk bD;have bI:=ae.mk bC;clear bD bC;have gL:=ae.mk bF;have gM:=ae.mk bE;clear bF bE
              go_wp2_with (first|((with_reducible refine ai (f:=76) rfl ?_);refine ej 54 func76 (b_.calls zl _ _ ((af l0 b1).f4) d5 d6 _ (kC bH) bI.out jO.out) ?_;rintro e w29 ⟨rfl,hb⟩;refine⟨_,rfl,?_⟩;replace HB:=hB HB hb;have mA:(0≤(b1:Int))=True:=oT;have mB:(b1<(l0.length:Int))=True:=oT;obtain⟨gU,jR,jS,jT,jU,jV,jW,jC,bJ,bK,bL,bM,bN,bO,bP,bQ,bR,bS,bT,bU⟩:=gi bV.out b1 oa oa;obtain rfl:bG=gU:=(by injection jC);replace bJ:=cB HB bJ;replace bK:=cB HB bK;replace bL:=cB HB bL;replace bM:=cB HB bM;replace bN:=cB HB bN;replace bO:=cB HB bO;have jH:=ae.mk bQ;have jI:=ae.mk bP;clear bQ bP;have jJ:=ae.mk bS;have jK:=ae.mk bR;clear bS bR;have bZ:=ae.mk bU;have d1:=ae.mk bT;clear bU bT)|((with_reducible refine ai (f:=77) rfl ?_);refine ej 63 func77 (aW.calls zl _ _ ((af l0 b1).f5) d6 jB _ (kC bZ) d1.out m5.out) ?_;rintro e w30 ⟨rfl,hb⟩;refine⟨_,rfl,?_⟩;replace HB:=hB HB hb))
              go_ret
              exact⟨oE,oB⟩
             have H':=ae.mk H;clear H;have jP:(0≤(b1:Int))=True:=oT;have jQ:(b1<(l0.length:Int))=True:=oT;obtain⟨bY,gW,gX,gY,gZ,j1,j2,d7,b3,b4,b5,b6,b7,b8,b9,bB,bC,bD,bE,bF⟩:=gi bV.out b1 oa oa;obtain rfl:bG=bY:=(by injection d7);replace b3:=cB HB b3;replace b4:=cB HB b4;replace b5:=cB HB b5;replace b6:=cB HB b6;replace b7:=cB HB b7;replace b8:=cB HB b8;have gJ:=ae.mk bB;have gK:=ae.mk b9;clear bB b9;have bH:=ae.mk bD;have bI:=ae.mk bC;clear bD bC;have gL:=ae.mk bF;have gM:=ae.mk bE;clear bF bE
             go_wp2_with (first|((with_reducible refine ai (f:=76) rfl ?_);refine ej 54 func76 (b_.calls zl _ _ ((af l0 b1).f4) d5 d6 _ (kC bH) bI.out jO.out) ?_;rintro e w31 ⟨rfl,hb⟩;refine⟨_,rfl,?_⟩;replace HB:=hB HB hb;have mA:(0≤(b1:Int))=True:=oT;have mB:(b1<(l0.length:Int))=True:=oT;obtain⟨gU,jR,jS,jT,jU,jV,jW,jC,bJ,bK,bL,bM,bN,bO,bP,bQ,bR,bS,bT,bU⟩:=gi bV.out b1 oa oa;obtain rfl:bG=gU:=(by injection jC);replace bJ:=cB HB bJ;replace bK:=cB HB bK;replace bL:=cB HB bL;replace bM:=cB HB bM;replace bN:=cB HB bN;replace bO:=cB HB bO;have jH:=ae.mk bQ;have jI:=ae.mk bP;clear bQ bP;have jJ:=ae.mk bS;have jK:=ae.mk bR;clear bS bR;have bZ:=ae.mk bU;have d1:=ae.mk bT;clear bU bT)|((with_reducible refine ai (f:=77) rfl ?_);refine ej 63 func77 (aW.calls zl _ _ ((af l0 b1).f5) d6 jB _ (kC bZ) d1.out m5.out) ?_;rintro e w32 ⟨rfl,hb⟩;refine⟨_,rfl,?_⟩;replace HB:=hB HB hb))
             go_roundg zl
             case measure=>have:=d2.out;have:=d8.out;have:=gV.out;have:=gR.out;have:=j9.out;have:=jN.out;omega
             case rel=>exact⟨(jB),(wrap64 (b1+1)),oS,oS,H',⟨by have:=d2.out;have:=d8.out;have:=gV.out;have:=gR.out;have:=j9.out;have:=jN.out;omega⟩,⟨oB⟩⟩

def cw.l0:Nat→List (aX)→Int→Int→List (aX)→Int→Option ((List (aX))×Int)
 |0,_,_,_,_,_=>none
 |k+1,b4,b6,b2,b3,b5=>if b2<b6 then(if 0≤b2 then(if b2<(b4.length:Int)then((eK.f ((af b4 b2).f0) ((af b4 b2).f1) ((af b4 b2).f2) ((af b4 b2).f3) ((af b4 b2).f4) ((af b4 b2).f5)).bind fun b1=>(if b3.length<1466015503701 then(cw.l0 k b4 b6 (wrap64 (b2+1)) (b3++[(⟨b1.1,b1.2.1,b1.2.2.1,b1.2.2.2.1,b1.2.2.2.2.1,b1.2.2.2.2.2⟩:aX)]) b5)else(none)))else(none))else(none))else(some (b3,b5))
def cw.f (k:Nat) (ag:List (aX)) (ak:Int):Option ((List (aX))×Int):=cw.l0 k ag (ag.length:Int) 0 ([]:List (aX)) ak
def cw.T5:Bool×List (List Nat×List Nat):=(true,[([],[]),([0],[0]),([],[]),([2],[2]),([3],[3]),([1,4,3],[1,4]),([0,1,2,3,4,5],[]),([6,5,5,0,1,2,3,4,5],[5,6])])
def cw.B5:List Nat:=[0,1,0,4,12,31,63,127]
theorem cw.xt:ij .any (opsOf Tryz.f45 5)=cw.T5:=by kernel_rfl
theorem cw.sE:fa cw.T5.2 cw.B5=true:=by kernel_rfl
theorem cw.calls (k:Nat) (bh:Option Addr) (aT:Nat) (ag:List (aX)) (ak:Int) (r1:List (aX)) (r2:Int) (w:World) (cj:Kd.C gh w bh ag.length ag) (ck:ag.length≤aT) (h:cw.f k ag ak=some (r1,r2)):
  Calls Tryz.prog 45 #[.agg #[.slice bh ag.length aT,.int .i64 ak]] w fun e w'=>∃jx:Value,e= .returned (.agg #[jx,.int .i64 r2])∧Kd.S gh 58 w' w.heap.size (fun _=>True) jx r1∧Below w.heap.size w w':=by
 have jO:=underlying28;have jP:=underlying58;have gD:=ae.mk cj;have j4:=ae.mk ck;clear cj ck;have HB:=am (Below.refl w.heap.size w);unfold cw.f at h;have H:=h;clear h;have H':=ae.mk H;clear H
 go_enter func45,ntmps45
 go_wp2_with (first|((with_reducible refine aj (N:=1) rfl ?_);refine cO 1 #[.slice bh ag.length aT,.int .i64 ak] 28 ?_;intro d9 hg w2 hbox hb;have b4:=am (hbox);have j5:=cN hg;replace HB:=hB HB hb;clear hb hbox hg)|((with_reducible refine aj (N:=2) rfl ?_);refine cO 2 #[.slice none 0 0,.int .i64 0] 28 ?_;intro bM hg w3 hbox hb;have b5:=am (hbox);have j6:=cN hg;have bQ:=dm hg b4;have bR:=dn hg b4;replace b4:=aJ b4 hb;replace HB:=hB HB hb;clear hb hbox hg;have jQ:=bQ.out;have jR:=bR.out;obtain⟨⟨_,_⟩,_,_⟩:=z2 b4)|((with_reducible refine aj (N:=3) rfl ?_);refine cO 3 #[.slice none 0 0,.int .i64 0] 28 ?_;intro bL hg w6 hbox hb;have b6:=am (hbox);have j7:=cN hg;have bH:=dm hg b4;have bI:=dn hg b4;have bJ:=dm hg b5;have bK:=dn hg b5;replace b4:=aJ b4 hb;replace b5:=aJ b5 hb;replace HB:=hB HB hb;clear hb hbox hg;have jS:=bI.out;have jT:=bH.out;have jU:=bK.out;have jV:=bJ.out;obtain⟨⟨_,_⟩,_,_⟩:=z2 b6;obtain⟨⟨_,_⟩,_,_⟩:=z2 b4))
 go_loopg [12] k (fun kq gZ w'=>∃(b1:Int) (b9:List (aX)) (b8:Value),gZ= .int .i64 b1∧ae (cw.l0 kq ag (ag.length:Int) b1 b9 ak=some (r1,r2))∧ae (kq≤k)∧ae (Kd.S gh 58 w' w.heap.size (fun _=>True) b8 b9)∧ae (w'.heap[d9]? =some (.cells #[(.slice bh ag.length aT),.int .i64 ak] 28 (0,0)))∧ae (w'.heap[bM]? =some (.cells #[(.slice none 0 0),.int .i64 0] 28 (0,0)))∧ae (w'.heap[bL]? =some (.cells #[b8,.int .i64 ak] 28 (0,0)))∧ae (Below w.heap.size w w'))
 case atStart=>exact⟨(0),(([]:List (aX))),(.slice none 0 0),oS,H',⟨Nat.le_refl _⟩,⟨by first|exact Kd.fe _ _ _ _ _|exact Kd.ff _ _ _ _ _|exact Kd.fg _ _ _ _ _|exact Kd.fc _ _ _ _ _|exact Kd.eD _ _ _ _ _⟩,⟨oF b4⟩,⟨oF b5⟩,⟨oP b6⟩,⟨oB⟩⟩
 case round=>
  clear H';obtain⟨b1,b9,b8,rfl,HA,gI,b3,b4,b5,b6,HB⟩:=hrel
  cases gk with
  |zero=>exact absurd HA.out (by simp[cw.l0])
  |succ k1=>
   have H:=HA.out;clear HA;simp only[cw.l0]at H;replace H:=jm H;rcases H with⟨gE,H⟩|⟨gE,H⟩;rotate_left
   ·simp only[Option.some.injEq,Prod.mk.injEq]at H;obtain⟨rfl,rfl⟩:=H;have j8:=bI.out;have j9:=bH.out;have jA:=bK.out;have jB:=bJ.out;obtain⟨⟨_,_⟩,_,_⟩:=z2 b6;obtain⟨dH,dI,gL⟩:=Kd.iA b3.out;subst gL;have jC:=bR.out;have jD:=bQ.out;obtain⟨⟨_,_⟩,_,_⟩:=z2 b5
    go_wp2
    refine bodyPost_ret (results_cell_row rfl _ _ bM 28 #[.slice dH b9.length dI,.int .i64 ak] (0,0) _ rfl (oP b5) underlying28 rfl (by kernel_rfl)) rfl ?_;exact⟨_,oE,by(with_reducible repeat(first|apply Kd.eL|apply Kd.eR|apply Kd.fi));exact Kd.eV (Kd.eJ (p:=⟨bM,1,none⟩) (Kd.eJ (p:=⟨bM,0,none⟩) (Kd.ka b3.out b5.out (by decide)) (fun _ hk=>hk.2) (.slice dH b9.length dI)) (fun _ hk=>hk.2) (.int .i64 ak)) (fun _ hk=>trivial),oB⟩
   obtain⟨jE,H⟩:=cU H;obtain⟨jF,H⟩:=cU H;replace H:=bA H;obtain⟨⟨bX,bY,bZ,bN,bO,bP⟩,j1,H⟩:=H
   try dsimp only at H
   obtain⟨gJ,H⟩:=lC H;have gF:=ae.mk gJ;clear gJ;obtain⟨d4,da⟩:∃y_:List (aX),y_=(b9++[(⟨bX,bY,bZ,bN,bO,bP⟩:aX)]):=⟨_,rfl⟩;replace H:(cw.l0 k1 ag (ag.length:Int) (wrap64 (b1+1)) d4 ak)=some (r1,r2):=oY;have gG:=ae.mk da;clear da;have H':=ae.mk H;clear H;have jW:(0≤(b1:Int))=True:=oT;have jX:(b1<(ag.length:Int))=True:=oT;obtain⟨gH,bB,bC,bD,bE,bF,bG,gM,gN,gO,gP,gQ,gR,gS,dB,dC,dD,dE,dF,dG⟩:=fN gD HB b1 oa oa
   cases gM
   try go_wp2_with (first|((with_reducible refine aj (N:=5) rfl ?_);refine cO 5 #[.int .i64 0,.int .i64 0,.int .i64 0,.slice none 0 0,.slice none 0 0,.slice none 0 0] 58 ?_;intro b2 hg d1 hbox hb;have b7:=am (hbox);have jG:=cN hg;have d5:=dm hg b4;have d6:=dn hg b4;have d7:=dm hg b5;have d8:=dn hg b5;have bS:=dm hg b6;have bT:=dn hg b6;replace b3:=am (Kd.js (Kd.nN (nS0 b3) b2 (Nat.le_of_eq hg.symm)) hb);replace b4:=aJ b4 hb;replace b5:=aJ b5 hb;replace b6:=aJ b6 hb;replace HB:=hB HB hb;clear hb hbox hg;have jH:=d6.out;have jI:=d5.out;have jJ:=d8.out;have jK:=d7.out;have jL:=bT.out;have jM:=bS.out;obtain⟨⟨_,_,_,_,_,_⟩,_,_,_,_,_,_⟩:=z6 b7))
   have dJ:ae (Kd.S gh 58 ((((((d1.setCell ⟨b2,0,none⟩ (.int .i64 ((af ag b1).f0))).setCell ⟨b2,1,none⟩ (.int .i64 ((af ag b1).f1))).setCell ⟨b2,2,none⟩ (.int .i64 ((af ag b1).f2))).setCell ⟨b2,3,none⟩ (.slice bB ((af ag b1).f3).length bC)).setCell ⟨b2,4,none⟩ (.slice bD ((af ag b1).f4).length bE)).setCell ⟨b2,5,none⟩ (.slice bF ((af ag b1).f5).length bG)) w.heap.size (fun k_=>k_≠b2) b8 b9):=⟨by(with_reducible repeat(first|apply Kd.eL|apply Kd.eR|apply Kd.fi));exact Kd.eV (Kd.eJ (p:=⟨b2,5,none⟩) (Kd.eJ (p:=⟨b2,4,none⟩) (Kd.eJ (p:=⟨b2,3,none⟩) (Kd.eJ (p:=⟨b2,2,none⟩) (Kd.eJ (p:=⟨b2,1,none⟩) (Kd.eJ (p:=⟨b2,0,none⟩) (Kd.eV b3.out (fun k_ hk=>(⟨hk,hk.2⟩:_∧k_≠b2))) (fun _ hk=>hk.2) (.int .i64 ((af ag b1).f0))) (fun _ hk=>hk.2) (.int .i64 ((af ag b1).f1))) (fun _ hk=>hk.2) (.int .i64 ((af ag b1).f2))) (fun _ hk=>hk.2) (.slice bB ((af ag b1).f3).length bC)) (fun _ hk=>hk.2) (.slice bD ((af ag b1).f4).length bE)) (fun _ hk=>hk.2) (.slice bF ((af ag b1).f5).length bG)) (fun _ hk=>hk.1.2)⟩;have dK:ae (((((((d1.setCell ⟨b2,0,none⟩ (.int .i64 ((af ag b1).f0))).setCell ⟨b2,1,none⟩ (.int .i64 ((af ag b1).f1))).setCell ⟨b2,2,none⟩ (.int .i64 ((af ag b1).f2))).setCell ⟨b2,3,none⟩ (.slice bB ((af ag b1).f3).length bC)).setCell ⟨b2,4,none⟩ (.slice bD ((af ag b1).f4).length bE)).setCell ⟨b2,5,none⟩ (.slice bF ((af ag b1).f5).length bG)).heap[d9]? =some (.cells #[.slice (some gH) ag.length aT,.int .i64 ak] 28 (0,0))):=⟨oF b4⟩;have dL:ae (((((((d1.setCell ⟨b2,0,none⟩ (.int .i64 ((af ag b1).f0))).setCell ⟨b2,1,none⟩ (.int .i64 ((af ag b1).f1))).setCell ⟨b2,2,none⟩ (.int .i64 ((af ag b1).f2))).setCell ⟨b2,3,none⟩ (.slice bB ((af ag b1).f3).length bC)).setCell ⟨b2,4,none⟩ (.slice bD ((af ag b1).f4).length bE)).setCell ⟨b2,5,none⟩ (.slice bF ((af ag b1).f5).length bG)).heap[bM]? =some (.cells #[.slice none 0 0,.int .i64 0] 28 (0,0))):=⟨oF b5⟩;have dM:ae (((((((d1.setCell ⟨b2,0,none⟩ (.int .i64 ((af ag b1).f0))).setCell ⟨b2,1,none⟩ (.int .i64 ((af ag b1).f1))).setCell ⟨b2,2,none⟩ (.int .i64 ((af ag b1).f2))).setCell ⟨b2,3,none⟩ (.slice bB ((af ag b1).f3).length bC)).setCell ⟨b2,4,none⟩ (.slice bD ((af ag b1).f4).length bE)).setCell ⟨b2,5,none⟩ (.slice bF ((af ag b1).f5).length bG)).heap[bL]? =some (.cells #[b8,.int .i64 ak] 28 (0,0))):=⟨oF b6⟩;have dN:ae (((((((d1.setCell ⟨b2,0,none⟩ (.int .i64 ((af ag b1).f0))).setCell ⟨b2,1,none⟩ (.int .i64 ((af ag b1).f1))).setCell ⟨b2,2,none⟩ (.int .i64 ((af ag b1).f2))).setCell ⟨b2,3,none⟩ (.slice bB ((af ag b1).f3).length bC)).setCell ⟨b2,4,none⟩ (.slice bD ((af ag b1).f4).length bE)).setCell ⟨b2,5,none⟩ (.slice bF ((af ag b1).f5).length bG)).heap[b2]? =some (.cells #[.int .i64 ((af ag b1).f0),.int .i64 ((af ag b1).f1),.int .i64 ((af ag b1).f2),.slice bB ((af ag b1).f3).length bC,.slice bD ((af ag b1).f4).length bE,.slice bF ((af ag b1).f5).length bG] 58 (0,0))):=⟨oP b7⟩;have dO:ae (Below w.heap.size w ((((((d1.setCell ⟨b2,0,none⟩ (.int .i64 ((af ag b1).f0))).setCell ⟨b2,1,none⟩ (.int .i64 ((af ag b1).f1))).setCell ⟨b2,2,none⟩ (.int .i64 ((af ag b1).f2))).setCell ⟨b2,3,none⟩ (.slice bB ((af ag b1).f3).length bC)).setCell ⟨b2,4,none⟩ (.slice bD ((af ag b1).f4).length bE)).setCell ⟨b2,5,none⟩ (.slice bF ((af ag b1).f5).length bG))):=⟨oB⟩
   (try clear b3)
   (try clear b4)
   (try clear b5)
   (try clear b6)
   (try clear b7)
   (try clear HB)
   generalize ((((((d1.setCell ⟨b2,0,none⟩ (.int .i64 ((af ag b1).f0))).setCell ⟨b2,1,none⟩ (.int .i64 ((af ag b1).f1))).setCell ⟨b2,2,none⟩ (.int .i64 ((af ag b1).f2))).setCell ⟨b2,3,none⟩ (.slice bB ((af ag b1).f3).length bC)).setCell ⟨b2,4,none⟩ (.slice bD ((af ag b1).f4).length bE)).setCell ⟨b2,5,none⟩ (.slice bF ((af ag b1).f5).length bG))=j2 at dJ dK dL dM dN dO⊢;have b3:=dJ;have b4:=dK;have b5:=dL;have b6:=dM;have b7:=dN;have HB:=dO;clear dJ dK dL dM dN dO;replace b3:=am (Kd.fi b3.out);replace b4:=am (au b4.out);replace b5:=am (au b5.out);replace b6:=am (au b6.out);replace b7:=am (au b7.out);replace HB:=am (av HB.out);refine qN (n:=8) (S:=fun w'=>w'.cell? ⟨bL,0,none⟩=some (b8)∧w'.cell? ⟨bL,1,none⟩=some (.int .i64 ak)∧w'.cell? ⟨b2,0,none⟩=some (.int .i64 ((af ag b1).f0))∧w'.cell? ⟨b2,1,none⟩=some (.int .i64 ((af ag b1).f1))∧w'.cell? ⟨b2,2,none⟩=some (.int .i64 ((af ag b1).f2))∧w'.cell? ⟨b2,3,none⟩=some (.slice bB ((af ag b1).f3).length bC)∧w'.cell? ⟨b2,4,none⟩=some (.slice bD ((af ag b1).f4).length bE)∧w'.cell? ⟨b2,5,none⟩=some (.slice bF ((af ag b1).f5).length bG)) (ds:=[7]) (lb 8 0) (by kernel_rfl) rfl rfl oH (fun hHeld=> ?_);refine tO cw.xt cw.sE (fun ax eN=> ?_);generalize j2.drew=m4 at b3 b4 b5 b6 b7 HB hHeld⊢;refine bz 0 16 ax ?_;refine gj 1 17 ax eN hHeld ?_;refine gj 2 18 ax eN hHeld ?_;refine lg 3 19 ax (fun K hK=> ?_);refine lO 19 func87 (eK.calls ((af ag b1).f0) ((af ag b1).f1) ((af ag b1).f2) _ _ ((af ag b1).f3) _ _ ((af ag b1).f4) _ _ ((af ag b1).f5) bX bY bZ bN bO bP _ (kC dC) dB.out (kC dE) dD.out (kC dG) dF.out j1.out) ?_;rintro e m5 ⟨jY,jZ,m1,rfl,gK,dP,dQ,hb⟩;refine⟨_,rfl,?_⟩;have bU:=am (Kd.an gK (ah oB));have bV:=am (Kd.an dP (ah oB));have bW:=am (Kd.an dQ (ah oB));replace b3:=rG (vw b3 hb) (Kd.cf gK) (Kd.cf dP) (Kd.cf dQ);replace b4:=aJ b4 hb;replace b5:=aJ b5 hb;replace b6:=aJ b6 hb;replace b7:=aJ b7 hb;replace HB:=hB HB hb
   (try clear dP)
   (try clear dQ)
   obtain⟨dR,dS,dT⟩:=Kd.ao bU.out
   (first|subst dT|(injection dT with kn nh kp;have d2:=kn.symm;have d3:=kp.symm;clear kn nh kp;subst d2;subst d3))
   obtain⟨dU,dV,dW⟩:=Kd.ao bV.out
   (first|subst dW|(injection dW with kn nh kp;have d2:=kn.symm;have d3:=kp.symm;clear kn nh kp;subst d2;subst d3))
   obtain⟨dX,dY,dZ⟩:=Kd.ao bW.out
   (first|subst dZ|(injection dZ with kn nh kp;have d2:=kn.symm;have d3:=kp.symm;clear kn nh kp;subst d2;subst d3))
   refine eW hK 19 oH (fun hHeld=> ?_);clear hK K;refine lg 4 20 ax (fun K hK=> ?_);refine uw (w1:= ?_) (v:= ?_) (by rfl) rfl ?_ ?_;rotate_left 2
   ·go_simp
    constructor
    ·rfl
    ·rfl
   refine eW hK 20 ⟨(aq (aC b6.out _) 0).trans rfl,(aq (aC b6.out _) 1).trans rfl,(aq (aC b7.out _) 0).trans rfl,(aq (aC b7.out _) 1).trans rfl,(aq (aC b7.out _) 2).trans rfl,(aq (aC b7.out _) 3).trans rfl,(aq (aC b7.out _) 4).trans rfl,(aq (aC b7.out _) 5).trans rfl⟩ (fun hHeld=> ?_);clear hK K;refine lg 5 21 ax (fun K hK=> ?_);refine Kd.pH gh (w0:=w) w.heap.size (by rfl) (.tmp 17) (.tmp 20) 26 58 (.agg #[(.int .i64 0),(.int .i64 0),(.int .i64 0),(.slice none 0 0),(.slice none 0 0),(.slice none 0 0)]) 96 rfl underlying26 lD rfl (by decide) (by omega) b8 b9 (⟨bX,bY,bZ,bN,bO,bP⟩:aX) [.int .i64 bX,.int .i64 bY,.int .i64 bZ,.slice dR bN.length dS,.slice dU bO.length dV,.slice dX bP.length dY] (fun k_=>k_≠b2) (fun k_=>some k_=(.slice dR bN.length dS:Value).ownBlock∨some k_=(.slice dU bO.length dV:Value).ownBlock∨some k_=(.slice dX bP.length dY:Value).ownBlock) rfl rfl ?aP (fun k_ eW=>eW.elim (fun h_=>((Kd.aZ (ok':=fun k_=>((fun k_=>k_≠b2)) k_∧some k_≠(b8:Value).ownBlock) (Kd.aM (Kd.cI (bU.out) (Kd.iD b3.out) (by decide)) b7.out (by decide)) (fun k_ hk=>⟨hk.2,hk.1.2⟩))).1 k_ h_.symm) (fun h_=>h_.elim (fun h_=>((Kd.aZ (ok':=fun k_=>((fun k_=>k_≠b2)) k_∧some k_≠(b8:Value).ownBlock) (Kd.aM (Kd.cI (bV.out) (Kd.iD b3.out) (by decide)) b7.out (by decide)) (fun k_ hk=>⟨hk.2,hk.1.2⟩))).1 k_ h_.symm) (fun h_=>((Kd.aZ (ok':=fun k_=>((fun k_=>k_≠b2)) k_∧some k_≠(b8:Value).ownBlock) (Kd.aM (Kd.cI (bW.out) (Kd.iD b3.out) (by decide)) b7.out (by decide)) (fun k_ hk=>⟨hk.2,hk.1.2⟩))).1 k_ h_.symm))) ?aF ?aO ?aB ?aS ?aL ?_
   (case aP=>exact pq _ _ _ (⟨bX,bY,bZ,bN,bO,bP⟩:aX) (Kd.aZ (Kd.kb rfl (Kd.aZ (ok':=fun k_=>((fun k_=>k_≠b2)) k_∧some k_≠(b8:Value).ownBlock) (Kd.aM (Kd.cI (bU.out) (Kd.iD b3.out) (by decide)) b7.out (by decide)) (fun k_ hk=>⟨hk.2,hk.1.2⟩))) (fun _ h_=>Or.inl h_)) (Kd.aZ (Kd.kb rfl (Kd.aZ (ok':=fun k_=>((fun k_=>k_≠b2)) k_∧some k_≠(b8:Value).ownBlock) (Kd.aM (Kd.cI (bV.out) (Kd.iD b3.out) (by decide)) b7.out (by decide)) (fun k_ hk=>⟨hk.2,hk.1.2⟩))) (fun _ h_=>Or.inr (Or.inl h_))) (Kd.aZ (Kd.kb rfl (Kd.aZ (ok':=fun k_=>((fun k_=>k_≠b2)) k_∧some k_≠(b8:Value).ownBlock) (Kd.aM (Kd.cI (bW.out) (Kd.iD b3.out) (by decide)) b7.out (by decide)) (fun k_ hk=>⟨hk.2,hk.1.2⟩))) (fun _ h_=>Or.inr (Or.inr (h_)))))
   (case aB=>exact oB)
   (case aF=>exact(fun k_ hk=>Kd.eO (g:=b2) (o:= .cells #[.int .i64 ((af ag b1).f0),.int .i64 ((af ag b1).f1),.int .i64 ((af ag b1).f2),.slice bB ((af ag b1).f3).length bC,.slice bD ((af ag b1).f4).length bE,.slice bF ((af ag b1).f5).length bG] 58 (0,0)) (oF b7) k_ hk))
   (case aO=>exact(by(with_reducible repeat(first|apply Kd.eL|apply Kd.eR|apply Kd.fi));exact Kd.eV b3.out (fun k_ hk=>⟨hk.1.1.1,fun e_=>e_.elim (fun h_=>hk.1.1.2 h_) (fun h_=>h_.elim (fun h_=>hk.1.2 h_) (fun h_=>hk.2 h_))⟩)))
   (case aS=>exact(ah oB))
   (case aL=>have:=gF.out;omega)
   intro m2 j3 ho hb hg hat;rw[←gG.out]at ho;have dA:=am (ho);replace b4:=lM b4 hg (Kd.zf b3.out b4.out (by decide));replace b5:=lM b5 hg (Kd.zf b3.out b5.out (by decide));replace b6:=lM b6 hg (Kd.zf b3.out b6.out (by decide));replace b7:=lM b7 hg (Kd.ac6 b3.out (fun _ hk=>hk.1.1.1));replace HB:=am (hb);clear b3;clear bU;clear bV;clear bW;clear ho hb hg hat;obtain⟨gA,gB,gC⟩:=Kd.iA dA.out
   (first|subst gC|(injection gC with kn nh kp;have d2:=kn.symm;have d3:=kp.symm;clear kn nh kp;subst d2;subst d3))
   refine eW hK 21 oH (fun hHeld=> ?_);clear hK K;refine bz 6 22 ax ?_;refine yr (i:=7) (N:=none) (lb 8 255) rfl rfl (sa ax.out (by kernel_rfl)) (by decide) (fun K hK=> ?_);have m3:j3.cell? ⟨bL,0,none⟩=some (b8):=(aq b6.out 0).trans rfl;have jN:=ay b6.out 0;have gT:=bH.out;have gU:=bJ.out;have gV:=bT.out;have gW:=bI.out;have gX:=bK.out;have gY:=bS.out;refine su (w1:= ?_) (by rfl) rfl ?_ ?_;rotate_left
   ·go_simp
    rfl
   refine hK.out _ _ ?_;clear hK K;refine mo ax ?_
   try go_wp2
   go_roundg k1
   case measure=>have:=gI.out;omega
   case rel=>exact⟨(wrap64 (b1+1)),(d4),(.slice gA d4.length gB),oS,H',⟨by have:=gI.out;omega⟩,⟨by(with_reducible repeat(first|apply Kd.eL|apply Kd.eR|apply Kd.fi));exact Kd.eV (Kd.eJ (p:=⟨bL,0,none⟩) (Kd.ka dA.out b6.out (by decide)) (fun _ hk=>hk.2) (.slice gA d4.length gB)) (fun _ hk=>trivial)⟩,⟨oF b4⟩,⟨oF b5⟩,⟨oP b6⟩,⟨oB⟩⟩

mutual
def aE.l0:Nat→ByteArray→List ByteArray→Int→Int→Option (List ByteArray×Bool)
 |0,_,_,_,_=>none
 |k+1,x0,x4,x5,x6=>if x6≤(x0.size:Int)then(if x6<(x0.size:Int)then(if 0≤x6 then(aE.j1 k x0 x4 x5 x6 ((bt x0 x6) !=47))else(none))else(aE.j1 k x0 x4 x5 x6 false))else(if(x0.size:Int)=0 then(some ((([]:List ByteArray)),false))else(if 0<(x0.size:Int)then(if(bt x0 0)=47 then(some (x4,true))else(some ((([]:List ByteArray)),false)))else(none)))
def aE.j1:Nat→ByteArray→List ByteArray→Int→Int→Bool→Option (List ByteArray×Bool)
 |0,_,_,_,_,_=>none
 |k+1,x0,x4,x5,x6,b2=>if b2=true then(aE.l0 k x0 x4 x5 (wrap64 (x6+1)))else(if x6>0 then(if 0≤x5 then(if x5≤x6 then(if x6≤(x0.size:Int)then((aQ.f k (x0.extract (x5:Int).toNat (x6:Int).toNat)).bind fun b1=>(if b1=true then(if(x4.length:Int)=30 then(some ((([]:List ByteArray)),false))else(if x4.length<8796093022208 then(aE.l0 k x0 (x4++[x0.extract (x5:Int).toNat (x6:Int).toNat]) (wrap64 (x6+1)) (wrap64 (x6+1)))else(none)))else(some ((([]:List ByteArray)),false))))else(none))else(none))else(none))else(aE.l0 k x0 x4 (wrap64 (x6+1)) (wrap64 (x6+1))))
end
def aE.f (k:Nat) (a0:ByteArray):Option (List ByteArray×Bool):=(some (([]:List ByteArray):List ByteArray)).bind fun b1=>(if a0.toList=([47]:List UInt8)then(some (b1,true))else(aE.l0 k a0 b1 0 0))
theorem aE.calls (k:Nat) (a0:ByteArray) (r1:List ByteArray) (r2:Bool) (w:World) (h:aE.f k a0=some (r1,r2)):
  Calls Tryz.prog 51 #[.string a0] w fun e w'=>∃jx:Value,e= .returned (.tuple #[jx,.bool r2])∧Kd.R Kd.string 9 w' w.heap.size (fun _=>True) jx r1∧Below w.heap.size w w':=by
 have HB:=am (Below.refl w.heap.size w);unfold aE.f at h;have H:=h;clear h;obtain⟨bL,da⟩:∃y_:List ByteArray,y_=(([]:List ByteArray)):=⟨_,rfl⟩;replace H:(if a0.toList=([47]:List UInt8)then(some (bL,true))else(aE.l0 k a0 bL 0 0))=some (r1,r2):=oY;have bB:=ae.mk da;clear da
 by_cases c2:a0.toList=([47]:List UInt8)
 ·rw[if_pos c2]at H;have dG:(a0.toList==([47]:List UInt8))=true:=beq_iff_eq.mpr c2;have dH:(a0.toList !=([47]:List UInt8))=false:=bne_eq_false_iff_eq.mpr c2;clear c2;simp only[Option.some.injEq,Prod.mk.injEq]at H;obtain⟨rfl,rfl⟩:=H
  go_enter func51,ntmps51
  go_wp2_with (first|((with_reducible refine aj (N:=8) rfl ?_);(try(refine cl (by rfl) ?_;dsimp only));refine Kd.kM Kd.string _ 9 ?hg (N:=8) ?hd (xs:=([]:List ByteArray)) (inner:=[]) (ok:=fun _=>True) (fY:=fun _=>True) ?hr ?hp (fun _ hk=>hk) trivial (Below.refl _ _) (Nat.le_refl _) (by simp) ?_;(case hd=>rfl);(case hg=>rfl);(case hr=>first|(go_simp;done)|(go_simp;rfl));(case hp=>exact(cS.none _ _));intro dI w3 bI hb kX ek;clear kX ek;(first|rw[←bB.out]at bI|(simp only[Int.reduceToNat]at bI;rw[←bB.out]at bI));have bG:=am (Kd.an bI (ah oB));replace HB:=hB HB hb;clear hb bI))
  go_ret2
  exact⟨_,oE,oR bG,oB⟩
 rw[if_neg c2]at H;have dG:(a0.toList==([47]:List UInt8))=false:=beq_eq_false_iff_ne.mpr c2;have dH:(a0.toList !=([47]:List UInt8))=true:=bne_iff_ne.mpr c2;have H':=ae.mk H;clear H
 go_enter func51,ntmps51
 go_wp2_with (first|((with_reducible refine aj (N:=8) rfl ?_);(try(refine cl (by rfl) ?_;dsimp only));refine Kd.kM Kd.string _ 9 ?hg (N:=8) ?hd (xs:=([]:List ByteArray)) (inner:=[]) (ok:=fun _=>True) (fY:=fun _=>True) ?hr ?hp (fun _ hk=>hk) trivial (Below.refl _ _) (Nat.le_refl _) (by simp) ?_;(case hd=>rfl);(case hg=>rfl);(case hr=>first|(go_simp;done)|(go_simp;rfl));(case hp=>exact(cS.none _ _));intro dI w5 bJ hb kX ek;clear kX ek;(first|rw[←bB.out]at bJ|(simp only[Int.reduceToNat]at bJ;rw[←bB.out]at bJ));have bG:=am (Kd.an bJ (ah oB));replace HB:=hB HB hb;clear hb bJ))
 go_loopg [4,5,6] k (fun kq v4 v5 v6 w'=>∃(b3:List ByteArray) (b4:Int) (b1:Int),v5= .int .i64 b4∧v6= .int .i64 b1∧ae (aE.l0 kq a0 b3 b4 b1=some (r1,r2))∧ae (kq≤k)∧ae (Kd.R Kd.string 9 w' w.heap.size (fun _=>True) v4 b3)∧ae (Below w.heap.size w w'))
 case atStart=>exact⟨(bL),(0),(0),oS,oS,H',⟨Nat.le_refl _⟩,⟨oR bG⟩,⟨oB⟩⟩
 case round=>
  clear H'
  try clear c2
  obtain⟨b3,b4,b1,rfl,rfl,HA,b9,b2,HB⟩:=hrel
  cases gk with
  |zero=>exact absurd HA.out (by simp[aE.l0])
  |succ k1=>
   have H:=HA.out;clear HA;simp only[aE.l0]at H;replace H:=jm H;rcases H with⟨bR,H⟩|⟨bR,H⟩;rotate_left
   ·by_cases bC:(a0.size:Int)=0
    ·rw[if_pos bC]at H;have bZ:((a0.size:Int)==0)=true:=beq_iff_eq.mpr bC;have d1:((a0.size:Int) !=0)=false:=bne_eq_false_iff_eq.mpr bC;clear bC;obtain⟨dJ,da⟩:∃y_:List ByteArray,y_=(([]:List ByteArray)):=⟨_,rfl⟩;replace H:(some (dJ,false))=some (r1,r2):=oY;have bN:=ae.mk da;clear da;simp only[Option.some.injEq,Prod.mk.injEq]at H;obtain⟨rfl,rfl⟩:=H
     go_wp2_with (first|((with_reducible refine aj (N:=57) rfl ?_);(try(refine cl (by rfl) ?_;dsimp only));refine Kd.kM Kd.string _ 9 ?hg (N:=57) ?hd (xs:=([]:List ByteArray)) (inner:=[]) (ok:=fun _=>True) (fY:=fun _=>True) ?hr ?hp (fun _ hk=>hk) trivial (Below.refl _ _) (Nat.le_refl _) (by simp) ?_;(case hd=>rfl);(case hg=>rfl);(case hr=>first|(go_simp;done)|(go_simp;rfl));(case hp=>exact(cS.none _ _));intro gD gM b5 hb kX ek;clear kX ek;(first|rw[←bN.out]at b5|(simp only[Int.reduceToNat]at b5;rw[←bN.out]at b5));have d2:=am (Kd.an (Kd.fO b5 (oG b2)) (ah oB));replace b2:=ke_ b2 b5 hb;replace HB:=hB HB hb;clear hb b5))
     go_ret2
     exact⟨_,oE,mR d2,oB⟩
    rw[if_neg bC]at H;have bZ:((a0.size:Int)==0)=false:=beq_eq_false_iff_ne.mpr bC;have d1:((a0.size:Int) !=0)=true:=bne_iff_ne.mpr bC;obtain⟨dE,H⟩:=lC H;have dU:decide (0<(a0.size:Int))=true:=decide_eq_true dE;have dV:decide (0<a0.size)=true:=decide_eq_true (by omega);clear dE
    by_cases bD:(bt a0 0)=47
    ·rw[if_pos bD]at H;have d3:((bt a0 0)==47)=true:=beq_iff_eq.mpr bD;have d4:((bt a0 0) !=47)=false:=bne_eq_false_iff_eq.mpr bD;clear bD;simp only[Option.some.injEq,Prod.mk.injEq]at H;obtain⟨rfl,rfl⟩:=H;have bS:0≤(0:Int):=(by omega);have bK:0<a0.size:=(by have:(0:Int)<(a0.size:Int):=oa;omega);have dK:∀h:0<a0.size,((a0[0]'h).toNat:Int)=bt a0 0:=iK a0 0;clear bS;have dL:(0<(a0.size:Int))=True:=eq_true oa;replace bK:=eq_true bK
     go_wp2
     go_ret2
     exact⟨_,oE,oR b2,oB⟩
    rw[if_neg bD]at H;have d3:((bt a0 0)==47)=false:=beq_eq_false_iff_ne.mpr bD;have d4:((bt a0 0) !=47)=true:=bne_iff_ne.mpr bD;obtain⟨dM,da⟩:∃y_:List ByteArray,y_=(([]:List ByteArray)):=⟨_,rfl⟩;replace H:(some (dM,false))=some (r1,r2):=oY;have bO:=ae.mk da;clear da;simp only[Option.some.injEq,Prod.mk.injEq]at H;obtain⟨rfl,rfl⟩:=H;have bS:0≤(0:Int):=(by omega);have bK:0<a0.size:=(by have:(0:Int)<(a0.size:Int):=oa;omega);have dK:∀h:0<a0.size,((a0[0]'h).toNat:Int)=bt a0 0:=iK a0 0;clear bS;have dL:(0<(a0.size:Int))=True:=eq_true oa;replace bK:=eq_true bK
    go_wp2_with (first|((with_reducible refine aj (N:=57) rfl ?_);(try(refine cl (by rfl) ?_;dsimp only));refine Kd.kM Kd.string _ 9 ?hg (N:=57) ?hd (xs:=([]:List ByteArray)) (inner:=[]) (ok:=fun _=>True) (fY:=fun _=>True) ?hr ?hp (fun _ hk=>hk) trivial (Below.refl _ _) (Nat.le_refl _) (by simp) ?_;(case hd=>rfl);(case hg=>rfl);(case hr=>first|(go_simp;done)|(go_simp;rfl));(case hp=>exact(cS.none _ _));intro gE gN b6 hb kX ek;clear kX ek;(first|rw[←bO.out]at b6|(simp only[Int.reduceToNat]at b6;rw[←bO.out]at b6));have d5:=am (Kd.an (Kd.fO b6 (oG b2)) (ah oB));replace b2:=ke_ b2 b6 hb;replace HB:=hB HB hb;clear hb b6))
    go_ret2
    exact⟨_,oE,mR d5,oB⟩
   have bT:=ae.mk H;clear H
   go_upto_region 8 with(fail)
   go_cut [27] (fun dT wc=>∃(kq:Nat) (bH:Bool),dT= .bool bH∧ae (aE.j1 kq a0 b3 b4 b1 bH=some (r1,r2))∧ae (kq≤k1)∧ae (Kd.R Kd.string 9 wc w.heap.size (fun _=>True) u4 b3)∧ae (Below w.heap.size w wc))
   case first=>
    have H:=bT.out;clear bT;replace H:=jm H;rcases H with⟨bM,H⟩|⟨bM,H⟩;rotate_left
    ·(first|rw[bM]|skip)
     have H':=ae.mk H;clear H
     go_wp2
     go_meet
     case rel=>exact⟨_,(false),oS,H',⟨by have:=b9.out;first|omega|exact Nat.le_refl _⟩,⟨oR b2⟩,⟨oB⟩⟩
    (first|rw[bM]|skip)
    obtain⟨dW,H⟩:=cU H;have H':=ae.mk H;clear H;have gO:(0≤(b1:Int))=True:=oT;have gP:(b1<(a0.size:Int))=True:=oT;have gF:=iK a0 b1
    go_wp2
    go_meet
    case rel=>exact⟨_,(((bt a0 b1) !=47)),oS,H',⟨by have:=b9.out;first|omega|exact Nat.le_refl _⟩,⟨oR b2⟩,⟨oB⟩⟩
   case rest=>
    clear bT
    try clear c2
    try clear bR
    obtain⟨kq,bH,rfl,HA,bF,b2,HB⟩:=hcut
    cases kq with
    |zero=>exact absurd HA.out (by simp[aE.j1])
    |succ kj7=>
     have H:=HA.out;clear HA;simp only[aE.j1]at H;replace H:=lr H;rcases H with⟨rfl,H⟩|⟨rfl,H⟩
     ·have H':=ae.mk H;clear H
      go_wp2
      go_roundg kj7
      case measure=>have:=b9.out;have:=bF.out;omega
      case rel=>exact⟨(b3),(b4),(wrap64 (b1+1)),oS,oS,H',⟨by have:=b9.out;have:=bF.out;omega⟩,⟨oR b2⟩,⟨oB⟩⟩
     replace H:=AA H;rcases H with⟨d6,H⟩|⟨d6,H⟩;rotate_left
     ·have H':=ae.mk H;clear H
      go_wp2
      go_roundg kj7
      case measure=>have:=b9.out;have:=bF.out;omega
      case rel=>exact⟨(b3),(wrap64 (b1+1)),(wrap64 (b1+1)),oS,oS,H',⟨by have:=b9.out;have:=bF.out;omega⟩,⟨oR b2⟩,⟨oB⟩⟩
     obtain⟨bU,H⟩:=lC H;have dX:=eq_true bU;have dY:decide (0≤b4)=true:=decide_eq_true bU;clear bU;obtain⟨bV,H⟩:=lC H;have dZ:=eq_true bV;have gA:decide (b4≤b1)=true:=decide_eq_true bV;clear bV;obtain⟨bW,H⟩:=lC H;have gB:=eq_true bW;have gC:decide (b1≤(a0.size:Int))=true:=decide_eq_true bW;clear bW;replace H:=bA H;obtain⟨gG,bX,H⟩:=H
     try dsimp only at H
     replace H:=lr H;rcases H with⟨rfl,H⟩|⟨rfl,H⟩;rotate_left
     ·obtain⟨dN,da⟩:∃y_:List ByteArray,y_=(([]:List ByteArray)):=⟨_,rfl⟩;replace H:(some (dN,false))=some (r1,r2):=oY;have bP:=ae.mk da;clear da;simp only[Option.some.injEq,Prod.mk.injEq]at H;obtain⟨rfl,rfl⟩:=H
      go_wp2_with (first|((with_reducible refine ai (f:=63) rfl ?_);refine ej 35 func63 (aQ.calls kj7 (a0.extract (b4:Int).toNat (b1:Int).toNat) false _ bX.out) ?_;rintro e w' ⟨rfl,⟨nd,rfl⟩⟩;refine⟨_,rfl,?_⟩)|((with_reducible refine aj (N:=42) rfl ?_);(try(refine cl (by rfl) ?_;dsimp only));refine Kd.kM Kd.string _ 9 ?hg (N:=42) ?hd (xs:=([]:List ByteArray)) (inner:=[]) (ok:=fun _=>True) (fY:=fun _=>True) ?hr ?hp (fun _ hk=>hk) trivial (Below.refl _ _) (Nat.le_refl _) (by simp) ?_;(case hd=>rfl);(case hg=>rfl);(case hr=>first|(go_simp;done)|(go_simp;rfl));(case hp=>exact(cS.none _ _));intro gH gQ b7 hb kX ek;clear kX ek;(first|rw[←bP.out]at b7|(simp only[Int.reduceToNat]at b7;rw[←bP.out]at b7));have d7:=am (Kd.an (Kd.fO b7 (oG b2)) (ah oB));replace b2:=ke_ b2 b7 hb;replace HB:=hB HB hb;clear hb b7))
      go_ret2
      exact⟨_,oE,mR d7,oB⟩
     by_cases bE:(b3.length:Int)=30
     ·rw[if_pos bE]at H;have d8:((b3.length:Int)==30)=true:=beq_iff_eq.mpr bE;have d9:((b3.length:Int) !=30)=false:=bne_eq_false_iff_eq.mpr bE;clear bE;obtain⟨dO,da⟩:∃y_:List ByteArray,y_=(([]:List ByteArray)):=⟨_,rfl⟩;replace H:(some (dO,false))=some (r1,r2):=oY;have bQ:=ae.mk da;clear da;simp only[Option.some.injEq,Prod.mk.injEq]at H;obtain⟨rfl,rfl⟩:=H
      go_wp2_with (first|((with_reducible refine ai (f:=63) rfl ?_);refine ej 35 func63 (aQ.calls kj7 (a0.extract (b4:Int).toNat (b1:Int).toNat) true _ bX.out) ?_;rintro e w' ⟨rfl,⟨nd,rfl⟩⟩;refine⟨_,rfl,?_⟩;obtain⟨gI,gJ,dP⟩:=Kd.ao b2.out;subst dP)|((with_reducible refine aj (N:=42) rfl ?_);(try(refine cl (by rfl) ?_;dsimp only));refine Kd.kM Kd.string _ 9 ?hg (N:=42) ?hd (xs:=([]:List ByteArray)) (inner:=[]) (ok:=fun _=>True) (fY:=fun _=>True) ?hr ?hp (fun _ hk=>hk) trivial (Below.refl _ _) (Nat.le_refl _) (by simp) ?_;(case hd=>rfl);(case hg=>rfl);(case hr=>first|(go_simp;done)|(go_simp;rfl));(case hp=>exact(cS.none _ _));intro gK gR b8 hb kX ek;clear kX ek;(first|rw[←bQ.out]at b8|(simp only[Int.reduceToNat]at b8;rw[←bQ.out]at b8));have dA:=am (Kd.an (Kd.fO b8 (oG b2)) (ah oB));replace b2:=ke_ b2 b8 hb;replace HB:=hB HB hb;clear hb b8))
      go_ret2
      exact⟨_,oE,mR dA,oB⟩
     rw[if_neg bE]at H;have d8:((b3.length:Int)==30)=false:=beq_eq_false_iff_ne.mpr bE;have d9:((b3.length:Int) !=30)=true:=bne_iff_ne.mpr bE;obtain⟨dF,H⟩:=lC H;have dB:=ae.mk dF;clear dF;obtain⟨bY,da⟩:∃y_:List ByteArray,y_=(b3++[a0.extract (b4:Int).toNat (b1:Int).toNat]):=⟨_,rfl⟩;replace H:(aE.l0 kj7 a0 bY (wrap64 (b1+1)) (wrap64 (b1+1)))=some (r1,r2):=oY;have dC:=ae.mk da;clear da;have H':=ae.mk H;clear H
     go_wp2_with (first|((with_reducible refine ai (f:=63) rfl ?_);refine ej 35 func63 (aQ.calls kj7 (a0.extract (b4:Int).toNat (b1:Int).toNat) true _ bX.out) ?_;rintro e w' ⟨rfl,⟨nd,rfl⟩⟩;refine⟨_,rfl,?_⟩;obtain⟨dQ,dR,dS⟩:=Kd.ao b2.out;subst dS)|((with_reducible refine eU (b:= .append) (xs:= #[.tmp 43,.tmp 45]) rfl ?_);(try(refine cl (by rfl) ?_;dsimp only));at_builtin;refine Kd.pb Kd.string (w0:=w) w.heap.size rfl (.tmp 43) (.tmp 45) 68 9 (.string ⟨#[]⟩) 16 rfl underlying68 info9 rfl (by decide) (by omega) (.slice dQ b3.length dR) b3 (a0.extract (b4:Int).toNat (b1:Int).toNat) [.string (a0.extract (b4:Int).toNat (b1:Int).toNat)] (fun _=>True) (fun _=>False) rfl rfl ?aP (fun _ hk=>hk.elim) ?aF ?aO ?aB ?aS ?aL ?_;(case aP=>exact rfl);(case aB=>exact oB);(case aF=>exact(fun _ _=>trivial));(case aO=>exact(oR b2));(case aS=>exact(ah oB));(case aL=>have:=dB.out;omega);intro gL gS ho hb hg hat;rw[←dC.out]at ho;have dD:=am (ho);replace HB:=am (hb);clear b2;clear ho hb hg hat))
     go_roundg kj7
     case measure=>have:=b9.out;have:=bF.out;omega
     case rel=>exact⟨(bY),(wrap64 (b1+1)),(wrap64 (b1+1)),oS,oS,H',⟨by have:=b9.out;have:=bF.out;omega⟩,⟨oR dD⟩,⟨oB⟩⟩

def eh.l0:Nat→List (cA)→Int→Option (Bool)
 |0,_,_=>none
 |k+1,x0,x3=>if x3<(x0.length:Int)then(if 0≤x3 then((aQ.f k ((al x0 x3).f0)).bind fun b1=>(if b1=true then((bb.f ((al x0 x3).f1) 2 1000).bind fun b2=>(if b2=true then(if x3>0 then(if 0≤(wrap64 (x3-1))then(if(wrap64 (x3-1))<(x0.length:Int)then(if((Op.bytesLess (((al x0 (wrap64 (x3-1))).f0).toList) (((al x0 x3).f0).toList))=true)then(eh.l0 k x0 (wrap64 (x3+1)))else(some false))else(none))else(none))else(eh.l0 k x0 (wrap64 (x3+1))))else(some false)))else(some false)))else(none))else(some (decide ((x0.length:Int)≤10)))
def eh.f (k:Nat) (l0:List (cA)):Option (Bool):=eh.l0 k l0 0
theorem eh.calls (k:Nat) (A0:Option Addr) (c0:Nat) (l0:List (cA)) (r:Bool) (w:World) (hr0:Kd.C fI w A0 l0.length l0) (hc0:l0.length≤c0) (h:eh.f k l0=some r):
  Calls Tryz.prog 139 #[.slice A0 l0.length c0] w fun e w'=>e= .returned (.bool r)∧fC w w':=by
 have b7:=ae.mk hr0;have d6:=ae.mk hc0;clear hr0 hc0;unfold eh.f at h;have H:=h;clear h;have H':=ae.mk H;clear H
 go_enter func139,ntmps139
 go_wp2
 repeat(go_quiet (fail);try go_wp2)
 go_loopg [3] k (fun kq v3 w'=>∃(b1:Int),v3= .int .i64 b1∧ae (eh.l0 kq l0 b1=some r)∧ae (kq≤k)∧fC w w')
 case atStart=>exact⟨(0),oS,H',⟨Nat.le_refl _⟩,oD⟩
 case round=>
  clear H';obtain⟨b1,rfl,HA,bV,⟨m1,rfl⟩⟩:=hrel
  cases gk with
  |zero=>exact absurd HA.out (by simp[eh.l0])
  |succ k1=>
   have H:=HA.out;clear HA;simp only[eh.l0]at H;replace H:=jm H;rcases H with⟨bX,H⟩|⟨bX,H⟩;rotate_left
   ·obtain rfl:=Option.some.inj H
    go_wp2
    repeat(go_quiet (fail);try go_wp2)
    go_ret
    exact⟨oS,oD⟩
   obtain⟨d3,H⟩:=cU H;replace H:=bA H;obtain⟨d4,A4,H⟩:=H
   try dsimp only at H
   replace H:=lr H;rcases H with⟨rfl,H⟩|⟨rfl,H⟩;rotate_left
   ·obtain rfl:=Option.some.inj H;have bT:(0≤(b1:Int))=True:=oT;have bU:(b1<(l0.length:Int))=True:=oT;obtain⟨b2,bO,bP,bQ⟩:=cV b7.out b1 oa oa
    cases bO
    go_wp2_with (first|(go_at_call 63;(with_reducible refine(aQ.calls k1 ((al l0 b1).f0) false _ A4.out).mono ?_);rintro e w' ⟨rfl,⟨nd,rfl⟩⟩))
    repeat(go_quiet (first|(go_at_call 63;(with_reducible refine(aQ.calls k1 ((al l0 b1).f0) false _ A4.out).mono ?_);rintro e w' ⟨rfl,⟨nd,rfl⟩⟩;exact oQ));try go_wp2_with (first|(go_at_call 63;(with_reducible refine(aQ.calls k1 ((al l0 b1).f0) false _ A4.out).mono ?_);rintro e w' ⟨rfl,⟨nd,rfl⟩⟩)))
    go_ret
    exact⟨oS,oD⟩
   replace H:=bA H;obtain⟨d5,A6,H⟩:=H
   try dsimp only at H
   replace H:=lr H;rcases H with⟨rfl,H⟩|⟨rfl,H⟩;rotate_left
   ·obtain rfl:=Option.some.inj H;have bT:(0≤(b1:Int))=True:=oT;have bU:(b1<(l0.length:Int))=True:=oT;obtain⟨b2,bO,bP,bQ⟩:=cV b7.out b1 oa oa
    cases bO
    go_wp2_with (first|(go_at_call 63;(with_reducible refine(aQ.calls k1 ((al l0 b1).f0) true _ A4.out).mono ?_);rintro e w' ⟨rfl,⟨nd,rfl⟩⟩;have b4:(0≤(b1:Int))=True:=oT;have b5:(b1<(l0.length:Int))=True:=oT;obtain⟨b3,b6,b8,b9⟩:=cV b7.out b1 oa oa;obtain rfl:b2=b3:=(by injection b6))|(go_at_call 60;(with_reducible refine(bb.calls ((al l0 b1).f1) 2 1000 false _ A6.out).mono ?_);rintro e w' ⟨rfl,⟨nd,rfl⟩⟩))
    try(have b4:0≤(b1:Int):=oa;have b5:b1<(l0.length:Int):=oa;obtain⟨b3,b6,b8,b9⟩:=cV b7.out b1 b4 b5;obtain rfl:b2=b3:=(by injection b6);replace b4:=eq_true b4;replace b5:=eq_true b5)
    repeat(go_quiet (first|(go_at_call 63;(with_reducible refine(aQ.calls k1 ((al l0 b1).f0) true _ A4.out).mono ?_);rintro e w' ⟨rfl,⟨nd,rfl⟩⟩;exact oQ)|(go_at_call 60;(with_reducible refine(bb.calls ((al l0 b1).f1) 2 1000 false _ A6.out).mono ?_);rintro e w' ⟨rfl,⟨nd,rfl⟩⟩;exact oQ));try go_wp2_with (first|(go_at_call 63;(with_reducible refine(aQ.calls k1 ((al l0 b1).f0) true _ A4.out).mono ?_);rintro e w' ⟨rfl,⟨nd,rfl⟩⟩;have b4:(0≤(b1:Int))=True:=oT;have b5:(b1<(l0.length:Int))=True:=oT;obtain⟨b3,b6,b8,b9⟩:=cV b7.out b1 oa oa;obtain rfl:b2=b3:=(by injection b6))|(go_at_call 60;(with_reducible refine(bb.calls ((al l0 b1).f1) 2 1000 false _ A6.out).mono ?_);rintro e w' ⟨rfl,⟨nd,rfl⟩⟩)))
    go_ret
    exact⟨oS,oD⟩
   replace H:=AA H;rcases H with⟨bY,H⟩|⟨bY,H⟩;rotate_left
   ·have H':=ae.mk H;clear H;have bT:(0≤(b1:Int))=True:=oT;have bU:(b1<(l0.length:Int))=True:=oT;obtain⟨b2,bO,bP,bQ⟩:=cV b7.out b1 oa oa
    cases bO
    go_wp2_with (first|(go_at_call 63;(with_reducible refine(aQ.calls k1 ((al l0 b1).f0) true _ A4.out).mono ?_);rintro e w' ⟨rfl,⟨nd,rfl⟩⟩;have b4:(0≤(b1:Int))=True:=oT;have b5:(b1<(l0.length:Int))=True:=oT;obtain⟨b3,b6,b8,b9⟩:=cV b7.out b1 oa oa;obtain rfl:b2=b3:=(by injection b6))|(go_at_call 60;(with_reducible refine(bb.calls ((al l0 b1).f1) 2 1000 true _ A6.out).mono ?_);rintro e w' ⟨rfl,⟨nd,rfl⟩⟩))
    try(have b4:0≤(b1:Int):=oa;have b5:b1<(l0.length:Int):=oa;obtain⟨b3,b6,b8,b9⟩:=cV b7.out b1 b4 b5;obtain rfl:b2=b3:=(by injection b6);replace b4:=eq_true b4;replace b5:=eq_true b5)
    repeat(go_quiet (first|(go_at_call 63;(with_reducible refine(aQ.calls k1 ((al l0 b1).f0) true _ A4.out).mono ?_);rintro e w' ⟨rfl,⟨nd,rfl⟩⟩;exact oQ)|(go_at_call 60;(with_reducible refine(bb.calls ((al l0 b1).f1) 2 1000 true _ A6.out).mono ?_);rintro e w' ⟨rfl,⟨nd,rfl⟩⟩;exact oQ));try go_wp2_with (first|(go_at_call 63;(with_reducible refine(aQ.calls k1 ((al l0 b1).f0) true _ A4.out).mono ?_);rintro e w' ⟨rfl,⟨nd,rfl⟩⟩;have b4:(0≤(b1:Int))=True:=oT;have b5:(b1<(l0.length:Int))=True:=oT;obtain⟨b3,b6,b8,b9⟩:=cV b7.out b1 oa oa;obtain rfl:b2=b3:=(by injection b6))|(go_at_call 60;(with_reducible refine(bb.calls ((al l0 b1).f1) 2 1000 true _ A6.out).mono ?_);rintro e w' ⟨rfl,⟨nd,rfl⟩⟩)))
    go_roundg k1
    case measure=>have:=bV.out;omega
    case rel=>exact⟨(wrap64 (b1+1)),oS,H',⟨by have:=bV.out;omega⟩,oD⟩
   obtain⟨bB,bR⟩:∃j_:Int,(wrap64 (b1-1))=j_:=⟨_,rfl⟩
   replace H:(if 0≤(bB)then(if(bB)<(l0.length:Int)then(if((Op.bytesLess (((al l0 (bB)).f0).toList) (((al l0 b1).f0).toList))=true)then(eh.l0 k1 l0 (wrap64 (b1+1)))else(some false))else(none))else(none))=some r:=by first|(rw[bR]at H;exact H)|(simp only[bR]at H⊢;exact H)
   (try rw[bR]at A4)
   (try rw[bR]at A6)
   have bZ:(IntKind.i64.wrap (b1-1))=bB:=(kK _).trans bR;obtain⟨d1,H⟩:=cU H;obtain⟨d2,H⟩:=cU H
   by_cases bS:((Op.bytesLess (((al l0 (bB)).f0).toList) (((al l0 b1).f0).toList))=true)
   rotate_left
   ·rw[if_neg bS]at H
    have bW:(Op.bytesLess (((al l0 (bB)).f0).toList) (((al l0 b1).f0).toList))=false:=by simpa using bS
    clear bS;obtain rfl:=Option.some.inj H;have bT:(0≤(b1:Int))=True:=oT;have bU:(b1<(l0.length:Int))=True:=oT;obtain⟨b2,bO,bP,bQ⟩:=cV b7.out b1 oa oa
    cases bO
    go_wp2_with (first|(go_at_call 63;(with_reducible refine(aQ.calls k1 ((al l0 b1).f0) true _ A4.out).mono ?_);rintro e w' ⟨rfl,⟨nd,rfl⟩⟩;have b4:(0≤(b1:Int))=True:=oT;have b5:(b1<(l0.length:Int))=True:=oT;obtain⟨b3,b6,b8,b9⟩:=cV b7.out b1 oa oa;obtain rfl:b2=b3:=(by injection b6))|(go_at_call 60;(with_reducible refine(bb.calls ((al l0 b1).f1) 2 1000 true _ A6.out).mono ?_);rintro e w' ⟨rfl,⟨nd,rfl⟩⟩;have bE:(0≤((bB):Int))=True:=oT;have bF:((bB)<(l0.length:Int))=True:=oT;obtain⟨bC,bG,bK,bL⟩:=cV b7.out (bB) oa oa;obtain rfl:b2=bC:=(by injection bG);have bH:(0≤(b1:Int))=True:=oT;have bI:(b1<(l0.length:Int))=True:=oT;obtain⟨bD,bJ,bM,bN⟩:=cV b7.out b1 oa oa;obtain rfl:b2=bD:=(by injection bJ)))
    try(have b4:0≤(b1:Int):=oa;have b5:b1<(l0.length:Int):=oa;obtain⟨b3,b6,b8,b9⟩:=cV b7.out b1 b4 b5;obtain rfl:b2=b3:=(by injection b6);replace b4:=eq_true b4;replace b5:=eq_true b5)
    try(have bE:0≤((bB):Int):=oa;have bF:(bB)<(l0.length:Int):=oa;obtain⟨bC,bG,bK,bL⟩:=cV b7.out (bB) bE bF;obtain rfl:b2=bC:=(by injection bG);replace bE:=eq_true bE;replace bF:=eq_true bF;have bH:0≤(b1:Int):=oa;have bI:b1<(l0.length:Int):=oa;obtain⟨bD,bJ,bM,bN⟩:=cV b7.out b1 bH bI;obtain rfl:b2=bD:=(by injection bJ);replace bH:=eq_true bH;replace bI:=eq_true bI)
    repeat(go_quiet (first|(go_at_call 63;(with_reducible refine(aQ.calls k1 ((al l0 b1).f0) true _ A4.out).mono ?_);rintro e w' ⟨rfl,⟨nd,rfl⟩⟩;exact oQ)|(go_at_call 60;(with_reducible refine(bb.calls ((al l0 b1).f1) 2 1000 true _ A6.out).mono ?_);rintro e w' ⟨rfl,⟨nd,rfl⟩⟩;exact oQ));try go_wp2_with (first|(go_at_call 63;(with_reducible refine(aQ.calls k1 ((al l0 b1).f0) true _ A4.out).mono ?_);rintro e w' ⟨rfl,⟨nd,rfl⟩⟩;have b4:(0≤(b1:Int))=True:=oT;have b5:(b1<(l0.length:Int))=True:=oT;obtain⟨b3,b6,b8,b9⟩:=cV b7.out b1 oa oa;obtain rfl:b2=b3:=(by injection b6))|(go_at_call 60;(with_reducible refine(bb.calls ((al l0 b1).f1) 2 1000 true _ A6.out).mono ?_);rintro e w' ⟨rfl,⟨nd,rfl⟩⟩;have bE:(0≤((bB):Int))=True:=oT;have bF:((bB)<(l0.length:Int))=True:=oT;obtain⟨bC,bG,bK,bL⟩:=cV b7.out (bB) oa oa;obtain rfl:b2=bC:=(by injection bG);have bH:(0≤(b1:Int))=True:=oT;have bI:(b1<(l0.length:Int))=True:=oT;obtain⟨bD,bJ,bM,bN⟩:=cV b7.out b1 oa oa;obtain rfl:b2=bD:=(by injection bJ))))
    go_ret
    exact⟨by first|rfl|(simp;done)|(simp only[←bR]<;>(first|rfl|simp))|(simp[*];done),oD⟩
   rw[if_pos bS]at H;have bW:(Op.bytesLess (((al l0 (bB)).f0).toList) (((al l0 b1).f0).toList))=true:=bS;clear bS;have H':=ae.mk H;clear H;have bT:(0≤(b1:Int))=True:=oT;have bU:(b1<(l0.length:Int))=True:=oT;obtain⟨b2,bO,bP,bQ⟩:=cV b7.out b1 oa oa
   cases bO
   go_wp2_with (first|(go_at_call 63;(with_reducible refine(aQ.calls k1 ((al l0 b1).f0) true _ A4.out).mono ?_);rintro e w' ⟨rfl,⟨nd,rfl⟩⟩;have b4:(0≤(b1:Int))=True:=oT;have b5:(b1<(l0.length:Int))=True:=oT;obtain⟨b3,b6,b8,b9⟩:=cV b7.out b1 oa oa;obtain rfl:b2=b3:=(by injection b6))|(go_at_call 60;(with_reducible refine(bb.calls ((al l0 b1).f1) 2 1000 true _ A6.out).mono ?_);rintro e w' ⟨rfl,⟨nd,rfl⟩⟩;have bE:(0≤((bB):Int))=True:=oT;have bF:((bB)<(l0.length:Int))=True:=oT;obtain⟨bC,bG,bK,bL⟩:=cV b7.out (bB) oa oa;obtain rfl:b2=bC:=(by injection bG);have bH:(0≤(b1:Int))=True:=oT;have bI:(b1<(l0.length:Int))=True:=oT;obtain⟨bD,bJ,bM,bN⟩:=cV b7.out b1 oa oa;obtain rfl:b2=bD:=(by injection bJ)))
   try(have b4:0≤(b1:Int):=oa;have b5:b1<(l0.length:Int):=oa;obtain⟨b3,b6,b8,b9⟩:=cV b7.out b1 b4 b5;obtain rfl:b2=b3:=(by injection b6);replace b4:=eq_true b4;replace b5:=eq_true b5)
   try(have bE:0≤((bB):Int):=oa;have bF:(bB)<(l0.length:Int):=oa;obtain⟨bC,bG,bK,bL⟩:=cV b7.out (bB) bE bF;obtain rfl:b2=bC:=(by injection bG);replace bE:=eq_true bE;replace bF:=eq_true bF;have bH:0≤(b1:Int):=oa;have bI:b1<(l0.length:Int):=oa;obtain⟨bD,bJ,bM,bN⟩:=cV b7.out b1 bH bI;obtain rfl:b2=bD:=(by injection bJ);replace bH:=eq_true bH;replace bI:=eq_true bI)
   repeat(go_quiet (first|(go_at_call 63;(with_reducible refine(aQ.calls k1 ((al l0 b1).f0) true _ A4.out).mono ?_);rintro e w' ⟨rfl,⟨nd,rfl⟩⟩;exact oQ)|(go_at_call 60;(with_reducible refine(bb.calls ((al l0 b1).f1) 2 1000 true _ A6.out).mono ?_);rintro e w' ⟨rfl,⟨nd,rfl⟩⟩;exact oQ));try go_wp2_with (first|(go_at_call 63;(with_reducible refine(aQ.calls k1 ((al l0 b1).f0) true _ A4.out).mono ?_);rintro e w' ⟨rfl,⟨nd,rfl⟩⟩;have b4:(0≤(b1:Int))=True:=oT;have b5:(b1<(l0.length:Int))=True:=oT;obtain⟨b3,b6,b8,b9⟩:=cV b7.out b1 oa oa;obtain rfl:b2=b3:=(by injection b6))|(go_at_call 60;(with_reducible refine(bb.calls ((al l0 b1).f1) 2 1000 true _ A6.out).mono ?_);rintro e w' ⟨rfl,⟨nd,rfl⟩⟩;have bE:(0≤((bB):Int))=True:=oT;have bF:((bB)<(l0.length:Int))=True:=oT;obtain⟨bC,bG,bK,bL⟩:=cV b7.out (bB) oa oa;obtain rfl:b2=bC:=(by injection bG);have bH:(0≤(b1:Int))=True:=oT;have bI:(b1<(l0.length:Int))=True:=oT;obtain⟨bD,bJ,bM,bN⟩:=cV b7.out b1 oa oa;obtain rfl:b2=bD:=(by injection bJ))))
   go_roundg k1
   case measure=>have:=bV.out;omega
   case rel=>exact⟨(wrap64 (b1+1)),oS,H',⟨by have:=bV.out;omega⟩,oD⟩

def dt.l0:Nat→List (eu)→Int→Option (Bool)
 |0,_,_=>none
 |k+1,x0,x3=>if x3<(x0.length:Int)then(if 0≤x3 then((aQ.f k ((aw x0 x3).f0)).bind fun b1=>(if b1=true then((bb.f (((aw x0 x3).f1).size:Int) 1 16).bind fun b2=>(if b2=true then(if x3>0 then(if 0≤(wrap64 (x3-1))then(if(wrap64 (x3-1))<(x0.length:Int)then(if((Op.bytesLess (((aw x0 (wrap64 (x3-1))).f0).toList) (((aw x0 x3).f0).toList))=true)then(dt.l0 k x0 (wrap64 (x3+1)))else(some false))else(none))else(none))else(dt.l0 k x0 (wrap64 (x3+1))))else(some false)))else(some false)))else(none))else(some (decide ((x0.length:Int)≤4)))
def dt.f (k:Nat) (l0:List (eu)):Option (Bool):=dt.l0 k l0 0
theorem dt.calls (k:Nat) (A0:Option Addr) (c0:Nat) (l0:List (eu)) (r:Bool) (w:World) (hr0:Kd.C jl w A0 l0.length l0) (hc0:l0.length≤c0) (h:dt.f k l0=some r):
  Calls Tryz.prog 140 #[.slice A0 l0.length c0] w fun e w'=>e= .returned (.bool r)∧fC w w':=by
 have b7:=ae.mk hr0;have d6:=ae.mk hc0;clear hr0 hc0;unfold dt.f at h;have H:=h;clear h;have H':=ae.mk H;clear H
 go_enter func140,ntmps140
 go_wp2
 repeat(go_quiet (fail);try go_wp2)
 go_loopg [3] k (fun kq v3 w'=>∃(b1:Int),v3= .int .i64 b1∧ae (dt.l0 kq l0 b1=some r)∧ae (kq≤k)∧fC w w')
 case atStart=>exact⟨(0),oS,H',⟨Nat.le_refl _⟩,oD⟩
 case round=>
  clear H';obtain⟨b1,rfl,HA,bV,⟨m1,rfl⟩⟩:=hrel
  cases gk with
  |zero=>exact absurd HA.out (by simp[dt.l0])
  |succ k1=>
   have H:=HA.out;clear HA;simp only[dt.l0]at H;replace H:=jm H;rcases H with⟨bX,H⟩|⟨bX,H⟩;rotate_left
   ·obtain rfl:=Option.some.inj H
    go_wp2
    repeat(go_quiet (fail);try go_wp2)
    go_ret
    exact⟨oS,oD⟩
   obtain⟨d3,H⟩:=cU H;replace H:=bA H;obtain⟨d4,A4,H⟩:=H
   try dsimp only at H
   replace H:=lr H;rcases H with⟨rfl,H⟩|⟨rfl,H⟩;rotate_left
   ·obtain rfl:=Option.some.inj H;have bT:(0≤(b1:Int))=True:=oT;have bU:(b1<(l0.length:Int))=True:=oT;obtain⟨b2,bO,bP,bQ⟩:=ep b7.out b1 oa oa
    cases bO
    go_wp2_with (first|(go_at_call 63;(with_reducible refine(aQ.calls k1 ((aw l0 b1).f0) false _ A4.out).mono ?_);rintro e w' ⟨rfl,⟨nd,rfl⟩⟩))
    repeat(go_quiet (first|(go_at_call 63;(with_reducible refine(aQ.calls k1 ((aw l0 b1).f0) false _ A4.out).mono ?_);rintro e w' ⟨rfl,⟨nd,rfl⟩⟩;exact oQ));try go_wp2_with (first|(go_at_call 63;(with_reducible refine(aQ.calls k1 ((aw l0 b1).f0) false _ A4.out).mono ?_);rintro e w' ⟨rfl,⟨nd,rfl⟩⟩)))
    go_ret
    exact⟨oS,oD⟩
   replace H:=bA H;obtain⟨d5,A6,H⟩:=H
   try dsimp only at H
   replace H:=lr H;rcases H with⟨rfl,H⟩|⟨rfl,H⟩;rotate_left
   ·obtain rfl:=Option.some.inj H;have bT:(0≤(b1:Int))=True:=oT;have bU:(b1<(l0.length:Int))=True:=oT;obtain⟨b2,bO,bP,bQ⟩:=ep b7.out b1 oa oa
    cases bO
    go_wp2_with (first|(go_at_call 63;(with_reducible refine(aQ.calls k1 ((aw l0 b1).f0) true _ A4.out).mono ?_);rintro e w' ⟨rfl,⟨nd,rfl⟩⟩;have b4:(0≤(b1:Int))=True:=oT;have b5:(b1<(l0.length:Int))=True:=oT;obtain⟨b3,b6,b8,b9⟩:=ep b7.out b1 oa oa;obtain rfl:b2=b3:=(by injection b6))|(go_at_call 60;(with_reducible refine(bb.calls (((aw l0 b1).f1).size:Int) 1 16 false _ A6.out).mono ?_);rintro e w' ⟨rfl,⟨nd,rfl⟩⟩))
    try(have b4:0≤(b1:Int):=oa;have b5:b1<(l0.length:Int):=oa;obtain⟨b3,b6,b8,b9⟩:=ep b7.out b1 b4 b5;obtain rfl:b2=b3:=(by injection b6);replace b4:=eq_true b4;replace b5:=eq_true b5)
    repeat(go_quiet (first|(go_at_call 63;(with_reducible refine(aQ.calls k1 ((aw l0 b1).f0) true _ A4.out).mono ?_);rintro e w' ⟨rfl,⟨nd,rfl⟩⟩;exact oQ)|(go_at_call 60;(with_reducible refine(bb.calls (((aw l0 b1).f1).size:Int) 1 16 false _ A6.out).mono ?_);rintro e w' ⟨rfl,⟨nd,rfl⟩⟩;exact oQ));try go_wp2_with (first|(go_at_call 63;(with_reducible refine(aQ.calls k1 ((aw l0 b1).f0) true _ A4.out).mono ?_);rintro e w' ⟨rfl,⟨nd,rfl⟩⟩;have b4:(0≤(b1:Int))=True:=oT;have b5:(b1<(l0.length:Int))=True:=oT;obtain⟨b3,b6,b8,b9⟩:=ep b7.out b1 oa oa;obtain rfl:b2=b3:=(by injection b6))|(go_at_call 60;(with_reducible refine(bb.calls (((aw l0 b1).f1).size:Int) 1 16 false _ A6.out).mono ?_);rintro e w' ⟨rfl,⟨nd,rfl⟩⟩)))
    go_ret
    exact⟨oS,oD⟩
   replace H:=AA H;rcases H with⟨bY,H⟩|⟨bY,H⟩;rotate_left
   ·have H':=ae.mk H;clear H;have bT:(0≤(b1:Int))=True:=oT;have bU:(b1<(l0.length:Int))=True:=oT;obtain⟨b2,bO,bP,bQ⟩:=ep b7.out b1 oa oa
    cases bO
    go_wp2_with (first|(go_at_call 63;(with_reducible refine(aQ.calls k1 ((aw l0 b1).f0) true _ A4.out).mono ?_);rintro e w' ⟨rfl,⟨nd,rfl⟩⟩;have b4:(0≤(b1:Int))=True:=oT;have b5:(b1<(l0.length:Int))=True:=oT;obtain⟨b3,b6,b8,b9⟩:=ep b7.out b1 oa oa;obtain rfl:b2=b3:=(by injection b6))|(go_at_call 60;(with_reducible refine(bb.calls (((aw l0 b1).f1).size:Int) 1 16 true _ A6.out).mono ?_);rintro e w' ⟨rfl,⟨nd,rfl⟩⟩))
    try(have b4:0≤(b1:Int):=oa;have b5:b1<(l0.length:Int):=oa;obtain⟨b3,b6,b8,b9⟩:=ep b7.out b1 b4 b5;obtain rfl:b2=b3:=(by injection b6);replace b4:=eq_true b4;replace b5:=eq_true b5)
    repeat(go_quiet (first|(go_at_call 63;(with_reducible refine(aQ.calls k1 ((aw l0 b1).f0) true _ A4.out).mono ?_);rintro e w' ⟨rfl,⟨nd,rfl⟩⟩;exact oQ)|(go_at_call 60;(with_reducible refine(bb.calls (((aw l0 b1).f1).size:Int) 1 16 true _ A6.out).mono ?_);rintro e w' ⟨rfl,⟨nd,rfl⟩⟩;exact oQ));try go_wp2_with (first|(go_at_call 63;(with_reducible refine(aQ.calls k1 ((aw l0 b1).f0) true _ A4.out).mono ?_);rintro e w' ⟨rfl,⟨nd,rfl⟩⟩;have b4:(0≤(b1:Int))=True:=oT;have b5:(b1<(l0.length:Int))=True:=oT;obtain⟨b3,b6,b8,b9⟩:=ep b7.out b1 oa oa;obtain rfl:b2=b3:=(by injection b6))|(go_at_call 60;(with_reducible refine(bb.calls (((aw l0 b1).f1).size:Int) 1 16 true _ A6.out).mono ?_);rintro e w' ⟨rfl,⟨nd,rfl⟩⟩)))
    go_roundg k1
    case measure=>have:=bV.out;omega
    case rel=>exact⟨(wrap64 (b1+1)),oS,H',⟨by have:=bV.out;omega⟩,oD⟩
   obtain⟨bB,bR⟩:∃j_:Int,(wrap64 (b1-1))=j_:=⟨_,rfl⟩
   replace H:(if 0≤(bB)then(if(bB)<(l0.length:Int)then(if((Op.bytesLess (((aw l0 (bB)).f0).toList) (((aw l0 b1).f0).toList))=true)then(dt.l0 k1 l0 (wrap64 (b1+1)))else(some false))else(none))else(none))=some r:=by first|(rw[bR]at H;exact H)|(simp only[bR]at H⊢;exact H)
   (try rw[bR]at A4)
   (try rw[bR]at A6)
   have bZ:(IntKind.i64.wrap (b1-1))=bB:=(kK _).trans bR;obtain⟨d1,H⟩:=cU H;obtain⟨d2,H⟩:=cU H
   by_cases bS:((Op.bytesLess (((aw l0 (bB)).f0).toList) (((aw l0 b1).f0).toList))=true)
   rotate_left
   ·rw[if_neg bS]at H
    have bW:(Op.bytesLess (((aw l0 (bB)).f0).toList) (((aw l0 b1).f0).toList))=false:=by simpa using bS
    clear bS;obtain rfl:=Option.some.inj H;have bT:(0≤(b1:Int))=True:=oT;have bU:(b1<(l0.length:Int))=True:=oT;obtain⟨b2,bO,bP,bQ⟩:=ep b7.out b1 oa oa
    cases bO
    go_wp2_with (first|(go_at_call 63;(with_reducible refine(aQ.calls k1 ((aw l0 b1).f0) true _ A4.out).mono ?_);rintro e w' ⟨rfl,⟨nd,rfl⟩⟩;have b4:(0≤(b1:Int))=True:=oT;have b5:(b1<(l0.length:Int))=True:=oT;obtain⟨b3,b6,b8,b9⟩:=ep b7.out b1 oa oa;obtain rfl:b2=b3:=(by injection b6))|(go_at_call 60;(with_reducible refine(bb.calls (((aw l0 b1).f1).size:Int) 1 16 true _ A6.out).mono ?_);rintro e w' ⟨rfl,⟨nd,rfl⟩⟩;have bE:(0≤((bB):Int))=True:=oT;have bF:((bB)<(l0.length:Int))=True:=oT;obtain⟨bC,bG,bK,bL⟩:=ep b7.out (bB) oa oa;obtain rfl:b2=bC:=(by injection bG);have bH:(0≤(b1:Int))=True:=oT;have bI:(b1<(l0.length:Int))=True:=oT;obtain⟨bD,bJ,bM,bN⟩:=ep b7.out b1 oa oa;obtain rfl:b2=bD:=(by injection bJ)))
    try(have b4:0≤(b1:Int):=oa;have b5:b1<(l0.length:Int):=oa;obtain⟨b3,b6,b8,b9⟩:=ep b7.out b1 b4 b5;obtain rfl:b2=b3:=(by injection b6);replace b4:=eq_true b4;replace b5:=eq_true b5)
    try(have bE:0≤((bB):Int):=oa;have bF:(bB)<(l0.length:Int):=oa;obtain⟨bC,bG,bK,bL⟩:=ep b7.out (bB) bE bF;obtain rfl:b2=bC:=(by injection bG);replace bE:=eq_true bE;replace bF:=eq_true bF;have bH:0≤(b1:Int):=oa;have bI:b1<(l0.length:Int):=oa;obtain⟨bD,bJ,bM,bN⟩:=ep b7.out b1 bH bI;obtain rfl:b2=bD:=(by injection bJ);replace bH:=eq_true bH;replace bI:=eq_true bI)
    repeat(go_quiet (first|(go_at_call 63;(with_reducible refine(aQ.calls k1 ((aw l0 b1).f0) true _ A4.out).mono ?_);rintro e w' ⟨rfl,⟨nd,rfl⟩⟩;exact oQ)|(go_at_call 60;(with_reducible refine(bb.calls (((aw l0 b1).f1).size:Int) 1 16 true _ A6.out).mono ?_);rintro e w' ⟨rfl,⟨nd,rfl⟩⟩;exact oQ));try go_wp2_with (first|(go_at_call 63;(with_reducible refine(aQ.calls k1 ((aw l0 b1).f0) true _ A4.out).mono ?_);rintro e w' ⟨rfl,⟨nd,rfl⟩⟩;have b4:(0≤(b1:Int))=True:=oT;have b5:(b1<(l0.length:Int))=True:=oT;obtain⟨b3,b6,b8,b9⟩:=ep b7.out b1 oa oa;obtain rfl:b2=b3:=(by injection b6))|(go_at_call 60;(with_reducible refine(bb.calls (((aw l0 b1).f1).size:Int) 1 16 true _ A6.out).mono ?_);rintro e w' ⟨rfl,⟨nd,rfl⟩⟩;have bE:(0≤((bB):Int))=True:=oT;have bF:((bB)<(l0.length:Int))=True:=oT;obtain⟨bC,bG,bK,bL⟩:=ep b7.out (bB) oa oa;obtain rfl:b2=bC:=(by injection bG);have bH:(0≤(b1:Int))=True:=oT;have bI:(b1<(l0.length:Int))=True:=oT;obtain⟨bD,bJ,bM,bN⟩:=ep b7.out b1 oa oa;obtain rfl:b2=bD:=(by injection bJ))))
    go_ret
    exact⟨by first|rfl|(simp;done)|(simp only[←bR]<;>(first|rfl|simp))|(simp[*];done),oD⟩
   rw[if_pos bS]at H;have bW:(Op.bytesLess (((aw l0 (bB)).f0).toList) (((aw l0 b1).f0).toList))=true:=bS;clear bS;have H':=ae.mk H;clear H;have bT:(0≤(b1:Int))=True:=oT;have bU:(b1<(l0.length:Int))=True:=oT;obtain⟨b2,bO,bP,bQ⟩:=ep b7.out b1 oa oa
   cases bO
   go_wp2_with (first|(go_at_call 63;(with_reducible refine(aQ.calls k1 ((aw l0 b1).f0) true _ A4.out).mono ?_);rintro e w' ⟨rfl,⟨nd,rfl⟩⟩;have b4:(0≤(b1:Int))=True:=oT;have b5:(b1<(l0.length:Int))=True:=oT;obtain⟨b3,b6,b8,b9⟩:=ep b7.out b1 oa oa;obtain rfl:b2=b3:=(by injection b6))|(go_at_call 60;(with_reducible refine(bb.calls (((aw l0 b1).f1).size:Int) 1 16 true _ A6.out).mono ?_);rintro e w' ⟨rfl,⟨nd,rfl⟩⟩;have bE:(0≤((bB):Int))=True:=oT;have bF:((bB)<(l0.length:Int))=True:=oT;obtain⟨bC,bG,bK,bL⟩:=ep b7.out (bB) oa oa;obtain rfl:b2=bC:=(by injection bG);have bH:(0≤(b1:Int))=True:=oT;have bI:(b1<(l0.length:Int))=True:=oT;obtain⟨bD,bJ,bM,bN⟩:=ep b7.out b1 oa oa;obtain rfl:b2=bD:=(by injection bJ)))
   try(have b4:0≤(b1:Int):=oa;have b5:b1<(l0.length:Int):=oa;obtain⟨b3,b6,b8,b9⟩:=ep b7.out b1 b4 b5;obtain rfl:b2=b3:=(by injection b6);replace b4:=eq_true b4;replace b5:=eq_true b5)
   try(have bE:0≤((bB):Int):=oa;have bF:(bB)<(l0.length:Int):=oa;obtain⟨bC,bG,bK,bL⟩:=ep b7.out (bB) bE bF;obtain rfl:b2=bC:=(by injection bG);replace bE:=eq_true bE;replace bF:=eq_true bF;have bH:0≤(b1:Int):=oa;have bI:b1<(l0.length:Int):=oa;obtain⟨bD,bJ,bM,bN⟩:=ep b7.out b1 bH bI;obtain rfl:b2=bD:=(by injection bJ);replace bH:=eq_true bH;replace bI:=eq_true bI)
   repeat(go_quiet (first|(go_at_call 63;(with_reducible refine(aQ.calls k1 ((aw l0 b1).f0) true _ A4.out).mono ?_);rintro e w' ⟨rfl,⟨nd,rfl⟩⟩;exact oQ)|(go_at_call 60;(with_reducible refine(bb.calls (((aw l0 b1).f1).size:Int) 1 16 true _ A6.out).mono ?_);rintro e w' ⟨rfl,⟨nd,rfl⟩⟩;exact oQ));try go_wp2_with (first|(go_at_call 63;(with_reducible refine(aQ.calls k1 ((aw l0 b1).f0) true _ A4.out).mono ?_);rintro e w' ⟨rfl,⟨nd,rfl⟩⟩;have b4:(0≤(b1:Int))=True:=oT;have b5:(b1<(l0.length:Int))=True:=oT;obtain⟨b3,b6,b8,b9⟩:=ep b7.out b1 oa oa;obtain rfl:b2=b3:=(by injection b6))|(go_at_call 60;(with_reducible refine(bb.calls (((aw l0 b1).f1).size:Int) 1 16 true _ A6.out).mono ?_);rintro e w' ⟨rfl,⟨nd,rfl⟩⟩;have bE:(0≤((bB):Int))=True:=oT;have bF:((bB)<(l0.length:Int))=True:=oT;obtain⟨bC,bG,bK,bL⟩:=ep b7.out (bB) oa oa;obtain rfl:b2=bC:=(by injection bG);have bH:(0≤(b1:Int))=True:=oT;have bI:(b1<(l0.length:Int))=True:=oT;obtain⟨bD,bJ,bM,bN⟩:=ep b7.out b1 oa oa;obtain rfl:b2=bD:=(by injection bJ))))
   go_roundg k1
   case measure=>have:=bV.out;omega
   case rel=>exact⟨(wrap64 (b1+1)),oS,H',⟨by have:=bV.out;omega⟩,oD⟩

def cP.l0:Nat→List ByteArray→ByteArray→Int→Option (ByteArray)
 |0,_,_,_=>none
 |k+1,x0,x3,x4=>if x4<(x0.length:Int)then(if 0≤x4 then((aQ.f k (jb ByteArray.empty x0 x4)).bind fun b1=>(if b1=true then(if(x0.length:Int)>30 then(some (⟨#[]⟩:ByteArray))else(if x3.size+1≤9223372036854775807 then(if(x3++(⟨#[47]⟩:ByteArray)).size+(jb ByteArray.empty x0 x4).size≤9223372036854775807 then(cP.l0 k x0 ((x3++(⟨#[47]⟩:ByteArray))++(jb ByteArray.empty x0 x4)) (wrap64 (x4+1)))else(none))else(none)))else(some (⟨#[]⟩:ByteArray))))else(none))else(some x3)
def cP.f (k:Nat) (l0:List ByteArray):Option (ByteArray):=if(l0.length:Int)=0 then(some (⟨#[47]⟩:ByteArray))else(cP.l0 k l0 (⟨#[]⟩:ByteArray) 0)
theorem cP.calls (k:Nat) (A0:Option Addr) (c0:Nat) (l0:List ByteArray) (r:ByteArray) (w:World) (hr0:Kd.C Kd.string w A0 l0.length l0) (hc0:l0.length≤c0) (h:cP.f k l0=some r):
  Calls Tryz.prog 78 #[.slice A0 l0.length c0] w fun e w'=>e= .returned (.string r)∧fC w w':=by
 have b6:=ae.mk hr0;have bU:=ae.mk hc0;clear hr0 hc0;unfold cP.f at h;have H:=h;clear h
 by_cases c2:(l0.length:Int)=0
 ·rw[if_pos c2]at H;have bC:((l0.length:Int)==0)=true:=beq_iff_eq.mpr c2;have bD:((l0.length:Int) !=0)=false:=bne_eq_false_iff_eq.mpr c2;clear c2;obtain rfl:=Option.some.inj H
  go_enter func78,ntmps78
  go_wp2
  go_ret
  exact⟨oS,oD⟩
 rw[if_neg c2]at H;have bC:((l0.length:Int)==0)=false:=beq_eq_false_iff_ne.mpr c2;have bD:((l0.length:Int) !=0)=true:=bne_iff_ne.mpr c2
 have bJ:¬(l0=[]):=fun h_=>c2 (by rw[h_];rfl)
 have H':=ae.mk H;clear H
 go_enter func78,ntmps78
 go_wp2
 go_loopg [3,4] k (fun kq v3 v4 w'=>∃(b2:ByteArray) (b1:Int),v3= .string b2∧v4= .int .i64 b1∧ae (cP.l0 kq l0 b2 b1=some r)∧ae (kq≤k)∧fC w w')
 case atStart=>exact⟨((⟨#[]⟩:ByteArray)),(0),oS,oS,H',⟨Nat.le_refl _⟩,oD⟩
 case round=>
  clear H'
  try clear c2
  obtain⟨b2,b1,rfl,rfl,HA,bB,⟨m1,rfl⟩⟩:=hrel
  cases gk with
  |zero=>exact absurd HA.out (by simp[cP.l0])
  |succ k1=>
   have H:=HA.out;clear HA;simp only[cP.l0]at H;replace H:=jm H;rcases H with⟨bE,H⟩|⟨bE,H⟩;rotate_left
   ·obtain rfl:=Option.some.inj H
    go_wp2
    go_ret
    exact⟨oS,oD⟩
   obtain⟨bK,H⟩:=cU H;replace H:=bA H;obtain⟨bL,A5,H⟩:=H
   try dsimp only at H
   replace H:=lr H;rcases H with⟨rfl,H⟩|⟨rfl,H⟩;rotate_left
   ·obtain rfl:=Option.some.inj H;have b7:(0≤(b1:Int))=True:=oT;have b8:(b1<(l0.length:Int))=True:=oT;obtain⟨b5,b3,b4⟩:=Kd.fb b6.out b1 oa oa
    cases b3
    go_wp2_with (first|((with_reducible refine ai (f:=63) rfl ?_);refine ej 18 func63 (aQ.calls k1 (jb ByteArray.empty l0 b1) false _ A5.out) ?_;rintro e w' ⟨rfl,⟨nd,rfl⟩⟩;refine⟨_,rfl,?_⟩))
    go_ret
    exact⟨oS,oD⟩
   by_cases c7:(l0.length:Int)>30
   ·rw[if_pos c7]at H;have bF:decide (30<(l0.length:Int))=true:=decide_eq_true c7;have bG:decide (30<l0.length)=true:=decide_eq_true (by omega);clear c7;obtain rfl:=Option.some.inj H;have b7:(0≤(b1:Int))=True:=oT;have b8:(b1<(l0.length:Int))=True:=oT;obtain⟨b5,b3,b4⟩:=Kd.fb b6.out b1 oa oa
    cases b3
    go_wp2_with (first|((with_reducible refine ai (f:=63) rfl ?_);refine ej 18 func63 (aQ.calls k1 (jb ByteArray.empty l0 b1) true _ A5.out) ?_;rintro e w' ⟨rfl,⟨nd,rfl⟩⟩;refine⟨_,rfl,?_⟩))
    go_ret
    exact⟨oS,oD⟩
   rw[if_neg c7]at H;have bF:decide (30<(l0.length:Int))=false:=decide_eq_false c7;have bG:decide (30<l0.length)=false:=decide_eq_false (by omega);clear c7;obtain⟨c8,H⟩:=lC H;have bM:=eq_true c8;have bN:decide (b2.size+1≤9223372036854775807)=true:=decide_eq_true c8
   try have bO:(9223372036854775807<b2.size+1)=False:=eq_false (Nat.not_lt.2 c8)
   obtain⟨c9,H⟩:=lC H;have bP:=eq_true c9;have bQ:decide ((b2++(⟨#[47]⟩:ByteArray)).size+(jb ByteArray.empty l0 b1).size≤9223372036854775807)=true:=decide_eq_true c9
   try have bR:(9223372036854775807<(b2++(⟨#[47]⟩:ByteArray)).size+(jb ByteArray.empty l0 b1).size)=False:=eq_false (Nat.not_lt.2 c9)
   have H':=ae.mk H;clear H;have b7:(0≤(b1:Int))=True:=oT;have b8:(b1<(l0.length:Int))=True:=oT;obtain⟨b5,b3,b4⟩:=Kd.fb b6.out b1 oa oa
   cases b3
   go_wp2_with (first|((with_reducible refine ai (f:=63) rfl ?_);refine ej 18 func63 (aQ.calls k1 (jb ByteArray.empty l0 b1) true _ A5.out) ?_;rintro e w' ⟨rfl,⟨nd,rfl⟩⟩;refine⟨_,rfl,?_⟩;have bS:(0≤(b1:Int))=True:=oT;have bT:(b1<(l0.length:Int))=True:=oT;obtain⟨b9,bH,bI⟩:=Kd.fb b6.out b1 oa oa;obtain rfl:b5=b9:=(by injection bH)))
   go_roundg k1
   case measure=>have:=bB.out;omega
   case rel=>exact⟨((b2++(⟨#[47]⟩:ByteArray))++(jb ByteArray.empty l0 b1)),(wrap64 (b1+1)),oS,oS,H',⟨by have:=bB.out;omega⟩,oD⟩
end Go.Proofs.YtlecajlnjmbilaaGreatDoor.P
