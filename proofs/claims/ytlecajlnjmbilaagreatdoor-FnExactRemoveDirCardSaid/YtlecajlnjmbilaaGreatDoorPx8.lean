-- Printed walks.
import Derived.Test.YtlecajlnjmbilaaGreatDoorPx3
import Derived.Test.YtlecajlnjmbilaaGreatDoorPx4
import Derived.Test.YtlecajlnjmbilaaGreatDoorPx5
set_option linter.all false
set_option maxHeartbeats 8000000
set_option maxRecDepth 100000
namespace Go.Proofs.YtlecajlnjmbilaaGreatDoor.P
open Go.RowKit Go.Proofs.ab.ao Go.Proofs.ab.aE Go.Proofs.ab.aI
attribute [local go_sem] fV fW im iq fh fi fX fY

mutual
def aA.l0:Nat→List (aZ)→Int→Int→Option (Int)
 |0,_,_,_=>none
 |k+1,x0,x1,x5=>if x5<(x0.length:Int)then(aA.j1 k x0 x1 x5)else(some x1)
def aA.j1:Nat→List (aZ)→Int→Int→Option (Int)
 |0,_,_,_=>none
 |k+1,x0,x1,x5=>if 0≤x5 then(if x5<(x0.length:Int)then(if((af x0 x5).f0)=x1 then(aA.j2 k x0 x1 x5)else(some (-1)))else(none))else(none)
def aA.j2:Nat→List (aZ)→Int→Int→Option (Int)
 |0,_,_,_=>none
 |k+1,x0,x1,x5=>if 0≤x5 then(if x5<(x0.length:Int)then(if((af x0 x5).f1)=(wrap64 (x1+1))then(aA.j3 k x0 (wrap64 (x1+1)) x5)else(some (-1)))else(none))else(none)
def aA.j3:Nat→List (aZ)→Int→Int→Option (Int)
 |0,_,_,_=>none
 |k+1,x0,x1,x5=>if 0≤x5 then(if x5<(x0.length:Int)then(if((af x0 x5).f2)=(wrap64 (x1+1))then(aA.j4 k x0 (wrap64 (x1+1)) x5)else(some (-1)))else(none))else(none)
def aA.j4:Nat→List (aZ)→Int→Int→Option (Int)
 |0,_,_,_=>none
 |k+1,x0,x1,x5=>if 0≤x5 then(if x5<(x0.length:Int)then((dq.f k ((af x0 x5).f3) (wrap64 (x1+1))).bind fun b1=>(if b1<0 then(some (-1))else(aA.j5 k x0 b1 x5)))else(none))else(none)
def aA.j5:Nat→List (aZ)→Int→Int→Option (Int)
 |0,_,_,_=>none
 |k+1,x0,x1,x5=>if 0≤x5 then(if x5<(x0.length:Int)then((bw.f k ((af x0 x5).f4) x1).bind fun b1=>(if b1<0 then(some (-1))else((aT.f k ((af x0 x5).f5) b1).bind fun b2=>(if b2<0 then(some (-1))else(aA.l0 k x0 b2 (wrap64 (x5+1)))))))else(none))else(none)
end
def aA.f (k:Nat) (l0:List (aZ)) (a1:Int):Option (Int):=aA.l0 k l0 a1 0
theorem aA.calls (k:Nat) (A0:Option Addr) (c0:Nat) (l0:List (aZ)) (a1:Int) (r:Int) (w:World) (hr0:Kd.C fv w A0 l0.length l0) (hc0:l0.length≤c0) (h:aA.f k l0 a1=some r):
  Calls Tryz.prog 38 #[.slice A0 l0.length c0,.int .i64 a1] w fun e w'=>e= .returned (.int .i64 r)∧Below w.heap.size w w':=by
 have bV:=ae.mk hr0;have HC0:=ae.mk hc0;clear hr0 hc0;have HB:=am (Below.refl w.heap.size w);unfold aA.f at h;have H:=h;clear h;have H':=ae.mk H;clear H
 go_enter Tryz.func38,Tryz.ntmps38
 go_wp2
 go_loopg [1,5] k (fun kq v1 v5 w'=>∃(b2:Int) (b1:Int),v1= .int .i64 b2∧v5= .int .i64 b1∧ae (aA.l0 kq l0 b2 b1=some r)∧ae (kq≤k)∧ae (Below w.heap.size w w'))
 case atStart=>exact⟨(a1),(0),oS,oS,H',⟨Nat.le_refl _⟩,⟨oB⟩⟩
 case round=>
  clear H';obtain⟨b2,b1,rfl,rfl,HA,d3,HB⟩:=hrel
  cases gk with
  |zero=>exact absurd HA.out (by simp[aA.l0])
  |succ k1=>
   have H:=HA.out;clear HA;simp only[aA.l0]at H;have jI:=ae.mk H;clear H
   go_upto_if 9 with(fail)
   go_cut [] (fun wc=>∃(kq:Nat),ae (aA.j1 kq l0 b2 b1=some r)∧ae (kq≤k1)∧ae (Below w.heap.size w wc))
   case first=>
    have H:=jI.out;clear jI;replace H:=jd H;rcases H with⟨d4,H⟩|⟨d4,H⟩;rotate_left
    ·(first|rw[d4]|rw[adu]|(simp only[fZ,iX];rw[d4])|skip)
     obtain rfl:=Option.some.inj H
     go_wp2
     go_ret
     exact⟨oE,oB⟩
    (first|rw[d4]|rw[adu]|(simp only[fZ,iX];rw[d4])|skip)
    have H':=ae.mk H;clear H
    go_wp2
    go_meet
    case rel=>exact⟨_,H',⟨by have:=d3.out;first|omega|exact Nat.le_refl _⟩,⟨oB⟩⟩
   case rest=>
    clear jI;obtain⟨kq,HA,dB,HB⟩:=hcut
    cases kq with
    |zero=>exact absurd HA.out (by simp[aA.j1])
    |succ kj2=>
     have H:=HA.out;clear HA;simp only[aA.j1]at H;obtain⟨gQ,H⟩:=cX H;obtain⟨gR,H⟩:=cX H;have jJ:=ae.mk H;clear H;have b16:(0≤(b1:Int))=True:=oT;have b17:(b1<(l0.length:Int))=True:=oT;obtain⟨bG,zF,zG,zH,zI,zJ,zK,m5,mC,mD,mE,mF,mG,mH,mI,mJ,mK,mL,mM,mN⟩:=ft bV HB b1 oa oa
     cases m5
     go_upto_if 18 with(fail)
     go_cut [] (fun wc=>∃(kq:Nat),ae (aA.j2 kq l0 b2 b1=some r)∧ae (kq≤kj2)∧ae (Below w.heap.size w wc))
     case first=>
      have H:=jJ.out;clear jJ
      by_cases c8:((af l0 b1).f0)=b2
      rotate_left
      ·rw[if_neg c8]at H;have d5:(((af l0 b1).f0)==b2)=false:=beq_eq_false_iff_ne.mpr c8;have m6:(((af l0 b1).f0) !=b2)=true:=bne_iff_ne.mpr c8
       (first|rw[d5]|rw[aey]|(simp only[fZ,iX];rw[d5])|skip)
       obtain rfl:=Option.some.inj H
       go_wp2
       go_ret
       exact⟨oE,oB⟩
      rw[if_pos c8]at H;have d5:(((af l0 b1).f0)==b2)=true:=beq_iff_eq.mpr c8;have m6:(((af l0 b1).f0) !=b2)=false:=bne_eq_false_iff_eq.mpr c8;clear c8
      (first|rw[d5]|rw[aey]|(simp only[fZ,iX];rw[d5])|skip)
      have H':=ae.mk H;clear H
      go_wp2
      go_meet
      case rel=>exact⟨_,H',⟨by have:=d3.out;have:=dB.out;first|omega|exact Nat.le_refl _⟩,⟨oB⟩⟩
     case rest=>
      clear jJ
      try clear gQ
      try clear gR
      obtain⟨kq,HA,gV,HB⟩:=hcut
      cases kq with
      |zero=>exact absurd HA.out (by simp[aA.j2])
      |succ kj6=>
       have H:=HA.out;clear HA;simp only[aA.j2]at H;obtain⟨j3,H⟩:=cX H;obtain⟨gS,H⟩:=cX H;have j4:=ae.mk H;clear H;have b18:(0≤(b1:Int))=True:=oT;have b19:(b1<(l0.length:Int))=True:=oT;obtain⟨jU,zL,zM,zN,zO,zP,zQ,m7,dC,dD,dE,dF,dG,dH,dI,dJ,dK,dL,dM,dN⟩:=fy bV.out b1 oa oa;obtain rfl:bG=jU:=(by injection m7);replace dC:=cB HB dC;replace dD:=cB HB dD;replace dE:=cB HB dE;replace dF:=cB HB dF;replace dG:=cB HB dG;replace dH:=cB HB dH;have mO:=ae.mk dJ;have mP:=ae.mk dI;clear dJ dI;have mQ:=ae.mk dL;have mS:=ae.mk dK;clear dL dK;have mT:=ae.mk dN;have mU:=ae.mk dM;clear dN dM
       go_upto_if 27 with(fail)
       go_cut [] (fun wc=>∃(kq:Nat),ae (aA.j3 kq l0 (wrap64 (b2+1)) b1=some r)∧ae (kq≤kj6)∧ae (Below w.heap.size w wc))
       case first=>
        have H:=j4.out;clear j4
        by_cases d6:((af l0 b1).f1)=(wrap64 (b2+1))
        rotate_left
        ·rw[if_neg d6]at H;have bW:(((af l0 b1).f1)==(wrap64 (b2+1)))=false:=beq_eq_false_iff_ne.mpr d6;have jV:(((af l0 b1).f1) !=(wrap64 (b2+1)))=true:=bne_iff_ne.mpr d6
         (first|rw[bW]|rw[ad3]|(simp only[fZ,iX];rw[bW])|skip)
         obtain rfl:=Option.some.inj H
         go_wp2
         go_ret
         exact⟨oE,oB⟩
        rw[if_pos d6]at H;have bW:(((af l0 b1).f1)==(wrap64 (b2+1)))=true:=beq_iff_eq.mpr d6;have jV:(((af l0 b1).f1) !=(wrap64 (b2+1)))=false:=bne_eq_false_iff_eq.mpr d6;clear d6
        (first|rw[bW]|rw[ad3]|(simp only[fZ,iX];rw[bW])|skip)
        have H':=ae.mk H;clear H
        go_wp2
        go_meet
        case rel=>exact⟨_,H',⟨by have:=d3.out;have:=dB.out;have:=gV.out;first|omega|exact Nat.le_refl _⟩,⟨oB⟩⟩
       case rest=>
        clear j4
        try clear gQ
        try clear gR
        try clear j3
        try clear gS
        obtain⟨kq,HA,gT,HB⟩:=hcut
        cases kq with
        |zero=>exact absurd HA.out (by simp[aA.j3])
        |succ uX=>
         have H:=HA.out;clear HA;simp only[aA.j3]at H;obtain⟨jA,H⟩:=cX H;obtain⟨jB,H⟩:=cX H;have j5:=ae.mk H;clear H;have b1A:(0≤(b1:Int))=True:=oT;have b1B:(b1<(l0.length:Int))=True:=oT;obtain⟨jW,zR,zS,zT,zU,zV,zW,m8,dO,dP,dQ,dR,dS,dT,dU,dV,dW,dX,dY,dZ⟩:=fy bV.out b1 oa oa;obtain rfl:bG=jW:=(by injection m8);replace dO:=cB HB dO;replace dP:=cB HB dP;replace dQ:=cB HB dQ;replace dR:=cB HB dR;replace dS:=cB HB dS;replace dT:=cB HB dT;have mV:=ae.mk dV;have mW:=ae.mk dU;clear dV dU;have mX:=ae.mk dX;have mY:=ae.mk dW;clear dX dW;have mZ:=ae.mk dZ;have zA:=ae.mk dY;clear dZ dY
         go_upto_if 36 with(fail)
         go_cut [] (fun wc=>∃(kq:Nat),ae (aA.j4 kq l0 (wrap64 ((wrap64 (b2+1))+1)) b1=some r)∧ae (kq≤uX)∧ae (Below w.heap.size w wc))
         case first=>
          have H:=j5.out;clear j5
          by_cases d7:((af l0 b1).f2)=(wrap64 ((wrap64 (b2+1))+1))
          rotate_left
          ·rw[if_neg d7]at H;have bX:(((af l0 b1).f2)==(wrap64 ((wrap64 (b2+1))+1)))=false:=beq_eq_false_iff_ne.mpr d7;have jX:(((af l0 b1).f2) !=(wrap64 ((wrap64 (b2+1))+1)))=true:=bne_iff_ne.mpr d7
           (first|rw[bX]|rw[ad4]|(simp only[fZ,iX];rw[bX])|skip)
           obtain rfl:=Option.some.inj H
           go_wp2
           go_ret
           exact⟨oE,oB⟩
          rw[if_pos d7]at H;have bX:(((af l0 b1).f2)==(wrap64 ((wrap64 (b2+1))+1)))=true:=beq_iff_eq.mpr d7;have jX:(((af l0 b1).f2) !=(wrap64 ((wrap64 (b2+1))+1)))=false:=bne_eq_false_iff_eq.mpr d7;clear d7
          (first|rw[bX]|rw[ad4]|(simp only[fZ,iX];rw[bX])|skip)
          have H':=ae.mk H;clear H
          go_wp2
          go_meet
          case rel=>exact⟨_,H',⟨by have:=d3.out;have:=dB.out;have:=gV.out;have:=gT.out;first|omega|exact Nat.le_refl _⟩,⟨oB⟩⟩
         case rest=>
          clear j5
          try clear gQ
          try clear gR
          try clear j3
          try clear gS
          try clear jA
          try clear jB
          obtain⟨kq,HA,j6,HB⟩:=hcut
          cases kq with
          |zero=>exact absurd HA.out (by simp[aA.j4])
          |succ ad5=>
           have H:=HA.out;clear HA;simp only[aA.j4]at H;obtain⟨jY,H⟩:=cX H;obtain⟨jZ,H⟩:=cX H;replace H:=bA H;obtain⟨d8,zX,H⟩:=H
           try dsimp only at H
           have j7:=ae.mk H;clear H;have b1C:(0≤(b1:Int))=True:=oT;have b1D:(b1<(l0.length:Int))=True:=oT;obtain⟨m1,zY,zZ,b10,b11,b12,b13,m9,gA,gB,gC,gD,gE,gF,gG,gH,gI,gJ,gK,gL⟩:=fy bV.out b1 oa oa;obtain rfl:bG=m1:=(by injection m9);replace gA:=cB HB gA;replace gB:=cB HB gB;replace gC:=cB HB gC;replace gD:=cB HB gD;replace gE:=cB HB gE;replace gF:=cB HB gF;have jC:=ae.mk gH;have jD:=ae.mk gG;clear gH gG;have zB:=ae.mk gJ;have zC:=ae.mk gI;clear gJ gI;have zD:=ae.mk gL;have zE:=ae.mk gK;clear gL gK
           go_upto_if 47 with(first|((with_reducible refine ai (f:=75) rfl ?_);refine eL 45 Tryz.func75 (dq.calls ad5 _ _ ((af l0 b1).f3) (wrap64 ((wrap64 ((wrap64 (b2+1))+1))+1)) d8 _ (kC jC) jD.out zX.out) ?_;rintro e w' ⟨rfl,⟨nd,rfl⟩⟩;refine⟨_,rfl,?_⟩))
           (try simp only[Act.put,List.setIfInBounds_toArray,List.set_cons_zero,List.set_cons_succ])
           go_cut [] (fun wc=>∃(kq:Nat),ae (aA.j5 kq l0 d8 b1=some r)∧ae (kq≤ad5)∧ae (Below w.heap.size w wc))
           case first=>
            have H:=j7.out;clear j7;replace H:=jd H;rcases H with⟨bY,H⟩|⟨bY,H⟩
            ·(first|rw[bY]|rw[ad6]|(simp only[fZ,iX];rw[bY])|skip)
             obtain rfl:=Option.some.inj H
             go_wp2
             go_ret
             exact⟨oE,oB⟩
            (first|rw[bY]|rw[ad6]|(simp only[fZ,iX];rw[bY])|skip)
            have H':=ae.mk H;clear H
            go_wp2
            go_meet
            case rel=>exact⟨_,H',⟨by have:=d3.out;have:=dB.out;have:=gV.out;have:=gT.out;have:=j6.out;first|omega|exact Nat.le_refl _⟩,⟨oB⟩⟩
           case rest=>
            clear j7
            try clear gQ
            try clear gR
            try clear j3
            try clear gS
            try clear jA
            try clear jB
            try clear jY
            try clear jZ
            obtain⟨kq,HA,jK,HB⟩:=hcut
            cases kq with
            |zero=>exact absurd HA.out (by simp[aA.j5])
            |succ yp=>
             have H:=HA.out;clear HA;simp only[aA.j5]at H;obtain⟨b14,H⟩:=cX H;obtain⟨b15,H⟩:=cX H;replace H:=bA H;obtain⟨d9,jL,H⟩:=H
             try dsimp only at H
             replace H:=jd H;rcases H with⟨m2,H⟩|⟨m2,H⟩
             ·obtain rfl:=Option.some.inj H;have jM:(0≤(b1:Int))=True:=oT;have jN:(b1<(l0.length:Int))=True:=oT;obtain⟨bZ,gW,gX,gY,gZ,j1,j2,dA,b3,b4,b5,b6,b7,b8,b9,bB,bC,bD,bE,bF⟩:=fy bV.out b1 oa oa;obtain rfl:bG=bZ:=(by injection dA);replace b3:=cB HB b3;replace b4:=cB HB b4;replace b5:=cB HB b5;replace b6:=cB HB b6;replace b7:=cB HB b7;replace b8:=cB HB b8;have gM:=ae.mk bB;have gN:=ae.mk b9;clear bB b9;have bH:=ae.mk bD;have bI:=ae.mk bC;clear bD bC;have gO:=ae.mk bF;have gP:=ae.mk bE;clear bF bE
              go_wp2_with (first|((with_reducible refine ai (f:=76) rfl ?_);refine eL 54 Tryz.func76 (bw.calls yp _ _ ((af l0 b1).f4) d8 d9 _ (kC bH) bI.out jL.out) ?_;rintro e w26 ⟨rfl,hb⟩;refine⟨_,rfl,?_⟩;replace HB:=hB HB hb))
              go_ret
              exact⟨oE,oB⟩
             replace H:=bA H;obtain⟨j8,m4,H⟩:=H
             try dsimp only at H
             replace H:=jd H;rcases H with⟨m3,H⟩|⟨m3,H⟩
             ·obtain rfl:=Option.some.inj H;have jM:(0≤(b1:Int))=True:=oT;have jN:(b1<(l0.length:Int))=True:=oT;obtain⟨bZ,gW,gX,gY,gZ,j1,j2,dA,b3,b4,b5,b6,b7,b8,b9,bB,bC,bD,bE,bF⟩:=fy bV.out b1 oa oa;obtain rfl:bG=bZ:=(by injection dA);replace b3:=cB HB b3;replace b4:=cB HB b4;replace b5:=cB HB b5;replace b6:=cB HB b6;replace b7:=cB HB b7;replace b8:=cB HB b8;have gM:=ae.mk bB;have gN:=ae.mk b9;clear bB b9;have bH:=ae.mk bD;have bI:=ae.mk bC;clear bD bC;have gO:=ae.mk bF;have gP:=ae.mk bE;clear bF bE
              go_wp2_with (first|((with_reducible refine ai (f:=76) rfl ?_);refine eL 54 Tryz.func76 (bw.calls yp _ _ ((af l0 b1).f4) d8 d9 _ (kC bH) bI.out jL.out) ?_;rintro e w29 ⟨rfl,hb⟩;refine⟨_,rfl,?_⟩;replace HB:=hB HB hb;have mA:(0≤(b1:Int))=True:=oT;have mB:(b1<(l0.length:Int))=True:=oT;obtain⟨gU,jO,jP,jQ,jR,jS,jT,j9,bJ,bK,bL,bM,bN,bO,bP,bQ,bR,bS,bT,bU⟩:=fy bV.out b1 oa oa;obtain rfl:bG=gU:=(by injection j9);replace bJ:=cB HB bJ;replace bK:=cB HB bK;replace bL:=cB HB bL;replace bM:=cB HB bM;replace bN:=cB HB bN;replace bO:=cB HB bO;have jE:=ae.mk bQ;have jF:=ae.mk bP;clear bQ bP;have jG:=ae.mk bS;have jH:=ae.mk bR;clear bS bR;have d1:=ae.mk bU;have d2:=ae.mk bT;clear bU bT)|((with_reducible refine ai (f:=77) rfl ?_);refine eL 63 Tryz.func77 (aT.calls yp _ _ ((af l0 b1).f5) d9 j8 _ (kC d1) d2.out m4.out) ?_;rintro e w30 ⟨rfl,hb⟩;refine⟨_,rfl,?_⟩;replace HB:=hB HB hb))
              go_ret
              exact⟨oE,oB⟩
             have H':=ae.mk H;clear H;have jM:(0≤(b1:Int))=True:=oT;have jN:(b1<(l0.length:Int))=True:=oT;obtain⟨bZ,gW,gX,gY,gZ,j1,j2,dA,b3,b4,b5,b6,b7,b8,b9,bB,bC,bD,bE,bF⟩:=fy bV.out b1 oa oa;obtain rfl:bG=bZ:=(by injection dA);replace b3:=cB HB b3;replace b4:=cB HB b4;replace b5:=cB HB b5;replace b6:=cB HB b6;replace b7:=cB HB b7;replace b8:=cB HB b8;have gM:=ae.mk bB;have gN:=ae.mk b9;clear bB b9;have bH:=ae.mk bD;have bI:=ae.mk bC;clear bD bC;have gO:=ae.mk bF;have gP:=ae.mk bE;clear bF bE
             go_wp2_with (first|((with_reducible refine ai (f:=76) rfl ?_);refine eL 54 Tryz.func76 (bw.calls yp _ _ ((af l0 b1).f4) d8 d9 _ (kC bH) bI.out jL.out) ?_;rintro e w31 ⟨rfl,hb⟩;refine⟨_,rfl,?_⟩;replace HB:=hB HB hb;have mA:(0≤(b1:Int))=True:=oT;have mB:(b1<(l0.length:Int))=True:=oT;obtain⟨gU,jO,jP,jQ,jR,jS,jT,j9,bJ,bK,bL,bM,bN,bO,bP,bQ,bR,bS,bT,bU⟩:=fy bV.out b1 oa oa;obtain rfl:bG=gU:=(by injection j9);replace bJ:=cB HB bJ;replace bK:=cB HB bK;replace bL:=cB HB bL;replace bM:=cB HB bM;replace bN:=cB HB bN;replace bO:=cB HB bO;have jE:=ae.mk bQ;have jF:=ae.mk bP;clear bQ bP;have jG:=ae.mk bS;have jH:=ae.mk bR;clear bS bR;have d1:=ae.mk bU;have d2:=ae.mk bT;clear bU bT)|((with_reducible refine ai (f:=77) rfl ?_);refine eL 63 Tryz.func77 (aT.calls yp _ _ ((af l0 b1).f5) d9 j8 _ (kC d1) d2.out m4.out) ?_;rintro e w32 ⟨rfl,hb⟩;refine⟨_,rfl,?_⟩;replace HB:=hB HB hb))
             go_roundg yp
             case measure=>have:=d3.out;have:=dB.out;have:=gV.out;have:=gT.out;have:=j6.out;have:=jK.out;omega
             case rel=>exact⟨(j8),(wrap64 (b1+1)),oS,oS,H',⟨by have:=d3.out;have:=dB.out;have:=gV.out;have:=gT.out;have:=j6.out;have:=jK.out;omega⟩,⟨oB⟩⟩

def cl.l0:Nat→List (aZ)→Int→Int→List (aZ)→Int→Option ((List (aZ))×Int)
 |0,_,_,_,_,_=>none
 |k+1,b4,b6,b2,b3,b5=>if b2<b6 then(if 0≤b2 then(if b2<(b4.length:Int)then((eE.f ((af b4 b2).f0) ((af b4 b2).f1) ((af b4 b2).f2) ((af b4 b2).f3) ((af b4 b2).f4) ((af b4 b2).f5)).bind fun b1=>(if b3.length<1466015503701 then(cl.l0 k b4 b6 (wrap64 (b2+1)) (b3++[(⟨b1.1,b1.2.1,b1.2.2.1,b1.2.2.2.1,b1.2.2.2.2.1,b1.2.2.2.2.2⟩:aZ)]) b5)else(none)))else(none))else(none))else(some (b3,b5))
def cl.f (k:Nat) (ag:List (aZ)) (ak:Int):Option ((List (aZ))×Int):=cl.l0 k ag (ag.length:Int) 0 ([]:List (aZ)) ak
def cl.T5:Bool×List (List Nat×List Nat):=(true,[([],[]),([0],[0]),([],[]),([2],[2]),([3],[3]),([1,4,3],[1,4]),([0,1,2,3,4,5],[]),([6,5,5,0,1,2,3,4,5],[5,6])])
def cl.B5:List Nat:=[0,1,0,4,12,31,63,127]
theorem cl.wB:gy .any (opsOf Tryz.f45 5)=cl.T5:=by kernel_rfl
theorem cl.rN:eR cl.T5.2 cl.B5=true:=by kernel_rfl
theorem cl.calls (k:Nat) (bl:Option Addr) (aW:Nat) (ag:List (aZ)) (ak:Int) (r1:List (aZ)) (r2:Int) (w:World) (cg:Kd.C fv w bl ag.length ag) (ch:ag.length≤aW) (h:cl.f k ag ak=some (r1,r2)):
  Calls Tryz.prog 45 #[.agg #[.slice bl ag.length aW,.int .i64 ak]] w fun e w'=>∃iY:Value,e= .returned (.agg #[iY,.int .i64 r2])∧Kd.S fv 58 w' w.heap.size (fun _=>True) iY r1∧Below w.heap.size w w':=by
 have jO:=Tryz.underlying28;have jP:=Tryz.underlying58;have gD:=ae.mk cg;have j4:=ae.mk ch;clear cg ch;have HB:=am (Below.refl w.heap.size w);unfold cl.f at h;have H:=h;clear h;have H':=ae.mk H;clear H
 go_enter Tryz.func45,Tryz.ntmps45
 go_wp2_with (first|((with_reducible refine aj (N:=1) rfl ?_);refine dp 1 #[.slice bl ag.length aW,.int .i64 ak] 28 ?_;intro d9 hg w2 hbox hb;have b4:=am (hbox);have j5:=dn hg;replace HB:=hB HB hb;clear hb hbox hg)|((with_reducible refine aj (N:=2) rfl ?_);refine dp 2 #[.slice none 0 0,.int .i64 0] 28 ?_;intro bM hg w3 hbox hb;have b5:=am (hbox);have j6:=dn hg;have bQ:=eN hg b4;have bR:=eO hg b4;replace b4:=bj b4 hb;replace HB:=hB HB hb;clear hb hbox hg;have jQ:=bQ.out;have jR:=bR.out;obtain⟨⟨_,_⟩,_,_⟩:=z2 b4)|((with_reducible refine aj (N:=3) rfl ?_);refine dp 3 #[.slice none 0 0,.int .i64 0] 28 ?_;intro bL hg w6 hbox hb;have b6:=am (hbox);have j7:=dn hg;have bH:=eN hg b4;have bI:=eO hg b4;have bJ:=eN hg b5;have bK:=eO hg b5;replace b4:=bj b4 hb;replace b5:=bj b5 hb;replace HB:=hB HB hb;clear hb hbox hg;have jS:=bI.out;have jT:=bH.out;have jU:=bK.out;have jV:=bJ.out;obtain⟨⟨_,_⟩,_,_⟩:=z2 b6;obtain⟨⟨_,_⟩,_,_⟩:=z2 b4))
 go_loopg [12] k (fun kq gZ w'=>∃(b1:Int) (b9:List (aZ)) (b8:Value),gZ= .int .i64 b1∧ae (cl.l0 kq ag (ag.length:Int) b1 b9 ak=some (r1,r2))∧ae (kq≤k)∧ae (Kd.S fv 58 w' w.heap.size (fun _=>True) b8 b9)∧ae (w'.heap[d9]? =some (.cells #[(.slice bl ag.length aW),.int .i64 ak] 28 (0,0)))∧ae (w'.heap[bM]? =some (.cells #[(.slice none 0 0),.int .i64 0] 28 (0,0)))∧ae (w'.heap[bL]? =some (.cells #[b8,.int .i64 ak] 28 (0,0)))∧ae (Below w.heap.size w w'))
 case atStart=>exact⟨(0),(([]:List (aZ))),(.slice none 0 0),oS,H',⟨Nat.le_refl _⟩,⟨by first|exact Kd.ie _ _ _ _ _|exact Kd.ig _ _ _ _ _|exact Kd.ij _ _ _ _ _|exact Kd.ic _ _ _ _ _|exact Kd.fD _ _ _ _ _⟩,⟨oF b4⟩,⟨oF b5⟩,⟨oP b6⟩,⟨oB⟩⟩
 case round=>
  clear H';obtain⟨b1,b9,b8,rfl,HA,gI,b3,b4,b5,b6,HB⟩:=hrel
  cases gk with
  |zero=>exact absurd HA.out (by simp[cl.l0])
  |succ k1=>
   have H:=HA.out;clear HA;simp only[cl.l0]at H;replace H:=jd H;rcases H with⟨gE,H⟩|⟨gE,H⟩;rotate_left
   ·simp only[Option.some.injEq,Prod.mk.injEq]at H;obtain⟨rfl,rfl⟩:=H;have j8:=bI.out;have j9:=bH.out;have jA:=bK.out;have jB:=bJ.out;obtain⟨⟨_,_⟩,_,_⟩:=z2 b6;obtain⟨dH,dI,gL⟩:=Kd.gf b3.out;subst gL;have jC:=bR.out;have jD:=bQ.out;obtain⟨⟨_,_⟩,_,_⟩:=z2 b5
    go_wp2
    refine bodyPost_ret (results_cell_row rfl _ _ bM 28 #[.slice dH b9.length dI,.int .i64 ak] (0,0) _ rfl (oP b5) Tryz.underlying28 rfl (by kernel_rfl)) rfl ?_;exact⟨_,oE,by(with_reducible repeat(first|apply Kd.eo|apply Kd.et|apply Kd.eI));exact Kd.eu (Kd.cV (p:=⟨bM,1,none⟩) (Kd.cV (p:=⟨bM,0,none⟩) (Kd.jl b3.out b5.out (by decide)) (fun _ hk=>hk.2) (.slice dH b9.length dI)) (fun _ hk=>hk.2) (.int .i64 ak)) (fun _ hk=>trivial),oB⟩
   obtain⟨jE,H⟩:=cX H;obtain⟨jF,H⟩:=cX H;replace H:=bA H;obtain⟨⟨bX,bY,bZ,bN,bO,bP⟩,j1,H⟩:=H
   try dsimp only at H
   obtain⟨gJ,H⟩:=lp H;have gF:=ae.mk gJ;clear gJ;obtain⟨d4,dj⟩:∃y_:List (aZ),y_=(b9++[(⟨bX,bY,bZ,bN,bO,bP⟩:aZ)]):=⟨_,rfl⟩;replace H:(cl.l0 k1 ag (ag.length:Int) (wrap64 (b1+1)) d4 ak)=some (r1,r2):=oY;have gG:=ae.mk dj;clear dj;have H':=ae.mk H;clear H;have jW:(0≤(b1:Int))=True:=oT;have jX:(b1<(ag.length:Int))=True:=oT;obtain⟨gH,bB,bC,bD,bE,bF,bG,gM,gN,gO,gP,gQ,gR,gS,dB,dC,dD,dE,dF,dG⟩:=ft gD HB b1 oa oa
   cases gM
   try go_wp2_with (first|((with_reducible refine aj (N:=5) rfl ?_);refine dp 5 #[.int .i64 0,.int .i64 0,.int .i64 0,.slice none 0 0,.slice none 0 0,.slice none 0 0] 58 ?_;intro b2 hg d1 hbox hb;have b7:=am (hbox);have jG:=dn hg;have d5:=eN hg b4;have d6:=eO hg b4;have d7:=eN hg b5;have d8:=eO hg b5;have bS:=eN hg b6;have bT:=eO hg b6;replace b3:=am (Kd.jk (Kd.oe (nS0 b3) b2 (Nat.le_of_eq hg.symm)) hb);replace b4:=bj b4 hb;replace b5:=bj b5 hb;replace b6:=bj b6 hb;replace HB:=hB HB hb;clear hb hbox hg;have jH:=d6.out;have jI:=d5.out;have jJ:=d8.out;have jK:=d7.out;have jL:=bT.out;have jM:=bS.out;obtain⟨⟨_,_,_,_,_,_⟩,_,_,_,_,_,_⟩:=z6 b7))
   have dJ:ae (Kd.S fv 58 ((((((d1.setCell ⟨b2,0,none⟩ (.int .i64 ((af ag b1).f0))).setCell ⟨b2,1,none⟩ (.int .i64 ((af ag b1).f1))).setCell ⟨b2,2,none⟩ (.int .i64 ((af ag b1).f2))).setCell ⟨b2,3,none⟩ (.slice bB ((af ag b1).f3).length bC)).setCell ⟨b2,4,none⟩ (.slice bD ((af ag b1).f4).length bE)).setCell ⟨b2,5,none⟩ (.slice bF ((af ag b1).f5).length bG)) w.heap.size (fun k_=>k_≠b2) b8 b9):=⟨by(with_reducible repeat(first|apply Kd.eo|apply Kd.et|apply Kd.eI));exact Kd.eu (Kd.cV (p:=⟨b2,5,none⟩) (Kd.cV (p:=⟨b2,4,none⟩) (Kd.cV (p:=⟨b2,3,none⟩) (Kd.cV (p:=⟨b2,2,none⟩) (Kd.cV (p:=⟨b2,1,none⟩) (Kd.cV (p:=⟨b2,0,none⟩) (Kd.eu b3.out (fun k_ hk=>(⟨hk,hk.2⟩:_∧k_≠b2))) (fun _ hk=>hk.2) (.int .i64 ((af ag b1).f0))) (fun _ hk=>hk.2) (.int .i64 ((af ag b1).f1))) (fun _ hk=>hk.2) (.int .i64 ((af ag b1).f2))) (fun _ hk=>hk.2) (.slice bB ((af ag b1).f3).length bC)) (fun _ hk=>hk.2) (.slice bD ((af ag b1).f4).length bE)) (fun _ hk=>hk.2) (.slice bF ((af ag b1).f5).length bG)) (fun _ hk=>hk.1.2)⟩;have dK:ae (((((((d1.setCell ⟨b2,0,none⟩ (.int .i64 ((af ag b1).f0))).setCell ⟨b2,1,none⟩ (.int .i64 ((af ag b1).f1))).setCell ⟨b2,2,none⟩ (.int .i64 ((af ag b1).f2))).setCell ⟨b2,3,none⟩ (.slice bB ((af ag b1).f3).length bC)).setCell ⟨b2,4,none⟩ (.slice bD ((af ag b1).f4).length bE)).setCell ⟨b2,5,none⟩ (.slice bF ((af ag b1).f5).length bG)).heap[d9]? =some (.cells #[.slice (some gH) ag.length aW,.int .i64 ak] 28 (0,0))):=⟨oF b4⟩;have dL:ae (((((((d1.setCell ⟨b2,0,none⟩ (.int .i64 ((af ag b1).f0))).setCell ⟨b2,1,none⟩ (.int .i64 ((af ag b1).f1))).setCell ⟨b2,2,none⟩ (.int .i64 ((af ag b1).f2))).setCell ⟨b2,3,none⟩ (.slice bB ((af ag b1).f3).length bC)).setCell ⟨b2,4,none⟩ (.slice bD ((af ag b1).f4).length bE)).setCell ⟨b2,5,none⟩ (.slice bF ((af ag b1).f5).length bG)).heap[bM]? =some (.cells #[.slice none 0 0,.int .i64 0] 28 (0,0))):=⟨oF b5⟩;have dM:ae (((((((d1.setCell ⟨b2,0,none⟩ (.int .i64 ((af ag b1).f0))).setCell ⟨b2,1,none⟩ (.int .i64 ((af ag b1).f1))).setCell ⟨b2,2,none⟩ (.int .i64 ((af ag b1).f2))).setCell ⟨b2,3,none⟩ (.slice bB ((af ag b1).f3).length bC)).setCell ⟨b2,4,none⟩ (.slice bD ((af ag b1).f4).length bE)).setCell ⟨b2,5,none⟩ (.slice bF ((af ag b1).f5).length bG)).heap[bL]? =some (.cells #[b8,.int .i64 ak] 28 (0,0))):=⟨oF b6⟩;have dN:ae (((((((d1.setCell ⟨b2,0,none⟩ (.int .i64 ((af ag b1).f0))).setCell ⟨b2,1,none⟩ (.int .i64 ((af ag b1).f1))).setCell ⟨b2,2,none⟩ (.int .i64 ((af ag b1).f2))).setCell ⟨b2,3,none⟩ (.slice bB ((af ag b1).f3).length bC)).setCell ⟨b2,4,none⟩ (.slice bD ((af ag b1).f4).length bE)).setCell ⟨b2,5,none⟩ (.slice bF ((af ag b1).f5).length bG)).heap[b2]? =some (.cells #[.int .i64 ((af ag b1).f0),.int .i64 ((af ag b1).f1),.int .i64 ((af ag b1).f2),.slice bB ((af ag b1).f3).length bC,.slice bD ((af ag b1).f4).length bE,.slice bF ((af ag b1).f5).length bG] 58 (0,0))):=⟨oP b7⟩;have dO:ae (Below w.heap.size w ((((((d1.setCell ⟨b2,0,none⟩ (.int .i64 ((af ag b1).f0))).setCell ⟨b2,1,none⟩ (.int .i64 ((af ag b1).f1))).setCell ⟨b2,2,none⟩ (.int .i64 ((af ag b1).f2))).setCell ⟨b2,3,none⟩ (.slice bB ((af ag b1).f3).length bC)).setCell ⟨b2,4,none⟩ (.slice bD ((af ag b1).f4).length bE)).setCell ⟨b2,5,none⟩ (.slice bF ((af ag b1).f5).length bG))):=⟨oB⟩
   (try clear b3)
   (try clear b4)
   (try clear b5)
   (try clear b6)
   (try clear b7)
   (try clear HB)
   generalize ((((((d1.setCell ⟨b2,0,none⟩ (.int .i64 ((af ag b1).f0))).setCell ⟨b2,1,none⟩ (.int .i64 ((af ag b1).f1))).setCell ⟨b2,2,none⟩ (.int .i64 ((af ag b1).f2))).setCell ⟨b2,3,none⟩ (.slice bB ((af ag b1).f3).length bC)).setCell ⟨b2,4,none⟩ (.slice bD ((af ag b1).f4).length bE)).setCell ⟨b2,5,none⟩ (.slice bF ((af ag b1).f5).length bG))=j2 at dJ dK dL dM dN dO⊢;have b3:=dJ;have b4:=dK;have b5:=dL;have b6:=dM;have b7:=dN;have HB:=dO;clear dJ dK dL dM dN dO;replace b3:=am (Kd.eI b3.out);replace b4:=am (av b4.out);replace b5:=am (av b5.out);replace b6:=am (av b6.out);replace b7:=am (av b7.out);replace HB:=am (au HB.out);refine qd (n:=8) (S:=fun w'=>w'.cell? ⟨bL,0,none⟩=some (b8)∧w'.cell? ⟨bL,1,none⟩=some (.int .i64 ak)∧w'.cell? ⟨b2,0,none⟩=some (.int .i64 ((af ag b1).f0))∧w'.cell? ⟨b2,1,none⟩=some (.int .i64 ((af ag b1).f1))∧w'.cell? ⟨b2,2,none⟩=some (.int .i64 ((af ag b1).f2))∧w'.cell? ⟨b2,3,none⟩=some (.slice bB ((af ag b1).f3).length bC)∧w'.cell? ⟨b2,4,none⟩=some (.slice bD ((af ag b1).f4).length bE)∧w'.cell? ⟨b2,5,none⟩=some (.slice bF ((af ag b1).f5).length bG)) (ds:=[7]) (lb 8 0) (by kernel_rfl) rfl rfl oH (fun hHeld=> ?_);refine qi cl.wB cl.rN (fun ax eF=> ?_);generalize j2.drew=m4 at b3 b4 b5 b6 b7 HB hHeld⊢;refine bx 0 16 ax ?_;refine fS 1 17 ax eF hHeld ?_;refine fS 2 18 ax eF hHeld ?_;refine kM 3 19 ax (fun K hK=> ?_);refine lG 19 Tryz.func87 (eE.calls ((af ag b1).f0) ((af ag b1).f1) ((af ag b1).f2) _ _ ((af ag b1).f3) _ _ ((af ag b1).f4) _ _ ((af ag b1).f5) bX bY bZ bN bO bP _ (kC dC) dB.out (kC dE) dD.out (kC dG) dF.out j1.out) ?_;rintro e m5 ⟨jY,jZ,m1,rfl,gK,dP,dQ,hb⟩;refine⟨_,rfl,?_⟩;have bU:=am (Kd.ar gK (ah oB));have bV:=am (Kd.ar dP (ah oB));have bW:=am (Kd.ar dQ (ah oB));replace b3:=tv (uE b3 hb) (Kd.cM gK) (Kd.cM dP) (Kd.cM dQ);replace b4:=bj b4 hb;replace b5:=bj b5 hb;replace b6:=bj b6 hb;replace b7:=bj b7 hb;replace HB:=hB HB hb
   (try clear dP)
   (try clear dQ)
   obtain⟨dR,dS,dT⟩:=Kd.aw bU.out
   (first|subst dT|(injection dT with jf lB jg;have d2:=jf.symm;have d3:=jg.symm;clear jf lB jg;subst d2;subst d3))
   obtain⟨dU,dV,dW⟩:=Kd.aw bV.out
   (first|subst dW|(injection dW with jf lB jg;have d2:=jf.symm;have d3:=jg.symm;clear jf lB jg;subst d2;subst d3))
   obtain⟨dX,dY,dZ⟩:=Kd.aw bW.out
   (first|subst dZ|(injection dZ with jf lB jg;have d2:=jf.symm;have d3:=jg.symm;clear jf lB jg;subst d2;subst d3))
   refine eY hK 19 oH (fun hHeld=> ?_);clear hK K;refine kM 4 20 ax (fun K hK=> ?_);refine rB (w1:= ?_) (v:= ?_) (by rfl) rfl ?_ ?_;rotate_left 2
   ·go_simp
    constructor
    ·rfl
    ·rfl
   refine eY hK 20 ⟨(an (aC b6.out _) 0).trans rfl,(an (aC b6.out _) 1).trans rfl,(an (aC b7.out _) 0).trans rfl,(an (aC b7.out _) 1).trans rfl,(an (aC b7.out _) 2).trans rfl,(an (aC b7.out _) 3).trans rfl,(an (aC b7.out _) 4).trans rfl,(an (aC b7.out _) 5).trans rfl⟩ (fun hHeld=> ?_);clear hK K;refine kM 5 21 ax (fun K hK=> ?_);refine Kd.ng fv (w0:=w) w.heap.size (by rfl) (.tmp 17) (.tmp 20) 26 58 (.agg #[(.int .i64 0),(.int .i64 0),(.int .i64 0),(.slice none 0 0),(.slice none 0 0),(.slice none 0 0)]) 96 rfl Tryz.underlying26 kX rfl (by decide) (by omega) b8 b9 (⟨bX,bY,bZ,bN,bO,bP⟩:aZ) [.int .i64 bX,.int .i64 bY,.int .i64 bZ,.slice dR bN.length dS,.slice dU bO.length dV,.slice dX bP.length dY] (fun k_=>k_≠b2) (fun k_=>some k_=(.slice dR bN.length dS:Value).ownBlock∨some k_=(.slice dU bO.length dV:Value).ownBlock∨some k_=(.slice dX bP.length dY:Value).ownBlock) rfl rfl ?aP (fun k_ eY=>eY.elim (fun h_=>((Kd.bf (ok':=fun k_=>((fun k_=>k_≠b2)) k_∧some k_≠(b8:Value).ownBlock) (Kd.aU (Kd.ct (bU.out) (Kd.fx b3.out) (by decide)) b7.out (by decide)) (fun k_ hk=>⟨hk.2,hk.1.2⟩))).1 k_ h_.symm) (fun h_=>h_.elim (fun h_=>((Kd.bf (ok':=fun k_=>((fun k_=>k_≠b2)) k_∧some k_≠(b8:Value).ownBlock) (Kd.aU (Kd.ct (bV.out) (Kd.fx b3.out) (by decide)) b7.out (by decide)) (fun k_ hk=>⟨hk.2,hk.1.2⟩))).1 k_ h_.symm) (fun h_=>((Kd.bf (ok':=fun k_=>((fun k_=>k_≠b2)) k_∧some k_≠(b8:Value).ownBlock) (Kd.aU (Kd.ct (bW.out) (Kd.fx b3.out) (by decide)) b7.out (by decide)) (fun k_ hk=>⟨hk.2,hk.1.2⟩))).1 k_ h_.symm))) ?aF ?aO ?aB ?aS ?aL ?_
   (case aP=>exact nz _ _ _ (⟨bX,bY,bZ,bN,bO,bP⟩:aZ) (Kd.bf (Kd.iG rfl (Kd.bf (ok':=fun k_=>((fun k_=>k_≠b2)) k_∧some k_≠(b8:Value).ownBlock) (Kd.aU (Kd.ct (bU.out) (Kd.fx b3.out) (by decide)) b7.out (by decide)) (fun k_ hk=>⟨hk.2,hk.1.2⟩))) (fun _ h_=>Or.inl h_)) (Kd.bf (Kd.iG rfl (Kd.bf (ok':=fun k_=>((fun k_=>k_≠b2)) k_∧some k_≠(b8:Value).ownBlock) (Kd.aU (Kd.ct (bV.out) (Kd.fx b3.out) (by decide)) b7.out (by decide)) (fun k_ hk=>⟨hk.2,hk.1.2⟩))) (fun _ h_=>Or.inr (Or.inl h_))) (Kd.bf (Kd.iG rfl (Kd.bf (ok':=fun k_=>((fun k_=>k_≠b2)) k_∧some k_≠(b8:Value).ownBlock) (Kd.aU (Kd.ct (bW.out) (Kd.fx b3.out) (by decide)) b7.out (by decide)) (fun k_ hk=>⟨hk.2,hk.1.2⟩))) (fun _ h_=>Or.inr (Or.inr (h_)))))
   (case aB=>exact oB)
   (case aF=>exact(fun k_ hk=>Kd.eP (g:=b2) (o:= .cells #[.int .i64 ((af ag b1).f0),.int .i64 ((af ag b1).f1),.int .i64 ((af ag b1).f2),.slice bB ((af ag b1).f3).length bC,.slice bD ((af ag b1).f4).length bE,.slice bF ((af ag b1).f5).length bG] 58 (0,0)) (oF b7) k_ hk))
   (case aO=>exact(by(with_reducible repeat(first|apply Kd.eo|apply Kd.et|apply Kd.eI));exact Kd.eu b3.out (fun k_ hk=>⟨hk.1.1.1,fun e_=>e_.elim (fun h_=>hk.1.1.2 h_) (fun h_=>h_.elim (fun h_=>hk.1.2 h_) (fun h_=>hk.2 h_))⟩)))
   (case aS=>exact(ah oB))
   (case aL=>have:=gF.out;omega)
   intro m2 j3 ho hb hg hat;rw[←gG.out]at ho;have dA:=am (ho);replace b4:=lO b4 hg (Kd.tL b3.out b4.out (by decide));replace b5:=lO b5 hg (Kd.tL b3.out b5.out (by decide));replace b6:=lO b6 hg (Kd.tL b3.out b6.out (by decide));replace b7:=lO b7 hg (Kd.ada b3.out (fun _ hk=>hk.1.1.1));replace HB:=am (hb);clear b3;clear bU;clear bV;clear bW;clear ho hb hg hat;obtain⟨gA,gB,gC⟩:=Kd.gf dA.out
   (first|subst gC|(injection gC with jf lB jg;have d2:=jf.symm;have d3:=jg.symm;clear jf lB jg;subst d2;subst d3))
   refine eY hK 21 oH (fun hHeld=> ?_);clear hK K;refine bx 6 22 ax ?_;refine xH (i:=7) (N:=none) (lb 8 255) rfl rfl (pq ax.out (by kernel_rfl)) (by decide) (fun K hK=> ?_);have m3:j3.cell? ⟨bL,0,none⟩=some (b8):=(an b6.out 0).trans rfl;have jN:=az b6.out 0;have gT:=bH.out;have gU:=bJ.out;have gV:=bT.out;have gW:=bI.out;have gX:=bK.out;have gY:=bS.out;refine rC (w1:= ?_) (by rfl) rfl ?_ ?_;rotate_left
   ·go_simp
    rfl
   refine hK.out _ _ ?_;clear hK K;refine lY ax ?_
   try go_wp2
   go_roundg k1
   case measure=>have:=gI.out;omega
   case rel=>exact⟨(wrap64 (b1+1)),(d4),(.slice gA d4.length gB),oS,H',⟨by have:=gI.out;omega⟩,⟨by(with_reducible repeat(first|apply Kd.eo|apply Kd.et|apply Kd.eI));exact Kd.eu (Kd.cV (p:=⟨bL,0,none⟩) (Kd.jl dA.out b6.out (by decide)) (fun _ hk=>hk.2) (.slice gA d4.length gB)) (fun _ hk=>trivial)⟩,⟨oF b4⟩,⟨oF b5⟩,⟨oP b6⟩,⟨oB⟩⟩

mutual
def aG.l0:Nat→ByteArray→List ByteArray→Int→Int→Option (List ByteArray×Bool)
 |0,_,_,_,_=>none
 |k+1,x0,x4,x5,x6=>if x6≤(x0.size:Int)then(if x6<(x0.size:Int)then(if 0≤x6 then(aG.j1 k x0 x4 x5 x6 ((bt x0 x6) !=47))else(none))else(aG.j1 k x0 x4 x5 x6 false))else(if(x0.size:Int)=0 then(some ((([]:List ByteArray)),false))else(if 0<(x0.size:Int)then(if(bt x0 0)=47 then(some (x4,true))else(some ((([]:List ByteArray)),false)))else(none)))
def aG.j1:Nat→ByteArray→List ByteArray→Int→Int→Bool→Option (List ByteArray×Bool)
 |0,_,_,_,_,_=>none
 |k+1,x0,x4,x5,x6,b2=>if b2=true then(aG.l0 k x0 x4 x5 (wrap64 (x6+1)))else(if x6>0 then(if 0≤x5 then(if x5≤x6 then(if x6≤(x0.size:Int)then((aM.f k (x0.extract (x5:Int).toNat (x6:Int).toNat)).bind fun b1=>(if b1=true then(if(x4.length:Int)=30 then(some ((([]:List ByteArray)),false))else(if x4.length<8796093022208 then(aG.l0 k x0 (x4++[x0.extract (x5:Int).toNat (x6:Int).toNat]) (wrap64 (x6+1)) (wrap64 (x6+1)))else(none)))else(some ((([]:List ByteArray)),false))))else(none))else(none))else(none))else(aG.l0 k x0 x4 (wrap64 (x6+1)) (wrap64 (x6+1))))
end
def aG.f (k:Nat) (a0:ByteArray):Option (List ByteArray×Bool):=(some (([]:List ByteArray):List ByteArray)).bind fun b1=>(if a0.toList=([47]:List UInt8)then(some (b1,true))else(aG.l0 k a0 b1 0 0))
theorem aG.calls (k:Nat) (a0:ByteArray) (r1:List ByteArray) (r2:Bool) (w:World) (h:aG.f k a0=some (r1,r2)):
  Calls Tryz.prog 51 #[.string a0] w fun e w'=>∃iY:Value,e= .returned (.tuple #[iY,.bool r2])∧Kd.R Kd.string 9 w' w.heap.size (fun _=>True) iY r1∧Below w.heap.size w w':=by
 have HB:=am (Below.refl w.heap.size w);unfold aG.f at h;have H:=h;clear h;obtain⟨bM,dj⟩:∃y_:List ByteArray,y_=(([]:List ByteArray)):=⟨_,rfl⟩;replace H:(if a0.toList=([47]:List UInt8)then(some (bM,true))else(aG.l0 k a0 bM 0 0))=some (r1,r2):=oY;have bB:=ae.mk dj;clear dj
 by_cases c2:a0.toList=([47]:List UInt8)
 ·rw[if_pos c2]at H;have dG:(a0.toList==([47]:List UInt8))=true:=beq_iff_eq.mpr c2;have dH:(a0.toList !=([47]:List UInt8))=false:=bne_eq_false_iff_eq.mpr c2;clear c2;simp only[Option.some.injEq,Prod.mk.injEq]at H;obtain⟨rfl,rfl⟩:=H
  go_enter Tryz.func51,Tryz.ntmps51
  go_wp2_with (first|((with_reducible refine aj (N:=8) rfl ?_);(try(refine ck (by rfl) ?_;dsimp only));refine Kd.ku Kd.string _ 9 ?hg (N:=8) ?hd (xs:=([]:List ByteArray)) (inner:=[]) (ok:=fun _=>True) (fU:=fun _=>True) ?hr ?hp (fun _ hk=>hk) trivial (Below.refl _ _) (Nat.le_refl _) (by simp) ?_;(case hd=>rfl);(case hg=>rfl);(case hr=>first|(go_simp;done)|(go_simp;rfl));(case hp=>exact(cW.none _ _));intro dI w3 bJ hb lv eG;clear lv eG;(first|rw[←bB.out]at bJ|(simp only[Int.reduceToNat]at bJ;rw[←bB.out]at bJ));have bH:=am (Kd.ar bJ (ah oB));replace HB:=hB HB hb;clear hb bJ))
  go_ret2
  exact⟨_,oE,oR bH,oB⟩
 rw[if_neg c2]at H;have dG:(a0.toList==([47]:List UInt8))=false:=beq_eq_false_iff_ne.mpr c2;have dH:(a0.toList !=([47]:List UInt8))=true:=bne_iff_ne.mpr c2;have H':=ae.mk H;clear H
 go_enter Tryz.func51,Tryz.ntmps51
 go_wp2_with (first|((with_reducible refine aj (N:=8) rfl ?_);(try(refine ck (by rfl) ?_;dsimp only));refine Kd.ku Kd.string _ 9 ?hg (N:=8) ?hd (xs:=([]:List ByteArray)) (inner:=[]) (ok:=fun _=>True) (fU:=fun _=>True) ?hr ?hp (fun _ hk=>hk) trivial (Below.refl _ _) (Nat.le_refl _) (by simp) ?_;(case hd=>rfl);(case hg=>rfl);(case hr=>first|(go_simp;done)|(go_simp;rfl));(case hp=>exact(cW.none _ _));intro dI w5 bK hb lv eG;clear lv eG;(first|rw[←bB.out]at bK|(simp only[Int.reduceToNat]at bK;rw[←bB.out]at bK));have bH:=am (Kd.ar bK (ah oB));replace HB:=hB HB hb;clear hb bK))
 go_loopg [4,5,6] k (fun kq v4 v5 v6 w'=>∃(b3:List ByteArray) (b4:Int) (b1:Int),v5= .int .i64 b4∧v6= .int .i64 b1∧ae (aG.l0 kq a0 b3 b4 b1=some (r1,r2))∧ae (kq≤k)∧ae (Kd.R Kd.string 9 w' w.heap.size (fun _=>True) v4 b3)∧ae (Below w.heap.size w w'))
 case atStart=>exact⟨(bM),(0),(0),oS,oS,H',⟨Nat.le_refl _⟩,⟨oR bH⟩,⟨oB⟩⟩
 case round=>
  clear H'
  try clear c2
  obtain⟨b3,b4,b1,rfl,rfl,HA,b9,b2,HB⟩:=hrel
  cases gk with
  |zero=>exact absurd HA.out (by simp[aG.l0])
  |succ k1=>
   have H:=HA.out;clear HA;simp only[aG.l0]at H;replace H:=jd H;rcases H with⟨bR,H⟩|⟨bR,H⟩;rotate_left
   ·by_cases bC:(a0.size:Int)=0
    ·rw[if_pos bC]at H;have bZ:((a0.size:Int)==0)=true:=beq_iff_eq.mpr bC;have d1:((a0.size:Int) !=0)=false:=bne_eq_false_iff_eq.mpr bC;clear bC;obtain⟨dJ,dj⟩:∃y_:List ByteArray,y_=(([]:List ByteArray)):=⟨_,rfl⟩;replace H:(some (dJ,false))=some (r1,r2):=oY;have bN:=ae.mk dj;clear dj;simp only[Option.some.injEq,Prod.mk.injEq]at H;obtain⟨rfl,rfl⟩:=H
     go_wp2_with (first|((with_reducible refine aj (N:=57) rfl ?_);(try(refine ck (by rfl) ?_;dsimp only));refine Kd.ku Kd.string _ 9 ?hg (N:=57) ?hd (xs:=([]:List ByteArray)) (inner:=[]) (ok:=fun _=>True) (fU:=fun _=>True) ?hr ?hp (fun _ hk=>hk) trivial (Below.refl _ _) (Nat.le_refl _) (by simp) ?_;(case hd=>rfl);(case hg=>rfl);(case hr=>first|(go_simp;done)|(go_simp;rfl));(case hp=>exact(cW.none _ _));intro gD gM b5 hb lv eG;clear lv eG;(first|rw[←bN.out]at b5|(simp only[Int.reduceToNat]at b5;rw[←bN.out]at b5));have d2:=am (Kd.ar (Kd.nc b5 (rf b2)) (ah oB));replace b2:=ke_ b2 b5 hb;replace HB:=hB HB hb;clear hb b5))
     go_ret2
     exact⟨_,oE,mR d2,oB⟩
    rw[if_neg bC]at H;have bZ:((a0.size:Int)==0)=false:=beq_eq_false_iff_ne.mpr bC;have d1:((a0.size:Int) !=0)=true:=bne_iff_ne.mpr bC;obtain⟨dE,H⟩:=lp H;have dU:decide (0<(a0.size:Int))=true:=decide_eq_true dE;have dV:decide (0<a0.size)=true:=decide_eq_true (by omega);clear dE
    by_cases bD:(bt a0 0)=47
    ·rw[if_pos bD]at H;have d3:((bt a0 0)==47)=true:=beq_iff_eq.mpr bD;have d4:((bt a0 0) !=47)=false:=bne_eq_false_iff_eq.mpr bD;clear bD;simp only[Option.some.injEq,Prod.mk.injEq]at H;obtain⟨rfl,rfl⟩:=H;have bS:0≤(0:Int):=(by omega);have bL:0<a0.size:=(by have:(0:Int)<(a0.size:Int):=oa;omega);have dK:∀h:0<a0.size,((a0[0]'h).toNat:Int)=bt a0 0:=iF a0 0;clear bS;have dL:(0<(a0.size:Int))=True:=eq_true oa;replace bL:=eq_true bL
     go_wp2
     go_ret2
     exact⟨_,oE,oR b2,oB⟩
    rw[if_neg bD]at H;have d3:((bt a0 0)==47)=false:=beq_eq_false_iff_ne.mpr bD;have d4:((bt a0 0) !=47)=true:=bne_iff_ne.mpr bD;obtain⟨dM,dj⟩:∃y_:List ByteArray,y_=(([]:List ByteArray)):=⟨_,rfl⟩;replace H:(some (dM,false))=some (r1,r2):=oY;have bO:=ae.mk dj;clear dj;simp only[Option.some.injEq,Prod.mk.injEq]at H;obtain⟨rfl,rfl⟩:=H;have bS:0≤(0:Int):=(by omega);have bL:0<a0.size:=(by have:(0:Int)<(a0.size:Int):=oa;omega);have dK:∀h:0<a0.size,((a0[0]'h).toNat:Int)=bt a0 0:=iF a0 0;clear bS;have dL:(0<(a0.size:Int))=True:=eq_true oa;replace bL:=eq_true bL
    go_wp2_with (first|((with_reducible refine aj (N:=57) rfl ?_);(try(refine ck (by rfl) ?_;dsimp only));refine Kd.ku Kd.string _ 9 ?hg (N:=57) ?hd (xs:=([]:List ByteArray)) (inner:=[]) (ok:=fun _=>True) (fU:=fun _=>True) ?hr ?hp (fun _ hk=>hk) trivial (Below.refl _ _) (Nat.le_refl _) (by simp) ?_;(case hd=>rfl);(case hg=>rfl);(case hr=>first|(go_simp;done)|(go_simp;rfl));(case hp=>exact(cW.none _ _));intro gE gN b6 hb lv eG;clear lv eG;(first|rw[←bO.out]at b6|(simp only[Int.reduceToNat]at b6;rw[←bO.out]at b6));have d5:=am (Kd.ar (Kd.nc b6 (rf b2)) (ah oB));replace b2:=ke_ b2 b6 hb;replace HB:=hB HB hb;clear hb b6))
    go_ret2
    exact⟨_,oE,mR d5,oB⟩
   have bT:=ae.mk H;clear H
   go_upto_region 8 with(fail)
   go_cut [27] (fun dT wc=>∃(kq:Nat) (bI:Bool),dT= .bool bI∧ae (aG.j1 kq a0 b3 b4 b1 bI=some (r1,r2))∧ae (kq≤k1)∧ae (Kd.R Kd.string 9 wc w.heap.size (fun _=>True) u4 b3)∧ae (Below w.heap.size w wc))
   case first=>
    have H:=bT.out;clear bT;replace H:=jd H;rcases H with⟨bE,H⟩|⟨bE,H⟩;rotate_left
    ·(first|rw[bE]|rw[aez]|(simp only[fZ,iX];rw[bE])|skip)
     have H':=ae.mk H;clear H
     go_wp2
     go_meet
     case rel=>exact⟨_,(false),oS,H',⟨by have:=b9.out;first|omega|exact Nat.le_refl _⟩,⟨oR b2⟩,⟨oB⟩⟩
    (first|rw[bE]|rw[aez]|(simp only[fZ,iX];rw[bE])|skip)
    obtain⟨dW,H⟩:=cX H;have H':=ae.mk H;clear H;have gO:(0≤(b1:Int))=True:=oT;have gP:(b1<(a0.size:Int))=True:=oT;have gF:=iF a0 b1
    go_wp2
    go_meet
    case rel=>exact⟨_,(((bt a0 b1) !=47)),oS,H',⟨by have:=b9.out;first|omega|exact Nat.le_refl _⟩,⟨oR b2⟩,⟨oB⟩⟩
   case rest=>
    clear bT
    try clear c2
    try clear bR
    obtain⟨kq,bI,rfl,HA,bG,b2,HB⟩:=hcut
    cases kq with
    |zero=>exact absurd HA.out (by simp[aG.j1])
    |succ kj7=>
     have H:=HA.out;clear HA;simp only[aG.j1]at H;replace H:=ll H;rcases H with⟨rfl,H⟩|⟨rfl,H⟩
     ·have H':=ae.mk H;clear H
      go_wp2
      go_roundg kj7
      case measure=>have:=b9.out;have:=bG.out;omega
      case rel=>exact⟨(b3),(b4),(wrap64 (b1+1)),oS,oS,H',⟨by have:=b9.out;have:=bG.out;omega⟩,⟨oR b2⟩,⟨oB⟩⟩
     replace H:=itG H;rcases H with⟨d6,H⟩|⟨d6,H⟩;rotate_left
     ·have H':=ae.mk H;clear H
      go_wp2
      go_roundg kj7
      case measure=>have:=b9.out;have:=bG.out;omega
      case rel=>exact⟨(b3),(wrap64 (b1+1)),(wrap64 (b1+1)),oS,oS,H',⟨by have:=b9.out;have:=bG.out;omega⟩,⟨oR b2⟩,⟨oB⟩⟩
     obtain⟨bU,H⟩:=lp H;have dX:=eq_true bU;have dY:decide (0≤b4)=true:=decide_eq_true bU;clear bU;obtain⟨bV,H⟩:=lp H;have dZ:=eq_true bV;have gA:decide (b4≤b1)=true:=decide_eq_true bV;clear bV;obtain⟨bW,H⟩:=lp H;have gB:=eq_true bW;have gC:decide (b1≤(a0.size:Int))=true:=decide_eq_true bW;clear bW;replace H:=bA H;obtain⟨gG,bX,H⟩:=H
     try dsimp only at H
     replace H:=ll H;rcases H with⟨rfl,H⟩|⟨rfl,H⟩;rotate_left
     ·obtain⟨dN,dj⟩:∃y_:List ByteArray,y_=(([]:List ByteArray)):=⟨_,rfl⟩;replace H:(some (dN,false))=some (r1,r2):=oY;have bP:=ae.mk dj;clear dj;simp only[Option.some.injEq,Prod.mk.injEq]at H;obtain⟨rfl,rfl⟩:=H
      go_wp2_with (first|((with_reducible refine ai (f:=63) rfl ?_);refine eL 35 Tryz.func63 (aM.calls kj7 (a0.extract (b4:Int).toNat (b1:Int).toNat) false _ bX.out) ?_;rintro e w' ⟨rfl,⟨nd,rfl⟩⟩;refine⟨_,rfl,?_⟩)|((with_reducible refine aj (N:=42) rfl ?_);(try(refine ck (by rfl) ?_;dsimp only));refine Kd.ku Kd.string _ 9 ?hg (N:=42) ?hd (xs:=([]:List ByteArray)) (inner:=[]) (ok:=fun _=>True) (fU:=fun _=>True) ?hr ?hp (fun _ hk=>hk) trivial (Below.refl _ _) (Nat.le_refl _) (by simp) ?_;(case hd=>rfl);(case hg=>rfl);(case hr=>first|(go_simp;done)|(go_simp;rfl));(case hp=>exact(cW.none _ _));intro gH gQ b7 hb lv eG;clear lv eG;(first|rw[←bP.out]at b7|(simp only[Int.reduceToNat]at b7;rw[←bP.out]at b7));have d7:=am (Kd.ar (Kd.nc b7 (rf b2)) (ah oB));replace b2:=ke_ b2 b7 hb;replace HB:=hB HB hb;clear hb b7))
      go_ret2
      exact⟨_,oE,mR d7,oB⟩
     by_cases bF:(b3.length:Int)=30
     ·rw[if_pos bF]at H;have d8:((b3.length:Int)==30)=true:=beq_iff_eq.mpr bF;have d9:((b3.length:Int) !=30)=false:=bne_eq_false_iff_eq.mpr bF;clear bF;obtain⟨dO,dj⟩:∃y_:List ByteArray,y_=(([]:List ByteArray)):=⟨_,rfl⟩;replace H:(some (dO,false))=some (r1,r2):=oY;have bQ:=ae.mk dj;clear dj;simp only[Option.some.injEq,Prod.mk.injEq]at H;obtain⟨rfl,rfl⟩:=H
      go_wp2_with (first|((with_reducible refine ai (f:=63) rfl ?_);refine eL 35 Tryz.func63 (aM.calls kj7 (a0.extract (b4:Int).toNat (b1:Int).toNat) true _ bX.out) ?_;rintro e w' ⟨rfl,⟨nd,rfl⟩⟩;refine⟨_,rfl,?_⟩;obtain⟨gI,gJ,dP⟩:=Kd.aw b2.out;subst dP)|((with_reducible refine aj (N:=42) rfl ?_);(try(refine ck (by rfl) ?_;dsimp only));refine Kd.ku Kd.string _ 9 ?hg (N:=42) ?hd (xs:=([]:List ByteArray)) (inner:=[]) (ok:=fun _=>True) (fU:=fun _=>True) ?hr ?hp (fun _ hk=>hk) trivial (Below.refl _ _) (Nat.le_refl _) (by simp) ?_;(case hd=>rfl);(case hg=>rfl);(case hr=>first|(go_simp;done)|(go_simp;rfl));(case hp=>exact(cW.none _ _));intro gK gR b8 hb lv eG;clear lv eG;(first|rw[←bQ.out]at b8|(simp only[Int.reduceToNat]at b8;rw[←bQ.out]at b8));have dA:=am (Kd.ar (Kd.nc b8 (rf b2)) (ah oB));replace b2:=ke_ b2 b8 hb;replace HB:=hB HB hb;clear hb b8))
      go_ret2
      exact⟨_,oE,mR dA,oB⟩
     rw[if_neg bF]at H;have d8:((b3.length:Int)==30)=false:=beq_eq_false_iff_ne.mpr bF;have d9:((b3.length:Int) !=30)=true:=bne_iff_ne.mpr bF;obtain⟨dF,H⟩:=lp H;have dB:=ae.mk dF;clear dF;obtain⟨bY,dj⟩:∃y_:List ByteArray,y_=(b3++[a0.extract (b4:Int).toNat (b1:Int).toNat]):=⟨_,rfl⟩;replace H:(aG.l0 kj7 a0 bY (wrap64 (b1+1)) (wrap64 (b1+1)))=some (r1,r2):=oY;have dC:=ae.mk dj;clear dj;have H':=ae.mk H;clear H
     go_wp2_with (first|((with_reducible refine ai (f:=63) rfl ?_);refine eL 35 Tryz.func63 (aM.calls kj7 (a0.extract (b4:Int).toNat (b1:Int).toNat) true _ bX.out) ?_;rintro e w' ⟨rfl,⟨nd,rfl⟩⟩;refine⟨_,rfl,?_⟩;obtain⟨dQ,dR,dS⟩:=Kd.aw b2.out;subst dS)|((with_reducible refine eb (b:= .append) (xs:= #[.tmp 43,.tmp 45]) rfl ?_);(try(refine ck (by rfl) ?_;dsimp only));at_builtin;refine Kd.nr Kd.string (w0:=w) w.heap.size rfl (.tmp 43) (.tmp 45) 68 9 (.string ⟨#[]⟩) 16 rfl Tryz.underlying68 info9 rfl (by decide) (by omega) (.slice dQ b3.length dR) b3 (a0.extract (b4:Int).toNat (b1:Int).toNat) [.string (a0.extract (b4:Int).toNat (b1:Int).toNat)] (fun _=>True) (fun _=>False) rfl rfl ?aP (fun _ hk=>hk.elim) ?aF ?aO ?aB ?aS ?aL ?_;(case aP=>exact rfl);(case aB=>exact oB);(case aF=>exact(fun _ _=>trivial));(case aO=>exact(oR b2));(case aS=>exact(ah oB));(case aL=>have:=dB.out;omega);intro gL gS ho hb hg hat;rw[←dC.out]at ho;have dD:=am (ho);replace HB:=am (hb);clear b2;clear ho hb hg hat))
     go_roundg kj7
     case measure=>have:=b9.out;have:=bG.out;omega
     case rel=>exact⟨(bY),(wrap64 (b1+1)),(wrap64 (b1+1)),oS,oS,H',⟨by have:=b9.out;have:=bG.out;omega⟩,⟨oR dD⟩,⟨oB⟩⟩

def eh.l0:Nat→List (db)→Int→Option (Bool)
 |0,_,_=>none
 |k+1,x0,x3=>if x3<(x0.length:Int)then(if 0≤x3 then((aM.f k ((al x0 x3).f0)).bind fun b1=>(if b1=true then((aY.f ((al x0 x3).f1) 2 1000).bind fun b2=>(if b2=true then(if x3>0 then(if 0≤(wrap64 (x3-1))then(if(wrap64 (x3-1))<(x0.length:Int)then(if((Op.bytesLess (((al x0 (wrap64 (x3-1))).f0).toList) (((al x0 x3).f0).toList))=true)then(eh.l0 k x0 (wrap64 (x3+1)))else(some false))else(none))else(none))else(eh.l0 k x0 (wrap64 (x3+1))))else(some false)))else(some false)))else(none))else(some (decide ((x0.length:Int)≤10)))
def eh.f (k:Nat) (l0:List (db)):Option (Bool):=eh.l0 k l0 0
theorem eh.calls (k:Nat) (A0:Option Addr) (c0:Nat) (l0:List (db)) (r:Bool) (w:World) (hr0:Kd.C iA w A0 l0.length l0) (hc0:l0.length≤c0) (h:eh.f k l0=some r):
  Calls Tryz.prog 139 #[.slice A0 l0.length c0] w fun e w'=>e= .returned (.bool r)∧fp w w':=by
 have b7:=ae.mk hr0;have d6:=ae.mk hc0;clear hr0 hc0;unfold eh.f at h;have H:=h;clear h;have H':=ae.mk H;clear H
 go_enter Tryz.func139,Tryz.ntmps139
 go_wp2
 repeat(go_quiet (fail);try go_wp2)
 go_loopg [3] k (fun kq v3 w'=>∃(b1:Int),v3= .int .i64 b1∧ae (eh.l0 kq l0 b1=some r)∧ae (kq≤k)∧fp w w')
 case atStart=>exact⟨(0),oS,H',⟨Nat.le_refl _⟩,oD⟩
 case round=>
  clear H';obtain⟨b1,rfl,HA,bV,⟨m1,rfl⟩⟩:=hrel
  cases gk with
  |zero=>exact absurd HA.out (by simp[eh.l0])
  |succ k1=>
   have H:=HA.out;clear HA;simp only[eh.l0]at H;replace H:=jd H;rcases H with⟨bX,H⟩|⟨bX,H⟩;rotate_left
   ·obtain rfl:=Option.some.inj H
    go_wp2
    repeat(go_quiet (fail);try go_wp2)
    go_ret
    exact⟨oS,oD⟩
   obtain⟨d3,H⟩:=cX H;replace H:=bA H;obtain⟨d4,A4,H⟩:=H
   try dsimp only at H
   replace H:=ll H;rcases H with⟨rfl,H⟩|⟨rfl,H⟩;rotate_left
   ·obtain rfl:=Option.some.inj H;have bT:(0≤(b1:Int))=True:=oT;have bU:(b1<(l0.length:Int))=True:=oT;obtain⟨b2,bO,bP,bQ⟩:=cT b7.out b1 oa oa
    cases bO
    go_wp2_with (first|(go_at_call 63;(with_reducible refine(aM.calls k1 ((al l0 b1).f0) false _ A4.out).mono ?_);rintro e w' ⟨rfl,⟨nd,rfl⟩⟩))
    repeat(go_quiet (first|(go_at_call 63;(with_reducible refine(aM.calls k1 ((al l0 b1).f0) false _ A4.out).mono ?_);rintro e w' ⟨rfl,⟨nd,rfl⟩⟩;exact oQ));try go_wp2_with (first|(go_at_call 63;(with_reducible refine(aM.calls k1 ((al l0 b1).f0) false _ A4.out).mono ?_);rintro e w' ⟨rfl,⟨nd,rfl⟩⟩)))
    go_ret
    exact⟨oS,oD⟩
   replace H:=bA H;obtain⟨d5,A6,H⟩:=H
   try dsimp only at H
   replace H:=ll H;rcases H with⟨rfl,H⟩|⟨rfl,H⟩;rotate_left
   ·obtain rfl:=Option.some.inj H;have bT:(0≤(b1:Int))=True:=oT;have bU:(b1<(l0.length:Int))=True:=oT;obtain⟨b2,bO,bP,bQ⟩:=cT b7.out b1 oa oa
    cases bO
    go_wp2_with (first|(go_at_call 63;(with_reducible refine(aM.calls k1 ((al l0 b1).f0) true _ A4.out).mono ?_);rintro e w' ⟨rfl,⟨nd,rfl⟩⟩;have b4:(0≤(b1:Int))=True:=oT;have b5:(b1<(l0.length:Int))=True:=oT;obtain⟨b3,b6,b8,b9⟩:=cT b7.out b1 oa oa;obtain rfl:b2=b3:=(by injection b6))|(go_at_call 60;(with_reducible refine(aY.calls ((al l0 b1).f1) 2 1000 false _ A6.out).mono ?_);rintro e w' ⟨rfl,⟨nd,rfl⟩⟩))
    try(have b4:0≤(b1:Int):=oa;have b5:b1<(l0.length:Int):=oa;obtain⟨b3,b6,b8,b9⟩:=cT b7.out b1 b4 b5;obtain rfl:b2=b3:=(by injection b6);replace b4:=eq_true b4;replace b5:=eq_true b5)
    repeat(go_quiet (first|(go_at_call 63;(with_reducible refine(aM.calls k1 ((al l0 b1).f0) true _ A4.out).mono ?_);rintro e w' ⟨rfl,⟨nd,rfl⟩⟩;exact oQ)|(go_at_call 60;(with_reducible refine(aY.calls ((al l0 b1).f1) 2 1000 false _ A6.out).mono ?_);rintro e w' ⟨rfl,⟨nd,rfl⟩⟩;exact oQ));try go_wp2_with (first|(go_at_call 63;(with_reducible refine(aM.calls k1 ((al l0 b1).f0) true _ A4.out).mono ?_);rintro e w' ⟨rfl,⟨nd,rfl⟩⟩;have b4:(0≤(b1:Int))=True:=oT;have b5:(b1<(l0.length:Int))=True:=oT;obtain⟨b3,b6,b8,b9⟩:=cT b7.out b1 oa oa;obtain rfl:b2=b3:=(by injection b6))|(go_at_call 60;(with_reducible refine(aY.calls ((al l0 b1).f1) 2 1000 false _ A6.out).mono ?_);rintro e w' ⟨rfl,⟨nd,rfl⟩⟩)))
    go_ret
    exact⟨oS,oD⟩
   replace H:=itG H;rcases H with⟨bY,H⟩|⟨bY,H⟩;rotate_left
   ·have H':=ae.mk H;clear H;have bT:(0≤(b1:Int))=True:=oT;have bU:(b1<(l0.length:Int))=True:=oT;obtain⟨b2,bO,bP,bQ⟩:=cT b7.out b1 oa oa
    cases bO
    go_wp2_with (first|(go_at_call 63;(with_reducible refine(aM.calls k1 ((al l0 b1).f0) true _ A4.out).mono ?_);rintro e w' ⟨rfl,⟨nd,rfl⟩⟩;have b4:(0≤(b1:Int))=True:=oT;have b5:(b1<(l0.length:Int))=True:=oT;obtain⟨b3,b6,b8,b9⟩:=cT b7.out b1 oa oa;obtain rfl:b2=b3:=(by injection b6))|(go_at_call 60;(with_reducible refine(aY.calls ((al l0 b1).f1) 2 1000 true _ A6.out).mono ?_);rintro e w' ⟨rfl,⟨nd,rfl⟩⟩))
    try(have b4:0≤(b1:Int):=oa;have b5:b1<(l0.length:Int):=oa;obtain⟨b3,b6,b8,b9⟩:=cT b7.out b1 b4 b5;obtain rfl:b2=b3:=(by injection b6);replace b4:=eq_true b4;replace b5:=eq_true b5)
    repeat(go_quiet (first|(go_at_call 63;(with_reducible refine(aM.calls k1 ((al l0 b1).f0) true _ A4.out).mono ?_);rintro e w' ⟨rfl,⟨nd,rfl⟩⟩;exact oQ)|(go_at_call 60;(with_reducible refine(aY.calls ((al l0 b1).f1) 2 1000 true _ A6.out).mono ?_);rintro e w' ⟨rfl,⟨nd,rfl⟩⟩;exact oQ));try go_wp2_with (first|(go_at_call 63;(with_reducible refine(aM.calls k1 ((al l0 b1).f0) true _ A4.out).mono ?_);rintro e w' ⟨rfl,⟨nd,rfl⟩⟩;have b4:(0≤(b1:Int))=True:=oT;have b5:(b1<(l0.length:Int))=True:=oT;obtain⟨b3,b6,b8,b9⟩:=cT b7.out b1 oa oa;obtain rfl:b2=b3:=(by injection b6))|(go_at_call 60;(with_reducible refine(aY.calls ((al l0 b1).f1) 2 1000 true _ A6.out).mono ?_);rintro e w' ⟨rfl,⟨nd,rfl⟩⟩)))
    go_roundg k1
    case measure=>have:=bV.out;omega
    case rel=>exact⟨(wrap64 (b1+1)),oS,H',⟨by have:=bV.out;omega⟩,oD⟩
   obtain⟨bB,bR⟩:∃j_:Int,(wrap64 (b1-1))=j_:=⟨_,rfl⟩
   replace H:(if 0≤(bB)then(if(bB)<(l0.length:Int)then(if((Op.bytesLess (((al l0 (bB)).f0).toList) (((al l0 b1).f0).toList))=true)then(eh.l0 k1 l0 (wrap64 (b1+1)))else(some false))else(none))else(none))=some r:=by first|(rw[bR]at H;exact H)|(simp only[bR]at H⊢;exact H)
   (try rw[bR]at A4)
   (try rw[bR]at A6)
   have bZ:(IntKind.i64.wrap (b1-1))=bB:=(fZ _).trans bR;obtain⟨d1,H⟩:=cX H;obtain⟨d2,H⟩:=cX H
   by_cases bS:((Op.bytesLess (((al l0 (bB)).f0).toList) (((al l0 b1).f0).toList))=true)
   rotate_left
   ·rw[if_neg bS]at H
    have bW:(Op.bytesLess (((al l0 (bB)).f0).toList) (((al l0 b1).f0).toList))=false:=by simpa using bS
    clear bS;obtain rfl:=Option.some.inj H;have bT:(0≤(b1:Int))=True:=oT;have bU:(b1<(l0.length:Int))=True:=oT;obtain⟨b2,bO,bP,bQ⟩:=cT b7.out b1 oa oa
    cases bO
    go_wp2_with (first|(go_at_call 63;(with_reducible refine(aM.calls k1 ((al l0 b1).f0) true _ A4.out).mono ?_);rintro e w' ⟨rfl,⟨nd,rfl⟩⟩;have b4:(0≤(b1:Int))=True:=oT;have b5:(b1<(l0.length:Int))=True:=oT;obtain⟨b3,b6,b8,b9⟩:=cT b7.out b1 oa oa;obtain rfl:b2=b3:=(by injection b6))|(go_at_call 60;(with_reducible refine(aY.calls ((al l0 b1).f1) 2 1000 true _ A6.out).mono ?_);rintro e w' ⟨rfl,⟨nd,rfl⟩⟩;have bE:(0≤((bB):Int))=True:=oT;have bF:((bB)<(l0.length:Int))=True:=oT;obtain⟨bC,bG,bK,bL⟩:=cT b7.out (bB) oa oa;obtain rfl:b2=bC:=(by injection bG);have bH:(0≤(b1:Int))=True:=oT;have bI:(b1<(l0.length:Int))=True:=oT;obtain⟨bD,bJ,bM,bN⟩:=cT b7.out b1 oa oa;obtain rfl:b2=bD:=(by injection bJ)))
    try(have b4:0≤(b1:Int):=oa;have b5:b1<(l0.length:Int):=oa;obtain⟨b3,b6,b8,b9⟩:=cT b7.out b1 b4 b5;obtain rfl:b2=b3:=(by injection b6);replace b4:=eq_true b4;replace b5:=eq_true b5)
    try(have bE:0≤((bB):Int):=oa;have bF:(bB)<(l0.length:Int):=oa;obtain⟨bC,bG,bK,bL⟩:=cT b7.out (bB) bE bF;obtain rfl:b2=bC:=(by injection bG);replace bE:=eq_true bE;replace bF:=eq_true bF;have bH:0≤(b1:Int):=oa;have bI:b1<(l0.length:Int):=oa;obtain⟨bD,bJ,bM,bN⟩:=cT b7.out b1 bH bI;obtain rfl:b2=bD:=(by injection bJ);replace bH:=eq_true bH;replace bI:=eq_true bI)
    repeat(go_quiet (first|(go_at_call 63;(with_reducible refine(aM.calls k1 ((al l0 b1).f0) true _ A4.out).mono ?_);rintro e w' ⟨rfl,⟨nd,rfl⟩⟩;exact oQ)|(go_at_call 60;(with_reducible refine(aY.calls ((al l0 b1).f1) 2 1000 true _ A6.out).mono ?_);rintro e w' ⟨rfl,⟨nd,rfl⟩⟩;exact oQ));try go_wp2_with (first|(go_at_call 63;(with_reducible refine(aM.calls k1 ((al l0 b1).f0) true _ A4.out).mono ?_);rintro e w' ⟨rfl,⟨nd,rfl⟩⟩;have b4:(0≤(b1:Int))=True:=oT;have b5:(b1<(l0.length:Int))=True:=oT;obtain⟨b3,b6,b8,b9⟩:=cT b7.out b1 oa oa;obtain rfl:b2=b3:=(by injection b6))|(go_at_call 60;(with_reducible refine(aY.calls ((al l0 b1).f1) 2 1000 true _ A6.out).mono ?_);rintro e w' ⟨rfl,⟨nd,rfl⟩⟩;have bE:(0≤((bB):Int))=True:=oT;have bF:((bB)<(l0.length:Int))=True:=oT;obtain⟨bC,bG,bK,bL⟩:=cT b7.out (bB) oa oa;obtain rfl:b2=bC:=(by injection bG);have bH:(0≤(b1:Int))=True:=oT;have bI:(b1<(l0.length:Int))=True:=oT;obtain⟨bD,bJ,bM,bN⟩:=cT b7.out b1 oa oa;obtain rfl:b2=bD:=(by injection bJ))))
    go_ret
    exact⟨by first|rfl|(simp;done)|(simp only[←bR]<;>(first|rfl|simp))|(simp[*];done),oD⟩
   rw[if_pos bS]at H;have bW:(Op.bytesLess (((al l0 (bB)).f0).toList) (((al l0 b1).f0).toList))=true:=bS;clear bS;have H':=ae.mk H;clear H;have bT:(0≤(b1:Int))=True:=oT;have bU:(b1<(l0.length:Int))=True:=oT;obtain⟨b2,bO,bP,bQ⟩:=cT b7.out b1 oa oa
   cases bO
   go_wp2_with (first|(go_at_call 63;(with_reducible refine(aM.calls k1 ((al l0 b1).f0) true _ A4.out).mono ?_);rintro e w' ⟨rfl,⟨nd,rfl⟩⟩;have b4:(0≤(b1:Int))=True:=oT;have b5:(b1<(l0.length:Int))=True:=oT;obtain⟨b3,b6,b8,b9⟩:=cT b7.out b1 oa oa;obtain rfl:b2=b3:=(by injection b6))|(go_at_call 60;(with_reducible refine(aY.calls ((al l0 b1).f1) 2 1000 true _ A6.out).mono ?_);rintro e w' ⟨rfl,⟨nd,rfl⟩⟩;have bE:(0≤((bB):Int))=True:=oT;have bF:((bB)<(l0.length:Int))=True:=oT;obtain⟨bC,bG,bK,bL⟩:=cT b7.out (bB) oa oa;obtain rfl:b2=bC:=(by injection bG);have bH:(0≤(b1:Int))=True:=oT;have bI:(b1<(l0.length:Int))=True:=oT;obtain⟨bD,bJ,bM,bN⟩:=cT b7.out b1 oa oa;obtain rfl:b2=bD:=(by injection bJ)))
   try(have b4:0≤(b1:Int):=oa;have b5:b1<(l0.length:Int):=oa;obtain⟨b3,b6,b8,b9⟩:=cT b7.out b1 b4 b5;obtain rfl:b2=b3:=(by injection b6);replace b4:=eq_true b4;replace b5:=eq_true b5)
   try(have bE:0≤((bB):Int):=oa;have bF:(bB)<(l0.length:Int):=oa;obtain⟨bC,bG,bK,bL⟩:=cT b7.out (bB) bE bF;obtain rfl:b2=bC:=(by injection bG);replace bE:=eq_true bE;replace bF:=eq_true bF;have bH:0≤(b1:Int):=oa;have bI:b1<(l0.length:Int):=oa;obtain⟨bD,bJ,bM,bN⟩:=cT b7.out b1 bH bI;obtain rfl:b2=bD:=(by injection bJ);replace bH:=eq_true bH;replace bI:=eq_true bI)
   repeat(go_quiet (first|(go_at_call 63;(with_reducible refine(aM.calls k1 ((al l0 b1).f0) true _ A4.out).mono ?_);rintro e w' ⟨rfl,⟨nd,rfl⟩⟩;exact oQ)|(go_at_call 60;(with_reducible refine(aY.calls ((al l0 b1).f1) 2 1000 true _ A6.out).mono ?_);rintro e w' ⟨rfl,⟨nd,rfl⟩⟩;exact oQ));try go_wp2_with (first|(go_at_call 63;(with_reducible refine(aM.calls k1 ((al l0 b1).f0) true _ A4.out).mono ?_);rintro e w' ⟨rfl,⟨nd,rfl⟩⟩;have b4:(0≤(b1:Int))=True:=oT;have b5:(b1<(l0.length:Int))=True:=oT;obtain⟨b3,b6,b8,b9⟩:=cT b7.out b1 oa oa;obtain rfl:b2=b3:=(by injection b6))|(go_at_call 60;(with_reducible refine(aY.calls ((al l0 b1).f1) 2 1000 true _ A6.out).mono ?_);rintro e w' ⟨rfl,⟨nd,rfl⟩⟩;have bE:(0≤((bB):Int))=True:=oT;have bF:((bB)<(l0.length:Int))=True:=oT;obtain⟨bC,bG,bK,bL⟩:=cT b7.out (bB) oa oa;obtain rfl:b2=bC:=(by injection bG);have bH:(0≤(b1:Int))=True:=oT;have bI:(b1<(l0.length:Int))=True:=oT;obtain⟨bD,bJ,bM,bN⟩:=cT b7.out b1 oa oa;obtain rfl:b2=bD:=(by injection bJ))))
   go_roundg k1
   case measure=>have:=bV.out;omega
   case rel=>exact⟨(wrap64 (b1+1)),oS,H',⟨by have:=bV.out;omega⟩,oD⟩

def du.l0:Nat→List (ey)→Int→Option (Bool)
 |0,_,_=>none
 |k+1,x0,x3=>if x3<(x0.length:Int)then(if 0≤x3 then((aM.f k ((aq x0 x3).f0)).bind fun b1=>(if b1=true then((aY.f (((aq x0 x3).f1).size:Int) 1 16).bind fun b2=>(if b2=true then(if x3>0 then(if 0≤(wrap64 (x3-1))then(if(wrap64 (x3-1))<(x0.length:Int)then(if((Op.bytesLess (((aq x0 (wrap64 (x3-1))).f0).toList) (((aq x0 x3).f0).toList))=true)then(du.l0 k x0 (wrap64 (x3+1)))else(some false))else(none))else(none))else(du.l0 k x0 (wrap64 (x3+1))))else(some false)))else(some false)))else(none))else(some (decide ((x0.length:Int)≤4)))
def du.f (k:Nat) (l0:List (ey)):Option (Bool):=du.l0 k l0 0
theorem du.calls (k:Nat) (A0:Option Addr) (c0:Nat) (l0:List (ey)) (r:Bool) (w:World) (hr0:Kd.C jr w A0 l0.length l0) (hc0:l0.length≤c0) (h:du.f k l0=some r):
  Calls Tryz.prog 140 #[.slice A0 l0.length c0] w fun e w'=>e= .returned (.bool r)∧fp w w':=by
 have b7:=ae.mk hr0;have d6:=ae.mk hc0;clear hr0 hc0;unfold du.f at h;have H:=h;clear h;have H':=ae.mk H;clear H
 go_enter Tryz.func140,Tryz.ntmps140
 go_wp2
 repeat(go_quiet (fail);try go_wp2)
 go_loopg [3] k (fun kq v3 w'=>∃(b1:Int),v3= .int .i64 b1∧ae (du.l0 kq l0 b1=some r)∧ae (kq≤k)∧fp w w')
 case atStart=>exact⟨(0),oS,H',⟨Nat.le_refl _⟩,oD⟩
 case round=>
  clear H';obtain⟨b1,rfl,HA,bV,⟨m1,rfl⟩⟩:=hrel
  cases gk with
  |zero=>exact absurd HA.out (by simp[du.l0])
  |succ k1=>
   have H:=HA.out;clear HA;simp only[du.l0]at H;replace H:=jd H;rcases H with⟨bX,H⟩|⟨bX,H⟩;rotate_left
   ·obtain rfl:=Option.some.inj H
    go_wp2
    repeat(go_quiet (fail);try go_wp2)
    go_ret
    exact⟨oS,oD⟩
   obtain⟨d3,H⟩:=cX H;replace H:=bA H;obtain⟨d4,A4,H⟩:=H
   try dsimp only at H
   replace H:=ll H;rcases H with⟨rfl,H⟩|⟨rfl,H⟩;rotate_left
   ·obtain rfl:=Option.some.inj H;have bT:(0≤(b1:Int))=True:=oT;have bU:(b1<(l0.length:Int))=True:=oT;obtain⟨b2,bO,bP,bQ⟩:=ej b7.out b1 oa oa
    cases bO
    go_wp2_with (first|(go_at_call 63;(with_reducible refine(aM.calls k1 ((aq l0 b1).f0) false _ A4.out).mono ?_);rintro e w' ⟨rfl,⟨nd,rfl⟩⟩))
    repeat(go_quiet (first|(go_at_call 63;(with_reducible refine(aM.calls k1 ((aq l0 b1).f0) false _ A4.out).mono ?_);rintro e w' ⟨rfl,⟨nd,rfl⟩⟩;exact oQ));try go_wp2_with (first|(go_at_call 63;(with_reducible refine(aM.calls k1 ((aq l0 b1).f0) false _ A4.out).mono ?_);rintro e w' ⟨rfl,⟨nd,rfl⟩⟩)))
    go_ret
    exact⟨oS,oD⟩
   replace H:=bA H;obtain⟨d5,A6,H⟩:=H
   try dsimp only at H
   replace H:=ll H;rcases H with⟨rfl,H⟩|⟨rfl,H⟩;rotate_left
   ·obtain rfl:=Option.some.inj H;have bT:(0≤(b1:Int))=True:=oT;have bU:(b1<(l0.length:Int))=True:=oT;obtain⟨b2,bO,bP,bQ⟩:=ej b7.out b1 oa oa
    cases bO
    go_wp2_with (first|(go_at_call 63;(with_reducible refine(aM.calls k1 ((aq l0 b1).f0) true _ A4.out).mono ?_);rintro e w' ⟨rfl,⟨nd,rfl⟩⟩;have b4:(0≤(b1:Int))=True:=oT;have b5:(b1<(l0.length:Int))=True:=oT;obtain⟨b3,b6,b8,b9⟩:=ej b7.out b1 oa oa;obtain rfl:b2=b3:=(by injection b6))|(go_at_call 60;(with_reducible refine(aY.calls (((aq l0 b1).f1).size:Int) 1 16 false _ A6.out).mono ?_);rintro e w' ⟨rfl,⟨nd,rfl⟩⟩))
    try(have b4:0≤(b1:Int):=oa;have b5:b1<(l0.length:Int):=oa;obtain⟨b3,b6,b8,b9⟩:=ej b7.out b1 b4 b5;obtain rfl:b2=b3:=(by injection b6);replace b4:=eq_true b4;replace b5:=eq_true b5)
    repeat(go_quiet (first|(go_at_call 63;(with_reducible refine(aM.calls k1 ((aq l0 b1).f0) true _ A4.out).mono ?_);rintro e w' ⟨rfl,⟨nd,rfl⟩⟩;exact oQ)|(go_at_call 60;(with_reducible refine(aY.calls (((aq l0 b1).f1).size:Int) 1 16 false _ A6.out).mono ?_);rintro e w' ⟨rfl,⟨nd,rfl⟩⟩;exact oQ));try go_wp2_with (first|(go_at_call 63;(with_reducible refine(aM.calls k1 ((aq l0 b1).f0) true _ A4.out).mono ?_);rintro e w' ⟨rfl,⟨nd,rfl⟩⟩;have b4:(0≤(b1:Int))=True:=oT;have b5:(b1<(l0.length:Int))=True:=oT;obtain⟨b3,b6,b8,b9⟩:=ej b7.out b1 oa oa;obtain rfl:b2=b3:=(by injection b6))|(go_at_call 60;(with_reducible refine(aY.calls (((aq l0 b1).f1).size:Int) 1 16 false _ A6.out).mono ?_);rintro e w' ⟨rfl,⟨nd,rfl⟩⟩)))
    go_ret
    exact⟨oS,oD⟩
   replace H:=itG H;rcases H with⟨bY,H⟩|⟨bY,H⟩;rotate_left
   ·have H':=ae.mk H;clear H;have bT:(0≤(b1:Int))=True:=oT;have bU:(b1<(l0.length:Int))=True:=oT;obtain⟨b2,bO,bP,bQ⟩:=ej b7.out b1 oa oa
    cases bO
    go_wp2_with (first|(go_at_call 63;(with_reducible refine(aM.calls k1 ((aq l0 b1).f0) true _ A4.out).mono ?_);rintro e w' ⟨rfl,⟨nd,rfl⟩⟩;have b4:(0≤(b1:Int))=True:=oT;have b5:(b1<(l0.length:Int))=True:=oT;obtain⟨b3,b6,b8,b9⟩:=ej b7.out b1 oa oa;obtain rfl:b2=b3:=(by injection b6))|(go_at_call 60;(with_reducible refine(aY.calls (((aq l0 b1).f1).size:Int) 1 16 true _ A6.out).mono ?_);rintro e w' ⟨rfl,⟨nd,rfl⟩⟩))
    try(have b4:0≤(b1:Int):=oa;have b5:b1<(l0.length:Int):=oa;obtain⟨b3,b6,b8,b9⟩:=ej b7.out b1 b4 b5;obtain rfl:b2=b3:=(by injection b6);replace b4:=eq_true b4;replace b5:=eq_true b5)
    repeat(go_quiet (first|(go_at_call 63;(with_reducible refine(aM.calls k1 ((aq l0 b1).f0) true _ A4.out).mono ?_);rintro e w' ⟨rfl,⟨nd,rfl⟩⟩;exact oQ)|(go_at_call 60;(with_reducible refine(aY.calls (((aq l0 b1).f1).size:Int) 1 16 true _ A6.out).mono ?_);rintro e w' ⟨rfl,⟨nd,rfl⟩⟩;exact oQ));try go_wp2_with (first|(go_at_call 63;(with_reducible refine(aM.calls k1 ((aq l0 b1).f0) true _ A4.out).mono ?_);rintro e w' ⟨rfl,⟨nd,rfl⟩⟩;have b4:(0≤(b1:Int))=True:=oT;have b5:(b1<(l0.length:Int))=True:=oT;obtain⟨b3,b6,b8,b9⟩:=ej b7.out b1 oa oa;obtain rfl:b2=b3:=(by injection b6))|(go_at_call 60;(with_reducible refine(aY.calls (((aq l0 b1).f1).size:Int) 1 16 true _ A6.out).mono ?_);rintro e w' ⟨rfl,⟨nd,rfl⟩⟩)))
    go_roundg k1
    case measure=>have:=bV.out;omega
    case rel=>exact⟨(wrap64 (b1+1)),oS,H',⟨by have:=bV.out;omega⟩,oD⟩
   obtain⟨bB,bR⟩:∃j_:Int,(wrap64 (b1-1))=j_:=⟨_,rfl⟩
   replace H:(if 0≤(bB)then(if(bB)<(l0.length:Int)then(if((Op.bytesLess (((aq l0 (bB)).f0).toList) (((aq l0 b1).f0).toList))=true)then(du.l0 k1 l0 (wrap64 (b1+1)))else(some false))else(none))else(none))=some r:=by first|(rw[bR]at H;exact H)|(simp only[bR]at H⊢;exact H)
   (try rw[bR]at A4)
   (try rw[bR]at A6)
   have bZ:(IntKind.i64.wrap (b1-1))=bB:=(fZ _).trans bR;obtain⟨d1,H⟩:=cX H;obtain⟨d2,H⟩:=cX H
   by_cases bS:((Op.bytesLess (((aq l0 (bB)).f0).toList) (((aq l0 b1).f0).toList))=true)
   rotate_left
   ·rw[if_neg bS]at H
    have bW:(Op.bytesLess (((aq l0 (bB)).f0).toList) (((aq l0 b1).f0).toList))=false:=by simpa using bS
    clear bS;obtain rfl:=Option.some.inj H;have bT:(0≤(b1:Int))=True:=oT;have bU:(b1<(l0.length:Int))=True:=oT;obtain⟨b2,bO,bP,bQ⟩:=ej b7.out b1 oa oa
    cases bO
    go_wp2_with (first|(go_at_call 63;(with_reducible refine(aM.calls k1 ((aq l0 b1).f0) true _ A4.out).mono ?_);rintro e w' ⟨rfl,⟨nd,rfl⟩⟩;have b4:(0≤(b1:Int))=True:=oT;have b5:(b1<(l0.length:Int))=True:=oT;obtain⟨b3,b6,b8,b9⟩:=ej b7.out b1 oa oa;obtain rfl:b2=b3:=(by injection b6))|(go_at_call 60;(with_reducible refine(aY.calls (((aq l0 b1).f1).size:Int) 1 16 true _ A6.out).mono ?_);rintro e w' ⟨rfl,⟨nd,rfl⟩⟩;have bE:(0≤((bB):Int))=True:=oT;have bF:((bB)<(l0.length:Int))=True:=oT;obtain⟨bC,bG,bK,bL⟩:=ej b7.out (bB) oa oa;obtain rfl:b2=bC:=(by injection bG);have bH:(0≤(b1:Int))=True:=oT;have bI:(b1<(l0.length:Int))=True:=oT;obtain⟨bD,bJ,bM,bN⟩:=ej b7.out b1 oa oa;obtain rfl:b2=bD:=(by injection bJ)))
    try(have b4:0≤(b1:Int):=oa;have b5:b1<(l0.length:Int):=oa;obtain⟨b3,b6,b8,b9⟩:=ej b7.out b1 b4 b5;obtain rfl:b2=b3:=(by injection b6);replace b4:=eq_true b4;replace b5:=eq_true b5)
    try(have bE:0≤((bB):Int):=oa;have bF:(bB)<(l0.length:Int):=oa;obtain⟨bC,bG,bK,bL⟩:=ej b7.out (bB) bE bF;obtain rfl:b2=bC:=(by injection bG);replace bE:=eq_true bE;replace bF:=eq_true bF;have bH:0≤(b1:Int):=oa;have bI:b1<(l0.length:Int):=oa;obtain⟨bD,bJ,bM,bN⟩:=ej b7.out b1 bH bI;obtain rfl:b2=bD:=(by injection bJ);replace bH:=eq_true bH;replace bI:=eq_true bI)
    repeat(go_quiet (first|(go_at_call 63;(with_reducible refine(aM.calls k1 ((aq l0 b1).f0) true _ A4.out).mono ?_);rintro e w' ⟨rfl,⟨nd,rfl⟩⟩;exact oQ)|(go_at_call 60;(with_reducible refine(aY.calls (((aq l0 b1).f1).size:Int) 1 16 true _ A6.out).mono ?_);rintro e w' ⟨rfl,⟨nd,rfl⟩⟩;exact oQ));try go_wp2_with (first|(go_at_call 63;(with_reducible refine(aM.calls k1 ((aq l0 b1).f0) true _ A4.out).mono ?_);rintro e w' ⟨rfl,⟨nd,rfl⟩⟩;have b4:(0≤(b1:Int))=True:=oT;have b5:(b1<(l0.length:Int))=True:=oT;obtain⟨b3,b6,b8,b9⟩:=ej b7.out b1 oa oa;obtain rfl:b2=b3:=(by injection b6))|(go_at_call 60;(with_reducible refine(aY.calls (((aq l0 b1).f1).size:Int) 1 16 true _ A6.out).mono ?_);rintro e w' ⟨rfl,⟨nd,rfl⟩⟩;have bE:(0≤((bB):Int))=True:=oT;have bF:((bB)<(l0.length:Int))=True:=oT;obtain⟨bC,bG,bK,bL⟩:=ej b7.out (bB) oa oa;obtain rfl:b2=bC:=(by injection bG);have bH:(0≤(b1:Int))=True:=oT;have bI:(b1<(l0.length:Int))=True:=oT;obtain⟨bD,bJ,bM,bN⟩:=ej b7.out b1 oa oa;obtain rfl:b2=bD:=(by injection bJ))))
    go_ret
    exact⟨by first|rfl|(simp;done)|(simp only[←bR]<;>(first|rfl|simp))|(simp[*];done),oD⟩
   rw[if_pos bS]at H;have bW:(Op.bytesLess (((aq l0 (bB)).f0).toList) (((aq l0 b1).f0).toList))=true:=bS;clear bS;have H':=ae.mk H;clear H;have bT:(0≤(b1:Int))=True:=oT;have bU:(b1<(l0.length:Int))=True:=oT;obtain⟨b2,bO,bP,bQ⟩:=ej b7.out b1 oa oa
   cases bO
   go_wp2_with (first|(go_at_call 63;(with_reducible refine(aM.calls k1 ((aq l0 b1).f0) true _ A4.out).mono ?_);rintro e w' ⟨rfl,⟨nd,rfl⟩⟩;have b4:(0≤(b1:Int))=True:=oT;have b5:(b1<(l0.length:Int))=True:=oT;obtain⟨b3,b6,b8,b9⟩:=ej b7.out b1 oa oa;obtain rfl:b2=b3:=(by injection b6))|(go_at_call 60;(with_reducible refine(aY.calls (((aq l0 b1).f1).size:Int) 1 16 true _ A6.out).mono ?_);rintro e w' ⟨rfl,⟨nd,rfl⟩⟩;have bE:(0≤((bB):Int))=True:=oT;have bF:((bB)<(l0.length:Int))=True:=oT;obtain⟨bC,bG,bK,bL⟩:=ej b7.out (bB) oa oa;obtain rfl:b2=bC:=(by injection bG);have bH:(0≤(b1:Int))=True:=oT;have bI:(b1<(l0.length:Int))=True:=oT;obtain⟨bD,bJ,bM,bN⟩:=ej b7.out b1 oa oa;obtain rfl:b2=bD:=(by injection bJ)))
   try(have b4:0≤(b1:Int):=oa;have b5:b1<(l0.length:Int):=oa;obtain⟨b3,b6,b8,b9⟩:=ej b7.out b1 b4 b5;obtain rfl:b2=b3:=(by injection b6);replace b4:=eq_true b4;replace b5:=eq_true b5)
   try(have bE:0≤((bB):Int):=oa;have bF:(bB)<(l0.length:Int):=oa;obtain⟨bC,bG,bK,bL⟩:=ej b7.out (bB) bE bF;obtain rfl:b2=bC:=(by injection bG);replace bE:=eq_true bE;replace bF:=eq_true bF;have bH:0≤(b1:Int):=oa;have bI:b1<(l0.length:Int):=oa;obtain⟨bD,bJ,bM,bN⟩:=ej b7.out b1 bH bI;obtain rfl:b2=bD:=(by injection bJ);replace bH:=eq_true bH;replace bI:=eq_true bI)
   repeat(go_quiet (first|(go_at_call 63;(with_reducible refine(aM.calls k1 ((aq l0 b1).f0) true _ A4.out).mono ?_);rintro e w' ⟨rfl,⟨nd,rfl⟩⟩;exact oQ)|(go_at_call 60;(with_reducible refine(aY.calls (((aq l0 b1).f1).size:Int) 1 16 true _ A6.out).mono ?_);rintro e w' ⟨rfl,⟨nd,rfl⟩⟩;exact oQ));try go_wp2_with (first|(go_at_call 63;(with_reducible refine(aM.calls k1 ((aq l0 b1).f0) true _ A4.out).mono ?_);rintro e w' ⟨rfl,⟨nd,rfl⟩⟩;have b4:(0≤(b1:Int))=True:=oT;have b5:(b1<(l0.length:Int))=True:=oT;obtain⟨b3,b6,b8,b9⟩:=ej b7.out b1 oa oa;obtain rfl:b2=b3:=(by injection b6))|(go_at_call 60;(with_reducible refine(aY.calls (((aq l0 b1).f1).size:Int) 1 16 true _ A6.out).mono ?_);rintro e w' ⟨rfl,⟨nd,rfl⟩⟩;have bE:(0≤((bB):Int))=True:=oT;have bF:((bB)<(l0.length:Int))=True:=oT;obtain⟨bC,bG,bK,bL⟩:=ej b7.out (bB) oa oa;obtain rfl:b2=bC:=(by injection bG);have bH:(0≤(b1:Int))=True:=oT;have bI:(b1<(l0.length:Int))=True:=oT;obtain⟨bD,bJ,bM,bN⟩:=ej b7.out b1 oa oa;obtain rfl:b2=bD:=(by injection bJ))))
   go_roundg k1
   case measure=>have:=bV.out;omega
   case rel=>exact⟨(wrap64 (b1+1)),oS,H',⟨by have:=bV.out;omega⟩,oD⟩

def cL.l0:Nat→List ByteArray→ByteArray→Int→Option (ByteArray)
 |0,_,_,_=>none
 |k+1,x0,x3,x4=>if x4<(x0.length:Int)then(if 0≤x4 then((aM.f k (iZ ByteArray.empty x0 x4)).bind fun b1=>(if b1=true then(if(x0.length:Int)>30 then(some (⟨#[]⟩:ByteArray))else(if x3.size+1≤9223372036854775807 then(if(x3++(⟨#[47]⟩:ByteArray)).size+(iZ ByteArray.empty x0 x4).size≤9223372036854775807 then(cL.l0 k x0 ((x3++(⟨#[47]⟩:ByteArray))++(iZ ByteArray.empty x0 x4)) (wrap64 (x4+1)))else(none))else(none)))else(some (⟨#[]⟩:ByteArray))))else(none))else(some x3)
def cL.f (k:Nat) (l0:List ByteArray):Option (ByteArray):=if(l0.length:Int)=0 then(some (⟨#[47]⟩:ByteArray))else(cL.l0 k l0 (⟨#[]⟩:ByteArray) 0)
theorem cL.calls (k:Nat) (A0:Option Addr) (c0:Nat) (l0:List ByteArray) (r:ByteArray) (w:World) (hr0:Kd.C Kd.string w A0 l0.length l0) (hc0:l0.length≤c0) (h:cL.f k l0=some r):
  Calls Tryz.prog 78 #[.slice A0 l0.length c0] w fun e w'=>e= .returned (.string r)∧fp w w':=by
 have b6:=ae.mk hr0;have bU:=ae.mk hc0;clear hr0 hc0;unfold cL.f at h;have H:=h;clear h
 by_cases c2:(l0.length:Int)=0
 ·rw[if_pos c2]at H;have bC:((l0.length:Int)==0)=true:=beq_iff_eq.mpr c2;have bD:((l0.length:Int) !=0)=false:=bne_eq_false_iff_eq.mpr c2;clear c2;obtain rfl:=Option.some.inj H
  go_enter Tryz.func78,Tryz.ntmps78
  go_wp2
  go_ret
  exact⟨oS,oD⟩
 rw[if_neg c2]at H;have bC:((l0.length:Int)==0)=false:=beq_eq_false_iff_ne.mpr c2;have bD:((l0.length:Int) !=0)=true:=bne_iff_ne.mpr c2
 have bJ:¬(l0=[]):=fun h_=>c2 (by rw[h_];rfl)
 have H':=ae.mk H;clear H
 go_enter Tryz.func78,Tryz.ntmps78
 go_wp2
 go_loopg [3,4] k (fun kq v3 v4 w'=>∃(b2:ByteArray) (b1:Int),v3= .string b2∧v4= .int .i64 b1∧ae (cL.l0 kq l0 b2 b1=some r)∧ae (kq≤k)∧fp w w')
 case atStart=>exact⟨((⟨#[]⟩:ByteArray)),(0),oS,oS,H',⟨Nat.le_refl _⟩,oD⟩
 case round=>
  clear H'
  try clear c2
  obtain⟨b2,b1,rfl,rfl,HA,bB,⟨m1,rfl⟩⟩:=hrel
  cases gk with
  |zero=>exact absurd HA.out (by simp[cL.l0])
  |succ k1=>
   have H:=HA.out;clear HA;simp only[cL.l0]at H;replace H:=jd H;rcases H with⟨bE,H⟩|⟨bE,H⟩;rotate_left
   ·obtain rfl:=Option.some.inj H
    go_wp2
    go_ret
    exact⟨oS,oD⟩
   obtain⟨bK,H⟩:=cX H;replace H:=bA H;obtain⟨bL,A5,H⟩:=H
   try dsimp only at H
   replace H:=ll H;rcases H with⟨rfl,H⟩|⟨rfl,H⟩;rotate_left
   ·obtain rfl:=Option.some.inj H;have b7:(0≤(b1:Int))=True:=oT;have b8:(b1<(l0.length:Int))=True:=oT;obtain⟨b5,b3,b4⟩:=Kd.eX b6.out b1 oa oa
    cases b3
    go_wp2_with (first|((with_reducible refine ai (f:=63) rfl ?_);refine eL 18 Tryz.func63 (aM.calls k1 (iZ ByteArray.empty l0 b1) false _ A5.out) ?_;rintro e w' ⟨rfl,⟨nd,rfl⟩⟩;refine⟨_,rfl,?_⟩))
    go_ret
    exact⟨oS,oD⟩
   by_cases c7:(l0.length:Int)>30
   ·rw[if_pos c7]at H;have bF:decide (30<(l0.length:Int))=true:=decide_eq_true c7;have bG:decide (30<l0.length)=true:=decide_eq_true (by omega);clear c7;obtain rfl:=Option.some.inj H;have b7:(0≤(b1:Int))=True:=oT;have b8:(b1<(l0.length:Int))=True:=oT;obtain⟨b5,b3,b4⟩:=Kd.eX b6.out b1 oa oa
    cases b3
    go_wp2_with (first|((with_reducible refine ai (f:=63) rfl ?_);refine eL 18 Tryz.func63 (aM.calls k1 (iZ ByteArray.empty l0 b1) true _ A5.out) ?_;rintro e w' ⟨rfl,⟨nd,rfl⟩⟩;refine⟨_,rfl,?_⟩))
    go_ret
    exact⟨oS,oD⟩
   rw[if_neg c7]at H;have bF:decide (30<(l0.length:Int))=false:=decide_eq_false c7;have bG:decide (30<l0.length)=false:=decide_eq_false (by omega);clear c7;obtain⟨c8,H⟩:=lp H;have bM:=eq_true c8;have bN:decide (b2.size+1≤9223372036854775807)=true:=decide_eq_true c8
   try have bO:(9223372036854775807<b2.size+1)=False:=eq_false (Nat.not_lt.2 c8)
   obtain⟨c9,H⟩:=lp H;have bP:=eq_true c9;have bQ:decide ((b2++(⟨#[47]⟩:ByteArray)).size+(iZ ByteArray.empty l0 b1).size≤9223372036854775807)=true:=decide_eq_true c9
   try have bR:(9223372036854775807<(b2++(⟨#[47]⟩:ByteArray)).size+(iZ ByteArray.empty l0 b1).size)=False:=eq_false (Nat.not_lt.2 c9)
   have H':=ae.mk H;clear H;have b7:(0≤(b1:Int))=True:=oT;have b8:(b1<(l0.length:Int))=True:=oT;obtain⟨b5,b3,b4⟩:=Kd.eX b6.out b1 oa oa
   cases b3
   go_wp2_with (first|((with_reducible refine ai (f:=63) rfl ?_);refine eL 18 Tryz.func63 (aM.calls k1 (iZ ByteArray.empty l0 b1) true _ A5.out) ?_;rintro e w' ⟨rfl,⟨nd,rfl⟩⟩;refine⟨_,rfl,?_⟩;have bS:(0≤(b1:Int))=True:=oT;have bT:(b1<(l0.length:Int))=True:=oT;obtain⟨b9,bH,bI⟩:=Kd.eX b6.out b1 oa oa;obtain rfl:b5=b9:=(by injection bH)))
   go_roundg k1
   case measure=>have:=bB.out;omega
   case rel=>exact⟨((b2++(⟨#[47]⟩:ByteArray))++(iZ ByteArray.empty l0 b1)),(wrap64 (b1+1)),oS,oS,H',⟨by have:=bB.out;omega⟩,oD⟩
end Go.Proofs.YtlecajlnjmbilaaGreatDoor.P
