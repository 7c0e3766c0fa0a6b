-- Printed walks.
import Derived.Test.YtkfoopcpihmbmaaGreatDoorPx0
set_option linter.all false
set_option maxHeartbeats 8000000
set_option maxRecDepth 100000
namespace Go.Proofs.YtkfoopcpihmbmaaGreatDoor.P
open Go.RowKit Go.Proofs.ab.av Go.Proofs.ab.aQ Go.Proofs.ab.aT Go.Proofs.Tryz
attribute [local go_sem] fP fQ hJ hO fm fo fR fS

mutual
def bq.l0:Nat→Int→Int→Int→List (aW)→Int→Option (Int)
 |0,_,_,_,_,_=>none
 |k+1,x1,x5,x6,b1,b2=>if x6<(b1.length:Int)then(bq.l1 k x1 x5 x6 0 b1 b2)else(some x5)
def bq.l1:Nat→Int→Int→Int→Int→List (aW)→Int→Option (Int)
 |0,_,_,_,_,_,_=>none
 |k+1,x1,x5,x6,x7,b1,b2=>if 0≤x6 then(if x6<(b1.length:Int)then(if x7<(((ai b1 x6).f4).length:Int)then(bq.j2 k x1 x5 x6 x7 (((ai b1 x6).f1)==2) b1 b2)else(bq.j2 k x1 x5 x6 x7 false b1 b2))else(none))else(none)
def bq.j2:Nat→Int→Int→Int→Int→Bool→List (aW)→Int→Option (Int)
 |0,_,_,_,_,_,_,_=>none
 |k+1,x1,x5,x6,x7,b3,b1,b2=>if b3=true then(if 0≤x6 then(if x6<(b1.length:Int)then(if 0≤x7 then(if x7<(((ai b1 x6).f4).length:Int)then(if((aA ((ai b1 x6).f4) x7).f1)=x1 then(bq.l1 k x1 (wrap64 (x5+1)) x6 (wrap64 (x7+1)) b1 b2)else(bq.l1 k x1 x5 x6 (wrap64 (x7+1)) b1 b2))else(none))else(none))else(none))else(none))else(bq.l0 k x1 x5 (wrap64 (x6+1)) b1 b2)
end
def bq.f (k:Nat) (ah:List (aW)) (al:Int) (a1:Int):Option (Int):=bq.l0 k a1 0 0 ah al
theorem bq.calls (k:Nat) (bs:Option Addr) (bo:Nat) (ah:List (aW)) (al:Int) (a1:Int) (r:Int) (w:World) (cy:Kd.C k32 w bs ah.length ah) (cA:ah.length≤bo) (h:bq.f k ah al a1=some r):
  Calls Tryz.prog 115 #[.agg #[.slice bs ah.length bo,.int .i64 al],.int .i64 a1] w fun e w'=>e= .returned (.int .i64 r)∧Below w.heap.size w w':=by
 have j7:=underlying26;have b5:=ae.mk cy;have j1:=ae.mk cA;clear cy cA;have HB:=am (Below.refl w.heap.size w);unfold bq.f at h;have H:=h;clear h;have H':=ae.mk H;clear H
 go_enter func115,ntmps115
 go_wp2_with (first|((with_reducible refine au (N:=2) rfl ?_);refine fz 2 #[.slice bs ah.length bo,.int .i64 al] 26 ?_;intro bR hg w3 hbox hb;have b2:=am (hbox);have j2:=fO hg;replace HB:=hB HB hb;clear hb hbox hg))
 go_loopg [5,6] k (fun kq v5 v6 w'=>∃(bS:Int) (b1:Int),v5= .int .i64 bS∧v6= .int .i64 b1∧ae (bq.l0 kq a1 bS b1 ah al=some r)∧ae (kq≤k)∧ae (w'.heap[bR]? =some (.cells #[(.slice bs ah.length bo),.int .i64 al] 26 (0,0)))∧ae (Below w.heap.size w w'))
 case atStart=>exact⟨(0),(0),oS,oS,H',⟨Nat.le_refl _⟩,⟨oF b2⟩,⟨oB⟩⟩
 case round=>
  clear H';obtain⟨bS,b1,rfl,rfl,HA,bB,b2,HB⟩:=hrel
  cases gk with
  |zero=>exact absurd HA.out (by simp[bq.l0])
  |succ k1=>
   have H:=HA.out;clear HA;simp only[bq.l0]at H;replace H:=kU H;rcases H with⟨bU,H⟩|⟨bU,H⟩;rotate_left
   ·obtain rfl:=Option.some.inj H;obtain⟨⟨_,_⟩,_,_⟩:=z2 b2
    go_wp2
    go_ret
    exact⟨oE,oB⟩
   have H':=ae.mk H;clear H;obtain⟨⟨_,_⟩,_,_⟩:=z2 b2
   go_wp2
   go_loopg [5,7] k1 (fun kq v5 v7 w'=>∃(b4:Int) (b3:Int),v5= .int .i64 b4∧v7= .int .i64 b3∧ae (bq.l1 kq a1 b4 b1 b3 ah al=some r)∧ae (kq≤k1)∧ae (w'.heap[bR]? =some (.cells #[(.slice bs ah.length bo),.int .i64 al] 26 (0,0)))∧ae (Below w.heap.size w w'))
   case atStart=>exact⟨(bS),(0),oS,oS,H',⟨Nat.le_refl _⟩,⟨oF b2⟩,⟨oB⟩⟩
   case round=>
    clear H'
    try clear bU
    obtain⟨b4,b3,rfl,rfl,HA,bC,b2,HB⟩:=hrel
    cases gk with
    |zero=>exact absurd HA.out (by simp[bq.l1])
    |succ k2=>
     have H:=HA.out;clear HA;simp only[bq.l1]at H;have dM:=ae.mk H;clear H
     go_upto_region 6 with(fail)
     go_cut [32] (fun gT wc=>∃(kq:Nat) (bT:Bool),gT= .bool bT∧ae (bq.j2 kq a1 b4 b1 b3 bT ah al=some r)∧ae (kq≤k2)∧ae (wc.heap[bR]? =some (.cells #[(.slice bs ah.length bo),.int .i64 al] 26 (0,0)))∧ae (Below w.heap.size w wc))
     case first=>
      have H:=dM.out;clear dM;obtain⟨gE,H⟩:=dw H
      (first|rw[gE]|skip)
      obtain⟨j8,H⟩:=dw H;replace H:=kU H;rcases H with⟨gF,H⟩|⟨gF,H⟩;rotate_left
      ·have H':=ae.mk H;clear H;obtain⟨⟨_,_⟩,_,_⟩:=z2 b2;have gG:(0≤(b1:Int))=True:=oT;have gH:(b1<(ah.length:Int))=True:=oT;obtain⟨bY,dN,dO,dP,dQ,dR,dS,bV,bZ,d1,d2,bE,bF,bG,d3,d4,d5,d6,d7,d8⟩:=kd b5 HB b1 oa oa
       cases bV
       go_wp2
       go_meet
       case rel=>exact⟨_,(false),oS,H',⟨by have:=bB.out;have:=bC.out;first|omega|exact Nat.le_refl _⟩,⟨oF b2⟩,⟨oB⟩⟩
      have H':=ae.mk H;clear H;obtain⟨⟨_,_⟩,_,_⟩:=z2 b2;have gG:(0≤(b1:Int))=True:=oT;have gH:(b1<(ah.length:Int))=True:=oT;obtain⟨bY,dN,dO,dP,dQ,dR,dS,bV,bZ,d1,d2,bE,bF,bG,d3,d4,d5,d6,d7,d8⟩:=kd b5 HB b1 oa oa
      cases bV
      have j9:(0≤(b1:Int))=True:=oT;have jA:(b1<(ah.length:Int))=True:=oT;obtain⟨dZ,gU,gV,gW,gX,gY,gZ,gI,bH,bI,bJ,b6,b7,b8,bK,bL,bM,bN,bO,bP⟩:=kX b5.out b1 oa oa;obtain rfl:bY=dZ:=(by injection gI);replace bH:=cB HB bH;replace bI:=cB HB bI;replace bJ:=cB HB bJ;replace b6:=cB HB b6;replace b7:=cB HB b7;replace b8:=cB HB b8;have gN:=ae.mk bL;have gO:=ae.mk bK;clear bL bK;have gP:=ae.mk bN;have gQ:=ae.mk bM;clear bN bM;have gR:=ae.mk bP;have gS:=ae.mk bO;clear bP bO;have kL:=Option.some.inj (bE.symm.trans b6);injection kL with kL ry rz;subst kL;subst rz;clear ry;have kL:=Option.some.inj (bF.symm.trans b7);injection kL with kL ry rz;subst kL;subst rz;clear ry;have kL:=Option.some.inj (bG.symm.trans b8);injection kL with kL ry rz;subst kL;subst rz;clear ry
      go_wp2
      go_meet
      case rel=>exact⟨_,((((ai ah b1).f1)==2)),oS,H',⟨by have:=bB.out;have:=bC.out;first|omega|exact Nat.le_refl _⟩,⟨oF b2⟩,⟨oB⟩⟩
     case rest=>
      clear dM
      try clear bU
      obtain⟨kq,bT,rfl,HA,bQ,b2,HB⟩:=hcut
      cases kq with
      |zero=>exact absurd HA.out (by simp[bq.j2])
      |succ ng=>
       have H:=HA.out;clear HA;simp only[bq.j2]at H;replace H:=jl H;rcases H with⟨rfl,H⟩|⟨rfl,H⟩;rotate_left
       ·have H':=ae.mk H;clear H
        go_wp2
        go_roundg ng
        case measure=>have:=bB.out;have:=bC.out;have:=bQ.out;omega
        case rel=>exact⟨(b4),(wrap64 (b1+1)),oS,oS,H',⟨by have:=bB.out;have:=bC.out;have:=bQ.out;omega⟩,⟨oF b2⟩,⟨oB⟩⟩
       obtain⟨j3,H⟩:=dw H;obtain⟨j4,H⟩:=dw H;obtain⟨j5,H⟩:=dw H;obtain⟨j6,H⟩:=dw H
       by_cases bD:((aA ((ai ah b1).f4) b3).f1)=a1
       rotate_left
       ·rw[if_neg bD]at H;have gA:(((aA ((ai ah b1).f4) b3).f1)==a1)=false:=beq_eq_false_iff_ne.mpr bD;have gB:(((aA ((ai ah b1).f4) b3).f1) !=a1)=true:=bne_iff_ne.mpr bD;have H':=ae.mk H;clear H;obtain⟨⟨_,_⟩,_,_⟩:=z2 b2;have gJ:(0≤(b1:Int))=True:=oT;have gK:(b1<(ah.length:Int))=True:=oT;obtain⟨gC,dT,dU,dV,dW,dX,dY,bW,d9,dA,dB,dC,dD,dE,dF,dG,dH,b9,dI,dJ⟩:=kd b5 HB b1 oa oa
        cases bW
        have gL:(0≤(b3:Int))=True:=oT;have gM:(b3<(((ai ah b1).f4).length:Int))=True:=oT;obtain⟨gD,bX,dK,dL⟩:=ph b9 HB b3 oa oa
        cases bX
        go_wp2
        go_roundg ng
        case measure=>have:=bB.out;have:=bC.out;have:=bQ.out;omega
        case rel=>exact⟨(b4),(wrap64 (b3+1)),oS,oS,H',⟨by have:=bB.out;have:=bC.out;have:=bQ.out;omega⟩,⟨oF b2⟩,⟨oB⟩⟩
       rw[if_pos bD]at H;have gA:(((aA ((ai ah b1).f4) b3).f1)==a1)=true:=beq_iff_eq.mpr bD;have gB:(((aA ((ai ah b1).f4) b3).f1) !=a1)=false:=bne_eq_false_iff_eq.mpr bD;clear bD;have H':=ae.mk H;clear H;obtain⟨⟨_,_⟩,_,_⟩:=z2 b2;have gJ:(0≤(b1:Int))=True:=oT;have gK:(b1<(ah.length:Int))=True:=oT;obtain⟨gC,dT,dU,dV,dW,dX,dY,bW,d9,dA,dB,dC,dD,dE,dF,dG,dH,b9,dI,dJ⟩:=kd b5 HB b1 oa oa
       cases bW
       have gL:(0≤(b3:Int))=True:=oT;have gM:(b3<(((ai ah b1).f4).length:Int))=True:=oT;obtain⟨gD,bX,dK,dL⟩:=ph b9 HB b3 oa oa
       cases bX
       go_wp2
       go_roundg ng
       case measure=>have:=bB.out;have:=bC.out;have:=bQ.out;omega
       case rel=>exact⟨(wrap64 (b4+1)),(wrap64 (b3+1)),oS,oS,H',⟨by have:=bB.out;have:=bC.out;have:=bQ.out;omega⟩,⟨oF b2⟩,⟨oB⟩⟩

def cC.l0:Nat→ByteArray→Int→Int→Option (Bool)
 |0,_,_,_=>none
 |k+1,x0,x6,x7=>if x7<x6 then(if 0≤x7 then(if x7<(x0.size:Int)then(if(bt x0 x7)<97 then(if(bt x0 x7)<48 then(if(bt x0 x7)=95 then(cC.l0 k x0 x6 (wrap64 (x7+1)))else(if(bt x0 x7)=45 then(cC.l0 k x0 x6 (wrap64 (x7+1)))else(if(bt x0 x7)=46 then(cC.l0 k x0 x6 (wrap64 (x7+1)))else(some false))))else(if(bt x0 x7)>57 then(if(bt x0 x7)=95 then(cC.l0 k x0 x6 (wrap64 (x7+1)))else(if(bt x0 x7)=45 then(cC.l0 k x0 x6 (wrap64 (x7+1)))else(if(bt x0 x7)=46 then(cC.l0 k x0 x6 (wrap64 (x7+1)))else(some false))))else(cC.l0 k x0 x6 (wrap64 (x7+1)))))else(if(bt x0 x7)>122 then(if(bt x0 x7)<48 then(if(bt x0 x7)=95 then(cC.l0 k x0 x6 (wrap64 (x7+1)))else(if(bt x0 x7)=45 then(cC.l0 k x0 x6 (wrap64 (x7+1)))else(if(bt x0 x7)=46 then(cC.l0 k x0 x6 (wrap64 (x7+1)))else(some false))))else(if(bt x0 x7)>57 then(if(bt x0 x7)=95 then(cC.l0 k x0 x6 (wrap64 (x7+1)))else(if(bt x0 x7)=45 then(cC.l0 k x0 x6 (wrap64 (x7+1)))else(if(bt x0 x7)=46 then(cC.l0 k x0 x6 (wrap64 (x7+1)))else(some false))))else(cC.l0 k x0 x6 (wrap64 (x7+1)))))else(cC.l0 k x0 x6 (wrap64 (x7+1)))))else(none))else(none))else(if(x0.size:Int)≥1 then(if(x0.size:Int)≤14 then(if x0.toList=([46]:List UInt8)then(some false)else(some (x0.toList !=([46,46]:List UInt8))))else(some false))else(some false))
def cC.f (k:Nat) (a0:ByteArray):Option (Bool):=cC.l0 k a0 (a0.size:Int) 0
theorem cC.calls (k:Nat) (a0:ByteArray) (r:Bool) (w:World) (h:cC.f k a0=some r):
  Calls Tryz.prog 89 #[.string a0] w fun e w'=>e= .returned (.bool r)∧fZ w w':=by
 unfold cC.f at h;have H:=h;clear h;have H':=ae.mk H;clear H
 go_enter func89,ntmps89
 go_wp2
 go_loopg [7] k (fun kq v7 w'=>∃(b1:Int),v7= .int .i64 b1∧ae (cC.l0 kq a0 (a0.size:Int) b1=some r)∧ae (kq≤k)∧fZ w w')
 case atStart=>exact⟨(0),oS,H',⟨Nat.le_refl _⟩,oD⟩
 case round=>
  clear H';obtain⟨b1,rfl,HA,b2,⟨m1,rfl⟩⟩:=hrel
  cases gk with
  |zero=>exact absurd HA.out (by simp[cC.l0])
  |succ k1=>
   have H:=HA.out;clear HA;simp only[cC.l0]at H;replace H:=kU H;rcases H with⟨dC,H⟩|⟨dC,H⟩;rotate_left
   ·by_cases bF:(a0.size:Int)≥1
    rotate_left
    ·rw[if_neg bF]at H;have bH:decide (1≤(a0.size:Int))=false:=decide_eq_false bF;have bI:decide (1≤a0.size)=false:=decide_eq_false (by omega);clear bF;obtain rfl:=Option.some.inj H
     go_wp2
     go_ret
     exact⟨oS,oD⟩
    rw[if_pos bF]at H;have bH:decide (1≤(a0.size:Int))=true:=decide_eq_true bF;have bI:decide (1≤a0.size)=true:=decide_eq_true (by omega);clear bF
    by_cases bG:(a0.size:Int)≤14
    rotate_left
    ·rw[if_neg bG]at H;have bJ:decide ((a0.size:Int)≤14)=false:=decide_eq_false bG;have bK:decide (a0.size≤14)=false:=decide_eq_false (by omega);clear bG;obtain rfl:=Option.some.inj H
     go_wp2
     go_ret
     exact⟨oS,oD⟩
    rw[if_pos bG]at H;have bJ:decide ((a0.size:Int)≤14)=true:=decide_eq_true bG;have bK:decide (a0.size≤14)=true:=decide_eq_true (by omega);clear bG
    by_cases b4:a0.toList=([46]:List UInt8)
    rotate_left
    ·rw[if_neg b4]at H;have bL:(a0.toList==([46]:List UInt8))=false:=beq_eq_false_iff_ne.mpr b4;have bM:(a0.toList !=([46]:List UInt8))=true:=bne_iff_ne.mpr b4;obtain rfl:=Option.some.inj H
     go_wp2
     go_ret
     exact⟨oS,oD⟩
    rw[if_pos b4]at H;have bL:(a0.toList==([46]:List UInt8))=true:=beq_iff_eq.mpr b4;have bM:(a0.toList !=([46]:List UInt8))=false:=bne_eq_false_iff_eq.mpr b4;clear b4;obtain rfl:=Option.some.inj H
    go_wp2
    go_ret
    exact⟨oS,oD⟩
   obtain⟨dJ,H⟩:=dw H;obtain⟨dK,H⟩:=dw H;replace H:=kU H;rcases H with⟨dD,H⟩|⟨dD,H⟩
   ·replace H:=kU H;rcases H with⟨dE,H⟩|⟨dE,H⟩
    ·by_cases c8:(bt a0 b1)=95
     ·rw[if_pos c8]at H;have dF:((bt a0 b1)==95)=true:=beq_iff_eq.mpr c8;have dG:((bt a0 b1) !=95)=false:=bne_eq_false_iff_eq.mpr c8;clear c8;have H':=ae.mk H;clear H;have p5:(0≤(b1:Int))=True:=oT;have q5:(b1<(a0.size:Int))=True:=oT;have b3:=iq a0 b1
      go_wp2
      go_roundg k1
      case measure=>have:=b2.out;omega
      case rel=>exact⟨(wrap64 (b1+1)),oS,H',⟨by have:=b2.out;omega⟩,oD⟩
     rw[if_neg c8]at H;have dF:((bt a0 b1)==95)=false:=beq_eq_false_iff_ne.mpr c8;have dG:((bt a0 b1) !=95)=true:=bne_iff_ne.mpr c8
     by_cases c9:(bt a0 b1)=45
     ·rw[if_pos c9]at H;have dH:((bt a0 b1)==45)=true:=beq_iff_eq.mpr c9;have dI:((bt a0 b1) !=45)=false:=bne_eq_false_iff_eq.mpr c9;clear c9;have H':=ae.mk H;clear H;have p5:(0≤(b1:Int))=True:=oT;have q5:(b1<(a0.size:Int))=True:=oT;have b3:=iq a0 b1
      go_wp2
      go_roundg k1
      case measure=>have:=b2.out;omega
      case rel=>exact⟨(wrap64 (b1+1)),oS,H',⟨by have:=b2.out;omega⟩,oD⟩
     rw[if_neg c9]at H;have dH:((bt a0 b1)==45)=false:=beq_eq_false_iff_ne.mpr c9;have dI:((bt a0 b1) !=45)=true:=bne_iff_ne.mpr c9
     by_cases c10:(bt a0 b1)=46
     rotate_left
     ·rw[if_neg c10]at H;have bN:((bt a0 b1)==46)=false:=beq_eq_false_iff_ne.mpr c10;have bO:((bt a0 b1) !=46)=true:=bne_iff_ne.mpr c10;obtain rfl:=Option.some.inj H;have p5:(0≤(b1:Int))=True:=oT;have q5:(b1<(a0.size:Int))=True:=oT;have b3:=iq a0 b1
      go_wp2
      go_ret
      exact⟨oS,oD⟩
     rw[if_pos c10]at H;have bN:((bt a0 b1)==46)=true:=beq_iff_eq.mpr c10;have bO:((bt a0 b1) !=46)=false:=bne_eq_false_iff_eq.mpr c10;clear c10;have H':=ae.mk H;clear H;have p5:(0≤(b1:Int))=True:=oT;have q5:(b1<(a0.size:Int))=True:=oT;have b3:=iq a0 b1
     go_wp2
     go_roundg k1
     case measure=>have:=b2.out;omega
     case rel=>exact⟨(wrap64 (b1+1)),oS,H',⟨by have:=b2.out;omega⟩,oD⟩
    replace H:=ym H;rcases H with⟨bP,H⟩|⟨bP,H⟩;rotate_left
    ·have H':=ae.mk H;clear H;have p5:(0≤(b1:Int))=True:=oT;have q5:(b1<(a0.size:Int))=True:=oT;have b3:=iq a0 b1
     go_wp2
     go_roundg k1
     case measure=>have:=b2.out;omega
     case rel=>exact⟨(wrap64 (b1+1)),oS,H',⟨by have:=b2.out;omega⟩,oD⟩
    by_cases b5:(bt a0 b1)=95
    ·rw[if_pos b5]at H;have bQ:((bt a0 b1)==95)=true:=beq_iff_eq.mpr b5;have bR:((bt a0 b1) !=95)=false:=bne_eq_false_iff_eq.mpr b5;clear b5;have H':=ae.mk H;clear H;have p5:(0≤(b1:Int))=True:=oT;have q5:(b1<(a0.size:Int))=True:=oT;have b3:=iq a0 b1
     go_wp2
     go_roundg k1
     case measure=>have:=b2.out;omega
     case rel=>exact⟨(wrap64 (b1+1)),oS,H',⟨by have:=b2.out;omega⟩,oD⟩
    rw[if_neg b5]at H;have bQ:((bt a0 b1)==95)=false:=beq_eq_false_iff_ne.mpr b5;have bR:((bt a0 b1) !=95)=true:=bne_iff_ne.mpr b5
    by_cases b6:(bt a0 b1)=45
    ·rw[if_pos b6]at H;have bS:((bt a0 b1)==45)=true:=beq_iff_eq.mpr b6;have bT:((bt a0 b1) !=45)=false:=bne_eq_false_iff_eq.mpr b6;clear b6;have H':=ae.mk H;clear H;have p5:(0≤(b1:Int))=True:=oT;have q5:(b1<(a0.size:Int))=True:=oT;have b3:=iq a0 b1
     go_wp2
     go_roundg k1
     case measure=>have:=b2.out;omega
     case rel=>exact⟨(wrap64 (b1+1)),oS,H',⟨by have:=b2.out;omega⟩,oD⟩
    rw[if_neg b6]at H;have bS:((bt a0 b1)==45)=false:=beq_eq_false_iff_ne.mpr b6;have bT:((bt a0 b1) !=45)=true:=bne_iff_ne.mpr b6
    by_cases b7:(bt a0 b1)=46
    rotate_left
    ·rw[if_neg b7]at H;have bU:((bt a0 b1)==46)=false:=beq_eq_false_iff_ne.mpr b7;have bV:((bt a0 b1) !=46)=true:=bne_iff_ne.mpr b7;obtain rfl:=Option.some.inj H;have p5:(0≤(b1:Int))=True:=oT;have q5:(b1<(a0.size:Int))=True:=oT;have b3:=iq a0 b1
     go_wp2
     go_ret
     exact⟨oS,oD⟩
    rw[if_pos b7]at H;have bU:((bt a0 b1)==46)=true:=beq_iff_eq.mpr b7;have bV:((bt a0 b1) !=46)=false:=bne_eq_false_iff_eq.mpr b7;clear b7;have H':=ae.mk H;clear H;have p5:(0≤(b1:Int))=True:=oT;have q5:(b1<(a0.size:Int))=True:=oT;have b3:=iq a0 b1
    go_wp2
    go_roundg k1
    case measure=>have:=b2.out;omega
    case rel=>exact⟨(wrap64 (b1+1)),oS,H',⟨by have:=b2.out;omega⟩,oD⟩
   replace H:=ym H;rcases H with⟨bW,H⟩|⟨bW,H⟩;rotate_left
   ·have H':=ae.mk H;clear H;have p5:(0≤(b1:Int))=True:=oT;have q5:(b1<(a0.size:Int))=True:=oT;have b3:=iq a0 b1
    go_wp2
    go_roundg k1
    case measure=>have:=b2.out;omega
    case rel=>exact⟨(wrap64 (b1+1)),oS,H',⟨by have:=b2.out;omega⟩,oD⟩
   replace H:=kU H;rcases H with⟨bX,H⟩|⟨bX,H⟩
   ·by_cases b8:(bt a0 b1)=95
    ·rw[if_pos b8]at H;have bY:((bt a0 b1)==95)=true:=beq_iff_eq.mpr b8;have bZ:((bt a0 b1) !=95)=false:=bne_eq_false_iff_eq.mpr b8;clear b8;have H':=ae.mk H;clear H;have p5:(0≤(b1:Int))=True:=oT;have q5:(b1<(a0.size:Int))=True:=oT;have b3:=iq a0 b1
     go_wp2
     go_roundg k1
     case measure=>have:=b2.out;omega
     case rel=>exact⟨(wrap64 (b1+1)),oS,H',⟨by have:=b2.out;omega⟩,oD⟩
    rw[if_neg b8]at H;have bY:((bt a0 b1)==95)=false:=beq_eq_false_iff_ne.mpr b8;have bZ:((bt a0 b1) !=95)=true:=bne_iff_ne.mpr b8
    by_cases b9:(bt a0 b1)=45
    ·rw[if_pos b9]at H;have d1:((bt a0 b1)==45)=true:=beq_iff_eq.mpr b9;have d2:((bt a0 b1) !=45)=false:=bne_eq_false_iff_eq.mpr b9;clear b9;have H':=ae.mk H;clear H;have p5:(0≤(b1:Int))=True:=oT;have q5:(b1<(a0.size:Int))=True:=oT;have b3:=iq a0 b1
     go_wp2
     go_roundg k1
     case measure=>have:=b2.out;omega
     case rel=>exact⟨(wrap64 (b1+1)),oS,H',⟨by have:=b2.out;omega⟩,oD⟩
    rw[if_neg b9]at H;have d1:((bt a0 b1)==45)=false:=beq_eq_false_iff_ne.mpr b9;have d2:((bt a0 b1) !=45)=true:=bne_iff_ne.mpr b9
    by_cases bB:(bt a0 b1)=46
    rotate_left
    ·rw[if_neg bB]at H;have d3:((bt a0 b1)==46)=false:=beq_eq_false_iff_ne.mpr bB;have d4:((bt a0 b1) !=46)=true:=bne_iff_ne.mpr bB;obtain rfl:=Option.some.inj H;have p5:(0≤(b1:Int))=True:=oT;have q5:(b1<(a0.size:Int))=True:=oT;have b3:=iq a0 b1
     go_wp2
     go_ret
     exact⟨oS,oD⟩
    rw[if_pos bB]at H;have d3:((bt a0 b1)==46)=true:=beq_iff_eq.mpr bB;have d4:((bt a0 b1) !=46)=false:=bne_eq_false_iff_eq.mpr bB;clear bB;have H':=ae.mk H;clear H;have p5:(0≤(b1:Int))=True:=oT;have q5:(b1<(a0.size:Int))=True:=oT;have b3:=iq a0 b1
    go_wp2
    go_roundg k1
    case measure=>have:=b2.out;omega
    case rel=>exact⟨(wrap64 (b1+1)),oS,H',⟨by have:=b2.out;omega⟩,oD⟩
   replace H:=ym H;rcases H with⟨d5,H⟩|⟨d5,H⟩;rotate_left
   ·have H':=ae.mk H;clear H;have p5:(0≤(b1:Int))=True:=oT;have q5:(b1<(a0.size:Int))=True:=oT;have b3:=iq a0 b1
    go_wp2
    go_roundg k1
    case measure=>have:=b2.out;omega
    case rel=>exact⟨(wrap64 (b1+1)),oS,H',⟨by have:=b2.out;omega⟩,oD⟩
   by_cases bC:(bt a0 b1)=95
   ·rw[if_pos bC]at H;have d6:((bt a0 b1)==95)=true:=beq_iff_eq.mpr bC;have d7:((bt a0 b1) !=95)=false:=bne_eq_false_iff_eq.mpr bC;clear bC;have H':=ae.mk H;clear H;have p5:(0≤(b1:Int))=True:=oT;have q5:(b1<(a0.size:Int))=True:=oT;have b3:=iq a0 b1
    go_wp2
    go_roundg k1
    case measure=>have:=b2.out;omega
    case rel=>exact⟨(wrap64 (b1+1)),oS,H',⟨by have:=b2.out;omega⟩,oD⟩
   rw[if_neg bC]at H;have d6:((bt a0 b1)==95)=false:=beq_eq_false_iff_ne.mpr bC;have d7:((bt a0 b1) !=95)=true:=bne_iff_ne.mpr bC
   by_cases bD:(bt a0 b1)=45
   ·rw[if_pos bD]at H;have d8:((bt a0 b1)==45)=true:=beq_iff_eq.mpr bD;have d9:((bt a0 b1) !=45)=false:=bne_eq_false_iff_eq.mpr bD;clear bD;have H':=ae.mk H;clear H;have p5:(0≤(b1:Int))=True:=oT;have q5:(b1<(a0.size:Int))=True:=oT;have b3:=iq a0 b1
    go_wp2
    go_roundg k1
    case measure=>have:=b2.out;omega
    case rel=>exact⟨(wrap64 (b1+1)),oS,H',⟨by have:=b2.out;omega⟩,oD⟩
   rw[if_neg bD]at H;have d8:((bt a0 b1)==45)=false:=beq_eq_false_iff_ne.mpr bD;have d9:((bt a0 b1) !=45)=true:=bne_iff_ne.mpr bD
   by_cases bE:(bt a0 b1)=46
   rotate_left
   ·rw[if_neg bE]at H;have dA:((bt a0 b1)==46)=false:=beq_eq_false_iff_ne.mpr bE;have dB:((bt a0 b1) !=46)=true:=bne_iff_ne.mpr bE;obtain rfl:=Option.some.inj H;have p5:(0≤(b1:Int))=True:=oT;have q5:(b1<(a0.size:Int))=True:=oT;have b3:=iq a0 b1
    go_wp2
    go_ret
    exact⟨oS,oD⟩
   rw[if_pos bE]at H;have dA:((bt a0 b1)==46)=true:=beq_iff_eq.mpr bE;have dB:((bt a0 b1) !=46)=false:=bne_eq_false_iff_eq.mpr bE;clear bE;have H':=ae.mk H;clear H;have p5:(0≤(b1:Int))=True:=oT;have q5:(b1<(a0.size:Int))=True:=oT;have b3:=iq a0 b1
   go_wp2
   go_roundg k1
   case measure=>have:=b2.out;omega
   case rel=>exact⟨(wrap64 (b1+1)),oS,H',⟨by have:=b2.out;omega⟩,oD⟩

mutual
def cb.l0:Nat→List ByteArray→Int→Option (List ByteArray)
 |0,_,_=>none
 |k+1,x3,x4=>if x4<(x3.length:Int)then(if 0≤x4 then(cb.l1 k x3 x4 (dr ByteArray.empty x3 x4) x4)else(none))else(some x3)
def cb.l1:Nat→List ByteArray→Int→ByteArray→Int→Option (List ByteArray)
 |0,_,_,_,_=>none
 |k+1,x3,x4,x5,x6=>if x6>0 then(if 0≤(wrap64 (x6-1))then(if(wrap64 (x6-1))<(x3.length:Int)then(if(Op.bytesLess x5.toList ((dr ByteArray.empty x3 (wrap64 (x6-1))).toList))=true then(if 0≤x6 then(if x6<(x3.length:Int)then(cb.l1 k (x3.set (x6:Int).toNat (dr ByteArray.empty x3 (wrap64 (x6-1)))) x4 x5 (wrap64 (x6-1)))else(none))else(none))else(if 0≤x6 then(if x6<(x3.length:Int)then(cb.l0 k (x3.set (x6:Int).toNat x5) (wrap64 (x4+1)))else(none))else(none)))else(none))else(none))else(if 0≤x6 then(if x6<(x3.length:Int)then(cb.l0 k (x3.set (x6:Int).toNat x5) (wrap64 (x4+1)))else(none))else(none))
end
def cb.f (k:Nat) (l0:List ByteArray):Option (List ByteArray):=(some (([]:List ByteArray):List ByteArray)).bind fun b1=>(if b1.length+l0.length<8796093022208 then(cb.l0 k (b1++l0) 1)else(none))
theorem cb.calls (k:Nat) (A0:Option Addr) (c0:Nat) (l0:List ByteArray) (r:List ByteArray) (w:World) (hr0:Kd.C Kd.string w A0 l0.length l0) (hc0:l0.length≤c0) (h:cb.f k l0=some r):
  Calls Tryz.prog 67 #[.slice A0 l0.length c0] w fun e w'=>∃fy:Value,e= .returned (fy)∧Kd.R Kd.string 9 w' w.heap.size (fun _=>True) fy r∧Below w.heap.size w w':=by
 have gC:=ae.mk hr0;have jD:=ae.mk hc0;clear hr0 hc0;have HB:=am (Below.refl w.heap.size w);unfold cb.f at h;have H:=h;clear h;obtain⟨bB,cx⟩:∃y_:List ByteArray,y_=(([]:List ByteArray)):=⟨_,rfl⟩;replace H:(if bB.length+l0.length<8796093022208 then(cb.l0 k (bB++l0) 1)else(none))=some r:=oY;have bQ:=ae.mk cx;clear cx
 by_cases c2:bB.length+l0.length<8796093022208
 rotate_left
 ·rw[if_neg c2]at H;exact absurd H (by simp)
 rw[if_pos c2]at H;have dL:=ae.mk c2;clear c2;obtain⟨bU,cx⟩:∃y_:List ByteArray,y_=(bB++l0):=⟨_,rfl⟩;replace H:(cb.l0 k bU 1)=some r:=oY;have dF:=ae.mk cx;clear cx;have H':=ae.mk H;clear H
 go_enter func67,ntmps67
 go_wp2_with (first|((with_reducible refine au (N:=7) rfl ?_);refine Kd.gu Kd.string _ 9 ?hg (N:=7) ?hd (xs:=([]:List ByteArray)) (inner:=[]) (ok:=fun _=>True) (fw:=fun _=>True) ?hr ?hp (fun _ hk=>hk) trivial (Below.refl _ _) (Nat.le_refl _) (by simp) ?_;(case hd=>rfl);(case hg=>rfl);(case hr=>(go_simp;done));(case hp=>exact(bp.none _ _));intro dM w3 bI hb fN cj;clear fN cj;(rw[←bQ.out]at bI);have bR:=am (Kd.aq bI (af oB));replace HB:=hB HB hb;clear hb bI)|((with_reducible refine cX (b:= .append) (xs:= #[.tmp 7,.tmp 8]) rfl ?_);at_builtin;refine Kd.fM Kd.string (w0:=w) w.heap.size rfl (.tmp 7) (.tmp 8) 35 9 (.string ⟨#[]⟩) 16 rfl underlying35 info9 rfl (by decide) (by omega) dM bB l0 _ _ _ (fun _=>True) (fun _=>False) rfl rfl ?aO ?aR (fun _ _ h=>h) (fun _ h=>h.elim) ?aF ?aB ?aS ?aL ?_;(case aR=>repeat(exact(Kd.cR gC.out HB.out)));(case aB=>exact oB);(case aF=>exact(fun _ _=>trivial));(case aO=>exact(oR bR));(case aS=>exact(af oB));(case aL=>have:=dL.out;omega);intro dN w5 ho hb hg hat;rw[←dF.out]at ho;have dG:=am (ho);replace HB:=am (hb);clear bR;clear ho hb hg hat))
 go_loopg [4] k (fun kq v4 w'=>∃(b6:List ByteArray) (b1:Int),v4= .int .i64 b1∧ae (cb.l0 kq b6 b1=some r)∧ae (kq≤k)∧ae (Kd.R Kd.string 9 w' w.heap.size (fun _=>True) dN b6)∧ae (Below w.heap.size w w'))
 case atStart=>exact⟨(bU),(1),oS,H',⟨Nat.le_refl _⟩,⟨oR dG⟩,⟨oB⟩⟩
 case round=>
  clear H';obtain⟨b6,b1,rfl,HA,bC,b4,HB⟩:=hrel
  cases gk with
  |zero=>exact absurd HA.out (by simp[cb.l0])
  |succ k1=>
   have H:=HA.out;clear HA;simp only[cb.l0]at H;replace H:=kU H;rcases H with⟨bV,H⟩|⟨bV,H⟩;rotate_left
   ·obtain rfl:=Option.some.inj H;obtain⟨gU,gV,dO⟩:=Kd.ao b4.out;subst dO
    go_wp2
    go_ret
    exact⟨_,oE,oR b4,oB⟩
   obtain⟨dP,H⟩:=dw H;have H':=ae.mk H;clear H;obtain⟨jE,bS,gD⟩:=Kd.ao b4.out;subst gD;have gW:(0≤(b1:Int))=True:=oT;have gX:(b1<(b6.length:Int))=True:=oT;obtain⟨gL,dQ,bD⟩:=Kd.ei (Kd.aU b4.out).2.2 b1 oa oa
   cases dQ
   have ps_:0≤(b1:Int):=oa;have qs_:(b1:Int)<(b6.length:Int):=oa;obtain⟨qi,coS_,adF,adG,adH,adI,adJ⟩:=Kd.jt b4.out (by omega);clear adG adH adI adJ ps_ qs_
   (cases adF)
   (simp only[add_plain]at bD)
   go_wp2
   go_loopg [6] k1 (fun kq v6 w'=>∃(b2:List ByteArray) (b3:Int),v6= .int .i64 b3∧ae (cb.l1 kq b2 b1 (dr ByteArray.empty b6 b1) b3=some r)∧ae (kq≤k1)∧ae (Kd.R Kd.string 9 w' w.heap.size (fun _=>True) (.slice (some (⟨qi,0,none⟩:Addr)) b6.length bS) b2)∧ae (Below w.heap.size w w'))
   case atStart=>exact⟨(b6),(b1),oS,H',⟨Nat.le_refl _⟩,⟨oR b4⟩,⟨oB⟩⟩
   case round=>
    clear H'
    try clear bV
    try clear dP
    obtain⟨b2,b3,rfl,HA,bE,b4,HB⟩:=hrel;have b7:=(Kd.aU b4.out).1;rw[b7]at b4
    (try simp only[b7])
    cases gk with
    |zero=>exact absurd HA.out (by simp[cb.l1])
    |succ k2=>
     have H:=HA.out;clear HA;simp only[cb.l1]at H;replace H:=ym H;rcases H with⟨dR,H⟩|⟨dR,H⟩;rotate_left
     ·obtain⟨gM,H⟩:=dw H;obtain⟨gN,H⟩:=dw H;obtain⟨bJ,cx⟩:∃y_:List ByteArray,y_=(b2.set (b3:Int).toNat (dr ByteArray.empty b6 b1)):=⟨_,rfl⟩;replace H:(cb.l0 k2 bJ (wrap64 (b1+1)))=some r:=oY;have dH:=ae.mk cx;clear cx;have H':=ae.mk H;clear H;have bW:0≤(b3:Int):=oa;have bX:(b3:Int)<((b2.length:Int):Int):=oa;obtain⟨gY,gZ,bY,bZ,dS,j1,d1⟩:=Kd.jt b4.out (by omega)
      (cases bY)
      have dT:=ae.mk bZ;have j2:=ae.mk d1;clear bZ dS d1;obtain⟨gE,gF⟩:=Kd.np (⟨#[]⟩:ByteArray) b4.out (b3:Int) bW bX;replace bW:=eq_true bW;replace bX:=eq_true bX;have bK:=Kd.qf b4.out (b3:Int) (dr ByteArray.empty b6 b1)
      go_wp2_with (((with_reducible refine fI (t:=9) (p:=45) rfl ?_);refine fs (t:=9) (p:=45) (v:= ?acE) (w1:=(wr.setCell ⟨qi,(b3:Int).toNat,none⟩ (.string (dr ByteArray.empty b6 b1)))) ?hg ?ho ?hn ?hr ?_;(case ho=>rfl);(case hg=>rfl);(case hn=>rfl);(case hr=>(go_simp;done));intro d2 hw;have hg:wr.grownBy d2 (some qi):=(by rw[hw];exact bK.2);have nU:Kd.R Kd.string 9 d2 w.heap.size (fun _=>True) (.slice (some ⟨qi,0,none⟩) b2.length bS) bJ:=(by rw[hw,dH.out];exact bK.1);clear bK;replace b4:=am (nU);replace HB:=am ((by rw[hw];exact a_ (HB.out) dT.out:Below w.heap.size w d2));clear hg hw nU))
      (try simp only[←b7])
      go_roundg k2
      case measure=>have:=bC.out;have:=bE.out;omega
      case rel=>exact⟨(bJ),(wrap64 (b1+1)),oS,H',⟨by have:=bC.out;have:=bE.out;omega⟩,⟨by(try simp only[b7]);(with_reducible repeat(first|apply Kd.cP|apply Kd.cQ|apply Kd.b_));exact b4.out⟩,⟨oB⟩⟩
     obtain⟨b5,b9⟩:∃j_:Int,(wrap64 (b3-1))=j_:=⟨_,rfl⟩
     replace H:(if 0≤(b5)then(if(b5)<(b2.length:Int)then(if(Op.bytesLess (dr ByteArray.empty b6 b1).toList ((dr ByteArray.empty b2 (b5)).toList))=true then(if 0≤b3 then(if b3<(b2.length:Int)then(cb.l1 k2 (b2.set (b3:Int).toNat (dr ByteArray.empty b2 (b5))) b1 (dr ByteArray.empty b6 b1) b5)else(none))else(none))else(if 0≤b3 then(if b3<(b2.length:Int)then(cb.l0 k2 (b2.set (b3:Int).toNat (dr ByteArray.empty b6 b1)) (wrap64 (b1+1)))else(none))else(none)))else(none))else(none))=some r:=by(rw[b9]at H;exact H)
     have gG:(IntKind.i64.wrap (b3-1))=b5:=(kn _).trans b9;obtain⟨gO,H⟩:=dw H;obtain⟨gP,H⟩:=dw H
     by_cases bF:(Op.bytesLess (dr ByteArray.empty b6 b1).toList ((dr ByteArray.empty b2 (b5)).toList))=true
     rotate_left
     ·rw[if_neg bF]at H
      have bG:(Op.bytesLess (dr ByteArray.empty b6 b1).toList ((dr ByteArray.empty b2 (b5)).toList))=false:=by simpa using bF
      have dU:(!Op.bytesLess ((dr ByteArray.empty b2 (b5)).toList) (dr ByteArray.empty b6 b1).toList&& !(((dr ByteArray.empty b2 (b5)).toList)==(dr ByteArray.empty b6 b1).toList))=false:=(tS _ _).trans bG;clear bF;obtain⟨gQ,H⟩:=dw H;obtain⟨gR,H⟩:=dw H;obtain⟨bL,cx⟩:∃y_:List ByteArray,y_=(b2.set (b3:Int).toNat (dr ByteArray.empty b6 b1)):=⟨_,rfl⟩;replace H:(cb.l0 k2 bL (wrap64 (b1+1)))=some r:=oY;have dI:=ae.mk cx;clear cx;have H':=ae.mk H;clear H;have dV:(0≤((b5):Int))=True:=oT;have dW:((b5)<(b2.length:Int))=True:=oT;obtain⟨bH,bM,b8⟩:=Kd.ei (Kd.aU b4.out).2.2 (b5) oa oa;obtain rfl:(⟨qi,0,none⟩:Addr)=bH:=(by injection bM);have d3:0≤(b3:Int):=oa;have d4:(b3:Int)<((b2.length:Int):Int):=oa;obtain⟨j3,j4,d5,d6,dX,j5,d7⟩:=Kd.jt b4.out (by omega)
      (cases d5)
      have dY:=ae.mk d6;have j6:=ae.mk d7;clear d6 dX d7
      (simp only[add_plain]at b8)
      obtain⟨gH,gI⟩:=Kd.np (⟨#[]⟩:ByteArray) b4.out (b3:Int) d3 d4;replace d3:=eq_true d3;replace d4:=eq_true d4;have bN:=Kd.qf b4.out (b3:Int) (dr ByteArray.empty b6 b1)
      go_wp2_with (((with_reducible refine fI (t:=9) (p:=45) rfl ?_);refine fs (t:=9) (p:=45) (v:= ?acF) (w1:=(wr.setCell ⟨qi,(b3:Int).toNat,none⟩ (.string (dr ByteArray.empty b6 b1)))) ?hg ?ho ?hn ?hr ?_;(case ho=>rfl);(case hg=>rfl);(case hn=>rfl);(case hr=>(go_simp;done));intro d8 hw;have hg:wr.grownBy d8 (some qi):=(by rw[hw];exact bN.2);have nU:Kd.R Kd.string 9 d8 w.heap.size (fun _=>True) (.slice (some ⟨qi,0,none⟩) b2.length bS) bL:=(by rw[hw,dI.out];exact bN.1);clear bN;replace b4:=am (nU);replace HB:=am ((by rw[hw];exact a_ (HB.out) dY.out:Below w.heap.size w d8));clear hg hw nU))
      (try simp only[←b7])
      go_roundg k2
      case measure=>have:=bC.out;have:=bE.out;omega
      case rel=>exact⟨(bL),(wrap64 (b1+1)),oS,H',⟨by have:=bC.out;have:=bE.out;omega⟩,⟨by(try simp only[b7]);(with_reducible repeat(first|apply Kd.cP|apply Kd.cQ|apply Kd.b_));exact b4.out⟩,⟨oB⟩⟩
     rw[if_pos bF]at H;have bG:(Op.bytesLess (dr ByteArray.empty b6 b1).toList ((dr ByteArray.empty b2 (b5)).toList))=true:=bF;have dU:(!Op.bytesLess ((dr ByteArray.empty b2 (b5)).toList) (dr ByteArray.empty b6 b1).toList&& !(((dr ByteArray.empty b2 (b5)).toList)==(dr ByteArray.empty b6 b1).toList))=true:=(tS _ _).trans bG;clear bF;obtain⟨gS,H⟩:=dw H;obtain⟨gT,H⟩:=dw H;obtain⟨bO,cx⟩:∃y_:List ByteArray,y_=(b2.set (b3:Int).toNat (dr ByteArray.empty b2 (b5))):=⟨_,rfl⟩;replace H:(cb.l1 k2 bO b1 (dr ByteArray.empty b6 b1) b5)=some r:=oY;have dJ:=ae.mk cx;clear cx;have H':=ae.mk H;clear H;have dV:(0≤((b5):Int))=True:=oT;have dW:((b5)<(b2.length:Int))=True:=oT;obtain⟨bH,bM,b8⟩:=Kd.ei (Kd.aU b4.out).2.2 (b5) oa oa;obtain rfl:(⟨qi,0,none⟩:Addr)=bH:=(by injection bM);have j7:(0≤((b5):Int))=True:=oT;have j8:((b5)<(b2.length:Int))=True:=oT;obtain⟨dK,dZ,bT⟩:=Kd.ei (Kd.aU b4.out).2.2 (b5) oa oa;obtain rfl:(⟨qi,0,none⟩:Addr)=dK:=(by injection dZ);have d9:0≤(b3:Int):=oa;have dA:(b3:Int)<((b2.length:Int):Int):=oa;obtain⟨j9,jA,dB,dC,gA,jB,dD⟩:=Kd.jt b4.out (by omega)
     (cases dB)
     have gB:=ae.mk dC;have jC:=ae.mk dD;clear dC gA dD
     (skip)
     (simp only[add_plain]at b8)
     (simp only[add_plain]at bT)
     obtain⟨gJ,gK⟩:=Kd.np (⟨#[]⟩:ByteArray) b4.out (b3:Int) d9 dA;replace d9:=eq_true d9;replace dA:=eq_true dA;have bP:=Kd.qf b4.out (b3:Int) (dr ByteArray.empty b2 (b5))
     go_wp2_with (((with_reducible refine fI (t:=9) (p:=39) rfl ?_);refine fs (t:=9) (p:=39) (v:= ?vo_w18) (w1:=(wr.setCell ⟨qi,(b3:Int).toNat,none⟩ (.string (dr ByteArray.empty b2 (b5))))) ?hg ?ho ?hn ?hr ?_;(case ho=>rfl);(case hg=>rfl);(case hn=>rfl);(case hr=>(go_simp;done));intro dE hw;have hg:wr.grownBy dE (some qi):=(by rw[hw];exact bP.2);have nU:Kd.R Kd.string 9 dE w.heap.size (fun _=>True) (.slice (some ⟨qi,0,none⟩) b2.length bS) bO:=(by rw[hw,dJ.out];exact bP.1);clear bP;replace b4:=am (nU);replace HB:=am ((by rw[hw];exact a_ (HB.out) gB.out:Below w.heap.size w dE));clear hg hw nU))
     (try simp only[←b7])
     go_roundg k2
     case measure=>have:=bC.out;have:=bE.out;omega
     case rel=>exact⟨(bO),(b5),(by rfl),H',⟨by have:=bC.out;have:=bE.out;omega⟩,⟨by(try simp only[b7]);(with_reducible repeat(first|apply Kd.cP|apply Kd.cQ|apply Kd.b_));exact b4.out⟩,⟨oB⟩⟩
/-- A state of type 118 at block g of W; what its slices lead to came in by w0. -/
def ak (w0 W:World) (g:Nat) (f0:List Int) (f1:Int) (f2:Int):Prop:=∃A0 c0,W.heap[g]? =some (.cells #[.slice A0 f0.length c0,.int .i64 f1,.int .i64 f2] 118 (0,0))∧w0.heap.size≤g∧Kd.C (Kd.int .u8) w0 A0 f0.length f0
theorem ak.grown {w0 W:World}{g:Nat}{f0:List Int}{f1:Int}{f2:Int}{W1:World}{row:Option Nat}(h:ak w0 W g f0 f1 f2) (hw:W.grownBy W1 row) (hne:some g≠row):ak w0 W1 g f0 f1 f2:=by
 obtain⟨A0,c0,hb,hg,hr0⟩:=h;exact⟨A0,c0,lq hb hw hne,hg,hr0⟩
theorem ak.wW {w0 W:World}{g:Nat}{f0:List Int}{f1:Int}{f2:Int}{α:Type}{d:Kd α}{e:Nat}{base:Nat}{ok:Nat→Prop}{v:Value}{xs:List α}(h:ak w0 W g f0 f1 f2) (ho:Kd.N d e W base ok v xs) (ht:e≠118):some g≠v.ownBlock:=by
 obtain⟨A0,c0,hb,hg,hr0⟩:=h;exact Kd.mh ho hb ht
theorem ak.fresh {w0 W:World}{g:Nat}{f0:List Int}{f1:Int}{f2:Int}(h:ak w0 W g f0 f1 f2):∀k,W.heap.size≤k→k≠g:=by
 obtain⟨A0,c0,hb,hg,hr0⟩:=h;exact Kd.cM hb
theorem ak.kept {w0 W:World}{g:Nat}{f0:List Int}{f1:Int}{f2:Int}{W1:World}{S:Nat→Prop}(h:ak w0 W g f0 f1 f2) (hk:Kept W W1 S) (hne:¬S g):ak w0 W1 g f0 f1 f2:=by
 obtain⟨A0,c0,hb,hg,hr0⟩:=h;exact⟨A0,c0,ug hb hk hne,hg,hr0⟩
theorem ak.below {w0 W:World}{g:Nat}{f0:List Int}{f1:Int}{f2:Int}{W1:World}(h:ak w0 W g f0 f1 f2) (hw:Below W.heap.size W W1):ak w0 W1 g f0 f1 f2:=h.grown (nS hw none) (by simp)
theorem ak.alloc {w0 W:World}{g:Nat}{f0:List Int}{f1:Int}{f2:Int}(h:ak w0 W g f0 f1 f2) (o:Obj):ak w0 (W.alloc o) g f0 f1 f2:=h.below (ew (Below.refl _ _) o)
theorem ak.drewN {w0 W:World}{g:Nat}{f0:List Int}{f1:Int}{f2:Int}(h:ak w0 W g f0 f1 f2) (m:Nat):ak w0 (W.drewN m) g f0 f1 f2:=h
theorem ak.drew {w0 W:World}{g:Nat}{f0:List Int}{f1:Int}{f2:Int}(h:ak w0 W g f0 f1 f2):ak w0 W.drew g f0 f1 f2:=h
theorem ak.at_ {w0 W:World}{g:Nat}{f0:List Int}{f1:Int}{f2:Int}{w':World}{m:Nat}(hq:W.drewN m=w') (h:ak w0 W g f0 f1 f2):ak w0 w' g f0 f1 f2:=by subst hq;exact ak.drewN h m
theorem ak.apart {w0 W:World}{g:Nat}{f0:List Int}{f1:Int}{f2:Int}{α:Type}{d:Kd α}{e:Nat}{base:Nat}{ok:Nat→Prop}{v:Value}{xs:List α}(h:ak w0 W g f0 f1 f2) (ho:d.R e W base ok v xs) (ht:∀q,q∈e::d.E→q≠118):d.R e W base (fun k=>ok k∧k≠g) v xs:=by
 obtain⟨A0,c0,hb,hg,hr0⟩:=h;exact Kd.ay ho hb ht
theorem ak.own_ne {w0 W:World}{g:Nat}{f0:List Int}{f1:Int}{f2:Int}{α:Type}{d:Kd α}{e:Nat}{base:Nat}{ok:Nat→Prop}{v:Value}{xs:List α}(h:ak w0 W g f0 f1 f2) (ho:d.R e W base ok v xs) (ht:e≠118):some g≠v.ownBlock:=by
 obtain⟨A0,c0,hb,hg,hr0⟩:=h;exact Kd.ig ho hb ht
theorem ak.acG {w0 W:World}{g:Nat}{f0:List Int}{f1:Int}{f2:Int}{α:Type}{d:Kd α}{e:Nat}{base:Nat}{ok:Nat→Prop}{v:Value}{xs:List α}(h:ak w0 W g f0 f1 f2) (ho:d.Q e W base ok v xs) (ht:∀q,q∈e::d.E→q≠118):d.Q e W base (fun k=>ok k∧k≠g) v xs:=by
 obtain⟨A0,c0,hb,hg,hr0⟩:=h;exact Kd.wN ho hb ht
theorem ak.own_neQ {w0 W:World}{g:Nat}{f0:List Int}{f1:Int}{f2:Int}{α:Type}{d:Kd α}{e:Nat}{base:Nat}{ok:Nat→Prop}{v:Value}{xs:List α}(h:ak w0 W g f0 f1 f2) (ho:d.Q e W base ok v xs) (ht:e≠118):some g≠v.ownBlock:=by
 obtain⟨A0,c0,hb,hg,hr0⟩:=h;exact Kd.adE ho hb ht
theorem ak.acH {w0 W:World}{g:Nat}{f0:List Int}{f1:Int}{f2:Int}{α:Type}{d:Kd α}{e:Nat}{base:Nat}{ok:Nat→Prop}{v:Value}{xs:List α}(h:ak w0 W g f0 f1 f2) (ho:d.S e W base ok v xs) (ht:∀q,q∈e::d.E→q≠118):d.S e W base (fun k=>ok k∧k≠g) v xs:=by
 obtain⟨A0,c0,hb,hg,hr0⟩:=h;exact Kd.oz ho hb ht
theorem ak.own_neS {w0 W:World}{g:Nat}{f0:List Int}{f1:Int}{f2:Int}{α:Type}{d:Kd α}{e:Nat}{base:Nat}{ok:Nat→Prop}{v:Value}{xs:List α}(h:ak w0 W g f0 f1 f2) (ho:d.S e W base ok v xs) (ht:e≠118):some g≠v.ownBlock:=by
 obtain⟨A0,c0,hb,hg,hr0⟩:=h;exact Kd.vH ho hb ht
theorem ak.lt {w0 W:World}{g:Nat}{f0:List Int}{f1:Int}{f2:Int}(h:ak w0 W g f0 f1 f2):g<W.heap.size:=by
 obtain⟨A0,c0,hb,hg,hr0⟩:=h;exact jy hb
theorem ak.ge {w0 W:World}{g:Nat}{f0:List Int}{f1:Int}{f2:Int}(h:ak w0 W g f0 f1 f2):w0.heap.size≤g:=by
 obtain⟨A0,c0,hb,hg,hr0⟩:=h;exact hg
theorem ak.aaa {w0 W:World}{g:Nat}{f0:List Int}{f1:Int}{f2:Int}{a:Nat}{cs:Array Value}{t:TypeId}{fr:Nat×Nat}(h:ak w0 W g f0 f1 f2) (hb2:W.heap[a]? =some (.cells cs t fr)) (ht:t≠118):g≠a:=by
 obtain⟨A0,c0,hb,hg,hr0⟩:=h;rintro rfl;rw[hb]at hb2;injection hb2 with hb2;injection hb2 with _ ht2;exact ht ht2.symm
theorem ak.far {w0 W:World}{g:Nat}{f0:List Int}{f1:Int}{f2:Int}{p:Addr}(h:ak w0 W g f0 f1 f2) (hne:g≠p.block) (u:Value):ak w0 (W.setCell p u) g f0 f1 f2:=by
 obtain⟨A0,c0,hb,hg,hr0⟩:=h;exact⟨A0,c0,cF hb hne u,hg,hr0⟩
theorem rA {W:World}{g:Nat}{A0:Option Addr}{c0:Nat}{f0:List Int}{f1:Int}{f2:Int}(h:W.heap[g]? =some (.cells #[.slice A0 f0.length c0,.int .i64 f1,.int .i64 f2] 118 (0,0))):W.cell? ⟨g,0,none⟩=some (.slice A0 f0.length c0):=(aj h 0).trans rfl
theorem rB {W:World}{g:Nat}{A0:Option Addr}{c0:Nat}{f0:List Int}{f1:Int}{f2:Int}(h:W.heap[g]? =some (.cells #[.slice A0 f0.length c0,.int .i64 f1,.int .i64 f2] 118 (0,0))):W.cell? ⟨g,1,none⟩=some (.int .i64 f1):=(aj h 1).trans rfl
theorem ak.qA {w0 W:World}{g:Nat}{f0:List Int}{f1:Int}{f2:Int}(h:ak w0 W g f0 f1 f2) (x:Int):ak w0 (W.setCell ⟨g,1,none⟩ (.int .i64 x)) g f0 x f2:=by
 obtain⟨A0,c0,hb,hg,hr0⟩:=h;exact⟨A0,c0,by simpa using qT hb 1 (.int .i64 x),hg,hr0⟩
theorem rC {W:World}{g:Nat}{A0:Option Addr}{c0:Nat}{f0:List Int}{f1:Int}{f2:Int}(h:W.heap[g]? =some (.cells #[.slice A0 f0.length c0,.int .i64 f1,.int .i64 f2] 118 (0,0))):W.cell? ⟨g,2,none⟩=some (.int .i64 f2):=(aj h 2).trans rfl
theorem ak.pI {w0 W:World}{g:Nat}{f0:List Int}{f1:Int}{f2:Int}(h:ak w0 W g f0 f1 f2) (x:Int):ak w0 (W.setCell ⟨g,2,none⟩ (.int .i64 x)) g f0 f1 x:=by
 obtain⟨A0,c0,hb,hg,hr0⟩:=h;exact⟨A0,c0,by simpa using qT hb 2 (.int .i64 x),hg,hr0⟩
theorem ak.new (w0 W:World) (A0:Option Addr) (c0:Nat) (f0:List Int) (f1:Int) (f2:Int) (hB:Below w0.heap.size w0 W) (hr0:Kd.C (Kd.int .u8) w0 A0 f0.length f0):ak w0 (W.alloc (.cells #[.slice A0 f0.length c0,.int .i64 f1,.int .i64 f2] 118)) W.heap.size f0 f1 f2:=⟨A0,c0,by simpa using heap_alloc_new W _,hB.size,hr0⟩
section
variable {w0 w W0 W W2:World}{g gb:Nat}{f0 f0':List Int}{f1 f1':Int}{f2 f2':Int}{α:Type}{d:Kd α}{e base:Nat}{ok:Nat→Prop}{v:Value}{xs:List α}
theorem cK {p:Prop}(h:p:=by repeat(first|(with_reducible first|exact HI0.out|apply ak.alloc|apply ak.drewN|apply ak.drew|apply ak.qA|apply ak.pI|(apply ak.far;rotate_left;exact ae.out (by with_reducible assumption)))|exact HI0.out)):p:=h
theorem dg {p:Prop}(h:p:=by repeat(first|(with_reducible first|exact HB.out|apply ew|apply d_|apply bl|refine a_ ?_ (ak.ge HI0.out)|refine a_ ?_ (ae.out (by with_reducible assumption)))|exact HB.out)):p:=h
theorem fk (_:ae (ak w0 W0 g f0 f1 f2)) (hb:Below W.heap.size W W2) (h:ak w0 W g f0' f1' f2':=by repeat(first|(with_reducible first|exact HI0.out|apply ak.alloc|apply ak.drewN|apply ak.drew|apply ak.qA|apply ak.pI|(apply ak.far;rotate_left;exact ae.out (by with_reducible assumption)))|exact HI0.out)):ae (ak w0 W2 g f0' f1' f2'):=⟨h.below hb⟩
theorem fi (hb:Below W.heap.size W W2) (h:Below w0.heap.size w0 W:=by repeat(first|(with_reducible first|exact HB.out|apply ew|apply d_|apply bl|refine a_ ?_ (ak.ge HI0.out)|refine a_ ?_ (ae.out (by with_reducible assumption)))|exact HB.out)):ae (Below w0.heap.size w0 W2):=⟨gr h hb⟩
theorem nV (hg:gb=W.heap.size) (_:ae (ak w0 W0 g f0 f1 f2)) (h:ak w0 W g f0' f1' f2':=by repeat(first|(with_reducible first|exact HI0.out|apply ak.alloc|apply ak.drewN|apply ak.drew|apply ak.qA|apply ak.pI|(apply ak.far;rotate_left;exact ae.out (by with_reducible assumption)))|exact HI0.out)):ae (g≠gb):=⟨hg▸Nat.ne_of_lt h.lt⟩
theorem nW (hg:gb=W.heap.size) (_:ae (ak w0 W0 g f0 f1 f2)) (h:ak w0 W g f0' f1' f2':=by repeat(first|(with_reducible first|exact HI0.out|apply ak.alloc|apply ak.drewN|apply ak.drew|apply ak.qA|apply ak.pI|(apply ak.far;rotate_left;exact ae.out (by with_reducible assumption)))|exact HI0.out)):ae (gb≠g):=⟨hg▸Nat.ne_of_gt h.lt⟩
theorem cY (_:ae (ak w0 W0 g f0 f1 f2)) (ho:Kd.R d e W base ok v xs) (hk:aI W W2 g none) (ht:∀q,q∈e::d.E→q≠118:=by decide) (h:ak w0 W g f0' f1' f2':=by repeat(first|(with_reducible first|exact HI0.out|apply ak.alloc|apply ak.drewN|apply ak.drew|apply ak.qA|apply ak.pI|(apply ak.far;rotate_left;exact ae.out (by with_reducible assumption)))|exact HI0.out)):ae (Kd.R d e W2 base ok v xs):=⟨Kd.aM (Kd.ach (h.apart ho ht) hk (fun _ h=>h.2)) (fun _ h=>h.1)⟩
theorem kS118 (_:ae (ak w0 W0 g f0 f1 f2)) (ho:Kd.S d e W base ok v xs) (hk:aI W W2 g none) (ht:∀q,q∈e::d.E→q≠118:=by decide) (h:ak w0 W g f0' f1' f2':=by repeat(first|(with_reducible first|exact HI0.out|apply ak.alloc|apply ak.drewN|apply ak.drew|apply ak.qA|apply ak.pI|(apply ak.far;rotate_left;exact ae.out (by with_reducible assumption)))|exact HI0.out)):ae (Kd.S d e W2 base ok v xs):=⟨Kd.kV (Kd.acu (h.acH ho ht) hk (fun _ h=>h.2)) (fun _ h=>h.1)⟩
theorem kQ118 (_:ae (ak w0 W0 g f0 f1 f2)) (ho:Kd.Q d e W base ok v xs) (hk:aI W W2 g none) (ht:∀q,q∈e::d.E→q≠118:=by decide) (h:ak w0 W g f0' f1' f2':=by repeat(first|(with_reducible first|exact HI0.out|apply ak.alloc|apply ak.drewN|apply ak.drew|apply ak.qA|apply ak.pI|(apply ak.far;rotate_left;exact ae.out (by with_reducible assumption)))|exact HI0.out)):ae (Kd.Q d e W2 base ok v xs):=⟨Kd.sR (Kd.acn (h.acG ho ht) hk (fun _ h=>h.2)) (fun _ h=>h.1)⟩
end

def eP.l0:Nat→List Int→Int→Int→Option (List Int×Int×Int)
 |0,_,_,_=>none
 |k+1,x0,x3,x4=>if x4<(x0.length:Int)then(if x4<4000 then(if 0≤x4 then(eP.l0 k x0 (Go.bits .and .i64 (wrap64 ((wrap64 ((wrap64 (x3*137))+(wrap64 (rd x0 x4))))+11)) 1073741823) (wrap64 (x4+1)))else(none))else(some (x0,0,x3)))else(some (x0,0,x3))
def eP.f (k:Nat) (l0:List Int):Option (List Int×Int×Int):=eP.l0 k l0 (wrap64 (351351+(l0.length:Int))) 0
theorem eP.calls (k:Nat) (A0:Option Addr) (c0:Nat) (l0:List Int) (r1:List Int) (r2:Int) (r3:Int) (w0 w:World) (hB:Below w0.heap.size w0 w) (hr0:Kd.C (Kd.int .u8) w0 A0 l0.length l0) (hc0:l0.length≤c0) (h:eP.f k l0=some (r1,r2,r3)):
  Calls Tryz.prog 50 #[.slice A0 l0.length c0] w fun e w'=>∃g_:Nat,e= .returned (.pointer (some ⟨g_,0,none⟩))∧ak w0 w' g_ r1 r2 r3∧Below w0.heap.size w0 w'∧Below w.heap.size w w':=by
 have bI:=underlying118;have b6:=ae.mk hr0;have bN:=ae.mk hc0;clear hr0 hc0;have xC:=am (Below.refl w.heap.size w);have HW0:=ae.mk hB.size;have HB:=ae.mk hB;clear hB;unfold eP.f at h;have H:=h;clear h;have H':=ae.mk H;clear H
 go_enter func50,ntmps50
 go_wp2
 go_loopg [3,4] k (fun kq v3 v4 w'=>∃(b1:Int) (b2:Int),v3= .int .i64 b1∧v4= .int .i64 b2∧ae (eP.l0 kq l0 b1 b2=some (r1,r2,r3))∧ae (kq≤k)∧ae (Below w0.heap.size w0 w')∧ae (Below w.heap.size w w'))
 case atStart=>exact⟨(wrap64 (351351+(l0.length:Int))),(0),oS,oS,H',⟨Nat.le_refl _⟩,⟨oB⟩,⟨xC.out⟩⟩
 case round=>
  clear H';obtain⟨b1,b2,rfl,rfl,HA,bE,HB,xC⟩:=hrel
  cases gk with
  |zero=>exact absurd HA.out (by simp[eP.l0])
  |succ k1=>
   have H:=HA.out;clear HA;simp only[eP.l0]at H;replace H:=kU H;rcases H with⟨bF,H⟩|⟨bF,H⟩;rotate_left
   ·simp only[Option.some.injEq,Prod.mk.injEq]at H;obtain⟨rfl,rfl,rfl⟩:=H
    go_wp2_with (((with_reducible refine au (N:=31) rfl ?_);refine fz 31 #[.slice A0 l0.length c0,.int .i64 0,.int .i64 b1] 118 ?_;intro b3 hg w6 hbox hb;have b7:=am (hbox);have b8:=am ((by rw[hg];exact(af xC.out):w.heap.size≤b3));have b9:=am ((Nat.le_trans HW0.out (by rw[hg];exact(af xC.out):w.heap.size≤b3):w0.heap.size≤b3));replace xC:=am (gr xC.out hb);replace HB:=hB HB hb;clear hb hbox hg))
    go_ret
    exact⟨_,rfl,(show ak w0 _ b3 l0 0 b1 from⟨_,_,oF b7,b9.out,b6.out⟩),oB,xC.out⟩
   replace H:=kU H;rcases H with⟨bG,H⟩|⟨bG,H⟩
   ·obtain⟨bK,H⟩:=dw H;have H':=ae.mk H;clear H;have bL:(0≤(b2:Int))=True:=oT;have bM:(b2<(l0.length:Int))=True:=oT;obtain⟨bJ,bH,b5⟩:=Kd.me b6.out b2 oa oa
    cases bH
    replace b5:=iP HB.out b5
    go_wp2
    go_roundg k1
    case measure=>have:=bE.out;omega
    case rel=>exact⟨(Go.bits .and .i64 (wrap64 ((wrap64 ((wrap64 (b1*137))+(wrap64 (rd l0 b2))))+11)) 1073741823),(wrap64 (b2+1)),oS,oS,H',⟨by have:=bE.out;omega⟩,⟨oB⟩,⟨xC.out⟩⟩
   simp only[Option.some.injEq,Prod.mk.injEq]at H;obtain⟨rfl,rfl,rfl⟩:=H
   go_wp2_with (((with_reducible refine au (N:=31) rfl ?_);refine fz 31 #[.slice A0 l0.length c0,.int .i64 0,.int .i64 b1] 118 ?_;intro b4 hg w5 hbox hb;have bB:=am (hbox);have bC:=am ((by rw[hg];exact(af xC.out):w.heap.size≤b4));have bD:=am ((Nat.le_trans HW0.out (by rw[hg];exact(af xC.out):w.heap.size≤b4):w0.heap.size≤b4));replace xC:=am (gr xC.out hb);replace HB:=hB HB hb;clear hb hbox hg))
   go_ret
   exact⟨_,rfl,(show ak w0 _ b4 l0 0 b1 from⟨_,_,oF bB,bD.out,b6.out⟩),oB,xC.out⟩

def eK.l0:Nat→ByteArray→Int→Int→Int→Int→List Int→List (cD)→List (bj)→Option (Int)
 |0,_,_,_,_,_,_,_,_=>none
 |k+1,x1,x5,b2,b3,b4,b5,b1,b6=>if x5<(b1.length:Int)then(if 0≤x5 then(if((aA b1 x5).f0).toList=x1.toList then(some ((aA b1 x5).f1))else(eK.l0 k x1 (wrap64 (x5+1)) b2 b3 b4 b5 b1 b6))else(none))else(some 0)
def eK.f (k:Nat) (eX:Int) (al:Int) (fc:Int) (eO:List Int) (eh:List (cD)) (eM:List (bj)) (a1:ByteArray):Option (Int):=eK.l0 k a1 0 eX al fc eO eh eM
theorem eK.calls (k:Nat) (eX:Int) (al:Int) (fc:Int) (lD:Option Addr) (lE:Nat) (eO:List Int) (ld:Option Addr) (lf:Nat) (eh:List (cD)) (kB:Option Addr) (kE:Nat) (eM:List (bj)) (a1:ByteArray) (r:Int) (w:World) (lP:Kd.C (Kd.int .u8) w lD eO.length eO) (lQ:eO.length≤lE) (lR:Kd.C fL w ld eh.length eh) (lS:eh.length≤lf) (lT:Kd.C dn w kB eM.length eM) (lU:eM.length≤kE) (h:eK.f k eX al fc eO eh eM a1=some r):
  Calls Tryz.prog 137 #[.agg #[.int .i64 eX,.int .i64 al,.int .i64 fc,.slice lD eO.length lE,.slice ld eh.length lf,.slice kB eM.length kE],.string a1] w fun e w'=>e= .returned (.int .i64 r)∧Below w.heap.size w w':=by
 have bQ:=underlying32;have bK:=ae.mk lP;have bL:=ae.mk lQ;clear lP lQ;have b5:=ae.mk lR;have bM:=ae.mk lS;clear lR lS;have bN:=ae.mk lT;have bO:=ae.mk lU;clear lT lU;have HB:=am (Below.refl w.heap.size w);unfold eK.f at h;have H:=h;clear h;have H':=ae.mk H;clear H
 go_enter func137,ntmps137
 go_wp2_with (((with_reducible refine au (N:=2) rfl ?_);refine fz 2 #[.int .i64 eX,.int .i64 al,.int .i64 fc,.slice lD eO.length lE,.slice ld eh.length lf,.slice kB eM.length kE] 32 ?_;intro bB hg w3 hbox hb;have b2:=am (hbox);have bP:=fO hg;replace HB:=hB HB hb;clear hb hbox hg))
 go_loopg [5] k (fun kq v5 w'=>∃(b1:Int),v5= .int .i64 b1∧ae (eK.l0 kq a1 b1 eX al fc eO eh eM=some r)∧ae (kq≤k)∧ae (w'.heap[bB]? =some (.cells #[.int .i64 eX,.int .i64 al,.int .i64 fc,(.slice lD eO.length lE),(.slice ld eh.length lf),(.slice kB eM.length kE)] 32 (0,0)))∧ae (Below w.heap.size w w'))
 case atStart=>exact⟨(0),oS,H',⟨Nat.le_refl _⟩,⟨oF b2⟩,⟨oB⟩⟩
 case round=>
  clear H';obtain⟨b1,rfl,HA,bD,b2,HB⟩:=hrel
  cases gk with
  |zero=>exact absurd HA.out (by simp[eK.l0])
  |succ k1=>
   have H:=HA.out;clear HA;simp only[eK.l0]at H;replace H:=kU H;rcases H with⟨bE,H⟩|⟨bE,H⟩;rotate_left
   ·obtain rfl:=Option.some.inj H;obtain⟨⟨_,_,_,_,_,_⟩,_,_,_,_,_,_⟩:=z6 b2
    go_wp2
    go_ret
    exact⟨oE,oB⟩
   obtain⟨bR,H⟩:=dw H
   by_cases c6:((aA eh b1).f0).toList=a1.toList
   rotate_left
   ·rw[if_neg c6]at H;have bF:(((aA eh b1).f0).toList==a1.toList)=false:=beq_eq_false_iff_ne.mpr c6;have bG:(((aA eh b1).f0).toList !=a1.toList)=true:=bne_iff_ne.mpr c6;have H':=ae.mk H;clear H;obtain⟨⟨_,_,_,_,_,_⟩,_,_,_,_,_,_⟩:=z6 b2;have bH:(0≤(b1:Int))=True:=oT;have bI:(b1<(eh.length:Int))=True:=oT;obtain⟨b7,b6,b8,b9⟩:=ph b5 HB b1 oa oa
    cases b6
    go_wp2
    go_roundg k1
    case measure=>have:=bD.out;omega
    case rel=>exact⟨(wrap64 (b1+1)),oS,H',⟨by have:=bD.out;omega⟩,⟨oF b2⟩,⟨oB⟩⟩
   rw[if_pos c6]at H;have bF:(((aA eh b1).f0).toList==a1.toList)=true:=beq_iff_eq.mpr c6;have bG:(((aA eh b1).f0).toList !=a1.toList)=false:=bne_eq_false_iff_eq.mpr c6;clear c6;obtain rfl:=Option.some.inj H;obtain⟨⟨_,_,_,_,_,_⟩,_,_,_,_,_,_⟩:=z6 b2;have bH:(0≤(b1:Int))=True:=oT;have bI:(b1<(eh.length:Int))=True:=oT;obtain⟨b7,b6,b8,b9⟩:=ph b5 HB b1 oa oa
   cases b6
   have bS:(0≤(b1:Int))=True:=oT;have bT:(b1<(eh.length:Int))=True:=oT;obtain⟨bC,bJ,b3,b4⟩:=ec b5.out b1 oa oa;obtain rfl:b7=bC:=(by injection bJ);replace b3:=cB HB b3;replace b4:=cB HB b4
   go_wp2
   go_ret
   exact⟨oE,oB⟩

def da.l0:Nat→Int→Int→List (aW)→Int→Option (Int)
 |0,_,_,_,_=>none
 |k+1,x1,x5,b1,b2=>if x5<(b1.length:Int)then(if 0≤x5 then(if((ai b1 x5).f0)=x1 then(some x5)else(da.l0 k x1 (wrap64 (x5+1)) b1 b2))else(none))else(some (-1))
def da.f (k:Nat) (ah:List (aW)) (al:Int) (a1:Int):Option (Int):=da.l0 k a1 0 ah al
theorem da.calls (k:Nat) (bs:Option Addr) (bo:Nat) (ah:List (aW)) (al:Int) (a1:Int) (r:Int) (w:World) (cy:Kd.C k32 w bs ah.length ah) (cA:ah.length≤bo) (h:da.f k ah al a1=some r):
  Calls Tryz.prog 99 #[.agg #[.slice bs ah.length bo,.int .i64 al],.int .i64 a1] w fun e w'=>e= .returned (.int .i64 r)∧Below w.heap.size w w':=by
 have bY:=underlying26;have b4:=ae.mk cy;have bW:=ae.mk cA;clear cy cA;have HB:=am (Below.refl w.heap.size w);unfold da.f at h;have H:=h;clear h;have H':=ae.mk H;clear H
 go_enter func99,ntmps99
 go_wp2_with (((with_reducible refine au (N:=2) rfl ?_);refine fz 2 #[.slice bs ah.length bo,.int .i64 al] 26 ?_;intro bO hg w3 hbox hb;have b2:=am (hbox);have bX:=fO hg;replace HB:=hB HB hb;clear hb hbox hg))
 go_loopg [5] k (fun kq v5 w'=>∃(b1:Int),v5= .int .i64 b1∧ae (da.l0 kq a1 b1 ah al=some r)∧ae (kq≤k)∧ae (w'.heap[bO]? =some (.cells #[(.slice bs ah.length bo),.int .i64 al] 26 (0,0)))∧ae (Below w.heap.size w w'))
 case atStart=>exact⟨(0),oS,H',⟨Nat.le_refl _⟩,⟨oF b2⟩,⟨oB⟩⟩
 case round=>
  clear H';obtain⟨b1,rfl,HA,bQ,b2,HB⟩:=hrel
  cases gk with
  |zero=>exact absurd HA.out (by simp[da.l0])
  |succ k1=>
   have H:=HA.out;clear HA;simp only[da.l0]at H;replace H:=kU H;rcases H with⟨bR,H⟩|⟨bR,H⟩;rotate_left
   ·obtain rfl:=Option.some.inj H;obtain⟨⟨_,_⟩,_,_⟩:=z2 b2
    go_wp2
    go_ret
    exact⟨oE,oB⟩
   obtain⟨bZ,H⟩:=dw H
   by_cases c6:((ai ah b1).f0)=a1
   ·rw[if_pos c6]at H;have bS:(((ai ah b1).f0)==a1)=true:=beq_iff_eq.mpr c6;have bT:(((ai ah b1).f0) !=a1)=false:=bne_eq_false_iff_eq.mpr c6;clear c6;obtain rfl:=Option.some.inj H;obtain⟨⟨_,_⟩,_,_⟩:=z2 b2;have bU:(0≤(b1:Int))=True:=oT;have bV:(b1<(ah.length:Int))=True:=oT;obtain⟨bP,bI,bJ,bK,bL,bM,bN,b3,b5,b6,b7,b8,b9,bB,bC,bD,bE,bF,bG,bH⟩:=kd b4 HB b1 oa oa
    cases b3
    go_wp2
    go_ret
    exact⟨oE,oB⟩
   rw[if_neg c6]at H;have bS:(((ai ah b1).f0)==a1)=false:=beq_eq_false_iff_ne.mpr c6;have bT:(((ai ah b1).f0) !=a1)=true:=bne_iff_ne.mpr c6;have H':=ae.mk H;clear H;obtain⟨⟨_,_⟩,_,_⟩:=z2 b2;have bU:(0≤(b1:Int))=True:=oT;have bV:(b1<(ah.length:Int))=True:=oT;obtain⟨bP,bI,bJ,bK,bL,bM,bN,b3,b5,b6,b7,b8,b9,bB,bC,bD,bE,bF,bG,bH⟩:=kd b4 HB b1 oa oa
   cases b3
   go_wp2
   go_roundg k1
   case measure=>have:=bQ.out;omega
   case rel=>exact⟨(wrap64 (b1+1)),oS,H',⟨by have:=bQ.out;omega⟩,⟨oF b2⟩,⟨oB⟩⟩

def eY.l0:Nat→ByteArray→List (cD)→Int→Int→Option (Int)
 |0,_,_,_,_=>none
 |k+1,x1,x8,x9,b1=>if b1<x9 then(if 0≤b1 then(if b1<(x8.length:Int)then(if((aA x8 b1).f0).toList=x1.toList then(some ((aA x8 b1).f1))else(eY.l0 k x1 x8 x9 (wrap64 (b1+1))))else(none))else(none))else(some 0)
def eY.f (k:Nat) (eX:Int) (al:Int) (fc:Int) (eO:List Int) (eh:List (cD)) (eM:List (bj)) (a1:ByteArray):Option (Int):=eY.l0 k a1 eh (eh.length:Int) 0
theorem eY.calls (k:Nat) (eX:Int) (al:Int) (fc:Int) (lD:Option Addr) (lE:Nat) (eO:List Int) (ld:Option Addr) (lf:Nat) (eh:List (cD)) (kB:Option Addr) (kE:Nat) (eM:List (bj)) (a1:ByteArray) (r:Int) (w:World) (lP:Kd.C (Kd.int .u8) w lD eO.length eO) (lQ:eO.length≤lE) (lR:Kd.C fL w ld eh.length eh) (lS:eh.length≤lf) (lT:Kd.C dn w kB eM.length eM) (lU:eM.length≤kE) (h:eY.f k eX al fc eO eh eM a1=some r):
  Calls Tryz.prog 60 #[.agg #[.int .i64 eX,.int .i64 al,.int .i64 fc,.slice lD eO.length lE,.slice ld eh.length lf,.slice kB eM.length kE],.string a1] w fun e w'=>e= .returned (.int .i64 r)∧Below w.heap.size w w':=by
 have bY:=underlying32;have bZ:=underlying74;have bN:=ae.mk lP;have bO:=ae.mk lQ;clear lP lQ;have bB:=ae.mk lR;have bP:=ae.mk lS;clear lR lS;have bQ:=ae.mk lT;have bR:=ae.mk lU;clear lT lU;have HB:=am (Below.refl w.heap.size w);unfold eY.f at h;have H:=h;clear h;have H':=ae.mk H;clear H
 go_enter func60,ntmps60
 go_wp2_with (((with_reducible refine au (N:=2) rfl ?_);refine fz 2 #[.int .i64 eX,.int .i64 al,.int .i64 fc,.slice lD eO.length lE,.slice ld eh.length lf,.slice kB eM.length kE] 32 ?_;intro b9 hg w3 hbox hb;have b2:=am (hbox);have bI:=fO hg;replace HB:=hB HB hb;clear hb hbox hg;obtain⟨⟨_,_,_,_,_,_⟩,_,_,_,_,_,_⟩:=z6 b2))
 go_loopg [10] k (fun kq bJ w'=>∃(b1:Int),bJ= .int .i64 b1∧ae (eY.l0 kq a1 eh (eh.length:Int) b1=some r)∧ae (kq≤k)∧ae (w'.heap[b9]? =some (.cells #[.int .i64 eX,.int .i64 al,.int .i64 fc,(.slice lD eO.length lE),(.slice ld eh.length lf),(.slice kB eM.length kE)] 32 (0,0)))∧ae (Below w.heap.size w w'))
 case atStart=>exact⟨(0),oS,H',⟨Nat.le_refl _⟩,⟨oF b2⟩,⟨oB⟩⟩
 case round=>
  clear H';obtain⟨b1,rfl,HA,bD,b2,HB⟩:=hrel
  cases gk with
  |zero=>exact absurd HA.out (by simp[eY.l0])
  |succ k1=>
   have H:=HA.out;clear HA;simp only[eY.l0]at H;replace H:=kU H;rcases H with⟨bF,H⟩|⟨bF,H⟩;rotate_left
   ·obtain rfl:=Option.some.inj H
    go_wp2
    go_ret
    exact⟨oE,oB⟩
   obtain⟨d1,H⟩:=dw H;obtain⟨d2,H⟩:=dw H;have bE:=ae.mk H;clear H;have bS:(0≤(b1:Int))=True:=oT;have bT:(b1<(eh.length:Int))=True:=oT;obtain⟨bK,bC,bG,bH⟩:=ph bB HB b1 oa oa
   cases bC
   go_upto_if 17 with(((with_reducible refine au (N:=6) rfl ?_);refine fz 6 #[.string (⟨#[]⟩:ByteArray),.int .i64 0] 74 ?_;intro bL hg w9 hbox hb;have b8:=am (hbox);have bM:=fO hg;have b3:=fX hg b2;have b4:=fY hg b2;replace b2:=ba b2 hb;replace HB:=hB HB hb;clear hb hbox hg;have bU:=b4.out;have bV:=b3.out;obtain⟨⟨_,_⟩,_,_⟩:=z2 b8))
   have H:=bE.out;clear bE
   by_cases b5:((aA eh b1).f0).toList=a1.toList
   ·rw[if_pos b5]at H;have b6:(((aA eh b1).f0).toList==a1.toList)=true:=beq_iff_eq.mpr b5;have b7:(((aA eh b1).f0).toList !=a1.toList)=false:=bne_eq_false_iff_eq.mpr b5;clear b5
    (rw[b6])
    obtain rfl:=Option.some.inj H;have bW:=b4.out;have bX:=b3.out;obtain⟨⟨_,_⟩,_,_⟩:=z2 b8
    go_wp2
    go_ret
    exact⟨oE,oB⟩
   rw[if_neg b5]at H;have b6:(((aA eh b1).f0).toList==a1.toList)=false:=beq_eq_false_iff_ne.mpr b5;have b7:(((aA eh b1).f0).toList !=a1.toList)=true:=bne_iff_ne.mpr b5
   (rw[b6])
   have H':=ae.mk H;clear H
   go_wp2
   go_roundg k1
   case measure=>have:=bD.out;omega
   case rel=>exact⟨(wrap64 (b1+1)),oS,H',⟨by have:=bD.out;omega⟩,⟨oF b2⟩,⟨oB⟩⟩

def eC.l0:Nat→List (cD)→ByteArray→List (cD)→Int→Option ((List (cD)))
 |0,_,_,_,_=>none
 |k+1,x0,x1,x5,x6=>if x6<(x0.length:Int)then(if 0≤x6 then(if((aA x0 x6).f0).toList=x1.toList then(eC.l0 k x0 x1 x5 (wrap64 (x6+1)))else(if x5.length<5864062014805 then(eC.l0 k x0 x1 (x5++[(⟨(aA x0 x6).f0,(aA x0 x6).f1⟩:cD)]) (wrap64 (x6+1)))else(none)))else(none))else(some x5)
def eC.f (k:Nat) (l0:List (cD)) (a1:ByteArray):Option ((List (cD))):=eC.l0 k l0 a1 (([]:List (cD))) 0
theorem eC.calls (k:Nat) (A0:Option Addr) (c0:Nat) (l0:List (cD)) (a1:ByteArray) (r:List (cD)) (w:World) (hr0:Kd.C fL w A0 l0.length l0) (hc0:l0.length≤c0) (h:eC.f k l0 a1=some r):
  Calls Tryz.prog 193 #[.slice A0 l0.length c0,.string a1] w fun e w'=>∃fy:Value,e= .returned (fy)∧Kd.R fL 74 w' w.heap.size (fun _=>True) fy r∧Below w.heap.size w w':=by
 have bS:=underlying74;have bE:=ae.mk hr0;have bY:=ae.mk hc0;clear hr0 hc0;have HB:=am (Below.refl w.heap.size w);unfold eC.f at h;have H:=h;clear h;obtain⟨bF,cx⟩:∃y_:List (cD),y_=(([]:List (cD))):=⟨_,rfl⟩;replace H:(eC.l0 k l0 a1 bF 0)=some r:=oY;have b8:=ae.mk cx;clear cx;have H':=ae.mk H;clear H
 go_enter func193,ntmps193
 go_wp2_with (((with_reducible refine au (N:=7) rfl ?_);refine Kd.gu fL _ 74 ?hg (N:=7) ?hd (xs:=([]:List (cD))) (inner:=[]) (ok:=fun _=>True) (fw:=fun _=>True) ?hr ?hp (fun _ hk=>hk) trivial (Below.refl _ _) (Nat.le_refl _) (by simp) ?_;(case hd=>rfl);(case hg=>rfl);(case hr=>(go_simp;done));(case hp=>exact(bp.none _ _));intro bT w3 b6 hb fN cj;clear fN cj;(rw[←b8.out]at b6);have bH:=am (Kd.aq b6 (af oB));replace HB:=hB HB hb;clear hb b6))
 go_loopg [5,6] k (fun kq v5 v6 w'=>∃(b2:List (cD)) (b1:Int),v6= .int .i64 b1∧ae (eC.l0 kq l0 a1 b2 b1=some r)∧ae (kq≤k)∧ae (Kd.R fL 74 w' w.heap.size (fun _=>True) v5 b2)∧ae (Below w.heap.size w w'))
 case atStart=>exact⟨(bF),(0),oS,H',⟨Nat.le_refl _⟩,⟨oR bH⟩,⟨oB⟩⟩
 case round=>
  clear H';obtain⟨b2,b1,rfl,HA,b9,b5,HB⟩:=hrel
  cases gk with
  |zero=>exact absurd HA.out (by simp[eC.l0])
  |succ k1=>
   have H:=HA.out;clear HA;simp only[eC.l0]at H;replace H:=kU H;rcases H with⟨bL,H⟩|⟨bL,H⟩;rotate_left
   ·obtain rfl:=Option.some.inj H
    go_wp2
    go_ret
    exact⟨_,oE,oR b5,oB⟩
   obtain⟨bU,H⟩:=dw H
   by_cases c7:((aA l0 b1).f0).toList=a1.toList
   ·rw[if_pos c7]at H;have bM:(((aA l0 b1).f0).toList==a1.toList)=true:=beq_iff_eq.mpr c7;have bN:(((aA l0 b1).f0).toList !=a1.toList)=false:=bne_eq_false_iff_eq.mpr c7;clear c7;have H':=ae.mk H;clear H;have bO:(0≤(b1:Int))=True:=oT;have bP:(b1<(l0.length:Int))=True:=oT;obtain⟨bB,b7,bC,bD⟩:=ph bE HB b1 oa oa
    cases b7
    go_wp2
    go_roundg k1
    case measure=>have:=b9.out;omega
    case rel=>exact⟨(b2),(wrap64 (b1+1)),oS,H',⟨by have:=b9.out;omega⟩,⟨oR b5⟩,⟨oB⟩⟩
   rw[if_neg c7]at H;have bM:(((aA l0 b1).f0).toList==a1.toList)=false:=beq_eq_false_iff_ne.mpr c7;have bN:(((aA l0 b1).f0).toList !=a1.toList)=true:=bne_iff_ne.mpr c7;obtain⟨c8,H⟩:=jm H;have bQ:=ae.mk c8;clear c8;obtain⟨bG,cx⟩:∃y_:List (cD),y_=(b2++[(⟨(aA l0 b1).f0,(aA l0 b1).f1⟩:cD)]):=⟨_,rfl⟩;replace H:(eC.l0 k1 l0 a1 bG (wrap64 (b1+1)))=some r:=oY;have bI:=ae.mk cx;clear cx;have H':=ae.mk H;clear H;have bO:(0≤(b1:Int))=True:=oT;have bP:(b1<(l0.length:Int))=True:=oT;obtain⟨bB,b7,bC,bD⟩:=ph bE HB b1 oa oa
   cases b7
   have bV:(0≤(b1:Int))=True:=oT;have bW:(b1<(l0.length:Int))=True:=oT;obtain⟨bJ,bR,b3,b4⟩:=ec bE.out b1 oa oa;obtain rfl:bB=bJ:=(by injection bR);replace b3:=cB HB b3;replace b4:=cB HB b4
   go_wp2_with (((with_reducible refine cX (b:= .append) (xs:= #[.tmp 21,.tmp 26]) rfl ?_);at_builtin;refine Kd.iN fL (w0:=w) w.heap.size rfl (.tmp 21) (.tmp 26) 29 74 (.agg #[(.string ⟨#[]⟩),(.int .i64 0)]) 24 rfl underlying29 nj rfl (by decide) (by omega) u5 b2 (⟨(aA l0 b1).f0,(aA l0 b1).f1⟩:cD) [.string ((aA l0 b1).f0),.int .i64 ((aA l0 b1).f1)] (fun _=>True) (fun _=>False) rfl rfl ?aP (fun _ hk=>hk.elim) ?aF ?aO ?aB ?aS ?aL ?_;(case aP=>exact ll _ _ _ (⟨(aA l0 b1).f0,(aA l0 b1).f1⟩:cD));(case aB=>exact oB);(case aF=>exact(fun _ _=>trivial));(case aO=>exact(oR b5));(case aS=>exact(af oB));(case aL=>have:=bQ.out;omega);intro bX w9 ho hb hg hat;rw[←bI.out]at ho;have bK:=am (ho);replace HB:=am (hb);clear b5;clear ho hb hg hat))
   go_roundg k1
   case measure=>have:=b9.out;omega
   case rel=>exact⟨(bG),(wrap64 (b1+1)),oS,H',⟨by have:=b9.out;omega⟩,⟨oR bK⟩,⟨oB⟩⟩

def eL.l0:Nat→List Int→Int→Int→Option (Bool)
 |0,_,_,_=>none
 |k+1,x0,x1,x5=>if x5<(x0.length:Int)then(if 0≤x5 then(if(rd x0 x5)=x1 then(some true)else(eL.l0 k x0 x1 (wrap64 (x5+1))))else(none))else(some false)
def eL.f (k:Nat) (l0:List Int) (a1:Int):Option (Bool):=eL.l0 k l0 a1 0
theorem eL.calls (k:Nat) (A0:Option Addr) (c0:Nat) (l0:List Int) (a1:Int) (r:Bool) (w:World) (hr0:Kd.C (Kd.int .i64) w A0 l0.length l0) (hc0:l0.length≤c0) (h:eL.f k l0 a1=some r):
  Calls Tryz.prog 207 #[.slice A0 l0.length c0,.int .i64 a1] w fun e w'=>e= .returned (.bool r)∧fZ w w':=by
 have b5:=ae.mk hr0;have bE:=ae.mk hc0;clear hr0 hc0;unfold eL.f at h;have H:=h;clear h;have H':=ae.mk H;clear H
 go_enter func207,ntmps207
 go_wp2
 go_loopg [5] k (fun kq v5 w'=>∃(b1:Int),v5= .int .i64 b1∧ae (eL.l0 kq l0 a1 b1=some r)∧ae (kq≤k)∧fZ w w')
 case atStart=>exact⟨(0),oS,H',⟨Nat.le_refl _⟩,oD⟩
 case round=>
  clear H';obtain⟨b1,rfl,HA,b6,⟨m1,rfl⟩⟩:=hrel
  cases gk with
  |zero=>exact absurd HA.out (by simp[eL.l0])
  |succ k1=>
   have H:=HA.out;clear HA;simp only[eL.l0]at H;replace H:=kU H;rcases H with⟨b7,H⟩|⟨b7,H⟩;rotate_left
   ·obtain rfl:=Option.some.inj H
    go_wp2
    go_ret
    exact⟨oS,oD⟩
   obtain⟨bD,H⟩:=dw H
   by_cases c5:(rd l0 b1)=a1
   ·rw[if_pos c5]at H;have b8:((rd l0 b1)==a1)=true:=beq_iff_eq.mpr c5;have b9:((rd l0 b1) !=a1)=false:=bne_eq_false_iff_eq.mpr c5;clear c5;obtain rfl:=Option.some.inj H;have bB:(0≤(b1:Int))=True:=oT;have bC:(b1<(l0.length:Int))=True:=oT;obtain⟨b4,b2,b3⟩:=Kd.me b5.out b1 oa oa
    cases b2
    go_wp2
    go_ret
    exact⟨oS,oD⟩
   rw[if_neg c5]at H;have b8:((rd l0 b1)==a1)=false:=beq_eq_false_iff_ne.mpr c5;have b9:((rd l0 b1) !=a1)=true:=bne_iff_ne.mpr c5;have H':=ae.mk H;clear H;have bB:(0≤(b1:Int))=True:=oT;have bC:(b1<(l0.length:Int))=True:=oT;obtain⟨b4,b2,b3⟩:=Kd.me b5.out b1 oa oa
   cases b2
   go_wp2
   go_roundg k1
   case measure=>have:=b6.out;omega
   case rel=>exact⟨(wrap64 (b1+1)),oS,H',⟨by have:=b6.out;omega⟩,oD⟩

def dd (ino:Int):List aW→Nat→Int
 |[],_=> -1
 |x::l,i=>if x.f0=ino then(i:Int)else dd ino l (i+1)
theorem um.calls (ino a b c:Int) (A3 A4 A5:Option Addr) (n3 c3 n4 c4 n5 c5:Nat) (B:Nat) (W:World) (hB:B<W.heap.size) (hc:W.cell? ⟨B,0,none⟩=some (.int .i64 ino)):
  Calls Tryz.prog 113 #[.agg #[.int .i64 a,.int .i64 b,.int .i64 c,.slice A3 n3 c3,.slice A4 n4 c4,.slice A5 n5 c5],.pointer (some ⟨B,0,none⟩)] W fun e w'=>e= .returned (.bool (a==ino))∧Below W.heap.size W w':=by
 have hne:B≠W.heap.size:=by omega
 go_enter func113,ntmps113
 go_wp2
 all_goals(go_ret;exact⟨by simp_all,(Below.refl _ W).alloc (Nat.le_refl _) _⟩)
theorem uo (ino:Int) (l:List aW) (i:Nat) (h:∀x∈l,x.f0≠ino):dd ino l i= -1:=by
 induction l generalizing i with
 |nil=>rfl
 |cons x l ih=>rw[dd,if_neg (h x (List.mem_cons_self ..))];exact ih (i+1) (fun y hy=>h y (List.mem_cons_of_mem _ hy))
theorem wX (l:List aW) (k:Nat) (h:k<l.length):ai l (k:Int)=l[k]:=by
 simp[ai,List.getD_eq_getElem?_getD,List.getElem?_eq_getElem h]
theorem vK (ino:Int) (l:List aW) (k j:Nat) (h:k<l.length) (hit:(ai l (k:Int)).f0=ino):dd ino (l.drop k) j=(j:Int):=by
 rw[List.drop_eq_getElem_cons h,dd,if_pos (by rw[←wX l k h];exact hit)]
theorem uq (ino:Int) (l:List aW) (k j:Nat) (h:k<l.length) (hit:(ai l (k:Int)).f0≠ino):dd ino (l.drop k) j=dd ino (l.drop (k+1)) (j+1):=by
 rw[List.drop_eq_getElem_cons h,dd,if_neg (by rw[←wX l k h];exact hit)]
theorem aaH.calls (ino:Int) (A0:Option Addr) (c0:Nat) (l:List aW) (B:Nat) (w:World) (hr:k32.C w A0 l.length l) (hB:B<w.heap.size) (hc:w.cell? ⟨B,0,none⟩=some (.int .i64 ino)) (hl:l.length≤9223372036854775807):
  Calls Tryz.prog 112 #[.slice A0 l.length c0,.func (.func 113) #[] #[.pointer (some ⟨B,0,none⟩)]] w fun e w'=>e= .returned (.int .i64 (dd ino l 0))∧Below w.heap.size w w':=by
 go_enter func112,ntmps112
 go_wp2
 go_loopg [5,8] l.length (fun gg _ s8 wr=>∃kk:Nat,kk≤l.length∧l.length-kk≤gg∧s8= .int .i64 kk∧ae (Below w.heap.size w wr)∧ae (dd ino l 0=dd ino (l.drop kk) kk))
 case atStart=>exact⟨0,Nat.zero_le _,by omega,rfl,⟨Below.refl _ w⟩,⟨rfl⟩⟩
 case round=>
  obtain⟨kk,hkk,hg,rfl,BW,A⟩:=hrel
  by_cases hlt:kk<l.length
  rotate_left
  ·have hltz:¬(kk:Int)<(l.length:Int):=by omega
   obtain rfl:kk=l.length:=by omega
   go_wp2
   go_ret
   exact⟨by rw[A.out,List.drop_length];rfl,BW.out⟩
  have hltz:(kk:Int)<(l.length:Int):=by omega
  obtain⟨ad,A3,c3,A4,c4,A5,c5,e0,h0,h1,h2,h3,h4,h5,_⟩:=kX (Kd.cR hr BW.out) (kk:Int) (by omega) hltz
  cases e0
  rw[Int.toNat_natCast]at h0 h1 h2 h3 h4 h5;have hBw:B<wr.heap.size:=Nat.lt_of_lt_of_le hB BW.out.size;have hcw:wr.cell? ⟨B,0,none⟩=some (.int .i64 ino):=(BW.out.cell (p:=⟨B,0,none⟩) hB).trans hc
  by_cases hit:(ai l (kk:Int)).f0=ino
  ·have hq:((ai l (kk:Int)).f0==ino)=true:=by simpa using hit
   go_wp2_with (go_at_call 113;refine(um.calls ino _ _ _ _ _ _ _ _ _ _ _ _ B wr hBw hcw).mono ?_;rintro e w' ⟨rfl,hb'⟩)
   go_ret
   exact⟨by rw[A.out,vK ino l kk kk hlt hit];rfl,kv BW.out BW.out.size hb'⟩
  have hq:((ai l (kk:Int)).f0==ino)=false:=by simpa using hit
  go_wp2_with (go_at_call 113;refine(um.calls ino _ _ _ _ _ _ _ _ _ _ _ _ B wr hBw hcw).mono ?_;rintro e w' ⟨rfl,hb'⟩)
  go_roundg (l.length-(kk+1))
  case measure=>omega
  case rel=>exact⟨kk+1,by omega,by omega,by go_num,⟨kv BW.out BW.out.size hb'⟩,⟨by rw[A.out,uq ino l kk kk hlt hit]⟩⟩
def jj.f (k:Nat) (ah:List aW) (al a1:Int):Option Int:=if(ah.length:Int)≤9223372036854775807 then some (dd a1 ah 0)else none
theorem jj.calls (k:Nat) (bs:Option Addr) (bo:Nat) (ah:List aW) (al a1:Int) (r:Int) (w:World) (cy:Kd.C k32 w bs ah.length ah) (cA:ah.length≤bo) (h:jj.f k ah al a1=some r):
  Calls Tryz.prog 64 #[.agg #[.slice bs ah.length bo,.int .i64 al],.int .i64 a1] w fun e w'=>e= .returned (.int .i64 r)∧Below w.heap.size w w':=by
 unfold jj.f at h
 split at h
 case isFalse=>cases h
 case isTrue hl=>
 obtain rfl:=Option.some.inj h;clear h;have b1:Below w.heap.size w (w.alloc (.cells #[.slice bs ah.length bo,.int .i64 al] 26)):=(Below.refl _ w).alloc (Nat.le_refl _) _;have b2:Below w.heap.size w ((w.alloc (.cells #[.slice bs ah.length bo,.int .i64 al] 26)).alloc (.cells #[.int .i64 a1] 3)):=b1.alloc (by simp) _;have hcon:=aaH.calls a1 bs bo ah (w.heap.size+1) ((w.alloc (.cells #[.slice bs ah.length bo,.int .i64 al] 26)).alloc (.cells #[.int .i64 a1] 3)) (Kd.cR cy b2) (by simp) (by simp) (by omega);clear cy b1
 go_enter func64,ntmps64
 go_wp2_with (go_at_call 112;refine hcon.mono ?_;rintro e w' ⟨rfl,hb'⟩)
 go_ret
 exact⟨rfl,kv b2 (by simp only[World.size_alloc];omega) hb'⟩
end Go.Proofs.YtkfoopcpihmbmaaGreatDoor.P
