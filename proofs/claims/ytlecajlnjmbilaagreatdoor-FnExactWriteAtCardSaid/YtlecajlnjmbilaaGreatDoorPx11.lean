-- Printed walks.
import Derived.Test.YtlecajlnjmbilaaGreatDoorPx10
set_option linter.all false
set_option maxHeartbeats 8000000
set_option maxRecDepth 100000
namespace Go.Proofs.YtlecajlnjmbilaaGreatDoor.P
open Go.RowKit Go.Proofs.ae.au Go.Proofs.ae.ba Go.Proofs.ae.bg
attribute [local go_sem] gh gi iR iS ft fu gj gl

mutual
def bb.j0:Nat→Bool→List (bh)→Int→Option (Bool)
 |0,_,_,_=>none
 |k+1,b3,b1,b2=>if b3=true then(some false)else(bb.l0 k b1 (b1.length:Int) 0 b1 b2)
def bb.l0:Nat→List (bh)→Int→Int→List (bh)→Int→Option (Bool)
 |0,_,_,_,_,_=>none
 |k+1,b2,b5,b1,b3,b4=>if b1<b5 then(if 0≤b1 then(if b1<(b2.length:Int)then((bz.f k b3 b4 ((af b2 b1).f0)).bind fun b6=>(if((af b2 b1).f2)=b6 then(bb.l1 k b2 b5 b1 ((af b2 b1).f4) (((af b2 b1).f4).length:Int) 0 b3 b4)else(some false)))else(none))else(none))else(some true)
def bb.l1:Nat→List (bh)→Int→Int→List (eb)→Int→Int→List (bh)→Int→Option (Bool)
 |0,_,_,_,_,_,_,_,_=>none
 |k+1,b5,b6,b7,b4,b8,b3,b1,b2=>if b3<b8 then(if 0≤b3 then(if b3<(b4.length:Int)then((ek.f k b1 b2 ((al b4 b3).f1)).bind fun b9=>(if b9<0 then(some false)else(bb.l1 k b5 b6 b7 b4 b8 (wrap64 (b3+1)) b1 b2)))else(none))else(none))else(bb.l0 k b5 b6 (wrap64 (b7+1)) b1 b2)
end
def bb.f (k:Nat) (ag:List (bh)) (ak:Int):Option (Bool):=(br.f k ag ak).bind fun b1=>(if b1=true then((aU.f k ag ak).bind fun b2=>(bb.j0 k ((b2.length:Int) !=(ag.length:Int)) ag ak))else(bb.j0 k true ag ak))
def bb.T1:Bool×List (List Nat×List Nat):=(true,[([],[]),([0],[0]),([1],[1]),([2,1],[2]),([3],[3]),([4,3,3],[3,4]),([5,3],[3,5]),([3],[3]),([7,3],[3,7]),([8,3],[3,8]),([6,9,3],[3,6,9]),([3,10],[3,10])])
def bb.B1:List Nat:=[0,1,3,7,15,31,63,15,143,399,1023,2047]
theorem bb.aa6:gf .any (opsOf Tryz.f89 1)=bb.T1:=by kernel_rfl
theorem bb.ue:eL bb.T1.2 bb.B1=true:=by kernel_rfl
theorem bb.calls (k:Nat) (bj:Option Addr) (aW:Nat) (ag:List (bh)) (ak:Int) (r:Bool) (w:World) (ch:Kd.C fD w bj ag.length ag) (ck:ag.length≤aW) (h:bb.f k ag ak=some r):
  Calls Tryz.prog 89 #[.agg #[.slice bj ag.length aW,.int .i64 ak]] w fun e w'=>e= .returned (.bool r)∧Below w.heap.size w w':=by
 have gY:=Tryz.underlying28;have gZ:=Tryz.underlying58;have j1:=Tryz.underlying75;have bG:=ab.mk ch;have bH:=ab.mk ck;clear ch ck;have HB:=am (Below.refl w.heap.size w);unfold bb.f at h;have H:=h;clear h;have dC:=ab.mk H;clear H
 go_enter Tryz.func89,Tryz.ntmps89
 go_upto_region 1 with(first|((with_reducible refine ai (N:=1) rfl ?_);(try(refine bx (by rfl) ?_;dsimp only));refine di 1 #[.slice bj ag.length aW,.int .i64 ak] 28 ?_;intro b6 hg w3 hbox hb;have b2:=am (hbox);have gF:=dh hg;replace HB:=hB HB hb;clear hb hbox hg))
 (try simp only[Act.put,List.setIfInBounds_toArray,List.set_cons_zero,List.set_cons_succ])
 go_cut [18] (fun dX wc=>∃(kq:Nat) (bR:Bool),dX= .bool bR∧ab (bb.j0 kq bR ag ak=some r)∧ab (kq≤k)∧ab (wc.heap[b6]? =some (.cells #[(.slice bj ag.length aW),.int .i64 ak] 28 (0,0)))∧ab (Below w.heap.size w wc))
 case first=>
  have H:=dC.out;clear dC;replace H:=bA H;obtain⟨j2,A4,H⟩:=H
  try dsimp only at H
  replace H:=ll H;rcases H with⟨rfl,H⟩|⟨rfl,H⟩;rotate_left
  ·have H':=ab.mk H;clear H
   try go_wp2
   replace b2:=am (ao b2.out);replace HB:=am (ar HB.out);refine mq 12 (fun w'=>w'.cell? ⟨b6,0,none⟩=some (.slice bj ag.length aW)∧w'.cell? ⟨b6,1,none⟩=some (.int .i64 ak)) bb.aa6 bb.ue oH (fun hHeld av ey=> ?_);generalize w3.drew=j6 at b2 HB hHeld⊢;refine fJ 0 7 av ey hHeld ?_;refine kF 1 8 av (fun K hK=> ?_);refine lU 8 Tryz.func123 (br.calls k _ _ ag ak false _ (kC bG) bH.out A4.out) ?_;rintro e j7 ⟨rfl,hb⟩;refine⟨_,rfl,?_⟩;replace b2:=bn b2 hb;replace HB:=hB HB hb;refine fV hK 8 oH (fun hHeld=> ?_);clear hK K;refine b_ 2 9 av ?_;refine b_ 3 10 av ?_;refine fz 4 11 av ?_;refine fz 5 12 av ?_;refine fz 6 13 av ?_;refine fz 7 14 av ?_;refine fz 8 15 av ?_;refine fz 9 16 av ?_;refine fz 10 17 av ?_;refine b_ 11 18 av ?_;refine lX av ?_
   try go_wp2
   go_meet
   case rel=>exact⟨_,(true),oS,H',⟨by first|omega|exact Nat.le_refl _⟩,⟨oF b2⟩,⟨oB⟩⟩
  replace H:=bA H;obtain⟨dD,A6,H⟩:=H
  try dsimp only at H
  have H':=ab.mk H;clear H
  try go_wp2
  replace b2:=am (ao b2.out);replace HB:=am (ar HB.out);refine mq 12 (fun w'=>w'.cell? ⟨b6,0,none⟩=some (.slice bj ag.length aW)∧w'.cell? ⟨b6,1,none⟩=some (.int .i64 ak)) bb.aa6 bb.ue oH (fun hHeld av ey=> ?_);generalize w3.drew=w7 at b2 HB hHeld⊢;refine fJ 0 7 av ey hHeld ?_;refine kF 1 8 av (fun K hK=> ?_);refine lU 8 Tryz.func123 (br.calls k _ _ ag ak true _ (kC bG) bH.out A4.out) ?_;rintro e w8 ⟨rfl,hb⟩;refine⟨_,rfl,?_⟩;replace b2:=bn b2 hb;replace HB:=hB HB hb;refine fV hK 8 oH (fun hHeld=> ?_);clear hK K;refine b_ 2 9 av ?_;refine b_ 3 10 av ?_;refine b_ 7 14 av ?_;refine fJ 4 11 av ey hHeld ?_;refine fJ 8 15 av ey hHeld ?_;refine b_ 9 16 av ?_;refine kF 5 12 av (fun K hK=> ?_);refine lU 12 Tryz.func124 (aU.calls k _ _ ag ak dD _ (kC bG) bH.out A6.out) ?_;rintro e w9 ⟨j3,rfl,dY,hb⟩;refine⟨_,rfl,?_⟩;have dG:=am (Kd.ay dY (ah oB));replace b2:=bn b2 hb;replace HB:=hB HB hb;obtain⟨j4,j5,dE⟩:=Kd.ax dG.out
  (first|subst dE|(injection dE with kH nF kI;have dZ:=kH.symm;have gA:=kI.symm;clear kH nF kI;subst dZ;subst gA))
  refine fV hK 12 oH (fun hHeld=> ?_);clear hK K;refine b_ 6 13 av ?_;refine b_ 10 17 av ?_;refine b_ 11 18 av ?_;refine lX av ?_
  try go_wp2
  go_meet
  case rel=>exact⟨_,(((dD.length:Int) !=(ag.length:Int))),oS,H',⟨by first|omega|exact Nat.le_refl _⟩,⟨oF b2⟩,⟨oB⟩⟩
 case rest=>
  clear dC;obtain⟨kq,bR,rfl,HA,bU,b2,HB⟩:=hcut
  cases kq with
  |zero=>exact absurd HA.out (by simp[bb.j0])
  |succ vy=>
   have H:=HA.out;clear HA;simp only[bb.j0]at H;replace H:=ll H;rcases H with⟨rfl,H⟩|⟨rfl,H⟩
   ·obtain rfl:=Option.some.inj H
    go_wp2
    go_ret
    exact⟨oE,oB⟩
   have H':=ab.mk H;clear H;obtain⟨⟨_,_⟩,_,_⟩:=z2 b2
   go_wp2
   go_loopg [22] vy (fun kq gB w'=>∃(b1:Int),gB= .int .i64 b1∧ab (bb.l0 kq ag (ag.length:Int) b1 ag ak=some r)∧ab (kq≤vy)∧ab (w'.heap[b6]? =some (.cells #[(.slice bj ag.length aW),.int .i64 ak] 28 (0,0)))∧ab (Below w.heap.size w w'))
   case atStart=>exact⟨(0),oS,H',⟨Nat.le_refl _⟩,⟨oF b2⟩,⟨oB⟩⟩
   case round=>
    clear H';obtain⟨b1,rfl,HA,bV,b2,HB⟩:=hrel
    cases gk with
    |zero=>exact absurd HA.out (by simp[bb.l0])
    |succ k2=>
     have H:=HA.out;clear HA;simp only[bb.l0]at H;replace H:=iH H;rcases H with⟨bW,H⟩|⟨bW,H⟩;rotate_left
     ·obtain rfl:=Option.some.inj H
      go_wp2
      go_ret
      exact⟨oE,oB⟩
     obtain⟨dH,H⟩:=cU H;obtain⟨dI,H⟩:=cU H;replace H:=bA H;obtain⟨bN,dR,H⟩:=H
     try dsimp only at H
     by_cases bP:((af ag b1).f2)=bN
     rotate_left
     ·rw[if_neg bP]at H;have dJ:(((af ag b1).f2)==bN)=false:=beq_eq_false_iff_ne.mpr bP;have dK:(((af ag b1).f2) !=bN)=true:=bne_iff_ne.mpr bP;obtain rfl:=Option.some.inj H;have dT:(0≤(b1:Int))=True:=oT;have dU:(b1<(ag.length:Int))=True:=oT;obtain⟨bQ,b7,b8,b9,bB,bC,bD,bS,bY,bZ,d1,d2,d3,d4,d5,d6,d7,bO,d8,d9⟩:=fc bG HB b1 oa oa
      cases bS
      try go_wp2_with (first|((with_reducible refine ai (N:=4) rfl ?_);(try(refine bx (by rfl) ?_;dsimp only));refine di 4 #[.int .i64 0,.int .i64 0,.int .i64 0,.slice none 0 0,.slice none 0 0,.slice none 0 0] 58 ?_;intro b4 hg gC hbox hb;have b3:=am (hbox);have dL:=dh hg;have bE:=eJ hg b2;have bF:=eK hg b2;replace b2:=bn b2 hb;replace HB:=hB HB hb;clear hb hbox hg;have gG:=bF.out;have gH:=bE.out;obtain⟨⟨_,_,_,_,_,_⟩,_,_,_,_,_,_⟩:=z6 b3))
      generalize iG:((((((gC.setCell ⟨b4,0,none⟩ (.int .i64 ((af ag b1).f0))).setCell ⟨b4,1,none⟩ (.int .i64 ((af ag b1).f1))).setCell ⟨b4,2,none⟩ (.int .i64 ((af ag b1).f2))).setCell ⟨b4,3,none⟩ (.slice b7 ((af ag b1).f3).length b8)).setCell ⟨b4,4,none⟩ (.slice b9 ((af ag b1).f4).length bB)).setCell ⟨b4,5,none⟩ (.slice bC ((af ag b1).f5).length bD))=w49;replace b2:=sF iG b2;replace b3:=wi #[.int .i64 ((af ag b1).f0),.int .i64 ((af ag b1).f1),.int .i64 ((af ag b1).f2),.slice b7 ((af ag b1).f3).length b8,.slice b9 ((af ag b1).f4).length bB,.slice bC ((af ag b1).f5).length bD] iG b3;replace HB:=tG iG HB;clear iG;replace b2:=am (ao b2.out);replace b3:=am (ao b3.out);replace HB:=am (ar HB.out);refine s0_ 7 (fun w'=>w'.cell? ⟨b4,0,none⟩=some (.int .i64 ((af ag b1).f0))∧w'.cell? ⟨b4,1,none⟩=some (.int .i64 ((af ag b1).f1))∧w'.cell? ⟨b4,2,none⟩=some (.int .i64 ((af ag b1).f2))∧w'.cell? ⟨b4,3,none⟩=some (.slice b7 ((af ag b1).f3).length b8)∧w'.cell? ⟨b4,4,none⟩=some (.slice b9 ((af ag b1).f4).length bB)∧w'.cell? ⟨b4,5,none⟩=some (.slice bC ((af ag b1).f5).length bD)∧w'.cell? ⟨b6,0,none⟩=some (.slice (some bQ) ag.length aW)∧w'.cell? ⟨b6,1,none⟩=some (.int .i64 ak)) oH (fun hHeld=> ?_);generalize w49.drew=j8 at b2 b3 HB hHeld⊢;refine uN 0 26 ?_;refine uN 3 29 ?_;refine wj 1 27 hHeld ?_;refine wj 2 28 hHeld ?_;refine wj 4 30 hHeld ?_;refine o0_ 5 31 (fun K hK=> ?_);refine lU 31 Tryz.func125 (bz.calls k2 _ _ ag ak ((af ag b1).f0) bN _ (kC bG) bH.out dR.out) ?_;rintro e j9 ⟨rfl,hb⟩;refine⟨_,rfl,?_⟩;replace b2:=bn b2 hb;replace b3:=bn b3 hb;replace HB:=hB HB hb;refine fV hK 31 oH (fun hHeld=> ?_);clear hK K;refine uN 6 32 ?_;refine sd (by kernel_rfl) ?_
      try go_wp2
      go_ret
      exact⟨oE,oB⟩
     rw[if_pos bP]at H;have dJ:(((af ag b1).f2)==bN)=true:=beq_iff_eq.mpr bP;have dK:(((af ag b1).f2) !=bN)=false:=bne_eq_false_iff_eq.mpr bP;clear bP;have H':=ab.mk H;clear H;have dT:(0≤(b1:Int))=True:=oT;have dU:(b1<(ag.length:Int))=True:=oT;obtain⟨bQ,b7,b8,b9,bB,bC,bD,bS,bY,bZ,d1,d2,d3,d4,d5,d6,d7,bO,d8,d9⟩:=fc bG HB b1 oa oa
     cases bS
     try go_wp2_with (first|((with_reducible refine ai (N:=4) rfl ?_);(try(refine bx (by rfl) ?_;dsimp only));refine di 4 #[.int .i64 0,.int .i64 0,.int .i64 0,.slice none 0 0,.slice none 0 0,.slice none 0 0] 58 ?_;intro b4 hg gD hbox hb;have b3:=am (hbox);have dL:=dh hg;have bE:=eJ hg b2;have bF:=eK hg b2;replace b2:=bn b2 hb;replace HB:=hB HB hb;clear hb hbox hg;have gI:=bF.out;have gJ:=bE.out;obtain⟨⟨_,_,_,_,_,_⟩,_,_,_,_,_,_⟩:=z6 b3))
     generalize iG:((((((gD.setCell ⟨b4,0,none⟩ (.int .i64 ((af ag b1).f0))).setCell ⟨b4,1,none⟩ (.int .i64 ((af ag b1).f1))).setCell ⟨b4,2,none⟩ (.int .i64 ((af ag b1).f2))).setCell ⟨b4,3,none⟩ (.slice b7 ((af ag b1).f3).length b8)).setCell ⟨b4,4,none⟩ (.slice b9 ((af ag b1).f4).length bB)).setCell ⟨b4,5,none⟩ (.slice bC ((af ag b1).f5).length bD))=w23;replace b2:=sF iG b2;replace b3:=wi #[.int .i64 ((af ag b1).f0),.int .i64 ((af ag b1).f1),.int .i64 ((af ag b1).f2),.slice b7 ((af ag b1).f3).length b8,.slice b9 ((af ag b1).f4).length bB,.slice bC ((af ag b1).f5).length bD] iG b3;replace HB:=tG iG HB;clear iG;replace b2:=am (ao b2.out);replace b3:=am (ao b3.out);replace HB:=am (ar HB.out);refine s0_ 7 (fun w'=>w'.cell? ⟨b4,0,none⟩=some (.int .i64 ((af ag b1).f0))∧w'.cell? ⟨b4,1,none⟩=some (.int .i64 ((af ag b1).f1))∧w'.cell? ⟨b4,2,none⟩=some (.int .i64 ((af ag b1).f2))∧w'.cell? ⟨b4,3,none⟩=some (.slice b7 ((af ag b1).f3).length b8)∧w'.cell? ⟨b4,4,none⟩=some (.slice b9 ((af ag b1).f4).length bB)∧w'.cell? ⟨b4,5,none⟩=some (.slice bC ((af ag b1).f5).length bD)∧w'.cell? ⟨b6,0,none⟩=some (.slice (some bQ) ag.length aW)∧w'.cell? ⟨b6,1,none⟩=some (.int .i64 ak)) oH (fun hHeld=> ?_);generalize w23.drew=jA at b2 b3 HB hHeld⊢;refine uN 0 26 ?_;refine uN 3 29 ?_;refine wj 1 27 hHeld ?_;refine wj 2 28 hHeld ?_;refine wj 4 30 hHeld ?_;refine o0_ 5 31 (fun K hK=> ?_);refine lU 31 Tryz.func125 (bz.calls k2 _ _ ag ak ((af ag b1).f0) bN _ (kC bG) bH.out dR.out) ?_;rintro e jB ⟨rfl,hb⟩;refine⟨_,rfl,?_⟩;replace b2:=bn b2 hb;replace b3:=bn b3 hb;replace HB:=hB HB hb;refine fV hK 31 oH (fun hHeld=> ?_);clear hK K;refine uN 6 32 ?_;refine sd (by kernel_rfl) ?_;obtain⟨⟨_,_,_,_,_,_⟩,_,_,_,_,_,_⟩:=z6 b3
     try go_wp2
     go_loopg [36] k2 (fun kq gE w'=>∃(b5:Int),gE= .int .i64 b5∧ab (bb.l1 kq ag (ag.length:Int) b1 ((af ag b1).f4) (((af ag b1).f4).length:Int) b5 ag ak=some r)∧ab (kq≤k2)∧ab (w'.heap[b6]? =some (.cells #[(.slice (some bQ) ag.length aW),.int .i64 ak] 28 (0,0)))∧ab (w'.heap[b4]? =some (.cells #[.int .i64 ((af ag b1).f0),.int .i64 ((af ag b1).f1),.int .i64 ((af ag b1).f2),(.slice b7 ((af ag b1).f3).length b8),(.slice b9 ((af ag b1).f4).length bB),(.slice bC ((af ag b1).f5).length bD)] 58 (0,0)))∧ab (Below w.heap.size w w'))
     case atStart=>exact⟨(0),oS,H',⟨Nat.le_refl _⟩,⟨oF b2⟩,⟨oF b3⟩,⟨oB⟩⟩
     case round=>
      clear H'
      try clear bW
      try clear dH
      try clear dI
      try clear bP
      obtain⟨b5,rfl,HA,bX,b2,b3,HB⟩:=hrel
      cases gk with
      |zero=>exact absurd HA.out (by simp[bb.l1])
      |succ k3=>
       have H:=HA.out;clear HA;simp only[bb.l1]at H;replace H:=iH H;rcases H with⟨dM,H⟩|⟨dM,H⟩;rotate_left
       ·have H':=ab.mk H;clear H
        go_wp2
        go_roundg k3
        case measure=>have:=bU.out;have:=bV.out;have:=bX.out;omega
        case rel=>exact⟨(wrap64 (b1+1)),oS,H',⟨by have:=bU.out;have:=bV.out;have:=bX.out;omega⟩,⟨oF b2⟩,⟨oB⟩⟩
       obtain⟨gK,H⟩:=cU H;obtain⟨gL,H⟩:=cU H;replace H:=bA H;obtain⟨dF,dS,H⟩:=H
       try dsimp only at H
       replace H:=iH H;rcases H with⟨dN,H⟩|⟨dN,H⟩
       ·obtain rfl:=Option.some.inj H;have dV:(0≤(b5:Int))=True:=oT;have dW:(b5<(((af ag b1).f4).length:Int))=True:=oT;obtain⟨dO,bT,dA,dB⟩:=kp bO HB b5 oa oa
        cases bT
        go_wp2_with (first|((with_reducible refine ai (N:=6) rfl ?_);(try(refine bx (by rfl) ?_;dsimp only));refine di 6 #[.string (⟨#[]⟩:ByteArray),.int .i64 0] 75 ?_;intro dP hg jC hbox hb;have bI:=am (hbox);have dQ:=dh hg;have bJ:=eJ hg b2;have bK:=eK hg b2;have bL:=eJ hg b3;have bM:=eK hg b3;replace b2:=bn b2 hb;replace b3:=bn b3 hb;replace HB:=hB HB hb;clear hb hbox hg;have gM:=bK.out;have gN:=bJ.out;have gO:=bM.out;have gP:=bL.out;obtain⟨⟨_,_⟩,_,_⟩:=z2 bI;have gQ:=bE.out;have gR:=bF.out;obtain⟨⟨_,_⟩,_,_⟩:=z2 b2)|((with_reducible refine aj (f:=99) rfl ?_);refine eI 43 Tryz.func99 (ek.calls k3 _ _ ag ak ((al ((af ag b1).f4) b5).f1) dF _ ?fL bH.out dS.out) ?_;(case fL=>exact Kd.eg bG.out oB);rintro e jD ⟨rfl,hb⟩;refine⟨_,rfl,?_⟩;replace b2:=bn b2 hb;replace b3:=bn b3 hb;replace bI:=uM #[.string ((al ((af ag b1).f4) b5).f0),.int .i64 ((al ((af ag b1).f4) b5).f1)] bI hb;replace HB:=hB HB hb))
        go_ret
        exact⟨oE,oB⟩
       have H':=ab.mk H;clear H;have dV:(0≤(b5:Int))=True:=oT;have dW:(b5<(((af ag b1).f4).length:Int))=True:=oT;obtain⟨dO,bT,dA,dB⟩:=kp bO HB b5 oa oa
       cases bT
       go_wp2_with (first|((with_reducible refine ai (N:=6) rfl ?_);(try(refine bx (by rfl) ?_;dsimp only));refine di 6 #[.string (⟨#[]⟩:ByteArray),.int .i64 0] 75 ?_;intro dP hg jE hbox hb;have bI:=am (hbox);have dQ:=dh hg;have bJ:=eJ hg b2;have bK:=eK hg b2;have bL:=eJ hg b3;have bM:=eK hg b3;replace b2:=bn b2 hb;replace b3:=bn b3 hb;replace HB:=hB HB hb;clear hb hbox hg;have gS:=bK.out;have gT:=bJ.out;have gU:=bM.out;have gV:=bL.out;obtain⟨⟨_,_⟩,_,_⟩:=z2 bI;have gW:=bE.out;have gX:=bF.out;obtain⟨⟨_,_⟩,_,_⟩:=z2 b2)|((with_reducible refine aj (f:=99) rfl ?_);refine eI 43 Tryz.func99 (ek.calls k3 _ _ ag ak ((al ((af ag b1).f4) b5).f1) dF _ ?fL bH.out dS.out) ?_;(case fL=>exact Kd.eg bG.out oB);rintro e jF ⟨rfl,hb⟩;refine⟨_,rfl,?_⟩;replace b2:=bn b2 hb;replace b3:=bn b3 hb;replace bI:=uM #[.string ((al ((af ag b1).f4) b5).f0),.int .i64 ((al ((af ag b1).f4) b5).f1)] bI hb;replace HB:=hB HB hb))
       go_roundg k3
       case measure=>have:=bU.out;have:=bV.out;have:=bX.out;omega
       case rel=>exact⟨(wrap64 (b5+1)),oS,H',⟨by have:=bU.out;have:=bV.out;have:=bX.out;omega⟩,⟨oF b2⟩,⟨oF b3⟩,⟨oB⟩⟩

def jw.f (k:Nat) (ag:List (bh)) (ak:Int) (a1:ByteArray):Option (Int×Int×Int×List Int×(List (eb))×(List (eh))×Int):=(eO.f k ag ak a1).bind fun b2=>(if b2.2=0 then((cP.f k ag ak b2.1).bind fun b1=>(if b1.2.2.2.2.2.2=true then(some (b1.1,b1.2.1,b1.2.2.1,b1.2.2.2.1,b1.2.2.2.2.1,b1.2.2.2.2.2.1,0))else(some (0,0,0,([]:List Int),([]:List (eb)),([]:List (eh)),2))))else(some (0,0,0,([]:List Int),([]:List (eb)),([]:List (eh)),b2.2)))
theorem jw.calls (k:Nat) (bj:Option Addr) (aW:Nat) (ag:List (bh)) (ak:Int) (a1:ByteArray) (r1:Int) (r2:Int) (r3:Int) (r4:List Int) (r5:List (eb)) (r6:List (eh)) (r7:Int) (w:World) (ch:Kd.C fD w bj ag.length ag) (ck:ag.length≤aW) (h:jw.f k ag ak a1=some (r1,r2,r3,r4,r5,r6,r7)) (hG:GOk w:=by exact gk_ oB (by first|(with_reducible assumption)|assumption)):
  Calls Tryz.prog 47 #[.agg #[.slice bj ag.length aW,.int .i64 ak],.string a1] w fun e w'=>∃qd qe qf:Value,e= .returned (.tuple #[.agg #[.int .i64 r1,.int .i64 r2,.int .i64 r3,qd,qe,qf],.int .i64 r7])∧Kd.R (Kd.int .u8) 5 w' w.heap.size (fun _=>True) qd r4∧Kd.R iT 75 w' w.heap.size (fun _=>True) qe r5∧Kd.R iU 82 w' w.heap.size (fun _=>True) qf r6∧Below w.heap.size w w':=by
 have HG:=ab.mk hG;clear hG;have dR:=Tryz.underlying28;have dS:=Tryz.underlying58;have bF:=ab.mk ch;have bG:=ab.mk ck;clear ch ck;have HB:=am (Below.refl w.heap.size w);unfold jw.f at h;have H:=h;clear h;replace H:=bA H;obtain⟨⟨bI,b8⟩,A3,H⟩:=H
 try dsimp only at H
 by_cases c4:b8=0
 rotate_left
 ·rw[if_neg c4]at H;have bX:(b8==0)=false:=beq_eq_false_iff_ne.mpr c4;have bY:(b8 !=0)=true:=bne_iff_ne.mpr c4;simp only[Option.some.injEq,Prod.mk.injEq]at H;obtain⟨rfl,rfl,rfl,rfl,rfl,rfl,rfl⟩:=H
  go_enter Tryz.func47,Tryz.ntmps47
  go_wp2_with (first|((with_reducible refine ai (N:=2) rfl ?_);refine di 2 #[.slice bj ag.length aW,.int .i64 ak] 28 ?_;intro bR hg gC hbox hb;have b1:=am (hbox);have bS:=dh hg;replace HB:=hB HB hb;clear hb hbox hg)|((with_reducible refine ai (N:=4) rfl ?_);refine di 4 #[.int .i64 0,.int .i64 0,.int .i64 0,.slice none 0 0,.slice none 0 0,.slice none 0 0] 58 ?_;intro bH hg gD hbox hb;have b2:=am (hbox);have bT:=dh hg;have b3:=eJ hg b1;have b4:=eK hg b1;replace b1:=bn b1 hb;replace HB:=hB HB hb;clear hb hbox hg;have dF:=b3.out;have dG:=b4.out;obtain⟨⟨_,_⟩,_,_⟩:=z2 b1)|((with_reducible refine aj (f:=90) rfl ?_);refine eI 13 Tryz.func90 (eO.calls k _ _ ag ak a1 bI b8 _ (kC bF) bG.out A3.out) ?_;rintro e gE ⟨rfl,hb⟩;refine⟨_,rfl,?_⟩;replace b1:=bn b1 hb;replace b2:=bn b2 hb;replace HB:=hB HB hb;obtain⟨⟨_,_,_,_,_,_⟩,_,_,_,_,_,_⟩:=z6 b2))
  refine bodyPost_ret (dd rfl _ _ bH 58 #[.int .i64 0,.int .i64 0,.int .i64 0,.slice none 0 0,.slice none 0 0,.slice none 0 0] (0,0) _ rfl (oP b2) Tryz.underlying58 rfl (by kernel_rfl)) rfl ?_;exact⟨_,_,_,oE,by first|exact Kd.fy _ _ _ _ _|exact Kd.iD _ _ _ _ _|exact Kd.iE _ _ _ _ _|exact Kd.iB _ _ _ _ _|exact Kd.iC _ _ _ _ _,by first|exact Kd.fy _ _ _ _ _|exact Kd.iD _ _ _ _ _|exact Kd.iE _ _ _ _ _|exact Kd.iB _ _ _ _ _|exact Kd.iC _ _ _ _ _,by first|exact Kd.fy _ _ _ _ _|exact Kd.iD _ _ _ _ _|exact Kd.iE _ _ _ _ _|exact Kd.iB _ _ _ _ _|exact Kd.iC _ _ _ _ _,oB⟩
 rw[if_pos c4]at H;have bX:(b8==0)=true:=beq_iff_eq.mpr c4;have bY:(b8 !=0)=false:=bne_eq_false_iff_eq.mpr c4;clear c4;replace H:=bA H;obtain⟨⟨bL,bM,bN,bO,bP,bQ,dT⟩,A5,H⟩:=H
 try dsimp only at H
 replace H:=ll H;rcases H with⟨rfl,H⟩|⟨rfl,H⟩
 ·simp only[Option.some.injEq,Prod.mk.injEq]at H;obtain⟨rfl,rfl,rfl,rfl,rfl,rfl,rfl⟩:=H
  go_enter Tryz.func47,Tryz.ntmps47
  go_wp2_with (first|((with_reducible refine ai (N:=2) rfl ?_);refine di 2 #[.slice bj ag.length aW,.int .i64 ak] 28 ?_;intro bR hg w7 hbox hb;have b1:=am (hbox);have bS:=dh hg;replace HB:=hB HB hb;clear hb hbox hg)|((with_reducible refine ai (N:=4) rfl ?_);refine di 4 #[.int .i64 0,.int .i64 0,.int .i64 0,.slice none 0 0,.slice none 0 0,.slice none 0 0] 58 ?_;intro bH hg w8 hbox hb;have b2:=am (hbox);have bT:=dh hg;have b3:=eJ hg b1;have b4:=eK hg b1;replace b1:=bn b1 hb;replace HB:=hB HB hb;clear hb hbox hg;have dU:=b3.out;have dV:=b4.out;obtain⟨⟨_,_⟩,_,_⟩:=z2 b1)|((with_reducible refine aj (f:=90) rfl ?_);refine eI 13 Tryz.func90 (eO.calls k _ _ ag ak a1 bI b8 _ (kC bF) bG.out A3.out) ?_;rintro e gF ⟨rfl,hb⟩;refine⟨_,rfl,?_⟩;replace b1:=bn b1 hb;replace b2:=bn b2 hb;replace HB:=hB HB hb;obtain⟨⟨_,_⟩,_,_⟩:=z2 b1)|((with_reducible refine aj (f:=91) rfl ?_);refine eI 23 Tryz.func91 (cP.calls k _ _ ag ak bI bL bM bN bO bP bQ true _ (kC bF) bG.out A5.out) ?_;rintro e gG ⟨bZ,d1,d2,rfl,bU,bJ,bK,hb⟩;refine⟨_,rfl,?_⟩;have b5:=am (Kd.ay bU (ah oB));have b6:=am (Kd.ay bJ (ah oB));have b7:=am (Kd.ay bK (ah oB));replace b1:=bn b1 hb;replace b2:=bn b2 hb;replace HB:=hB HB hb;(try clear bJ);(try clear bK))|((with_reducible refine ai (N:=8) rfl ?_);refine di 8 #[.int .i64 0,.int .i64 0,.int .i64 0,.slice none 0 0,.slice none 0 0,.slice none 0 0] 58 ?_;intro bV hg gH hbox hb;have bE:=am (hbox);have bW:=dh hg;have b9:=eJ hg b1;have bB:=eK hg b1;have bC:=eJ hg b2;have bD:=eK hg b2;replace b5:=iI b5 hb;replace b6:=iI b6 hb;replace b7:=iI b7 hb;replace b1:=bn b1 hb;replace b2:=bn b2 hb;replace HB:=hB HB hb;clear hb hbox hg;have dH:=bB.out;have dI:=b9.out;have dJ:=bD.out;have dK:=bC.out;obtain⟨⟨_,_,_,_,_,_⟩,_,_,_,_,_,_⟩:=z6 bE;obtain⟨d3,d4,d5⟩:=Kd.ax b5.out;subst d5;obtain⟨d6,d7,d8⟩:=Kd.ax b6.out;subst d8;obtain⟨d9,dA,dB⟩:=Kd.ax b7.out;subst dB;obtain⟨⟨_,_,_,_,_,_⟩,_,_,_,_,_,_⟩:=z6 b2))
  refine bodyPost_ret (dd rfl _ _ bH 58 #[.int .i64 bL,.int .i64 bM,.int .i64 bN,.slice d3 bO.length d4,.slice d6 bP.length d7,.slice d9 bQ.length dA] (0,0) _ rfl (oP b2) Tryz.underlying58 rfl (by kernel_rfl)) rfl ?_;exact⟨_,_,_,oE,o_ b5 bE b2,o_ b6 bE b2,o_ b7 bE b2,oB⟩
 simp only[Option.some.injEq,Prod.mk.injEq]at H;obtain⟨rfl,rfl,rfl,rfl,rfl,rfl,rfl⟩:=H
 go_enter Tryz.func47,Tryz.ntmps47
 go_wp2_with (first|((with_reducible refine ai (N:=2) rfl ?_);refine di 2 #[.slice bj ag.length aW,.int .i64 ak] 28 ?_;intro bR hg gI hbox hb;have b1:=am (hbox);have bS:=dh hg;replace HB:=hB HB hb;clear hb hbox hg)|((with_reducible refine ai (N:=4) rfl ?_);refine di 4 #[.int .i64 0,.int .i64 0,.int .i64 0,.slice none 0 0,.slice none 0 0,.slice none 0 0] 58 ?_;intro bH hg gJ hbox hb;have b2:=am (hbox);have bT:=dh hg;have b3:=eJ hg b1;have b4:=eK hg b1;replace b1:=bn b1 hb;replace HB:=hB HB hb;clear hb hbox hg;have dL:=b3.out;have dM:=b4.out;obtain⟨⟨_,_⟩,_,_⟩:=z2 b1)|((with_reducible refine aj (f:=90) rfl ?_);refine eI 13 Tryz.func90 (eO.calls k _ _ ag ak a1 bI b8 _ (kC bF) bG.out A3.out) ?_;rintro e gK ⟨rfl,hb⟩;refine⟨_,rfl,?_⟩;replace b1:=bn b1 hb;replace b2:=bn b2 hb;replace HB:=hB HB hb;obtain⟨⟨_,_⟩,_,_⟩:=z2 b1)|((with_reducible refine aj (f:=91) rfl ?_);refine eI 23 Tryz.func91 (cP.calls k _ _ ag ak bI bL bM bN bO bP bQ false _ (kC bF) bG.out A5.out) ?_;rintro e gL ⟨bZ,d1,d2,rfl,bU,bJ,bK,hb⟩;refine⟨_,rfl,?_⟩;have b5:=am (Kd.ay bU (ah oB));have b6:=am (Kd.ay bJ (ah oB));have b7:=am (Kd.ay bK (ah oB));replace b1:=bn b1 hb;replace b2:=bn b2 hb;replace HB:=hB HB hb;(try clear bJ);(try clear bK))|((with_reducible refine ai (N:=8) rfl ?_);refine di 8 #[.int .i64 0,.int .i64 0,.int .i64 0,.slice none 0 0,.slice none 0 0,.slice none 0 0] 58 ?_;intro bV hg gM hbox hb;have bE:=am (hbox);have bW:=dh hg;have b9:=eJ hg b1;have bB:=eK hg b1;have bC:=eJ hg b2;have bD:=eK hg b2;replace b5:=iI b5 hb;replace b6:=iI b6 hb;replace b7:=iI b7 hb;replace b1:=bn b1 hb;replace b2:=bn b2 hb;replace HB:=hB HB hb;clear hb hbox hg;have dN:=bB.out;have dO:=b9.out;have dP:=bD.out;have dQ:=bC.out;obtain⟨⟨_,_,_,_,_,_⟩,_,_,_,_,_,_⟩:=z6 bE;obtain⟨dW,dX,dC⟩:=Kd.ax b5.out;subst dC;obtain⟨dY,dZ,dD⟩:=Kd.ax b6.out;subst dD;obtain⟨gA,gB,dE⟩:=Kd.ax b7.out;subst dE;obtain⟨⟨_,_,_,_,_,_⟩,_,_,_,_,_,_⟩:=z6 b2))
 refine bodyPost_ret (dd rfl _ _ bH 58 #[.int .i64 0,.int .i64 0,.int .i64 0,.slice none 0 0,.slice none 0 0,.slice none 0 0] (0,0) _ rfl (oP b2) Tryz.underlying58 rfl (by kernel_rfl)) rfl ?_;exact⟨_,_,_,oE,by first|exact Kd.fy _ _ _ _ _|exact Kd.iD _ _ _ _ _|exact Kd.iE _ _ _ _ _|exact Kd.iB _ _ _ _ _|exact Kd.iC _ _ _ _ _,by first|exact Kd.fy _ _ _ _ _|exact Kd.iD _ _ _ _ _|exact Kd.iE _ _ _ _ _|exact Kd.iB _ _ _ _ _|exact Kd.iC _ _ _ _ _,by first|exact Kd.fy _ _ _ _ _|exact Kd.iD _ _ _ _ _|exact Kd.iE _ _ _ _ _|exact Kd.iB _ _ _ _ _|exact Kd.iC _ _ _ _ _,oB⟩

def jx.f (k:Nat) (ag:List (bh)) (ak:Int) (a1:ByteArray):Option (Int×Int×Int×List Int×(List (eb))×(List (eh))×Int):=(jv.f k ag ak a1).bind fun b2=>(if b2.2=0 then((ff.f k ag ak b2.1).bind fun b1=>(if b1.2.2.2.2.2.2=true then(some (b1.1,b1.2.1,b1.2.2.1,b1.2.2.2.1,b1.2.2.2.2.1,b1.2.2.2.2.2.1,0))else(some (0,0,0,([]:List Int),([]:List (eb)),([]:List (eh)),2))))else(some (0,0,0,([]:List Int),([]:List (eb)),([]:List (eh)),b2.2)))
theorem jx.calls (k:Nat) (bj:Option Addr) (aW:Nat) (ag:List (bh)) (ak:Int) (a1:ByteArray) (r1:Int) (r2:Int) (r3:Int) (r4:List Int) (r5:List (eb)) (r6:List (eh)) (r7:Int) (w:World) (ch:Kd.C fD w bj ag.length ag) (ck:ag.length≤aW) (h:jx.f k ag ak a1=some (r1,r2,r3,r4,r5,r6,r7)):
  Calls Tryz.prog 42 #[.agg #[.slice bj ag.length aW,.int .i64 ak],.string a1] w fun e w'=>∃qd qe qf:Value,e= .returned (.tuple #[.agg #[.int .i64 r1,.int .i64 r2,.int .i64 r3,qd,qe,qf],.int .i64 r7])∧Kd.R (Kd.int .u8) 5 w' w.heap.size (fun _=>True) qd r4∧Kd.R iT 75 w' w.heap.size (fun _=>True) qe r5∧Kd.R iU 82 w' w.heap.size (fun _=>True) qf r6∧Below w.heap.size w w':=by
 have dR:=Tryz.underlying28;have dS:=Tryz.underlying58;have bF:=ab.mk ch;have bG:=ab.mk ck;clear ch ck;have HB:=am (Below.refl w.heap.size w);unfold jx.f at h;have H:=h;clear h;replace H:=bA H;obtain⟨⟨bI,b8⟩,A3,H⟩:=H
 try dsimp only at H
 by_cases c4:b8=0
 rotate_left
 ·rw[if_neg c4]at H;have bX:(b8==0)=false:=beq_eq_false_iff_ne.mpr c4;have bY:(b8 !=0)=true:=bne_iff_ne.mpr c4;simp only[Option.some.injEq,Prod.mk.injEq]at H;obtain⟨rfl,rfl,rfl,rfl,rfl,rfl,rfl⟩:=H
  go_enter Tryz.func42,Tryz.ntmps42
  go_wp2_with (first|((with_reducible refine ai (N:=2) rfl ?_);refine di 2 #[.slice bj ag.length aW,.int .i64 ak] 28 ?_;intro bR hg gC hbox hb;have b1:=am (hbox);have bS:=dh hg;replace HB:=hB HB hb;clear hb hbox hg)|((with_reducible refine ai (N:=4) rfl ?_);refine di 4 #[.int .i64 0,.int .i64 0,.int .i64 0,.slice none 0 0,.slice none 0 0,.slice none 0 0] 58 ?_;intro bH hg gD hbox hb;have b2:=am (hbox);have bT:=dh hg;have b3:=eJ hg b1;have b4:=eK hg b1;replace b1:=bn b1 hb;replace HB:=hB HB hb;clear hb hbox hg;have dF:=b3.out;have dG:=b4.out;obtain⟨⟨_,_⟩,_,_⟩:=z2 b1)|((with_reducible refine aj (f:=84) rfl ?_);refine eI 13 Tryz.func84 (jv.calls k _ _ ag ak a1 bI b8 _ (kC bF) bG.out A3.out) ?_;rintro e gE ⟨rfl,hb⟩;refine⟨_,rfl,?_⟩;replace b1:=bn b1 hb;replace b2:=bn b2 hb;replace HB:=hB HB hb;obtain⟨⟨_,_,_,_,_,_⟩,_,_,_,_,_,_⟩:=z6 b2))
  refine bodyPost_ret (dd rfl _ _ bH 58 #[.int .i64 0,.int .i64 0,.int .i64 0,.slice none 0 0,.slice none 0 0,.slice none 0 0] (0,0) _ rfl (oP b2) Tryz.underlying58 rfl (by kernel_rfl)) rfl ?_;exact⟨_,_,_,oE,by first|exact Kd.fy _ _ _ _ _|exact Kd.iD _ _ _ _ _|exact Kd.iE _ _ _ _ _|exact Kd.iB _ _ _ _ _|exact Kd.iC _ _ _ _ _,by first|exact Kd.fy _ _ _ _ _|exact Kd.iD _ _ _ _ _|exact Kd.iE _ _ _ _ _|exact Kd.iB _ _ _ _ _|exact Kd.iC _ _ _ _ _,by first|exact Kd.fy _ _ _ _ _|exact Kd.iD _ _ _ _ _|exact Kd.iE _ _ _ _ _|exact Kd.iB _ _ _ _ _|exact Kd.iC _ _ _ _ _,oB⟩
 rw[if_pos c4]at H;have bX:(b8==0)=true:=beq_iff_eq.mpr c4;have bY:(b8 !=0)=false:=bne_eq_false_iff_eq.mpr c4;clear c4;replace H:=bA H;obtain⟨⟨bL,bM,bN,bO,bP,bQ,dT⟩,A5,H⟩:=H
 try dsimp only at H
 replace H:=ll H;rcases H with⟨rfl,H⟩|⟨rfl,H⟩
 ·simp only[Option.some.injEq,Prod.mk.injEq]at H;obtain⟨rfl,rfl,rfl,rfl,rfl,rfl,rfl⟩:=H
  go_enter Tryz.func42,Tryz.ntmps42
  go_wp2_with (first|((with_reducible refine ai (N:=2) rfl ?_);refine di 2 #[.slice bj ag.length aW,.int .i64 ak] 28 ?_;intro bR hg w7 hbox hb;have b1:=am (hbox);have bS:=dh hg;replace HB:=hB HB hb;clear hb hbox hg)|((with_reducible refine ai (N:=4) rfl ?_);refine di 4 #[.int .i64 0,.int .i64 0,.int .i64 0,.slice none 0 0,.slice none 0 0,.slice none 0 0] 58 ?_;intro bH hg w8 hbox hb;have b2:=am (hbox);have bT:=dh hg;have b3:=eJ hg b1;have b4:=eK hg b1;replace b1:=bn b1 hb;replace HB:=hB HB hb;clear hb hbox hg;have dU:=b3.out;have dV:=b4.out;obtain⟨⟨_,_⟩,_,_⟩:=z2 b1)|((with_reducible refine aj (f:=84) rfl ?_);refine eI 13 Tryz.func84 (jv.calls k _ _ ag ak a1 bI b8 _ (kC bF) bG.out A3.out) ?_;rintro e gF ⟨rfl,hb⟩;refine⟨_,rfl,?_⟩;replace b1:=bn b1 hb;replace b2:=bn b2 hb;replace HB:=hB HB hb;obtain⟨⟨_,_⟩,_,_⟩:=z2 b1)|((with_reducible refine aj (f:=85) rfl ?_);refine eI 23 Tryz.func85 (ff.calls k _ _ ag ak bI bL bM bN bO bP bQ true _ (kC bF) bG.out A5.out) ?_;rintro e gG ⟨bZ,d1,d2,rfl,bU,bJ,bK,hb⟩;refine⟨_,rfl,?_⟩;have b5:=am (Kd.ay bU (ah oB));have b6:=am (Kd.ay bJ (ah oB));have b7:=am (Kd.ay bK (ah oB));replace b1:=bn b1 hb;replace b2:=bn b2 hb;replace HB:=hB HB hb;(try clear bJ);(try clear bK))|((with_reducible refine ai (N:=8) rfl ?_);refine di 8 #[.int .i64 0,.int .i64 0,.int .i64 0,.slice none 0 0,.slice none 0 0,.slice none 0 0] 58 ?_;intro bV hg gH hbox hb;have bE:=am (hbox);have bW:=dh hg;have b9:=eJ hg b1;have bB:=eK hg b1;have bC:=eJ hg b2;have bD:=eK hg b2;replace b5:=iI b5 hb;replace b6:=iI b6 hb;replace b7:=iI b7 hb;replace b1:=bn b1 hb;replace b2:=bn b2 hb;replace HB:=hB HB hb;clear hb hbox hg;have dH:=bB.out;have dI:=b9.out;have dJ:=bD.out;have dK:=bC.out;obtain⟨⟨_,_,_,_,_,_⟩,_,_,_,_,_,_⟩:=z6 bE;obtain⟨d3,d4,d5⟩:=Kd.ax b5.out;subst d5;obtain⟨d6,d7,d8⟩:=Kd.ax b6.out;subst d8;obtain⟨d9,dA,dB⟩:=Kd.ax b7.out;subst dB;obtain⟨⟨_,_,_,_,_,_⟩,_,_,_,_,_,_⟩:=z6 b2))
  refine bodyPost_ret (dd rfl _ _ bH 58 #[.int .i64 bL,.int .i64 bM,.int .i64 bN,.slice d3 bO.length d4,.slice d6 bP.length d7,.slice d9 bQ.length dA] (0,0) _ rfl (oP b2) Tryz.underlying58 rfl (by kernel_rfl)) rfl ?_;exact⟨_,_,_,oE,o_ b5 bE b2,o_ b6 bE b2,o_ b7 bE b2,oB⟩
 simp only[Option.some.injEq,Prod.mk.injEq]at H;obtain⟨rfl,rfl,rfl,rfl,rfl,rfl,rfl⟩:=H
 go_enter Tryz.func42,Tryz.ntmps42
 go_wp2_with (first|((with_reducible refine ai (N:=2) rfl ?_);refine di 2 #[.slice bj ag.length aW,.int .i64 ak] 28 ?_;intro bR hg gI hbox hb;have b1:=am (hbox);have bS:=dh hg;replace HB:=hB HB hb;clear hb hbox hg)|((with_reducible refine ai (N:=4) rfl ?_);refine di 4 #[.int .i64 0,.int .i64 0,.int .i64 0,.slice none 0 0,.slice none 0 0,.slice none 0 0] 58 ?_;intro bH hg gJ hbox hb;have b2:=am (hbox);have bT:=dh hg;have b3:=eJ hg b1;have b4:=eK hg b1;replace b1:=bn b1 hb;replace HB:=hB HB hb;clear hb hbox hg;have dL:=b3.out;have dM:=b4.out;obtain⟨⟨_,_⟩,_,_⟩:=z2 b1)|((with_reducible refine aj (f:=84) rfl ?_);refine eI 13 Tryz.func84 (jv.calls k _ _ ag ak a1 bI b8 _ (kC bF) bG.out A3.out) ?_;rintro e gK ⟨rfl,hb⟩;refine⟨_,rfl,?_⟩;replace b1:=bn b1 hb;replace b2:=bn b2 hb;replace HB:=hB HB hb;obtain⟨⟨_,_⟩,_,_⟩:=z2 b1)|((with_reducible refine aj (f:=85) rfl ?_);refine eI 23 Tryz.func85 (ff.calls k _ _ ag ak bI bL bM bN bO bP bQ false _ (kC bF) bG.out A5.out) ?_;rintro e gL ⟨bZ,d1,d2,rfl,bU,bJ,bK,hb⟩;refine⟨_,rfl,?_⟩;have b5:=am (Kd.ay bU (ah oB));have b6:=am (Kd.ay bJ (ah oB));have b7:=am (Kd.ay bK (ah oB));replace b1:=bn b1 hb;replace b2:=bn b2 hb;replace HB:=hB HB hb;(try clear bJ);(try clear bK))|((with_reducible refine ai (N:=8) rfl ?_);refine di 8 #[.int .i64 0,.int .i64 0,.int .i64 0,.slice none 0 0,.slice none 0 0,.slice none 0 0] 58 ?_;intro bV hg gM hbox hb;have bE:=am (hbox);have bW:=dh hg;have b9:=eJ hg b1;have bB:=eK hg b1;have bC:=eJ hg b2;have bD:=eK hg b2;replace b5:=iI b5 hb;replace b6:=iI b6 hb;replace b7:=iI b7 hb;replace b1:=bn b1 hb;replace b2:=bn b2 hb;replace HB:=hB HB hb;clear hb hbox hg;have dN:=bB.out;have dO:=b9.out;have dP:=bD.out;have dQ:=bC.out;obtain⟨⟨_,_,_,_,_,_⟩,_,_,_,_,_,_⟩:=z6 bE;obtain⟨dW,dX,dC⟩:=Kd.ax b5.out;subst dC;obtain⟨dY,dZ,dD⟩:=Kd.ax b6.out;subst dD;obtain⟨gA,gB,dE⟩:=Kd.ax b7.out;subst dE;obtain⟨⟨_,_,_,_,_,_⟩,_,_,_,_,_,_⟩:=z6 b2))
 refine bodyPost_ret (dd rfl _ _ bH 58 #[.int .i64 0,.int .i64 0,.int .i64 0,.slice none 0 0,.slice none 0 0,.slice none 0 0] (0,0) _ rfl (oP b2) Tryz.underlying58 rfl (by kernel_rfl)) rfl ?_;exact⟨_,_,_,oE,by first|exact Kd.fy _ _ _ _ _|exact Kd.iD _ _ _ _ _|exact Kd.iE _ _ _ _ _|exact Kd.iB _ _ _ _ _|exact Kd.iC _ _ _ _ _,by first|exact Kd.fy _ _ _ _ _|exact Kd.iD _ _ _ _ _|exact Kd.iE _ _ _ _ _|exact Kd.iB _ _ _ _ _|exact Kd.iC _ _ _ _ _,by first|exact Kd.fy _ _ _ _ _|exact Kd.iD _ _ _ _ _|exact Kd.iE _ _ _ _ _|exact Kd.iB _ _ _ _ _|exact Kd.iC _ _ _ _ _,oB⟩

def fv.f (k:Nat) (ag:List (bh)) (ak:Int) (pT:List (bh)) (ee:Int):Option (Bool):=(cf.f k ag pT).bind fun b1=>(if b1=true then(if ak=ee then(some true)else(some false))else(some false))
theorem fv.calls (k:Nat) (bj:Option Addr) (aW:Nat) (ag:List (bh)) (ak:Int) (aa7:Option Addr) (aa8:Nat) (pT:List (bh)) (ee:Int) (r:Bool) (w:World) (ch:Kd.C fD w bj ag.length ag) (ck:ag.length≤aW) (acx:Kd.C fD w aa7 pT.length pT) (acy:pT.length≤aa8) (h:fv.f k ag ak pT ee=some r):
  Calls Tryz.prog 14 #[.agg #[.slice bj ag.length aW,.int .i64 ak],.agg #[.slice aa7 pT.length aa8,.int .i64 ee]] w fun e w'=>e= .returned (.bool r)∧Below w.heap.size w w':=by
 have bK:=Tryz.underlying28;have b5:=ab.mk ch;have b6:=ab.mk ck;clear ch ck;have b7:=ab.mk acx;have b8:=ab.mk acy;clear acx acy;have HB:=am (Below.refl w.heap.size w);unfold fv.f at h;have H:=h;clear h;replace H:=bA H;obtain⟨bL,A3,H⟩:=H
 try dsimp only at H
 replace H:=ll H;rcases H with⟨rfl,H⟩|⟨rfl,H⟩;rotate_left
 ·obtain rfl:=Option.some.inj H
  go_enter Tryz.func14,Tryz.ntmps14
  go_wp2_with (first|((with_reducible refine ai (N:=2) rfl ?_);refine di 2 #[.slice bj ag.length aW,.int .i64 ak] 28 ?_;intro b9 hg bO hbox hb;have b1:=am (hbox);have bB:=dh hg;replace HB:=hB HB hb;clear hb hbox hg)|((with_reducible refine ai (N:=3) rfl ?_);refine di 3 #[.slice aa7 pT.length aa8,.int .i64 ee] 28 ?_;intro bC hg bP hbox hb;have b2:=am (hbox);have bD:=dh hg;have b3:=eJ hg b1;have b4:=eK hg b1;replace b1:=bn b1 hb;replace HB:=hB HB hb;clear hb hbox hg;have bG:=b3.out;have bH:=b4.out;obtain⟨⟨_,_⟩,_,_⟩:=z2 b1;obtain⟨⟨_,_⟩,_,_⟩:=z2 b2)|((with_reducible refine aj (f:=36) rfl ?_);refine eI 9 Tryz.func36 (cf.calls k _ _ ag _ _ pT false _ (kC b5) b6.out (kC b7) b8.out A3.out) ?_;rintro e bQ ⟨rfl,hb⟩;refine⟨_,rfl,?_⟩;replace b1:=bn b1 hb;replace b2:=bn b2 hb;replace HB:=hB HB hb))
  go_ret
  exact⟨oE,oB⟩
 by_cases c5:ak=ee
 rotate_left
 ·rw[if_neg c5]at H;have bE:(ak==ee)=false:=beq_eq_false_iff_ne.mpr c5;have bF:(ak !=ee)=true:=bne_iff_ne.mpr c5;obtain rfl:=Option.some.inj H
  go_enter Tryz.func14,Tryz.ntmps14
  go_wp2_with (first|((with_reducible refine ai (N:=2) rfl ?_);refine di 2 #[.slice bj ag.length aW,.int .i64 ak] 28 ?_;intro b9 hg bR hbox hb;have b1:=am (hbox);have bB:=dh hg;replace HB:=hB HB hb;clear hb hbox hg)|((with_reducible refine ai (N:=3) rfl ?_);refine di 3 #[.slice aa7 pT.length aa8,.int .i64 ee] 28 ?_;intro bC hg bS hbox hb;have b2:=am (hbox);have bD:=dh hg;have b3:=eJ hg b1;have b4:=eK hg b1;replace b1:=bn b1 hb;replace HB:=hB HB hb;clear hb hbox hg;have bI:=b3.out;have bJ:=b4.out;obtain⟨⟨_,_⟩,_,_⟩:=z2 b1;obtain⟨⟨_,_⟩,_,_⟩:=z2 b2)|((with_reducible refine aj (f:=36) rfl ?_);refine eI 9 Tryz.func36 (cf.calls k _ _ ag _ _ pT true _ (kC b5) b6.out (kC b7) b8.out A3.out) ?_;rintro e bT ⟨rfl,hb⟩;refine⟨_,rfl,?_⟩;replace b1:=bn b1 hb;replace b2:=bn b2 hb;replace HB:=hB HB hb;obtain⟨⟨_,_⟩,_,_⟩:=z2 b1;obtain⟨⟨_,_⟩,_,_⟩:=z2 b2))
  go_ret
  exact⟨oE,oB⟩
 rw[if_pos c5]at H;have bE:(ak==ee)=true:=beq_iff_eq.mpr c5;have bF:(ak !=ee)=false:=bne_eq_false_iff_eq.mpr c5;clear c5;obtain rfl:=Option.some.inj H
 go_enter Tryz.func14,Tryz.ntmps14
 go_wp2_with (first|((with_reducible refine ai (N:=2) rfl ?_);refine di 2 #[.slice bj ag.length aW,.int .i64 ak] 28 ?_;intro b9 hg w6 hbox hb;have b1:=am (hbox);have bB:=dh hg;replace HB:=hB HB hb;clear hb hbox hg)|((with_reducible refine ai (N:=3) rfl ?_);refine di 3 #[.slice aa7 pT.length aa8,.int .i64 ee] 28 ?_;intro bC hg w7 hbox hb;have b2:=am (hbox);have bD:=dh hg;have b3:=eJ hg b1;have b4:=eK hg b1;replace b1:=bn b1 hb;replace HB:=hB HB hb;clear hb hbox hg;have bM:=b3.out;have bN:=b4.out;obtain⟨⟨_,_⟩,_,_⟩:=z2 b1;obtain⟨⟨_,_⟩,_,_⟩:=z2 b2)|((with_reducible refine aj (f:=36) rfl ?_);refine eI 9 Tryz.func36 (cf.calls k _ _ ag _ _ pT true _ (kC b5) b6.out (kC b7) b8.out A3.out) ?_;rintro e bU ⟨rfl,hb⟩;refine⟨_,rfl,?_⟩;replace b1:=bn b1 hb;replace b2:=bn b2 hb;replace HB:=hB HB hb;obtain⟨⟨_,_⟩,_,_⟩:=z2 b1;obtain⟨⟨_,_⟩,_,_⟩:=z2 b2))
 go_ret
 exact⟨oE,oB⟩

def jh.f (k:Nat) (ag:List (mo)) (ak:Int) (a1:Int):Option (Int):=(cZ.f k ag a1).bind fun b1=>(if b1<0 then(some (-1))else(some b1))
theorem jh.calls (k:Nat) (bj:Option Addr) (aW:Nat) (ag:List (mo)) (ak:Int) (a1:Int) (r:Int) (w:World) (ch:Kd.C k92 w bj ag.length ag) (ck:ag.length≤aW) (h:jh.f k ag ak a1=some r):
  Calls Tryz.prog 10 #[.agg #[.slice bj ag.length aW,.int .i64 ak],.int .i64 a1] w fun e w'=>e= .returned (.int .i64 r)∧Below w.heap.size w w':=by
 have b8:=Tryz.underlying24;have b2:=ab.mk ch;have b3:=ab.mk ck;clear ch ck;have HB:=am (Below.refl w.heap.size w);unfold jh.f at h;have H:=h;clear h;replace H:=bA H;obtain⟨b4,A3,H⟩:=H
 try dsimp only at H
 replace H:=iH H;rcases H with⟨b7,H⟩|⟨b7,H⟩
 ·obtain rfl:=Option.some.inj H
  go_enter Tryz.func10,Tryz.ntmps10
  go_wp2_with (first|((with_reducible refine ai (N:=2) rfl ?_);refine di 2 #[.slice bj ag.length aW,.int .i64 ak] 24 ?_;intro b5 hg w5 hbox hb;have b1:=am (hbox);have b6:=dh hg;replace HB:=hB HB hb;clear hb hbox hg;obtain⟨⟨_,_⟩,_,_⟩:=z2 b1)|((with_reducible refine aj (f:=32) rfl ?_);refine eI 8 Tryz.func32 (cZ.calls k _ _ ag a1 b4 _ (kC b2) b3.out A3.out) ?_;rintro e w7 ⟨rfl,hb⟩;refine⟨_,rfl,?_⟩;replace b1:=bn b1 hb;replace HB:=hB HB hb))
  go_ret
  exact⟨oE,oB⟩
 obtain rfl:=Option.some.inj H
 go_enter Tryz.func10,Tryz.ntmps10
 go_wp2_with (first|((with_reducible refine ai (N:=2) rfl ?_);refine di 2 #[.slice bj ag.length aW,.int .i64 ak] 24 ?_;intro b5 hg w8 hbox hb;have b1:=am (hbox);have b6:=dh hg;replace HB:=hB HB hb;clear hb hbox hg;obtain⟨⟨_,_⟩,_,_⟩:=z2 b1)|((with_reducible refine aj (f:=32) rfl ?_);refine eI 8 Tryz.func32 (cZ.calls k _ _ ag a1 b4 _ (kC b2) b3.out A3.out) ?_;rintro e b9 ⟨rfl,hb⟩;refine⟨_,rfl,?_⟩;replace b1:=bn b1 hb;replace HB:=hB HB hb))
 go_ret
 exact⟨oE,oB⟩

def ig.f (k:Nat) (ag:List (mo)) (ak:Int):Option ((List (bh))×Int):=(cY.f k ag).bind fun b1=>(some (b1,ak))
theorem ig.calls (k:Nat) (bj:Option Addr) (aW:Nat) (ag:List (mo)) (ak:Int) (r1:List (bh)) (r2:Int) (w:World) (ch:Kd.C k92 w bj ag.length ag) (ck:ag.length≤aW) (h:ig.f k ag ak=some (r1,r2)):
  Calls Tryz.prog 12 #[.agg #[.slice bj ag.length aW,.int .i64 ak]] w fun e w'=>∃jd:Value,e= .returned (.agg #[jd,.int .i64 r2])∧Kd.S fD 58 w' w.heap.size (fun _=>True) jd r1∧Below w.heap.size w w':=by
 have bR:=Tryz.underlying24;have bS:=Tryz.underlying28;have bH:=ab.mk ch;have bI:=ab.mk ck;clear ch ck;have HB:=am (Below.refl w.heap.size w);unfold ig.f at h;have H:=h;clear h;replace H:=bA H;obtain⟨b4,A2,H⟩:=H
 try dsimp only at H
 simp only[Option.some.injEq,Prod.mk.injEq]at H;obtain⟨rfl,rfl⟩:=H
 go_enter Tryz.func12,Tryz.ntmps12
 go_wp2_with (first|((with_reducible refine ai (N:=1) rfl ?_);refine di 1 #[.slice bj ag.length aW,.int .i64 ak] 24 ?_;intro bL hg w3 hbox hb;have b1:=am (hbox);have bM:=dh hg;replace HB:=hB HB hb;clear hb hbox hg)|((with_reducible refine ai (N:=2) rfl ?_);refine di 2 #[.slice none 0 0,.int .i64 0] 28 ?_;intro b5 hg w4 hbox hb;have b2:=am (hbox);have bN:=dh hg;have b6:=eJ hg b1;have b7:=eK hg b1;replace b1:=bn b1 hb;replace HB:=hB HB hb;clear hb hbox hg)|((with_reducible refine ai (N:=3) rfl ?_);refine di 3 #[.slice none 0 0,.int .i64 0] 28 ?_;intro bF hg w5 hbox hb;have b3:=am (hbox);have bO:=dh hg;have b8:=eJ hg b1;have b9:=eK hg b1;have bB:=eJ hg b2;have bC:=eK hg b2;replace b1:=bn b1 hb;replace b2:=bn b2 hb;replace HB:=hB HB hb;clear hb hbox hg;have bT:=b6.out;have bU:=b7.out;have bV:=b8.out;have bW:=b9.out;obtain⟨⟨_,_⟩,_,_⟩:=z2 b1)|((with_reducible refine aj (f:=34) rfl ?_);refine eI 6 Tryz.func34 (cY.calls k _ _ ag b4 _ (kC bH) bI.out A2.out) ?_;rintro e w9 ⟨bX,rfl,bK,hb⟩;refine⟨_,rfl,?_⟩;have bG:=am (Kd.sG bK (ah oB));replace b1:=bn b1 hb;replace b2:=bn b2 hb;replace b3:=bn b3 hb;replace HB:=hB HB hb;obtain⟨bD,bE,bJ⟩:=Kd.im bG.out;subst bJ;have bP:=bC.out;have bQ:=bB.out;obtain⟨⟨_,_⟩,_,_⟩:=z2 b3;obtain⟨⟨_,_⟩,_,_⟩:=z2 b1;obtain⟨⟨_,_⟩,_,_⟩:=z2 b2))
 refine bodyPost_ret (results_cell_row rfl _ _ b5 28 #[.slice bD b4.length bE,.int .i64 ak] (0,0) _ rfl (oP b2) Tryz.underlying28 rfl (by kernel_rfl)) rfl ?_;exact⟨_,oE,by(with_reducible repeat(first|apply Kd.fA|apply Kd.fR|apply Kd.gm));exact Kd.eY (Kd.fK (p:=⟨b5,1,none⟩) (Kd.fK (p:=⟨b5,0,none⟩) (Kd.fK (p:=⟨bF,1,none⟩) (Kd.fK (p:=⟨bF,0,none⟩) (Kd.og (Kd.og bG.out b3.out (by decide)) b2.out (by decide)) (fun _ hk=>hk.1.2) (.slice bD b4.length bE)) (fun _ hk=>hk.1.2) (.int .i64 ak)) (fun _ hk=>hk.2) (.slice bD b4.length bE)) (fun _ hk=>hk.2) (.int .i64 ak)) (fun _ hk=>trivial),oB⟩
end Go.Proofs.YtlecajlnjmbilaaGreatDoor.P
