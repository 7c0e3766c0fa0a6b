-- Printed walks.
import Derived.Test.YtlecajlnjmbilaaGreatDoorPx11
set_option linter.all false
set_option maxHeartbeats 8000000
set_option maxRecDepth 100000
namespace Go.Proofs.YtlecajlnjmbilaaGreatDoor.P
open Go.RowKit Go.Proofs.ab.aq Go.Proofs.ab.aM Go.Proofs.ab.aT Go.Proofs.Tryz
attribute [local go_sem] gn gp iF iG fC fD gq gr

mutual
def bh.j0:Nat→Bool→List (bm)→Int→Option (Bool)
 |0,_,_,_=>none
 |k+1,b3,b1,b2=>if b3=true then(some false)else(bh.l0 k b1 (b1.length:Int) 0 b1 b2)
def bh.l0:Nat→List (bm)→Int→Int→List (bm)→Int→Option (Bool)
 |0,_,_,_,_,_=>none
 |k+1,b2,b5,b1,b3,b4=>if b1<b5 then(if 0≤b1 then(if b1<(b2.length:Int)then((b_.f k b3 b4 ((af b2 b1).f0)).bind fun b6=>(if((af b2 b1).f2)=b6 then(bh.l1 k b2 b5 b1 ((af b2 b1).f4) (((af b2 b1).f4).length:Int) 0 b3 b4)else(some false)))else(none))else(none))else(some true)
def bh.l1:Nat→List (bm)→Int→Int→List (ey)→Int→Int→List (bm)→Int→Option (Bool)
 |0,_,_,_,_,_,_,_,_=>none
 |k+1,b5,b6,b7,b4,b8,b3,b1,b2=>if b3<b8 then(if 0≤b3 then(if b3<(b4.length:Int)then((eA.f k b1 b2 ((al b4 b3).f1)).bind fun b9=>(if b9<0 then(some false)else(bh.l1 k b5 b6 b7 b4 b8 (wrap64 (b3+1)) b1 b2)))else(none))else(none))else(bh.l0 k b5 b6 (wrap64 (b7+1)) b1 b2)
end
def bh.f (k:Nat) (ag:List (bm)) (aj:Int):Option (Bool):=(bu.f k ag aj).bind fun b1=>(if b1=true then((aU.f k ag aj).bind fun b2=>(bh.j0 k ((b2.length:Int) !=(ag.length:Int)) ag aj))else(bh.j0 k true ag aj))
def bh.T1:Bool×List (List Nat×List Nat):=(true,[([],[]),([0],[0]),([1],[1]),([2,1],[2]),([3],[3]),([4,3,3],[3,4]),([5,3],[3,5]),([3],[3]),([7,3],[3,7]),([8,3],[3,8]),([6,9,3],[3,6,9]),([3,10],[3,10])])
def bh.B1:List Nat:=[0,1,3,7,15,31,63,15,143,399,1023,2047]
theorem bh.aa9:g_ .any (opsOf Tryz.f89 1)=bh.T1:=by kernel_rfl
theorem bh.uY:eX bh.T1.2 bh.B1=true:=by kernel_rfl
theorem bh.calls (k:Nat) (bo:Option Addr) (bg:Nat) (ag:List (bm)) (aj:Int) (r:Bool) (w:World) (cv:Kd.C fN w bo ag.length ag) (cA:ag.length≤bg) (h:bh.f k ag aj=some r):
  Calls Tryz.prog 89 #[.agg #[.slice bo ag.length bg,.int .i64 aj]] w fun e w'=>e= .returned (.bool r)∧Below w.heap.size w w':=by
 have gY:=underlying28;have gZ:=underlying58;have j1:=underlying75;have bG:=ae.mk cv;have bH:=ae.mk cA;clear cv cA;have HB:=am (Below.refl w.heap.size w);unfold bh.f at h;have H:=h;clear h;have dC:=ae.mk H;clear H
 go_enter func89,ntmps89
 go_upto_region 1 with(first|((with_reducible refine ai (N:=1) rfl ?_);(try(refine aW (by rfl) ?_;dsimp only));refine eh 1 #[.slice bo ag.length bg,.int .i64 aj] 28 ?_;intro b6 hg w3 hbox hb;have b2:=am (hbox);have gF:=eg hg;replace HB:=hB HB hb;clear hb hbox hg))
 (try simp only[Act.put,List.setIfInBounds_toArray,List.set_cons_zero,List.set_cons_succ])
 go_cut [18] (fun dX wc=>∃(kq:Nat) (bR:Bool),dX= .bool bR∧ae (bh.j0 kq bR ag aj=some r)∧ae (kq≤k)∧ae (wc.heap[b6]? =some (.cells #[(.slice bo ag.length bg),.int .i64 aj] 28 (0,0)))∧ae (Below w.heap.size w wc))
 case first=>
  have H:=dC.out;clear dC;replace H:=bA H;obtain⟨j2,A4,H⟩:=H
  try dsimp only at H
  replace H:=kN H;rcases H with⟨rfl,H⟩|⟨rfl,H⟩;rotate_left
  ·have H':=ae.mk H;clear H
   try go_wp2
   replace b2:=am (ar b2.out);replace HB:=am (au HB.out);refine mb 12 (fun w'=>w'.cell? ⟨b6,0,none⟩=some (.slice bo ag.length bg)∧w'.cell? ⟨b6,1,none⟩=some (.int .i64 aj)) bh.aa9 bh.uY oH (fun hHeld av eH=> ?_);generalize w3.drew=j6 at b2 HB hHeld⊢;refine fO 0 7 av eH hHeld ?_;refine kQ 1 8 av (fun K hK=> ?_);refine l_ 8 func123 (bu.calls k _ _ ag aj false _ (kC bG) bH.out A4.out) ?_;rintro e j7 ⟨rfl,hb⟩;refine⟨_,rfl,?_⟩;replace b2:=aQ b2 hb;replace HB:=hB HB hb;refine eP hK 8 oH (fun hHeld=> ?_);clear hK K;refine bx 2 9 av ?_;refine bx 3 10 av ?_;refine fF 4 11 av ?_;refine fF 5 12 av ?_;refine fF 6 13 av ?_;refine fF 7 14 av ?_;refine fF 8 15 av ?_;refine fF 9 16 av ?_;refine fF 10 17 av ?_;refine bx 11 18 av ?_;refine lZ av ?_
   try go_wp2
   go_meet
   case rel=>exact⟨_,(true),oS,H',⟨by first|omega|exact Nat.le_refl _⟩,⟨oF b2⟩,⟨oB⟩⟩
  replace H:=bA H;obtain⟨dD,A6,H⟩:=H
  try dsimp only at H
  have H':=ae.mk H;clear H
  try go_wp2
  replace b2:=am (ar b2.out);replace HB:=am (au HB.out);refine mb 12 (fun w'=>w'.cell? ⟨b6,0,none⟩=some (.slice bo ag.length bg)∧w'.cell? ⟨b6,1,none⟩=some (.int .i64 aj)) bh.aa9 bh.uY oH (fun hHeld av eH=> ?_);generalize w3.drew=w7 at b2 HB hHeld⊢;refine fO 0 7 av eH hHeld ?_;refine kQ 1 8 av (fun K hK=> ?_);refine l_ 8 func123 (bu.calls k _ _ ag aj true _ (kC bG) bH.out A4.out) ?_;rintro e w8 ⟨rfl,hb⟩;refine⟨_,rfl,?_⟩;replace b2:=aQ b2 hb;replace HB:=hB HB hb;refine eP hK 8 oH (fun hHeld=> ?_);clear hK K;refine bx 2 9 av ?_;refine bx 3 10 av ?_;refine bx 7 14 av ?_;refine fO 4 11 av eH hHeld ?_;refine fO 8 15 av eH hHeld ?_;refine bx 9 16 av ?_;refine kQ 5 12 av (fun K hK=> ?_);refine l_ 12 func124 (aU.calls k _ _ ag aj dD _ (kC bG) bH.out A6.out) ?_;rintro e w9 ⟨j3,rfl,dY,hb⟩;refine⟨_,rfl,?_⟩;have dG:=am (Kd.aw dY (ah oB));replace b2:=aQ b2 hb;replace HB:=hB HB hb;obtain⟨j4,j5,dE⟩:=Kd.ax dG.out
  (first|subst dE|(injection dE with kL nA kM;have dZ:=kL.symm;have gA:=kM.symm;clear kL nA kM;subst dZ;subst gA))
  refine eP hK 12 oH (fun hHeld=> ?_);clear hK K;refine bx 6 13 av ?_;refine bx 10 17 av ?_;refine bx 11 18 av ?_;refine lZ av ?_
  try go_wp2
  go_meet
  case rel=>exact⟨_,(((dD.length:Int) !=(ag.length:Int))),oS,H',⟨by first|omega|exact Nat.le_refl _⟩,⟨oF b2⟩,⟨oB⟩⟩
 case rest=>
  clear dC;obtain⟨kq,bR,rfl,HA,bU,b2,HB⟩:=hcut
  cases kq with
  |zero=>exact absurd HA.out (by simp[bh.j0])
  |succ wm=>
   have H:=HA.out;clear HA;simp only[bh.j0]at H;replace H:=kN H;rcases H with⟨rfl,H⟩|⟨rfl,H⟩
   ·obtain rfl:=Option.some.inj H
    go_wp2
    go_ret
    exact⟨oE,oB⟩
   have H':=ae.mk H;clear H;obtain⟨⟨_,_⟩,_,_⟩:=z2 b2
   go_wp2
   go_loopg [22] wm (fun kq gB w'=>∃(b1:Int),gB= .int .i64 b1∧ae (bh.l0 kq ag (ag.length:Int) b1 ag aj=some r)∧ae (kq≤wm)∧ae (w'.heap[b6]? =some (.cells #[(.slice bo ag.length bg),.int .i64 aj] 28 (0,0)))∧ae (Below w.heap.size w w'))
   case atStart=>exact⟨(0),oS,H',⟨Nat.le_refl _⟩,⟨oF b2⟩,⟨oB⟩⟩
   case round=>
    clear H';obtain⟨b1,rfl,HA,bV,b2,HB⟩:=hrel
    cases gk with
    |zero=>exact absurd HA.out (by simp[bh.l0])
    |succ k2=>
     have H:=HA.out;clear HA;simp only[bh.l0]at H;replace H:=iM H;rcases H with⟨bW,H⟩|⟨bW,H⟩;rotate_left
     ·obtain rfl:=Option.some.inj H
      go_wp2
      go_ret
      exact⟨oE,oB⟩
     obtain⟨dH,H⟩:=cO H;obtain⟨dI,H⟩:=cO H;replace H:=bA H;obtain⟨bN,dR,H⟩:=H
     try dsimp only at H
     by_cases bP:((af ag b1).f2)=bN
     rotate_left
     ·rw[if_neg bP]at H;have dJ:(((af ag b1).f2)==bN)=false:=beq_eq_false_iff_ne.mpr bP;have dK:(((af ag b1).f2) !=bN)=true:=bne_iff_ne.mpr bP;obtain rfl:=Option.some.inj H;have dT:(0≤(b1:Int))=True:=oT;have dU:(b1<(ag.length:Int))=True:=oT;obtain⟨bQ,b7,b8,b9,bB,bC,bD,bS,bY,bZ,d1,d2,d3,d4,d5,d6,d7,bO,d8,d9⟩:=fw bG HB b1 oa oa
      cases bS
      try go_wp2_with (first|((with_reducible refine ai (N:=4) rfl ?_);(try(refine aW (by rfl) ?_;dsimp only));refine eh 4 #[.int .i64 0,.int .i64 0,.int .i64 0,.slice none 0 0,.slice none 0 0,.slice none 0 0] 58 ?_;intro b4 hg gC hbox hb;have b3:=am (hbox);have dL:=eg hg;have bE:=eY hg b2;have bF:=eZ hg b2;replace b2:=aQ b2 hb;replace HB:=hB HB hb;clear hb hbox hg;have gG:=bF.out;have gH:=bE.out;obtain⟨⟨_,_,_,_,_,_⟩,_,_,_,_,_,_⟩:=z6 b3))
      generalize jy:((((((gC.setCell ⟨b4,0,none⟩ (.int .i64 ((af ag b1).f0))).setCell ⟨b4,1,none⟩ (.int .i64 ((af ag b1).f1))).setCell ⟨b4,2,none⟩ (.int .i64 ((af ag b1).f2))).setCell ⟨b4,3,none⟩ (.slice b7 ((af ag b1).f3).length b8)).setCell ⟨b4,4,none⟩ (.slice b9 ((af ag b1).f4).length bB)).setCell ⟨b4,5,none⟩ (.slice bC ((af ag b1).f5).length bD))=w49;replace b2:=w_ jy b2;replace b3:=xa #[.int .i64 ((af ag b1).f0),.int .i64 ((af ag b1).f1),.int .i64 ((af ag b1).f2),.slice b7 ((af ag b1).f3).length b8,.slice b9 ((af ag b1).f4).length bB,.slice bC ((af ag b1).f5).length bD] jy b3;replace HB:=xb jy HB;clear jy;replace b2:=am (ar b2.out);replace b3:=am (ar b3.out);replace HB:=am (au HB.out);refine s0_ 7 (fun w'=>w'.cell? ⟨b4,0,none⟩=some (.int .i64 ((af ag b1).f0))∧w'.cell? ⟨b4,1,none⟩=some (.int .i64 ((af ag b1).f1))∧w'.cell? ⟨b4,2,none⟩=some (.int .i64 ((af ag b1).f2))∧w'.cell? ⟨b4,3,none⟩=some (.slice b7 ((af ag b1).f3).length b8)∧w'.cell? ⟨b4,4,none⟩=some (.slice b9 ((af ag b1).f4).length bB)∧w'.cell? ⟨b4,5,none⟩=some (.slice bC ((af ag b1).f5).length bD)∧w'.cell? ⟨b6,0,none⟩=some (.slice (some bQ) ag.length bg)∧w'.cell? ⟨b6,1,none⟩=some (.int .i64 aj)) oH (fun hHeld=> ?_);generalize w49.drew=j8 at b2 b3 HB hHeld⊢;refine uu 0 26 ?_;refine uu 3 29 ?_;refine vI 1 27 hHeld ?_;refine vI 2 28 hHeld ?_;refine vI 4 30 hHeld ?_;refine o0_ 5 31 (fun K hK=> ?_);refine l_ 31 func125 (b_.calls k2 _ _ ag aj ((af ag b1).f0) bN _ (kC bG) bH.out dR.out) ?_;rintro e j9 ⟨rfl,hb⟩;refine⟨_,rfl,?_⟩;replace b2:=aQ b2 hb;replace b3:=aQ b3 hb;replace HB:=hB HB hb;refine eP hK 31 oH (fun hHeld=> ?_);clear hK K;refine uu 6 32 ?_;refine ra (by kernel_rfl) ?_
      try go_wp2
      go_ret
      exact⟨oE,oB⟩
     rw[if_pos bP]at H;have dJ:(((af ag b1).f2)==bN)=true:=beq_iff_eq.mpr bP;have dK:(((af ag b1).f2) !=bN)=false:=bne_eq_false_iff_eq.mpr bP;clear bP;have H':=ae.mk H;clear H;have dT:(0≤(b1:Int))=True:=oT;have dU:(b1<(ag.length:Int))=True:=oT;obtain⟨bQ,b7,b8,b9,bB,bC,bD,bS,bY,bZ,d1,d2,d3,d4,d5,d6,d7,bO,d8,d9⟩:=fw bG HB b1 oa oa
     cases bS
     try go_wp2_with (first|((with_reducible refine ai (N:=4) rfl ?_);(try(refine aW (by rfl) ?_;dsimp only));refine eh 4 #[.int .i64 0,.int .i64 0,.int .i64 0,.slice none 0 0,.slice none 0 0,.slice none 0 0] 58 ?_;intro b4 hg gD hbox hb;have b3:=am (hbox);have dL:=eg hg;have bE:=eY hg b2;have bF:=eZ hg b2;replace b2:=aQ b2 hb;replace HB:=hB HB hb;clear hb hbox hg;have gI:=bF.out;have gJ:=bE.out;obtain⟨⟨_,_,_,_,_,_⟩,_,_,_,_,_,_⟩:=z6 b3))
     generalize jy:((((((gD.setCell ⟨b4,0,none⟩ (.int .i64 ((af ag b1).f0))).setCell ⟨b4,1,none⟩ (.int .i64 ((af ag b1).f1))).setCell ⟨b4,2,none⟩ (.int .i64 ((af ag b1).f2))).setCell ⟨b4,3,none⟩ (.slice b7 ((af ag b1).f3).length b8)).setCell ⟨b4,4,none⟩ (.slice b9 ((af ag b1).f4).length bB)).setCell ⟨b4,5,none⟩ (.slice bC ((af ag b1).f5).length bD))=w23;replace b2:=w_ jy b2;replace b3:=xa #[.int .i64 ((af ag b1).f0),.int .i64 ((af ag b1).f1),.int .i64 ((af ag b1).f2),.slice b7 ((af ag b1).f3).length b8,.slice b9 ((af ag b1).f4).length bB,.slice bC ((af ag b1).f5).length bD] jy b3;replace HB:=xb jy HB;clear jy;replace b2:=am (ar b2.out);replace b3:=am (ar b3.out);replace HB:=am (au HB.out);refine s0_ 7 (fun w'=>w'.cell? ⟨b4,0,none⟩=some (.int .i64 ((af ag b1).f0))∧w'.cell? ⟨b4,1,none⟩=some (.int .i64 ((af ag b1).f1))∧w'.cell? ⟨b4,2,none⟩=some (.int .i64 ((af ag b1).f2))∧w'.cell? ⟨b4,3,none⟩=some (.slice b7 ((af ag b1).f3).length b8)∧w'.cell? ⟨b4,4,none⟩=some (.slice b9 ((af ag b1).f4).length bB)∧w'.cell? ⟨b4,5,none⟩=some (.slice bC ((af ag b1).f5).length bD)∧w'.cell? ⟨b6,0,none⟩=some (.slice (some bQ) ag.length bg)∧w'.cell? ⟨b6,1,none⟩=some (.int .i64 aj)) oH (fun hHeld=> ?_);generalize w23.drew=jA at b2 b3 HB hHeld⊢;refine uu 0 26 ?_;refine uu 3 29 ?_;refine vI 1 27 hHeld ?_;refine vI 2 28 hHeld ?_;refine vI 4 30 hHeld ?_;refine o0_ 5 31 (fun K hK=> ?_);refine l_ 31 func125 (b_.calls k2 _ _ ag aj ((af ag b1).f0) bN _ (kC bG) bH.out dR.out) ?_;rintro e jB ⟨rfl,hb⟩;refine⟨_,rfl,?_⟩;replace b2:=aQ b2 hb;replace b3:=aQ b3 hb;replace HB:=hB HB hb;refine eP hK 31 oH (fun hHeld=> ?_);clear hK K;refine uu 6 32 ?_;refine ra (by kernel_rfl) ?_;obtain⟨⟨_,_,_,_,_,_⟩,_,_,_,_,_,_⟩:=z6 b3
     try go_wp2
     go_loopg [36] k2 (fun kq gE w'=>∃(b5:Int),gE= .int .i64 b5∧ae (bh.l1 kq ag (ag.length:Int) b1 ((af ag b1).f4) (((af ag b1).f4).length:Int) b5 ag aj=some r)∧ae (kq≤k2)∧ae (w'.heap[b6]? =some (.cells #[(.slice (some bQ) ag.length bg),.int .i64 aj] 28 (0,0)))∧ae (w'.heap[b4]? =some (.cells #[.int .i64 ((af ag b1).f0),.int .i64 ((af ag b1).f1),.int .i64 ((af ag b1).f2),(.slice b7 ((af ag b1).f3).length b8),(.slice b9 ((af ag b1).f4).length bB),(.slice bC ((af ag b1).f5).length bD)] 58 (0,0)))∧ae (Below w.heap.size w w'))
     case atStart=>exact⟨(0),oS,H',⟨Nat.le_refl _⟩,⟨oF b2⟩,⟨oF b3⟩,⟨oB⟩⟩
     case round=>
      clear H'
      try clear bW
      try clear dH
      try clear dI
      try clear bP
      obtain⟨b5,rfl,HA,bX,b2,b3,HB⟩:=hrel
      cases gk with
      |zero=>exact absurd HA.out (by simp[bh.l1])
      |succ k3=>
       have H:=HA.out;clear HA;simp only[bh.l1]at H;replace H:=iM H;rcases H with⟨dM,H⟩|⟨dM,H⟩;rotate_left
       ·have H':=ae.mk H;clear H
        go_wp2
        go_roundg k3
        case measure=>have:=bU.out;have:=bV.out;have:=bX.out;omega
        case rel=>exact⟨(wrap64 (b1+1)),oS,H',⟨by have:=bU.out;have:=bV.out;have:=bX.out;omega⟩,⟨oF b2⟩,⟨oB⟩⟩
       obtain⟨gK,H⟩:=cO H;obtain⟨gL,H⟩:=cO H;replace H:=bA H;obtain⟨dF,dS,H⟩:=H
       try dsimp only at H
       replace H:=iM H;rcases H with⟨dN,H⟩|⟨dN,H⟩
       ·obtain rfl:=Option.some.inj H;have dV:(0≤(b5:Int))=True:=oT;have dW:(b5<(((af ag b1).f4).length:Int))=True:=oT;obtain⟨dO,bT,dA,dB⟩:=ky bO HB b5 oa oa
        cases bT
        go_wp2_with (first|((with_reducible refine ai (N:=6) rfl ?_);(try(refine aW (by rfl) ?_;dsimp only));refine eh 6 #[.string (⟨#[]⟩:ByteArray),.int .i64 0] 75 ?_;intro dP hg jC hbox hb;have bI:=am (hbox);have dQ:=eg hg;have bJ:=eY hg b2;have bK:=eZ hg b2;have bL:=eY hg b3;have bM:=eZ hg b3;replace b2:=aQ b2 hb;replace b3:=aQ b3 hb;replace HB:=hB HB hb;clear hb hbox hg;have gM:=bK.out;have gN:=bJ.out;have gO:=bM.out;have gP:=bL.out;obtain⟨⟨_,_⟩,_,_⟩:=z2 bI;have gQ:=bE.out;have gR:=bF.out;obtain⟨⟨_,_⟩,_,_⟩:=z2 b2)|((with_reducible refine ak (f:=99) rfl ?_);refine fe 43 func99 (eA.calls k3 _ _ ag aj ((al ((af ag b1).f4) b5).f1) dF _ ?fl bH.out dS.out) ?_;(case fl=>exact Kd.de bG.out oB);rintro e jD ⟨rfl,hb⟩;refine⟨_,rfl,?_⟩;replace b2:=aQ b2 hb;replace b3:=aQ b3 hb;replace bI:=oo #[.string ((al ((af ag b1).f4) b5).f0),.int .i64 ((al ((af ag b1).f4) b5).f1)] bI hb;replace HB:=hB HB hb))
        go_ret
        exact⟨oE,oB⟩
       have H':=ae.mk H;clear H;have dV:(0≤(b5:Int))=True:=oT;have dW:(b5<(((af ag b1).f4).length:Int))=True:=oT;obtain⟨dO,bT,dA,dB⟩:=ky bO HB b5 oa oa
       cases bT
       go_wp2_with (first|((with_reducible refine ai (N:=6) rfl ?_);(try(refine aW (by rfl) ?_;dsimp only));refine eh 6 #[.string (⟨#[]⟩:ByteArray),.int .i64 0] 75 ?_;intro dP hg jE hbox hb;have bI:=am (hbox);have dQ:=eg hg;have bJ:=eY hg b2;have bK:=eZ hg b2;have bL:=eY hg b3;have bM:=eZ hg b3;replace b2:=aQ b2 hb;replace b3:=aQ b3 hb;replace HB:=hB HB hb;clear hb hbox hg;have gS:=bK.out;have gT:=bJ.out;have gU:=bM.out;have gV:=bL.out;obtain⟨⟨_,_⟩,_,_⟩:=z2 bI;have gW:=bE.out;have gX:=bF.out;obtain⟨⟨_,_⟩,_,_⟩:=z2 b2)|((with_reducible refine ak (f:=99) rfl ?_);refine fe 43 func99 (eA.calls k3 _ _ ag aj ((al ((af ag b1).f4) b5).f1) dF _ ?fl bH.out dS.out) ?_;(case fl=>exact Kd.de bG.out oB);rintro e jF ⟨rfl,hb⟩;refine⟨_,rfl,?_⟩;replace b2:=aQ b2 hb;replace b3:=aQ b3 hb;replace bI:=oo #[.string ((al ((af ag b1).f4) b5).f0),.int .i64 ((al ((af ag b1).f4) b5).f1)] bI hb;replace HB:=hB HB hb))
       go_roundg k3
       case measure=>have:=bU.out;have:=bV.out;have:=bX.out;omega
       case rel=>exact⟨(wrap64 (b5+1)),oS,H',⟨by have:=bU.out;have:=bV.out;have:=bX.out;omega⟩,⟨oF b2⟩,⟨oF b3⟩,⟨oB⟩⟩

def ij.f (k:Nat) (ag:List (bm)) (aj:Int) (a1:ByteArray):Option (Int×Int×Int×List Int×(List (ey))×(List (ct))×Int):=(fg.f k ag aj a1).bind fun b2=>(if b2.2=0 then((cP.f k ag aj b2.1).bind fun b1=>(if b1.2.2.2.2.2.2=true then(some (b1.1,b1.2.1,b1.2.2.1,b1.2.2.2.1,b1.2.2.2.2.1,b1.2.2.2.2.2.1,0))else(some (0,0,0,([]:List Int),([]:List (ey)),([]:List (ct)),2))))else(some (0,0,0,([]:List Int),([]:List (ey)),([]:List (ct)),b2.2)))
theorem ij.calls (k:Nat) (bo:Option Addr) (bg:Nat) (ag:List (bm)) (aj:Int) (a1:ByteArray) (r1:Int) (r2:Int) (r3:Int) (r4:List Int) (r5:List (ey)) (r6:List (ct)) (r7:Int) (w:World) (cv:Kd.C fN w bo ag.length ag) (cA:ag.length≤bg) (h:ij.f k ag aj a1=some (r1,r2,r3,r4,r5,r6,r7)) (hG:GOk w:=by exact gk_ oB (by first|(with_reducible assumption)|assumption)):
  Calls Tryz.prog 47 #[.agg #[.slice bo ag.length bg,.int .i64 aj],.string a1] w fun e w'=>∃sO sP sQ:Value,e= .returned (.tuple #[.agg #[.int .i64 r1,.int .i64 r2,.int .i64 r3,sO,sP,sQ],.int .i64 r7])∧Kd.R (Kd.int .u8) 5 w' w.heap.size (fun _=>True) sO r4∧Kd.R jc 75 w' w.heap.size (fun _=>True) sP r5∧Kd.R fa 82 w' w.heap.size (fun _=>True) sQ r6∧Below w.heap.size w w':=by
 have HG:=ae.mk hG;clear hG;have dR:=underlying28;have dS:=underlying58;have bF:=ae.mk cv;have bG:=ae.mk cA;clear cv cA;have HB:=am (Below.refl w.heap.size w);unfold ij.f at h;have H:=h;clear h;replace H:=bA H;obtain⟨⟨bI,b8⟩,A3,H⟩:=H
 try dsimp only at H
 by_cases c4:b8=0
 rotate_left
 ·rw[if_neg c4]at H;have bX:(b8==0)=false:=beq_eq_false_iff_ne.mpr c4;have bY:(b8 !=0)=true:=bne_iff_ne.mpr c4;simp only[Option.some.injEq,Prod.mk.injEq]at H;obtain⟨rfl,rfl,rfl,rfl,rfl,rfl,rfl⟩:=H
  go_enter func47,ntmps47
  go_wp2_with (first|((with_reducible refine ai (N:=2) rfl ?_);refine eh 2 #[.slice bo ag.length bg,.int .i64 aj] 28 ?_;intro bR hg gC hbox hb;have b1:=am (hbox);have bS:=eg hg;replace HB:=hB HB hb;clear hb hbox hg)|((with_reducible refine ai (N:=4) rfl ?_);refine eh 4 #[.int .i64 0,.int .i64 0,.int .i64 0,.slice none 0 0,.slice none 0 0,.slice none 0 0] 58 ?_;intro bH hg gD hbox hb;have b2:=am (hbox);have bT:=eg hg;have b3:=eY hg b1;have b4:=eZ hg b1;replace b1:=aQ b1 hb;replace HB:=hB HB hb;clear hb hbox hg;have dF:=b3.out;have dG:=b4.out;obtain⟨⟨_,_⟩,_,_⟩:=z2 b1)|((with_reducible refine ak (f:=90) rfl ?_);refine fe 13 func90 (fg.calls k _ _ ag aj a1 bI b8 _ (kC bF) bG.out A3.out) ?_;rintro e gE ⟨rfl,hb⟩;refine⟨_,rfl,?_⟩;replace b1:=aQ b1 hb;replace b2:=aQ b2 hb;replace HB:=hB HB hb;obtain⟨⟨_,_,_,_,_,_⟩,_,_,_,_,_,_⟩:=z6 b2))
  refine bodyPost_ret (ek rfl _ _ bH 58 #[.int .i64 0,.int .i64 0,.int .i64 0,.slice none 0 0,.slice none 0 0,.slice none 0 0] (0,0) _ rfl (oP b2) underlying58 rfl (by kernel_rfl)) rfl ?_;exact⟨_,_,_,oE,by first|exact Kd.gv _ _ _ _ _|exact Kd.jj _ _ _ _ _|exact Kd.jk _ _ _ _ _|exact Kd.jg _ _ _ _ _|exact Kd.ji _ _ _ _ _,by first|exact Kd.gv _ _ _ _ _|exact Kd.jj _ _ _ _ _|exact Kd.jk _ _ _ _ _|exact Kd.jg _ _ _ _ _|exact Kd.ji _ _ _ _ _,by first|exact Kd.gv _ _ _ _ _|exact Kd.jj _ _ _ _ _|exact Kd.jk _ _ _ _ _|exact Kd.jg _ _ _ _ _|exact Kd.ji _ _ _ _ _,oB⟩
 rw[if_pos c4]at H;have bX:(b8==0)=true:=beq_iff_eq.mpr c4;have bY:(b8 !=0)=false:=bne_eq_false_iff_eq.mpr c4;clear c4;replace H:=bA H;obtain⟨⟨bL,bM,bN,bO,bP,bQ,dT⟩,A5,H⟩:=H
 try dsimp only at H
 replace H:=kN H;rcases H with⟨rfl,H⟩|⟨rfl,H⟩
 ·simp only[Option.some.injEq,Prod.mk.injEq]at H;obtain⟨rfl,rfl,rfl,rfl,rfl,rfl,rfl⟩:=H
  go_enter func47,ntmps47
  go_wp2_with (first|((with_reducible refine ai (N:=2) rfl ?_);refine eh 2 #[.slice bo ag.length bg,.int .i64 aj] 28 ?_;intro bR hg w7 hbox hb;have b1:=am (hbox);have bS:=eg hg;replace HB:=hB HB hb;clear hb hbox hg)|((with_reducible refine ai (N:=4) rfl ?_);refine eh 4 #[.int .i64 0,.int .i64 0,.int .i64 0,.slice none 0 0,.slice none 0 0,.slice none 0 0] 58 ?_;intro bH hg w8 hbox hb;have b2:=am (hbox);have bT:=eg hg;have b3:=eY hg b1;have b4:=eZ hg b1;replace b1:=aQ b1 hb;replace HB:=hB HB hb;clear hb hbox hg;have dU:=b3.out;have dV:=b4.out;obtain⟨⟨_,_⟩,_,_⟩:=z2 b1)|((with_reducible refine ak (f:=90) rfl ?_);refine fe 13 func90 (fg.calls k _ _ ag aj a1 bI b8 _ (kC bF) bG.out A3.out) ?_;rintro e gF ⟨rfl,hb⟩;refine⟨_,rfl,?_⟩;replace b1:=aQ b1 hb;replace b2:=aQ b2 hb;replace HB:=hB HB hb;obtain⟨⟨_,_⟩,_,_⟩:=z2 b1)|((with_reducible refine ak (f:=91) rfl ?_);refine fe 23 func91 (cP.calls k _ _ ag aj bI bL bM bN bO bP bQ true _ (kC bF) bG.out A5.out) ?_;rintro e gG ⟨bZ,d1,d2,rfl,bU,bJ,bK,hb⟩;refine⟨_,rfl,?_⟩;have b5:=am (Kd.aw bU (ah oB));have b6:=am (Kd.aw bJ (ah oB));have b7:=am (Kd.aw bK (ah oB));replace b1:=aQ b1 hb;replace b2:=aQ b2 hb;replace HB:=hB HB hb;(try clear bJ);(try clear bK))|((with_reducible refine ai (N:=8) rfl ?_);refine eh 8 #[.int .i64 0,.int .i64 0,.int .i64 0,.slice none 0 0,.slice none 0 0,.slice none 0 0] 58 ?_;intro bV hg gH hbox hb;have bE:=am (hbox);have bW:=eg hg;have b9:=eY hg b1;have bB:=eZ hg b1;have bC:=eY hg b2;have bD:=eZ hg b2;replace b5:=ga b5 hb;replace b6:=ga b6 hb;replace b7:=ga b7 hb;replace b1:=aQ b1 hb;replace b2:=aQ b2 hb;replace HB:=hB HB hb;clear hb hbox hg;have dH:=bB.out;have dI:=b9.out;have dJ:=bD.out;have dK:=bC.out;obtain⟨⟨_,_,_,_,_,_⟩,_,_,_,_,_,_⟩:=z6 bE;obtain⟨d3,d4,d5⟩:=Kd.ax b5.out;subst d5;obtain⟨d6,d7,d8⟩:=Kd.ax b6.out;subst d8;obtain⟨d9,dA,dB⟩:=Kd.ax b7.out;subst dB;obtain⟨⟨_,_,_,_,_,_⟩,_,_,_,_,_,_⟩:=z6 b2))
  refine bodyPost_ret (ek rfl _ _ bH 58 #[.int .i64 bL,.int .i64 bM,.int .i64 bN,.slice d3 bO.length d4,.slice d6 bP.length d7,.slice d9 bQ.length dA] (0,0) _ rfl (oP b2) underlying58 rfl (by kernel_rfl)) rfl ?_;exact⟨_,_,_,oE,vM b5 bE b2,vM b6 bE b2,vM b7 bE b2,oB⟩
 simp only[Option.some.injEq,Prod.mk.injEq]at H;obtain⟨rfl,rfl,rfl,rfl,rfl,rfl,rfl⟩:=H
 go_enter func47,ntmps47
 go_wp2_with (first|((with_reducible refine ai (N:=2) rfl ?_);refine eh 2 #[.slice bo ag.length bg,.int .i64 aj] 28 ?_;intro bR hg gI hbox hb;have b1:=am (hbox);have bS:=eg hg;replace HB:=hB HB hb;clear hb hbox hg)|((with_reducible refine ai (N:=4) rfl ?_);refine eh 4 #[.int .i64 0,.int .i64 0,.int .i64 0,.slice none 0 0,.slice none 0 0,.slice none 0 0] 58 ?_;intro bH hg gJ hbox hb;have b2:=am (hbox);have bT:=eg hg;have b3:=eY hg b1;have b4:=eZ hg b1;replace b1:=aQ b1 hb;replace HB:=hB HB hb;clear hb hbox hg;have dL:=b3.out;have dM:=b4.out;obtain⟨⟨_,_⟩,_,_⟩:=z2 b1)|((with_reducible refine ak (f:=90) rfl ?_);refine fe 13 func90 (fg.calls k _ _ ag aj a1 bI b8 _ (kC bF) bG.out A3.out) ?_;rintro e gK ⟨rfl,hb⟩;refine⟨_,rfl,?_⟩;replace b1:=aQ b1 hb;replace b2:=aQ b2 hb;replace HB:=hB HB hb;obtain⟨⟨_,_⟩,_,_⟩:=z2 b1)|((with_reducible refine ak (f:=91) rfl ?_);refine fe 23 func91 (cP.calls k _ _ ag aj bI bL bM bN bO bP bQ false _ (kC bF) bG.out A5.out) ?_;rintro e gL ⟨bZ,d1,d2,rfl,bU,bJ,bK,hb⟩;refine⟨_,rfl,?_⟩;have b5:=am (Kd.aw bU (ah oB));have b6:=am (Kd.aw bJ (ah oB));have b7:=am (Kd.aw bK (ah oB));replace b1:=aQ b1 hb;replace b2:=aQ b2 hb;replace HB:=hB HB hb;(try clear bJ);(try clear bK))|((with_reducible refine ai (N:=8) rfl ?_);refine eh 8 #[.int .i64 0,.int .i64 0,.int .i64 0,.slice none 0 0,.slice none 0 0,.slice none 0 0] 58 ?_;intro bV hg gM hbox hb;have bE:=am (hbox);have bW:=eg hg;have b9:=eY hg b1;have bB:=eZ hg b1;have bC:=eY hg b2;have bD:=eZ hg b2;replace b5:=ga b5 hb;replace b6:=ga b6 hb;replace b7:=ga b7 hb;replace b1:=aQ b1 hb;replace b2:=aQ b2 hb;replace HB:=hB HB hb;clear hb hbox hg;have dN:=bB.out;have dO:=b9.out;have dP:=bD.out;have dQ:=bC.out;obtain⟨⟨_,_,_,_,_,_⟩,_,_,_,_,_,_⟩:=z6 bE;obtain⟨dW,dX,dC⟩:=Kd.ax b5.out;subst dC;obtain⟨dY,dZ,dD⟩:=Kd.ax b6.out;subst dD;obtain⟨gA,gB,dE⟩:=Kd.ax b7.out;subst dE;obtain⟨⟨_,_,_,_,_,_⟩,_,_,_,_,_,_⟩:=z6 b2))
 refine bodyPost_ret (ek rfl _ _ bH 58 #[.int .i64 0,.int .i64 0,.int .i64 0,.slice none 0 0,.slice none 0 0,.slice none 0 0] (0,0) _ rfl (oP b2) underlying58 rfl (by kernel_rfl)) rfl ?_;exact⟨_,_,_,oE,by first|exact Kd.gv _ _ _ _ _|exact Kd.jj _ _ _ _ _|exact Kd.jk _ _ _ _ _|exact Kd.jg _ _ _ _ _|exact Kd.ji _ _ _ _ _,by first|exact Kd.gv _ _ _ _ _|exact Kd.jj _ _ _ _ _|exact Kd.jk _ _ _ _ _|exact Kd.jg _ _ _ _ _|exact Kd.ji _ _ _ _ _,by first|exact Kd.gv _ _ _ _ _|exact Kd.jj _ _ _ _ _|exact Kd.jk _ _ _ _ _|exact Kd.jg _ _ _ _ _|exact Kd.ji _ _ _ _ _,oB⟩

def kG.f (k:Nat) (ag:List (bm)) (aj:Int) (a1:ByteArray):Option (Int×Int×Int×List Int×(List (ey))×(List (ct))×Int):=(jx.f k ag aj a1).bind fun b2=>(if b2.2=0 then((fz.f k ag aj b2.1).bind fun b1=>(if b1.2.2.2.2.2.2=true then(some (b1.1,b1.2.1,b1.2.2.1,b1.2.2.2.1,b1.2.2.2.2.1,b1.2.2.2.2.2.1,0))else(some (0,0,0,([]:List Int),([]:List (ey)),([]:List (ct)),2))))else(some (0,0,0,([]:List Int),([]:List (ey)),([]:List (ct)),b2.2)))
theorem kG.calls (k:Nat) (bo:Option Addr) (bg:Nat) (ag:List (bm)) (aj:Int) (a1:ByteArray) (r1:Int) (r2:Int) (r3:Int) (r4:List Int) (r5:List (ey)) (r6:List (ct)) (r7:Int) (w:World) (cv:Kd.C fN w bo ag.length ag) (cA:ag.length≤bg) (h:kG.f k ag aj a1=some (r1,r2,r3,r4,r5,r6,r7)):
  Calls Tryz.prog 42 #[.agg #[.slice bo ag.length bg,.int .i64 aj],.string a1] w fun e w'=>∃sO sP sQ:Value,e= .returned (.tuple #[.agg #[.int .i64 r1,.int .i64 r2,.int .i64 r3,sO,sP,sQ],.int .i64 r7])∧Kd.R (Kd.int .u8) 5 w' w.heap.size (fun _=>True) sO r4∧Kd.R jc 75 w' w.heap.size (fun _=>True) sP r5∧Kd.R fa 82 w' w.heap.size (fun _=>True) sQ r6∧Below w.heap.size w w':=by
 have dR:=underlying28;have dS:=underlying58;have bF:=ae.mk cv;have bG:=ae.mk cA;clear cv cA;have HB:=am (Below.refl w.heap.size w);unfold kG.f at h;have H:=h;clear h;replace H:=bA H;obtain⟨⟨bI,b8⟩,A3,H⟩:=H
 try dsimp only at H
 by_cases c4:b8=0
 rotate_left
 ·rw[if_neg c4]at H;have bX:(b8==0)=false:=beq_eq_false_iff_ne.mpr c4;have bY:(b8 !=0)=true:=bne_iff_ne.mpr c4;simp only[Option.some.injEq,Prod.mk.injEq]at H;obtain⟨rfl,rfl,rfl,rfl,rfl,rfl,rfl⟩:=H
  go_enter func42,ntmps42
  go_wp2_with (first|((with_reducible refine ai (N:=2) rfl ?_);refine eh 2 #[.slice bo ag.length bg,.int .i64 aj] 28 ?_;intro bR hg gC hbox hb;have b1:=am (hbox);have bS:=eg hg;replace HB:=hB HB hb;clear hb hbox hg)|((with_reducible refine ai (N:=4) rfl ?_);refine eh 4 #[.int .i64 0,.int .i64 0,.int .i64 0,.slice none 0 0,.slice none 0 0,.slice none 0 0] 58 ?_;intro bH hg gD hbox hb;have b2:=am (hbox);have bT:=eg hg;have b3:=eY hg b1;have b4:=eZ hg b1;replace b1:=aQ b1 hb;replace HB:=hB HB hb;clear hb hbox hg;have dF:=b3.out;have dG:=b4.out;obtain⟨⟨_,_⟩,_,_⟩:=z2 b1)|((with_reducible refine ak (f:=84) rfl ?_);refine fe 13 func84 (jx.calls k _ _ ag aj a1 bI b8 _ (kC bF) bG.out A3.out) ?_;rintro e gE ⟨rfl,hb⟩;refine⟨_,rfl,?_⟩;replace b1:=aQ b1 hb;replace b2:=aQ b2 hb;replace HB:=hB HB hb;obtain⟨⟨_,_,_,_,_,_⟩,_,_,_,_,_,_⟩:=z6 b2))
  refine bodyPost_ret (ek rfl _ _ bH 58 #[.int .i64 0,.int .i64 0,.int .i64 0,.slice none 0 0,.slice none 0 0,.slice none 0 0] (0,0) _ rfl (oP b2) underlying58 rfl (by kernel_rfl)) rfl ?_;exact⟨_,_,_,oE,by first|exact Kd.gv _ _ _ _ _|exact Kd.jj _ _ _ _ _|exact Kd.jk _ _ _ _ _|exact Kd.jg _ _ _ _ _|exact Kd.ji _ _ _ _ _,by first|exact Kd.gv _ _ _ _ _|exact Kd.jj _ _ _ _ _|exact Kd.jk _ _ _ _ _|exact Kd.jg _ _ _ _ _|exact Kd.ji _ _ _ _ _,by first|exact Kd.gv _ _ _ _ _|exact Kd.jj _ _ _ _ _|exact Kd.jk _ _ _ _ _|exact Kd.jg _ _ _ _ _|exact Kd.ji _ _ _ _ _,oB⟩
 rw[if_pos c4]at H;have bX:(b8==0)=true:=beq_iff_eq.mpr c4;have bY:(b8 !=0)=false:=bne_eq_false_iff_eq.mpr c4;clear c4;replace H:=bA H;obtain⟨⟨bL,bM,bN,bO,bP,bQ,dT⟩,A5,H⟩:=H
 try dsimp only at H
 replace H:=kN H;rcases H with⟨rfl,H⟩|⟨rfl,H⟩
 ·simp only[Option.some.injEq,Prod.mk.injEq]at H;obtain⟨rfl,rfl,rfl,rfl,rfl,rfl,rfl⟩:=H
  go_enter func42,ntmps42
  go_wp2_with (first|((with_reducible refine ai (N:=2) rfl ?_);refine eh 2 #[.slice bo ag.length bg,.int .i64 aj] 28 ?_;intro bR hg w7 hbox hb;have b1:=am (hbox);have bS:=eg hg;replace HB:=hB HB hb;clear hb hbox hg)|((with_reducible refine ai (N:=4) rfl ?_);refine eh 4 #[.int .i64 0,.int .i64 0,.int .i64 0,.slice none 0 0,.slice none 0 0,.slice none 0 0] 58 ?_;intro bH hg w8 hbox hb;have b2:=am (hbox);have bT:=eg hg;have b3:=eY hg b1;have b4:=eZ hg b1;replace b1:=aQ b1 hb;replace HB:=hB HB hb;clear hb hbox hg;have dU:=b3.out;have dV:=b4.out;obtain⟨⟨_,_⟩,_,_⟩:=z2 b1)|((with_reducible refine ak (f:=84) rfl ?_);refine fe 13 func84 (jx.calls k _ _ ag aj a1 bI b8 _ (kC bF) bG.out A3.out) ?_;rintro e gF ⟨rfl,hb⟩;refine⟨_,rfl,?_⟩;replace b1:=aQ b1 hb;replace b2:=aQ b2 hb;replace HB:=hB HB hb;obtain⟨⟨_,_⟩,_,_⟩:=z2 b1)|((with_reducible refine ak (f:=85) rfl ?_);refine fe 23 func85 (fz.calls k _ _ ag aj bI bL bM bN bO bP bQ true _ (kC bF) bG.out A5.out) ?_;rintro e gG ⟨bZ,d1,d2,rfl,bU,bJ,bK,hb⟩;refine⟨_,rfl,?_⟩;have b5:=am (Kd.aw bU (ah oB));have b6:=am (Kd.aw bJ (ah oB));have b7:=am (Kd.aw bK (ah oB));replace b1:=aQ b1 hb;replace b2:=aQ b2 hb;replace HB:=hB HB hb;(try clear bJ);(try clear bK))|((with_reducible refine ai (N:=8) rfl ?_);refine eh 8 #[.int .i64 0,.int .i64 0,.int .i64 0,.slice none 0 0,.slice none 0 0,.slice none 0 0] 58 ?_;intro bV hg gH hbox hb;have bE:=am (hbox);have bW:=eg hg;have b9:=eY hg b1;have bB:=eZ hg b1;have bC:=eY hg b2;have bD:=eZ hg b2;replace b5:=ga b5 hb;replace b6:=ga b6 hb;replace b7:=ga b7 hb;replace b1:=aQ b1 hb;replace b2:=aQ b2 hb;replace HB:=hB HB hb;clear hb hbox hg;have dH:=bB.out;have dI:=b9.out;have dJ:=bD.out;have dK:=bC.out;obtain⟨⟨_,_,_,_,_,_⟩,_,_,_,_,_,_⟩:=z6 bE;obtain⟨d3,d4,d5⟩:=Kd.ax b5.out;subst d5;obtain⟨d6,d7,d8⟩:=Kd.ax b6.out;subst d8;obtain⟨d9,dA,dB⟩:=Kd.ax b7.out;subst dB;obtain⟨⟨_,_,_,_,_,_⟩,_,_,_,_,_,_⟩:=z6 b2))
  refine bodyPost_ret (ek rfl _ _ bH 58 #[.int .i64 bL,.int .i64 bM,.int .i64 bN,.slice d3 bO.length d4,.slice d6 bP.length d7,.slice d9 bQ.length dA] (0,0) _ rfl (oP b2) underlying58 rfl (by kernel_rfl)) rfl ?_;exact⟨_,_,_,oE,vM b5 bE b2,vM b6 bE b2,vM b7 bE b2,oB⟩
 simp only[Option.some.injEq,Prod.mk.injEq]at H;obtain⟨rfl,rfl,rfl,rfl,rfl,rfl,rfl⟩:=H
 go_enter func42,ntmps42
 go_wp2_with (first|((with_reducible refine ai (N:=2) rfl ?_);refine eh 2 #[.slice bo ag.length bg,.int .i64 aj] 28 ?_;intro bR hg gI hbox hb;have b1:=am (hbox);have bS:=eg hg;replace HB:=hB HB hb;clear hb hbox hg)|((with_reducible refine ai (N:=4) rfl ?_);refine eh 4 #[.int .i64 0,.int .i64 0,.int .i64 0,.slice none 0 0,.slice none 0 0,.slice none 0 0] 58 ?_;intro bH hg gJ hbox hb;have b2:=am (hbox);have bT:=eg hg;have b3:=eY hg b1;have b4:=eZ hg b1;replace b1:=aQ b1 hb;replace HB:=hB HB hb;clear hb hbox hg;have dL:=b3.out;have dM:=b4.out;obtain⟨⟨_,_⟩,_,_⟩:=z2 b1)|((with_reducible refine ak (f:=84) rfl ?_);refine fe 13 func84 (jx.calls k _ _ ag aj a1 bI b8 _ (kC bF) bG.out A3.out) ?_;rintro e gK ⟨rfl,hb⟩;refine⟨_,rfl,?_⟩;replace b1:=aQ b1 hb;replace b2:=aQ b2 hb;replace HB:=hB HB hb;obtain⟨⟨_,_⟩,_,_⟩:=z2 b1)|((with_reducible refine ak (f:=85) rfl ?_);refine fe 23 func85 (fz.calls k _ _ ag aj bI bL bM bN bO bP bQ false _ (kC bF) bG.out A5.out) ?_;rintro e gL ⟨bZ,d1,d2,rfl,bU,bJ,bK,hb⟩;refine⟨_,rfl,?_⟩;have b5:=am (Kd.aw bU (ah oB));have b6:=am (Kd.aw bJ (ah oB));have b7:=am (Kd.aw bK (ah oB));replace b1:=aQ b1 hb;replace b2:=aQ b2 hb;replace HB:=hB HB hb;(try clear bJ);(try clear bK))|((with_reducible refine ai (N:=8) rfl ?_);refine eh 8 #[.int .i64 0,.int .i64 0,.int .i64 0,.slice none 0 0,.slice none 0 0,.slice none 0 0] 58 ?_;intro bV hg gM hbox hb;have bE:=am (hbox);have bW:=eg hg;have b9:=eY hg b1;have bB:=eZ hg b1;have bC:=eY hg b2;have bD:=eZ hg b2;replace b5:=ga b5 hb;replace b6:=ga b6 hb;replace b7:=ga b7 hb;replace b1:=aQ b1 hb;replace b2:=aQ b2 hb;replace HB:=hB HB hb;clear hb hbox hg;have dN:=bB.out;have dO:=b9.out;have dP:=bD.out;have dQ:=bC.out;obtain⟨⟨_,_,_,_,_,_⟩,_,_,_,_,_,_⟩:=z6 bE;obtain⟨dW,dX,dC⟩:=Kd.ax b5.out;subst dC;obtain⟨dY,dZ,dD⟩:=Kd.ax b6.out;subst dD;obtain⟨gA,gB,dE⟩:=Kd.ax b7.out;subst dE;obtain⟨⟨_,_,_,_,_,_⟩,_,_,_,_,_,_⟩:=z6 b2))
 refine bodyPost_ret (ek rfl _ _ bH 58 #[.int .i64 0,.int .i64 0,.int .i64 0,.slice none 0 0,.slice none 0 0,.slice none 0 0] (0,0) _ rfl (oP b2) underlying58 rfl (by kernel_rfl)) rfl ?_;exact⟨_,_,_,oE,by first|exact Kd.gv _ _ _ _ _|exact Kd.jj _ _ _ _ _|exact Kd.jk _ _ _ _ _|exact Kd.jg _ _ _ _ _|exact Kd.ji _ _ _ _ _,by first|exact Kd.gv _ _ _ _ _|exact Kd.jj _ _ _ _ _|exact Kd.jk _ _ _ _ _|exact Kd.jg _ _ _ _ _|exact Kd.ji _ _ _ _ _,by first|exact Kd.gv _ _ _ _ _|exact Kd.jj _ _ _ _ _|exact Kd.jk _ _ _ _ _|exact Kd.jg _ _ _ _ _|exact Kd.ji _ _ _ _ _,oB⟩

def fL.f (k:Nat) (ag:List (bm)) (aj:Int) (qj:List (bm)) (cF:Int):Option (Bool):=(cf.f k ag qj).bind fun b1=>(if b1=true then(if aj=cF then(some true)else(some false))else(some false))
theorem fL.calls (k:Nat) (bo:Option Addr) (bg:Nat) (ag:List (bm)) (aj:Int) (aa_:Option Addr) (aba:Nat) (qj:List (bm)) (cF:Int) (r:Bool) (w:World) (cv:Kd.C fN w bo ag.length ag) (cA:ag.length≤bg) (acL:Kd.C fN w aa_ qj.length qj) (acM:qj.length≤aba) (h:fL.f k ag aj qj cF=some r):
  Calls Tryz.prog 14 #[.agg #[.slice bo ag.length bg,.int .i64 aj],.agg #[.slice aa_ qj.length aba,.int .i64 cF]] w fun e w'=>e= .returned (.bool r)∧Below w.heap.size w w':=by
 have bK:=underlying28;have b5:=ae.mk cv;have b6:=ae.mk cA;clear cv cA;have b7:=ae.mk acL;have b8:=ae.mk acM;clear acL acM;have HB:=am (Below.refl w.heap.size w);unfold fL.f at h;have H:=h;clear h;replace H:=bA H;obtain⟨bL,A3,H⟩:=H
 try dsimp only at H
 replace H:=kN H;rcases H with⟨rfl,H⟩|⟨rfl,H⟩;rotate_left
 ·obtain rfl:=Option.some.inj H
  go_enter func14,ntmps14
  go_wp2_with (first|((with_reducible refine ai (N:=2) rfl ?_);refine eh 2 #[.slice bo ag.length bg,.int .i64 aj] 28 ?_;intro b9 hg bO hbox hb;have b1:=am (hbox);have bB:=eg hg;replace HB:=hB HB hb;clear hb hbox hg)|((with_reducible refine ai (N:=3) rfl ?_);refine eh 3 #[.slice aa_ qj.length aba,.int .i64 cF] 28 ?_;intro bC hg bP hbox hb;have b2:=am (hbox);have bD:=eg hg;have b3:=eY hg b1;have b4:=eZ hg b1;replace b1:=aQ b1 hb;replace HB:=hB HB hb;clear hb hbox hg;have bG:=b3.out;have bH:=b4.out;obtain⟨⟨_,_⟩,_,_⟩:=z2 b1;obtain⟨⟨_,_⟩,_,_⟩:=z2 b2)|((with_reducible refine ak (f:=36) rfl ?_);refine fe 9 func36 (cf.calls k _ _ ag _ _ qj false _ (kC b5) b6.out (kC b7) b8.out A3.out) ?_;rintro e bQ ⟨rfl,hb⟩;refine⟨_,rfl,?_⟩;replace b1:=aQ b1 hb;replace b2:=aQ b2 hb;replace HB:=hB HB hb))
  go_ret
  exact⟨oE,oB⟩
 by_cases c5:aj=cF
 rotate_left
 ·rw[if_neg c5]at H;have bE:(aj==cF)=false:=beq_eq_false_iff_ne.mpr c5;have bF:(aj !=cF)=true:=bne_iff_ne.mpr c5;obtain rfl:=Option.some.inj H
  go_enter func14,ntmps14
  go_wp2_with (first|((with_reducible refine ai (N:=2) rfl ?_);refine eh 2 #[.slice bo ag.length bg,.int .i64 aj] 28 ?_;intro b9 hg bR hbox hb;have b1:=am (hbox);have bB:=eg hg;replace HB:=hB HB hb;clear hb hbox hg)|((with_reducible refine ai (N:=3) rfl ?_);refine eh 3 #[.slice aa_ qj.length aba,.int .i64 cF] 28 ?_;intro bC hg bS hbox hb;have b2:=am (hbox);have bD:=eg hg;have b3:=eY hg b1;have b4:=eZ hg b1;replace b1:=aQ b1 hb;replace HB:=hB HB hb;clear hb hbox hg;have bI:=b3.out;have bJ:=b4.out;obtain⟨⟨_,_⟩,_,_⟩:=z2 b1;obtain⟨⟨_,_⟩,_,_⟩:=z2 b2)|((with_reducible refine ak (f:=36) rfl ?_);refine fe 9 func36 (cf.calls k _ _ ag _ _ qj true _ (kC b5) b6.out (kC b7) b8.out A3.out) ?_;rintro e bT ⟨rfl,hb⟩;refine⟨_,rfl,?_⟩;replace b1:=aQ b1 hb;replace b2:=aQ b2 hb;replace HB:=hB HB hb;obtain⟨⟨_,_⟩,_,_⟩:=z2 b1;obtain⟨⟨_,_⟩,_,_⟩:=z2 b2))
  go_ret
  exact⟨oE,oB⟩
 rw[if_pos c5]at H;have bE:(aj==cF)=true:=beq_iff_eq.mpr c5;have bF:(aj !=cF)=false:=bne_eq_false_iff_eq.mpr c5;clear c5;obtain rfl:=Option.some.inj H
 go_enter func14,ntmps14
 go_wp2_with (first|((with_reducible refine ai (N:=2) rfl ?_);refine eh 2 #[.slice bo ag.length bg,.int .i64 aj] 28 ?_;intro b9 hg w6 hbox hb;have b1:=am (hbox);have bB:=eg hg;replace HB:=hB HB hb;clear hb hbox hg)|((with_reducible refine ai (N:=3) rfl ?_);refine eh 3 #[.slice aa_ qj.length aba,.int .i64 cF] 28 ?_;intro bC hg w7 hbox hb;have b2:=am (hbox);have bD:=eg hg;have b3:=eY hg b1;have b4:=eZ hg b1;replace b1:=aQ b1 hb;replace HB:=hB HB hb;clear hb hbox hg;have bM:=b3.out;have bN:=b4.out;obtain⟨⟨_,_⟩,_,_⟩:=z2 b1;obtain⟨⟨_,_⟩,_,_⟩:=z2 b2)|((with_reducible refine ak (f:=36) rfl ?_);refine fe 9 func36 (cf.calls k _ _ ag _ _ qj true _ (kC b5) b6.out (kC b7) b8.out A3.out) ?_;rintro e bU ⟨rfl,hb⟩;refine⟨_,rfl,?_⟩;replace b1:=aQ b1 hb;replace b2:=aQ b2 hb;replace HB:=hB HB hb;obtain⟨⟨_,_⟩,_,_⟩:=z2 b1;obtain⟨⟨_,_⟩,_,_⟩:=z2 b2))
 go_ret
 exact⟨oE,oB⟩

def jo.f (k:Nat) (ag:List (nc)) (aj:Int) (a1:Int):Option (Int):=(di.f k ag a1).bind fun b1=>(if b1<0 then(some (-1))else(some b1))
theorem jo.calls (k:Nat) (bo:Option Addr) (bg:Nat) (ag:List (nc)) (aj:Int) (a1:Int) (r:Int) (w:World) (cv:Kd.C k92 w bo ag.length ag) (cA:ag.length≤bg) (h:jo.f k ag aj a1=some r):
  Calls Tryz.prog 10 #[.agg #[.slice bo ag.length bg,.int .i64 aj],.int .i64 a1] w fun e w'=>e= .returned (.int .i64 r)∧Below w.heap.size w w':=by
 have b8:=underlying24;have b2:=ae.mk cv;have b3:=ae.mk cA;clear cv cA;have HB:=am (Below.refl w.heap.size w);unfold jo.f at h;have H:=h;clear h;replace H:=bA H;obtain⟨b4,A3,H⟩:=H
 try dsimp only at H
 replace H:=iM H;rcases H with⟨b7,H⟩|⟨b7,H⟩
 ·obtain rfl:=Option.some.inj H
  go_enter func10,ntmps10
  go_wp2_with (first|((with_reducible refine ai (N:=2) rfl ?_);refine eh 2 #[.slice bo ag.length bg,.int .i64 aj] 24 ?_;intro b5 hg w5 hbox hb;have b1:=am (hbox);have b6:=eg hg;replace HB:=hB HB hb;clear hb hbox hg;obtain⟨⟨_,_⟩,_,_⟩:=z2 b1)|((with_reducible refine ak (f:=32) rfl ?_);refine fe 8 func32 (di.calls k _ _ ag a1 b4 _ (kC b2) b3.out A3.out) ?_;rintro e w7 ⟨rfl,hb⟩;refine⟨_,rfl,?_⟩;replace b1:=aQ b1 hb;replace HB:=hB HB hb))
  go_ret
  exact⟨oE,oB⟩
 obtain rfl:=Option.some.inj H
 go_enter func10,ntmps10
 go_wp2_with (first|((with_reducible refine ai (N:=2) rfl ?_);refine eh 2 #[.slice bo ag.length bg,.int .i64 aj] 24 ?_;intro b5 hg w8 hbox hb;have b1:=am (hbox);have b6:=eg hg;replace HB:=hB HB hb;clear hb hbox hg;obtain⟨⟨_,_⟩,_,_⟩:=z2 b1)|((with_reducible refine ak (f:=32) rfl ?_);refine fe 8 func32 (di.calls k _ _ ag a1 b4 _ (kC b2) b3.out A3.out) ?_;rintro e b9 ⟨rfl,hb⟩;refine⟨_,rfl,?_⟩;replace b1:=aQ b1 hb;replace HB:=hB HB hb))
 go_ret
 exact⟨oE,oB⟩

def iA.f (k:Nat) (ag:List (nc)) (aj:Int):Option ((List (bm))×Int):=(dh.f k ag).bind fun b1=>(some (b1,aj))
theorem iA.calls (k:Nat) (bo:Option Addr) (bg:Nat) (ag:List (nc)) (aj:Int) (r1:List (bm)) (r2:Int) (w:World) (cv:Kd.C k92 w bo ag.length ag) (cA:ag.length≤bg) (h:iA.f k ag aj=some (r1,r2)):
  Calls Tryz.prog 12 #[.agg #[.slice bo ag.length bg,.int .i64 aj]] w fun e w'=>∃iV:Value,e= .returned (.agg #[iV,.int .i64 r2])∧Kd.S fN 58 w' w.heap.size (fun _=>True) iV r1∧Below w.heap.size w w':=by
 have bR:=underlying24;have bS:=underlying28;have bH:=ae.mk cv;have bI:=ae.mk cA;clear cv cA;have HB:=am (Below.refl w.heap.size w);unfold iA.f at h;have H:=h;clear h;replace H:=bA H;obtain⟨b4,A2,H⟩:=H
 try dsimp only at H
 simp only[Option.some.injEq,Prod.mk.injEq]at H;obtain⟨rfl,rfl⟩:=H
 go_enter func12,ntmps12
 go_wp2_with (first|((with_reducible refine ai (N:=1) rfl ?_);refine eh 1 #[.slice bo ag.length bg,.int .i64 aj] 24 ?_;intro bL hg w3 hbox hb;have b1:=am (hbox);have bM:=eg hg;replace HB:=hB HB hb;clear hb hbox hg)|((with_reducible refine ai (N:=2) rfl ?_);refine eh 2 #[.slice none 0 0,.int .i64 0] 28 ?_;intro b5 hg w4 hbox hb;have b2:=am (hbox);have bN:=eg hg;have b6:=eY hg b1;have b7:=eZ hg b1;replace b1:=aQ b1 hb;replace HB:=hB HB hb;clear hb hbox hg)|((with_reducible refine ai (N:=3) rfl ?_);refine eh 3 #[.slice none 0 0,.int .i64 0] 28 ?_;intro bF hg w5 hbox hb;have b3:=am (hbox);have bO:=eg hg;have b8:=eY hg b1;have b9:=eZ hg b1;have bB:=eY hg b2;have bC:=eZ hg b2;replace b1:=aQ b1 hb;replace b2:=aQ b2 hb;replace HB:=hB HB hb;clear hb hbox hg;have bT:=b6.out;have bU:=b7.out;have bV:=b8.out;have bW:=b9.out;obtain⟨⟨_,_⟩,_,_⟩:=z2 b1)|((with_reducible refine ak (f:=34) rfl ?_);refine fe 6 func34 (dh.calls k _ _ ag b4 _ (kC bH) bI.out A2.out) ?_;rintro e w9 ⟨bX,rfl,bK,hb⟩;refine⟨_,rfl,?_⟩;have bG:=am (Kd.hL bK (ah oB));replace b1:=aQ b1 hb;replace b2:=aQ b2 hb;replace b3:=aQ b3 hb;replace HB:=hB HB hb;obtain⟨bD,bE,bJ⟩:=Kd.eM bG.out;subst bJ;have bP:=bC.out;have bQ:=bB.out;obtain⟨⟨_,_⟩,_,_⟩:=z2 b3;obtain⟨⟨_,_⟩,_,_⟩:=z2 b1;obtain⟨⟨_,_⟩,_,_⟩:=z2 b2))
 refine bodyPost_ret (results_cell_row rfl _ _ b5 28 #[.slice bD b4.length bE,.int .i64 aj] (0,0) _ rfl (oP b2) underlying28 rfl (by kernel_rfl)) rfl ?_;exact⟨_,oE,by(with_reducible repeat(first|apply Kd.cV|apply Kd.cW|apply Kd.ei));exact Kd.cS (Kd.eS (p:=⟨b5,1,none⟩) (Kd.eS (p:=⟨b5,0,none⟩) (Kd.eS (p:=⟨bF,1,none⟩) (Kd.eS (p:=⟨bF,0,none⟩) (Kd.je (Kd.je bG.out b3.out (by decide)) b2.out (by decide)) (fun _ hk=>hk.1.2) (.slice bD b4.length bE)) (fun _ hk=>hk.1.2) (.int .i64 aj)) (fun _ hk=>hk.2) (.slice bD b4.length bE)) (fun _ hk=>hk.2) (.int .i64 aj)) (fun _ hk=>trivial),oB⟩
end Go.Proofs.YtlecajlnjmbilaaGreatDoor.P
