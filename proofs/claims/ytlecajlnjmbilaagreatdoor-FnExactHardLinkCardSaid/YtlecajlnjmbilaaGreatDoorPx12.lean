-- Printed walks.
import Derived.Test.YtlecajlnjmbilaaGreatDoorPx9
import Derived.Test.YtlecajlnjmbilaaGreatDoorPx11
set_option linter.all false
set_option maxHeartbeats 8000000
set_option maxRecDepth 100000
namespace Go.Proofs.YtlecajlnjmbilaaGreatDoor.P
open Go.RowKit Go.Proofs.ab.ar Go.Proofs.ab.aH Go.Proofs.ab.aN Go.Proofs.Tryz
attribute [local go_sem] ib ic jc jd fU fV ie ig

mutual
def bj.j0:Nat→Bool→List (aX)→Int→Option (Bool)
 |0,_,_,_=>none
 |k+1,b3,b1,b2=>if b3=true then(some false)else(bj.l0 k b1 (b1.length:Int) 0 b1 b2)
def bj.l0:Nat→List (aX)→Int→Int→List (aX)→Int→Option (Bool)
 |0,_,_,_,_,_=>none
 |k+1,b2,b5,b1,b3,b4=>if b1<b5 then(if 0≤b1 then(if b1<(b2.length:Int)then((cd.f k b3 b4 ((af b2 b1).f0)).bind fun b6=>(if((af b2 b1).f2)=b6 then(bj.l1 k b2 b5 b1 ((af b2 b1).f4) (((af b2 b1).f4).length:Int) 0 b3 b4)else(some false)))else(none))else(none))else(some true)
def bj.l1:Nat→List (aX)→Int→Int→List (cA)→Int→Int→List (aX)→Int→Option (Bool)
 |0,_,_,_,_,_,_,_,_=>none
 |k+1,b5,b6,b7,b4,b8,b3,b1,b2=>if b3<b8 then(if 0≤b3 then(if b3<(b4.length:Int)then((eH.f k b1 b2 ((al b4 b3).f1)).bind fun b9=>(if b9<0 then(some false)else(bj.l1 k b5 b6 b7 b4 b8 (wrap64 (b3+1)) b1 b2)))else(none))else(none))else(bj.l0 k b5 b6 (wrap64 (b7+1)) b1 b2)
end
def bj.f (k:Nat) (ag:List (aX)) (ak:Int):Option (Bool):=(bs.f k ag ak).bind fun b1=>(if b1=true then((aY.f k ag ak).bind fun b2=>(bj.j0 k ((b2.length:Int) !=(ag.length:Int)) ag ak))else(bj.j0 k true ag ak))
def bj.T1:Bool×List (List Nat×List Nat):=(true,[([],[]),([0],[0]),([1],[1]),([2,1],[2]),([3],[3]),([4,3,3],[3,4]),([5,3],[3,5]),([3],[3]),([7,3],[3,7]),([8,3],[3,8]),([6,9,3],[3,6,9]),([3,10],[3,10])])
def bj.B1:List Nat:=[0,1,3,7,15,31,63,15,143,399,1023,2047]
theorem bj.aa2:ij .any (opsOf Tryz.f89 1)=bj.T1:=by kernel_rfl
theorem bj.vV:fa bj.T1.2 bj.B1=true:=by kernel_rfl
theorem bj.calls (k:Nat) (bh:Option Addr) (aT:Nat) (ag:List (aX)) (ak:Int) (r:Bool) (w:World) (cj:Kd.C gh w bh ag.length ag) (ck:ag.length≤aT) (h:bj.f k ag ak=some r):
  Calls Tryz.prog 89 #[.agg #[.slice bh ag.length aT,.int .i64 ak]] w fun e w'=>e= .returned (.bool r)∧Below w.heap.size w w':=by
 have gY:=underlying28;have gZ:=underlying58;have j1:=underlying75;have bG:=ae.mk cj;have bH:=ae.mk ck;clear cj ck;have HB:=am (Below.refl w.heap.size w);unfold bj.f at h;have H:=h;clear h;have dC:=ae.mk H;clear H
 go_enter func89,ntmps89
 go_upto_region 1 with(first|((with_reducible refine aj (N:=1) rfl ?_);(try(refine cl (by rfl) ?_;dsimp only));refine cO 1 #[.slice bh ag.length aT,.int .i64 ak] 28 ?_;intro b6 hg w3 hbox hb;have b2:=am (hbox);have gF:=cN hg;replace HB:=hB HB hb;clear hb hbox hg))
 (try simp only[Act.put,List.setIfInBounds_toArray,List.set_cons_zero,List.set_cons_succ])
 go_cut [18] (fun dX wc=>∃(kq:Nat) (bR:Bool),dX= .bool bR∧ae (bj.j0 kq bR ag ak=some r)∧ae (kq≤k)∧ae (wc.heap[b6]? =some (.cells #[(.slice bh ag.length aT),.int .i64 ak] 28 (0,0)))∧ae (Below w.heap.size w wc))
 case first=>
  have H:=dC.out;clear dC;replace H:=bA H;obtain⟨j2,A4,H⟩:=H
  try dsimp only at H
  replace H:=lr H;rcases H with⟨rfl,H⟩|⟨rfl,H⟩;rotate_left
  ·have H':=ae.mk H;clear H
   try go_wp2
   replace b2:=am (au b2.out);replace HB:=am (av HB.out);refine np 12 (fun w'=>w'.cell? ⟨b6,0,none⟩=some (.slice bh ag.length aT)∧w'.cell? ⟨b6,1,none⟩=some (.int .i64 ak)) bj.aa2 bj.vV oH (fun hHeld ax eN=> ?_);generalize w3.drew=j6 at b2 HB hHeld⊢;refine gj 0 7 ax eN hHeld ?_;refine lg 1 8 ax (fun K hK=> ?_);refine lO 8 func123 (bs.calls k _ _ ag ak false _ (kC bG) bH.out A4.out) ?_;rintro e j7 ⟨rfl,hb⟩;refine⟨_,rfl,?_⟩;replace b2:=aJ b2 hb;replace HB:=hB HB hb;refine eW hK 8 oH (fun hHeld=> ?_);clear hK K;refine bz 2 9 ax ?_;refine bz 3 10 ax ?_;refine fX 4 11 ax ?_;refine fX 5 12 ax ?_;refine fX 6 13 ax ?_;refine fX 7 14 ax ?_;refine fX 8 15 ax ?_;refine fX 9 16 ax ?_;refine fX 10 17 ax ?_;refine bz 11 18 ax ?_;refine mo ax ?_
   try go_wp2
   go_meet
   case rel=>exact⟨_,(true),oS,H',⟨by first|omega|exact Nat.le_refl _⟩,⟨oF b2⟩,⟨oB⟩⟩
  replace H:=bA H;obtain⟨dD,A6,H⟩:=H
  try dsimp only at H
  have H':=ae.mk H;clear H
  try go_wp2
  replace b2:=am (au b2.out);replace HB:=am (av HB.out);refine np 12 (fun w'=>w'.cell? ⟨b6,0,none⟩=some (.slice bh ag.length aT)∧w'.cell? ⟨b6,1,none⟩=some (.int .i64 ak)) bj.aa2 bj.vV oH (fun hHeld ax eN=> ?_);generalize w3.drew=w7 at b2 HB hHeld⊢;refine gj 0 7 ax eN hHeld ?_;refine lg 1 8 ax (fun K hK=> ?_);refine lO 8 func123 (bs.calls k _ _ ag ak true _ (kC bG) bH.out A4.out) ?_;rintro e w8 ⟨rfl,hb⟩;refine⟨_,rfl,?_⟩;replace b2:=aJ b2 hb;replace HB:=hB HB hb;refine eW hK 8 oH (fun hHeld=> ?_);clear hK K;refine bz 2 9 ax ?_;refine bz 3 10 ax ?_;refine bz 7 14 ax ?_;refine gj 4 11 ax eN hHeld ?_;refine gj 8 15 ax eN hHeld ?_;refine bz 9 16 ax ?_;refine lg 5 12 ax (fun K hK=> ?_);refine lO 12 func124 (aY.calls k _ _ ag ak dD _ (kC bG) bH.out A6.out) ?_;rintro e w9 ⟨j3,rfl,dY,hb⟩;refine⟨_,rfl,?_⟩;have dG:=am (Kd.an dY (ah oB));replace b2:=aJ b2 hb;replace HB:=hB HB hb;obtain⟨j4,j5,dE⟩:=Kd.ao dG.out
  (first|subst dE|(injection dE with kn nh kp;have dZ:=kn.symm;have gA:=kp.symm;clear kn nh kp;subst dZ;subst gA))
  refine eW hK 12 oH (fun hHeld=> ?_);clear hK K;refine bz 6 13 ax ?_;refine bz 10 17 ax ?_;refine bz 11 18 ax ?_;refine mo ax ?_
  try go_wp2
  go_meet
  case rel=>exact⟨_,(((dD.length:Int) !=(ag.length:Int))),oS,H',⟨by first|omega|exact Nat.le_refl _⟩,⟨oF b2⟩,⟨oB⟩⟩
 case rest=>
  clear dC;obtain⟨kq,bR,rfl,HA,bU,b2,HB⟩:=hcut
  cases kq with
  |zero=>exact absurd HA.out (by simp[bj.j0])
  |succ xw=>
   have H:=HA.out;clear HA;simp only[bj.j0]at H;replace H:=lr H;rcases H with⟨rfl,H⟩|⟨rfl,H⟩
   ·obtain rfl:=Option.some.inj H
    go_wp2
    go_ret
    exact⟨oE,oB⟩
   have H':=ae.mk H;clear H;obtain⟨⟨_,_⟩,_,_⟩:=z2 b2
   go_wp2
   go_loopg [22] xw (fun kq gB w'=>∃(b1:Int),gB= .int .i64 b1∧ae (bj.l0 kq ag (ag.length:Int) b1 ag ak=some r)∧ae (kq≤xw)∧ae (w'.heap[b6]? =some (.cells #[(.slice bh ag.length aT),.int .i64 ak] 28 (0,0)))∧ae (Below w.heap.size w w'))
   case atStart=>exact⟨(0),oS,H',⟨Nat.le_refl _⟩,⟨oF b2⟩,⟨oB⟩⟩
   case round=>
    clear H';obtain⟨b1,rfl,HA,bV,b2,HB⟩:=hrel
    cases gk with
    |zero=>exact absurd HA.out (by simp[bj.l0])
    |succ k2=>
     have H:=HA.out;clear HA;simp only[bj.l0]at H;replace H:=jm H;rcases H with⟨bW,H⟩|⟨bW,H⟩;rotate_left
     ·obtain rfl:=Option.some.inj H
      go_wp2
      go_ret
      exact⟨oE,oB⟩
     obtain⟨dH,H⟩:=cU H;obtain⟨dI,H⟩:=cU H;replace H:=bA H;obtain⟨bN,dR,H⟩:=H
     try dsimp only at H
     by_cases bP:((af ag b1).f2)=bN
     rotate_left
     ·rw[if_neg bP]at H;have dJ:(((af ag b1).f2)==bN)=false:=beq_eq_false_iff_ne.mpr bP;have dK:(((af ag b1).f2) !=bN)=true:=bne_iff_ne.mpr bP;obtain rfl:=Option.some.inj H;have dT:(0≤(b1:Int))=True:=oT;have dU:(b1<(ag.length:Int))=True:=oT;obtain⟨bQ,b7,b8,b9,bB,bC,bD,bS,bY,bZ,d1,d2,d3,d4,d5,d6,d7,bO,d8,d9⟩:=fN bG HB b1 oa oa
      cases bS
      try go_wp2_with (first|((with_reducible refine aj (N:=4) rfl ?_);(try(refine cl (by rfl) ?_;dsimp only));refine cO 4 #[.int .i64 0,.int .i64 0,.int .i64 0,.slice none 0 0,.slice none 0 0,.slice none 0 0] 58 ?_;intro b4 hg gC hbox hb;have b3:=am (hbox);have dL:=cN hg;have bE:=dm hg b2;have bF:=dn hg b2;replace b2:=aJ b2 hb;replace HB:=hB HB hb;clear hb hbox hg;have gG:=bF.out;have gH:=bE.out;obtain⟨⟨_,_,_,_,_,_⟩,_,_,_,_,_,_⟩:=z6 b3))
      generalize kc:((((((gC.setCell ⟨b4,0,none⟩ (.int .i64 ((af ag b1).f0))).setCell ⟨b4,1,none⟩ (.int .i64 ((af ag b1).f1))).setCell ⟨b4,2,none⟩ (.int .i64 ((af ag b1).f2))).setCell ⟨b4,3,none⟩ (.slice b7 ((af ag b1).f3).length b8)).setCell ⟨b4,4,none⟩ (.slice b9 ((af ag b1).f4).length bB)).setCell ⟨b4,5,none⟩ (.slice bC ((af ag b1).f5).length bD))=w49;replace b2:=wO kc b2;replace b3:=yl #[.int .i64 ((af ag b1).f0),.int .i64 ((af ag b1).f1),.int .i64 ((af ag b1).f2),.slice b7 ((af ag b1).f3).length b8,.slice b9 ((af ag b1).f4).length bB,.slice bC ((af ag b1).f5).length bD] kc b3;replace HB:=wS kc HB;clear kc;replace b2:=am (au b2.out);replace b3:=am (au b3.out);replace HB:=am (av HB.out);refine s0_ 7 (fun w'=>w'.cell? ⟨b4,0,none⟩=some (.int .i64 ((af ag b1).f0))∧w'.cell? ⟨b4,1,none⟩=some (.int .i64 ((af ag b1).f1))∧w'.cell? ⟨b4,2,none⟩=some (.int .i64 ((af ag b1).f2))∧w'.cell? ⟨b4,3,none⟩=some (.slice b7 ((af ag b1).f3).length b8)∧w'.cell? ⟨b4,4,none⟩=some (.slice b9 ((af ag b1).f4).length bB)∧w'.cell? ⟨b4,5,none⟩=some (.slice bC ((af ag b1).f5).length bD)∧w'.cell? ⟨b6,0,none⟩=some (.slice (some bQ) ag.length aT)∧w'.cell? ⟨b6,1,none⟩=some (.int .i64 ak)) oH (fun hHeld=> ?_);generalize w49.drew=j8 at b2 b3 HB hHeld⊢;refine rf 0 26 ?_;refine rf 3 29 ?_;refine tG 1 27 hHeld ?_;refine tG 2 28 hHeld ?_;refine tG 4 30 hHeld ?_;refine wT 5 31 (fun K hK=> ?_);refine lO 31 func125 (cd.calls k2 _ _ ag ak ((af ag b1).f0) bN _ (kC bG) bH.out dR.out) ?_;rintro e j9 ⟨rfl,hb⟩;refine⟨_,rfl,?_⟩;replace b2:=aJ b2 hb;replace b3:=aJ b3 hb;replace HB:=hB HB hb;refine eW hK 31 oH (fun hHeld=> ?_);clear hK K;refine rf 6 32 ?_;refine qi (by kernel_rfl) ?_
      try go_wp2
      go_ret
      exact⟨oE,oB⟩
     rw[if_pos bP]at H;have dJ:(((af ag b1).f2)==bN)=true:=beq_iff_eq.mpr bP;have dK:(((af ag b1).f2) !=bN)=false:=bne_eq_false_iff_eq.mpr bP;clear bP;have H':=ae.mk H;clear H;have dT:(0≤(b1:Int))=True:=oT;have dU:(b1<(ag.length:Int))=True:=oT;obtain⟨bQ,b7,b8,b9,bB,bC,bD,bS,bY,bZ,d1,d2,d3,d4,d5,d6,d7,bO,d8,d9⟩:=fN bG HB b1 oa oa
     cases bS
     try go_wp2_with (first|((with_reducible refine aj (N:=4) rfl ?_);(try(refine cl (by rfl) ?_;dsimp only));refine cO 4 #[.int .i64 0,.int .i64 0,.int .i64 0,.slice none 0 0,.slice none 0 0,.slice none 0 0] 58 ?_;intro b4 hg gD hbox hb;have b3:=am (hbox);have dL:=cN hg;have bE:=dm hg b2;have bF:=dn hg b2;replace b2:=aJ b2 hb;replace HB:=hB HB hb;clear hb hbox hg;have gI:=bF.out;have gJ:=bE.out;obtain⟨⟨_,_,_,_,_,_⟩,_,_,_,_,_,_⟩:=z6 b3))
     generalize kc:((((((gD.setCell ⟨b4,0,none⟩ (.int .i64 ((af ag b1).f0))).setCell ⟨b4,1,none⟩ (.int .i64 ((af ag b1).f1))).setCell ⟨b4,2,none⟩ (.int .i64 ((af ag b1).f2))).setCell ⟨b4,3,none⟩ (.slice b7 ((af ag b1).f3).length b8)).setCell ⟨b4,4,none⟩ (.slice b9 ((af ag b1).f4).length bB)).setCell ⟨b4,5,none⟩ (.slice bC ((af ag b1).f5).length bD))=w23;replace b2:=wO kc b2;replace b3:=yl #[.int .i64 ((af ag b1).f0),.int .i64 ((af ag b1).f1),.int .i64 ((af ag b1).f2),.slice b7 ((af ag b1).f3).length b8,.slice b9 ((af ag b1).f4).length bB,.slice bC ((af ag b1).f5).length bD] kc b3;replace HB:=wS kc HB;clear kc;replace b2:=am (au b2.out);replace b3:=am (au b3.out);replace HB:=am (av HB.out);refine s0_ 7 (fun w'=>w'.cell? ⟨b4,0,none⟩=some (.int .i64 ((af ag b1).f0))∧w'.cell? ⟨b4,1,none⟩=some (.int .i64 ((af ag b1).f1))∧w'.cell? ⟨b4,2,none⟩=some (.int .i64 ((af ag b1).f2))∧w'.cell? ⟨b4,3,none⟩=some (.slice b7 ((af ag b1).f3).length b8)∧w'.cell? ⟨b4,4,none⟩=some (.slice b9 ((af ag b1).f4).length bB)∧w'.cell? ⟨b4,5,none⟩=some (.slice bC ((af ag b1).f5).length bD)∧w'.cell? ⟨b6,0,none⟩=some (.slice (some bQ) ag.length aT)∧w'.cell? ⟨b6,1,none⟩=some (.int .i64 ak)) oH (fun hHeld=> ?_);generalize w23.drew=jA at b2 b3 HB hHeld⊢;refine rf 0 26 ?_;refine rf 3 29 ?_;refine tG 1 27 hHeld ?_;refine tG 2 28 hHeld ?_;refine tG 4 30 hHeld ?_;refine wT 5 31 (fun K hK=> ?_);refine lO 31 func125 (cd.calls k2 _ _ ag ak ((af ag b1).f0) bN _ (kC bG) bH.out dR.out) ?_;rintro e jB ⟨rfl,hb⟩;refine⟨_,rfl,?_⟩;replace b2:=aJ b2 hb;replace b3:=aJ b3 hb;replace HB:=hB HB hb;refine eW hK 31 oH (fun hHeld=> ?_);clear hK K;refine rf 6 32 ?_;refine qi (by kernel_rfl) ?_;obtain⟨⟨_,_,_,_,_,_⟩,_,_,_,_,_,_⟩:=z6 b3
     try go_wp2
     go_loopg [36] k2 (fun kq gE w'=>∃(b5:Int),gE= .int .i64 b5∧ae (bj.l1 kq ag (ag.length:Int) b1 ((af ag b1).f4) (((af ag b1).f4).length:Int) b5 ag ak=some r)∧ae (kq≤k2)∧ae (w'.heap[b6]? =some (.cells #[(.slice (some bQ) ag.length aT),.int .i64 ak] 28 (0,0)))∧ae (w'.heap[b4]? =some (.cells #[.int .i64 ((af ag b1).f0),.int .i64 ((af ag b1).f1),.int .i64 ((af ag b1).f2),(.slice b7 ((af ag b1).f3).length b8),(.slice b9 ((af ag b1).f4).length bB),(.slice bC ((af ag b1).f5).length bD)] 58 (0,0)))∧ae (Below w.heap.size w w'))
     case atStart=>exact⟨(0),oS,H',⟨Nat.le_refl _⟩,⟨oF b2⟩,⟨oF b3⟩,⟨oB⟩⟩
     case round=>
      clear H'
      try clear bW
      try clear dH
      try clear dI
      try clear bP
      obtain⟨b5,rfl,HA,bX,b2,b3,HB⟩:=hrel
      cases gk with
      |zero=>exact absurd HA.out (by simp[bj.l1])
      |succ k3=>
       have H:=HA.out;clear HA;simp only[bj.l1]at H;replace H:=jm H;rcases H with⟨dM,H⟩|⟨dM,H⟩;rotate_left
       ·have H':=ae.mk H;clear H
        go_wp2
        go_roundg k3
        case measure=>have:=bU.out;have:=bV.out;have:=bX.out;omega
        case rel=>exact⟨(wrap64 (b1+1)),oS,H',⟨by have:=bU.out;have:=bV.out;have:=bX.out;omega⟩,⟨oF b2⟩,⟨oB⟩⟩
       obtain⟨gK,H⟩:=cU H;obtain⟨gL,H⟩:=cU H;replace H:=bA H;obtain⟨dF,dS,H⟩:=H
       try dsimp only at H
       replace H:=jm H;rcases H with⟨dN,H⟩|⟨dN,H⟩
       ·obtain rfl:=Option.some.inj H;have dV:(0≤(b5:Int))=True:=oT;have dW:(b5<(((af ag b1).f4).length:Int))=True:=oT;obtain⟨dO,bT,dA,dB⟩:=kT bO HB b5 oa oa
        cases bT
        go_wp2_with (first|((with_reducible refine aj (N:=6) rfl ?_);(try(refine cl (by rfl) ?_;dsimp only));refine cO 6 #[.string (⟨#[]⟩:ByteArray),.int .i64 0] 75 ?_;intro dP hg jC hbox hb;have bI:=am (hbox);have dQ:=cN hg;have bJ:=dm hg b2;have bK:=dn hg b2;have bL:=dm hg b3;have bM:=dn hg b3;replace b2:=aJ b2 hb;replace b3:=aJ b3 hb;replace HB:=hB HB hb;clear hb hbox hg;have gM:=bK.out;have gN:=bJ.out;have gO:=bM.out;have gP:=bL.out;obtain⟨⟨_,_⟩,_,_⟩:=z2 bI;have gQ:=bE.out;have gR:=bF.out;obtain⟨⟨_,_⟩,_,_⟩:=z2 b2)|((with_reducible refine ai (f:=99) rfl ?_);refine ej 43 func99 (eH.calls k3 _ _ ag ak ((al ((af ag b1).f4) b5).f1) dF _ ?eQ bH.out dS.out) ?_;(case eQ=>exact Kd.cY bG.out oB);rintro e jD ⟨rfl,hb⟩;refine⟨_,rfl,?_⟩;replace b2:=aJ b2 hb;replace b3:=aJ b3 hb;replace bI:=pl #[.string ((al ((af ag b1).f4) b5).f0),.int .i64 ((al ((af ag b1).f4) b5).f1)] bI hb;replace HB:=hB HB hb))
        go_ret
        exact⟨oE,oB⟩
       have H':=ae.mk H;clear H;have dV:(0≤(b5:Int))=True:=oT;have dW:(b5<(((af ag b1).f4).length:Int))=True:=oT;obtain⟨dO,bT,dA,dB⟩:=kT bO HB b5 oa oa
       cases bT
       go_wp2_with (first|((with_reducible refine aj (N:=6) rfl ?_);(try(refine cl (by rfl) ?_;dsimp only));refine cO 6 #[.string (⟨#[]⟩:ByteArray),.int .i64 0] 75 ?_;intro dP hg jE hbox hb;have bI:=am (hbox);have dQ:=cN hg;have bJ:=dm hg b2;have bK:=dn hg b2;have bL:=dm hg b3;have bM:=dn hg b3;replace b2:=aJ b2 hb;replace b3:=aJ b3 hb;replace HB:=hB HB hb;clear hb hbox hg;have gS:=bK.out;have gT:=bJ.out;have gU:=bM.out;have gV:=bL.out;obtain⟨⟨_,_⟩,_,_⟩:=z2 bI;have gW:=bE.out;have gX:=bF.out;obtain⟨⟨_,_⟩,_,_⟩:=z2 b2)|((with_reducible refine ai (f:=99) rfl ?_);refine ej 43 func99 (eH.calls k3 _ _ ag ak ((al ((af ag b1).f4) b5).f1) dF _ ?eQ bH.out dS.out) ?_;(case eQ=>exact Kd.cY bG.out oB);rintro e jF ⟨rfl,hb⟩;refine⟨_,rfl,?_⟩;replace b2:=aJ b2 hb;replace b3:=aJ b3 hb;replace bI:=pl #[.string ((al ((af ag b1).f4) b5).f0),.int .i64 ((al ((af ag b1).f4) b5).f1)] bI hb;replace HB:=hB HB hb))
       go_roundg k3
       case measure=>have:=bU.out;have:=bV.out;have:=bX.out;omega
       case rel=>exact⟨(wrap64 (b5+1)),oS,H',⟨by have:=bU.out;have:=bV.out;have:=bX.out;omega⟩,⟨oF b2⟩,⟨oF b3⟩,⟨oB⟩⟩

def gtS (a b:ByteArray):Bool:= !(Op.bytesLess a.toList b.toList||a.toList==b.toList)
def vW (s:ByteArray):List cA→Nat→Int
 |[],_=> -1
 |x::l,i=>if gtS x.f0 s=true then(i:Int)else vW s l (i+1)
theorem aa3.calls (s a:ByteArray) (b:Int) (B:Nat) (W:World) (hB:B<W.heap.size) (hc:W.cell? ⟨B,6,none⟩=some (.string s)):
  Calls Tryz.prog 104 #[.agg #[.string a,.int .i64 b],.pointer (some ⟨B,0,none⟩)] W fun e w'=>e= .returned (.bool (gtS a s))∧Below W.heap.size W w':=by
 have hne:B≠W.heap.size:=by omega
 go_enter func104,ntmps104
 go_wp2
 all_goals(go_ret;exact⟨by simp_all [gtS],(Below.refl _ W).alloc (Nat.le_refl _) _⟩)
theorem aa4 (l:List cA) (k:Nat) (h:k<l.length):al l (k:Int)=l[k]:=by
 simp[al,List.getD_eq_getElem?_getD,List.getElem?_eq_getElem h]
theorem aca (s:ByteArray) (l:List cA) (k j:Nat) (h:k<l.length) (hit:gtS (al l (k:Int)).f0 s=true):vW s (l.drop k) j=(j:Int):=by
 rw[List.drop_eq_getElem_cons h,vW,if_pos (by rw[←aa4 l k h];exact hit)]
theorem aa5 (s:ByteArray) (l:List cA) (k j:Nat) (h:k<l.length) (hit:gtS (al l (k:Int)).f0 s=false):vW s (l.drop k) j=vW s (l.drop (k+1)) (j+1):=by
 rw[List.drop_eq_getElem_cons h,vW,if_neg (by rw[←aa4 l k h,hit];decide)]
theorem adv.calls (s:ByteArray) (A0:Option Addr) (c0:Nat) (l:List cA) (B:Nat) (w:World) (hr:fI.C w A0 l.length l) (hB:B<w.heap.size) (hc:w.cell? ⟨B,6,none⟩=some (.string s)) (hl:l.length≤9223372036854775807):
  Calls Tryz.prog 103 #[.slice A0 l.length c0,.func (.func 104) #[] #[.pointer (some ⟨B,0,none⟩)]] w fun e w'=>e= .returned (.int .i64 (vW s l 0))∧Below w.heap.size w w':=by
 go_enter func103,ntmps103
 go_wp2
 go_loopg [5,8] l.length (fun gg _ s8 wr=>∃kk:Nat,kk≤l.length∧l.length-kk≤gg∧s8= .int .i64 kk∧ae (Below w.heap.size w wr)∧ae (vW s l 0=vW s (l.drop kk) kk))
 case atStart=>exact⟨0,Nat.zero_le _,by omega,rfl,⟨Below.refl _ w⟩,⟨rfl⟩⟩
 case round=>
  obtain⟨kk,hkk,hg,rfl,BW,A⟩:=hrel
  by_cases hlt:kk<l.length
  rotate_left
  ·have hltz:¬(kk:Int)<(l.length:Int):=by omega
   obtain rfl:kk=l.length:=by omega
   go_wp2
   go_ret
   exact⟨by rw[A.out,List.drop_length];rfl,BW.out⟩
  have hltz:(kk:Int)<(l.length:Int):=by omega
  obtain⟨ad,e0,h0,h1⟩:=cV (Kd.cY hr BW.out) (kk:Int) (by omega) hltz
  cases e0
  rw[Int.toNat_natCast]at h0 h1;have hBw:B<wr.heap.size:=Nat.lt_of_lt_of_le hB BW.out.size;have hcw:wr.cell? ⟨B,6,none⟩=some (.string s):=(BW.out.cell (p:=⟨B,6,none⟩) hB).trans hc
  cases hq:gtS (al l (kk:Int)).f0 s with
  |true=>
   go_wp2_with (go_at_call 104;refine(aa3.calls s _ _ B wr hBw hcw).mono ?_;rintro e w' ⟨rfl,hb'⟩;rw[hq])
   go_ret
   exact⟨by rw[A.out,aca s l kk kk hlt hq];rfl,iy BW.out BW.out.size hb'⟩
  |false=>
   go_wp2_with (go_at_call 104;refine(aa3.calls s _ _ B wr hBw hcw).mono ?_;rintro e w' ⟨rfl,hb'⟩;rw[hq])
   go_roundg (l.length-(kk+1))
   case measure=>omega
   case rel=>exact⟨kk+1,by omega,by omega,by go_num,⟨iy BW.out BW.out.size hb'⟩,⟨by rw[A.out,aa5 s l kk kk hlt hq]⟩⟩
theorem vX (s:ByteArray) (l:List cA):∀j:Nat,vW s l j= -1∨∃i:Nat,vW s l j=((j+i:Nat):Int)∧i<l.length:=by
 induction l with
 |nil=>intro j;exact .inl rfl
 |cons x l ih=>
  intro j;rw[vW]
  split
  ·exact .inr ⟨0,by simp,by simp⟩
  ·rcases ih (j+1)with h|⟨i,h,hi⟩
   ·exact .inl h
   ·exact .inr ⟨i+1,by rw[h];omega,by simp only[List.length_cons];omega⟩
def oe (s:ByteArray) (l:List cA):Nat:=if vW s l 0<0 then l.length else(vW s l 0).toNat
def xz (x:cA):List Value:=[.string x.f0,.int .i64 x.f1]
def ia.f (k:Nat) (bo ak cE:Int) (ch:List Int) (aG:List cA) (cp:List eu) (kr:ByteArray) (mb:List aX) (cC a2:Int):Option (List aX×Int):=
 (cG.f aG).bind fun y=>if oe kr aG≤y.length∧(y.length+1)*24≤140737488355328∧aG.length≤9223372036854775807 then gr.f k mb cC bo ak cE ch (y.take (oe kr aG)++[⟨kr,a2⟩]++y.drop (oe kr aG)) cp else none
theorem ia.calls (k:Nat) (bo ak cE:Int) (fP:Option Addr) (fQ:Nat) (ch:List Int) (fE:Option Addr) (fF:Nat) (aG:List cA) (fG:Option Addr) (fH:Nat) (cp:List eu) (kr:ByteArray) (sF:Option Addr) (sG:Nat) (mb:List aX) (cC a2:Int) (r1:List aX) (r2:Int) (w:World)
  (iL:Kd.C (Kd.int .u8) w fP ch.length ch) (iM:ch.length≤fQ) (iN:Kd.C fI w fE aG.length aG) (iO:aG.length≤fF) (iP:Kd.C jl w fG cp.length cp) (iQ:cp.length≤fH) (vY:Kd.C gh w sF mb.length mb) (vZ:mb.length≤sG) (h:ia.f k bo ak cE ch aG cp kr mb cC a2=some (r1,r2)):
  Calls Tryz.prog 59 #[.agg #[.int .i64 bo,.int .i64 ak,.int .i64 cE,.slice fP ch.length fQ,.slice fE aG.length fF,.slice fG cp.length fH,.string kr],.agg #[.slice sF mb.length sG,.int .i64 cC],.int .i64 a2] w fun e w'=>∃jx:Value,e= .returned (.agg #[jx,.int .i64 r2])∧Kd.S gh 58 w' w.heap.size (fun _=>True) jx r1∧Below w.heap.size w w':=by
 unfold ia.f at h;replace h:=bA h;obtain⟨y,H1,h⟩:=h
 split at h
 case isFalse=>cases h
 case isTrue hl=>
 have HPY:=ae.mk hl.1;have bN:=ae.mk hl.2.1;have bO:=ae.mk hl.2.2;obtain⟨Y,hY⟩:∃Y,Y=(y.take (oe kr aG)++[(⟨kr,a2⟩:cA)]++y.drop (oe kr aG)):=⟨_,rfl⟩;rw[←hY]at h;have HY:=ae.mk hY;have H2:=ae.mk h;have bP:=ae.mk iL;have bQ:=ae.mk iM;have bE:=ae.mk iN;have bI:=ae.mk iO;have bR:=ae.mk iP;have bS:=ae.mk iQ;have bT:=ae.mk vY;have bU:=ae.mk vZ;clear hl h hY iL iM iN iO iP iQ vY vZ;have HB:=am (Below.refl w.heap.size w)
 go_enter func59,ntmps59
 go_upto_if 14 with(first|((with_reducible refine aj (N:=3) rfl ?_);refine cO 3 #[.int .i64 bo,.int .i64 ak,.int .i64 cE,.slice fP ch.length fQ,.slice fE aG.length fF,.slice fG cp.length fH,.string kr] 65 ?_;intro b7 hg w1 hbox hb;have b1:=ae.mk hbox;have d3:=cN hg;replace HB:=hB HB hb;clear hb hbox hg)|((with_reducible refine aj (N:=4) rfl ?_);refine cO 4 #[.slice sF mb.length sG,.int .i64 cC] 28 ?_;intro bB hg w2 hbox hb;have b2:=ae.mk hbox;have d4:=cN hg;have bW:=dm hg b1;have bX:=dn hg b1;replace b1:=aJ b1 hb;replace HB:=hB HB hb;clear hb hbox hg)|((with_reducible refine aj (N:=6) rfl ?_);refine cO 6 #[.slice none 0 0,.int .i64 0] 28 ?_;intro b8 hg w3 hbox hb;have b5:=ae.mk hbox;have d5:=cN hg;have bY:=dm hg b1;have bZ:=dn hg b1;have d1:=dm hg b2;have d2:=dn hg b2;replace b1:=aJ b1 hb;replace b2:=aJ b2 hb;replace HB:=hB HB hb;clear hb hbox hg;obtain⟨⟨_,_,_,_,_,_,_⟩,_,_,_,_,_,_,_⟩:=z7 b1)|(go_at_call 103;refine(adv.calls kr fE fF aG b7 _ (kC bE) (fM (oF b1)) ((aq (oF b1) 6).trans rfl) bO.out).mono ?_;rintro e w4 ⟨rfl,hb⟩;replace b1:=aJ b1 hb;replace b2:=aJ b2 hb;replace b5:=aJ b5 hb;replace HB:=hB HB hb;clear hb))
 (try simp only[Act.put,List.setIfInBounds_toArray,List.set_cons_zero,List.set_cons_succ])
 go_cut [7] (fun v7 wc=>v7= .int .i64 ((oe kr aG:Nat):Int)∧ae (wc.heap[b7]? =some (.cells #[.int .i64 bo,.int .i64 ak,.int .i64 cE,.slice fP ch.length fQ,.slice fE aG.length fF,.slice fG cp.length fH,.string kr] 65 (0,0)))∧ae (wc.heap[bB]? =some (.cells #[.slice sF mb.length sG,.int .i64 cC] 28 (0,0)))∧ae (wc.heap[b8]? =some (.cells #[.slice none 0 0,.int .i64 0] 28 (0,0)))∧ae (Below w.heap.size w wc))
 case first=>
  obtain⟨⟨_,_,_,_,_,_,_⟩,_,_,_,_,_,_,_⟩:=z7 b1;rcases vX kr aG 0 with hgt|⟨j,hgt,hj⟩
  ·have hpo:oe kr aG=aG.length:=by unfold oe;rw[hgt];rfl
   have bV:decide ((-1:Int)<0)=true:=rfl;rw[hgt]
   go_wp2
   go_meet
   case rel=>exact⟨by rw[hpo],⟨oF b1⟩,⟨oF b2⟩,⟨oF b5⟩,⟨oB⟩⟩
  ·have hpo:oe kr aG=j:=by unfold oe;rw[hgt,if_neg (by omega)];omega
   have bV:decide (((0+j:Nat):Int)<0)=false:=decide_eq_false (by omega);rw[hgt]
   go_wp2
   go_meet
   case rel=>exact⟨by rw[hpo,Nat.zero_add],⟨oF b1⟩,⟨oF b2⟩,⟨oF b5⟩,⟨oB⟩⟩
 case rest=>
  obtain⟨rfl,b1,b2,b5,HB⟩:=hcut
  try go_wp2
  replace b1:=am (au b1.out);replace b2:=am (au b2.out);replace b5:=am (au b5.out);replace HB:=am (av HB.out);refine qN (n:=14) (S:=fun w'=>w'.cell? ⟨b7,4,none⟩=some (.slice fE aG.length fF)∧w'.cell? ⟨b7,6,none⟩=some (.string kr)) (ds:=[13]) (lb 14 0) (by kernel_rfl) rfl rfl oH (fun hHeld=> ?_);generalize wc.drew=w5 at b1 b2 b5 HB hHeld⊢;refine rf 0 19 ?_;refine rf 1 20 ?_;refine tG 2 21 hHeld ?_;refine rf 4 23 ?_;refine rf 5 24 ?_;refine tG 6 25 hHeld ?_;refine rf 7 26 ?_;refine rf 8 27 ?_;refine aaA (σ:=Value×Nat) 4 (lb 14 1023) (fun s_=>[(22,s_.1),(28,.slice (some ⟨s_.2,0,none⟩) 1 1)]) (fun s_ w'=>(w'.cell? ⟨b7,4,none⟩=some (.slice fE aG.length fF)∧w'.cell? ⟨b7,6,none⟩=some (.string kr))∧Kd.R fI 75 w' w.heap.size (fun k_=>k_≠b7∧k_≠bB∧k_≠b8∧k_≠s_.2) s_.1 y∧w'.heap[s_.2]? =some (.cells #[.string kr,.int .i64 a2] 75 (0,0))∧w'.heap[b7]? =some (.cells #[.int .i64 bo,.int .i64 ak,.int .i64 cE,.slice fP ch.length fQ,.slice fE aG.length fF,.slice fG cp.length fH,.string kr] 65 (0,0))∧w'.heap[bB]? =some (.cells #[.slice sF mb.length sG,.int .i64 cC] 28 (0,0))∧w'.heap[b8]? =some (.cells #[.slice none 0 0,.int .i64 0] 28 (0,0))∧Below w.heap.size w w') ?_ ?_;rotate_left
  ·intro qw;refine abW (i:=3) (j:=9) (Ni:=some 22) (Nj:=some 28) (lb 14 511) (lb 14 1015) rfl rfl rfl rfl (by kernel_rfl) (by decide) (by decide) (fun K hK=> ?_) (fun K hK=> ?_)
   ·refine lO 22 func96 (cG.calls _ _ aG y _ (kC bE) bI.out H1.out) ?_;rintro e w6 ⟨bC,rfl,ho,hb⟩;refine⟨_,rfl,?_⟩;have HO:=am (Kd.an (Kd.lX (Kd.lX (Kd.lX ho (oF b1)) (oF b2)) (oF b5)) (ah oB));replace b1:=aJ b1 hb;replace b2:=aJ b2 hb;replace b5:=aJ b5 hb;replace HB:=hB HB hb;clear hb ho;refine eW hK 22 oH (fun hHeld=> ?_);clear hK K;refine wT 9 28 (fun K hK=> ?_);refine nZ (v:= .slice (some ⟨w6.heap.size,0,none⟩) 1 1) (w1:=w6.alloc (.cells #[.string kr,.int .i64 a2] 75)) (by rfl) (by first|(go_simp;done)|(go_simp;rfl)) ?_;refine eW hK 28 ⟨(World.cell?_alloc_lt _ _ _ (fM b1.out)).trans hHeld.1,(World.cell?_alloc_lt _ _ _ (fM b1.out)).trans hHeld.2⟩ (fun hHeld=> ?_);clear hK K;exact pF (by simp only[lG,Act.put,List.setIfInBounds_toArray,List.set_cons_zero,List.set_cons_succ]) (qw (bC,w6.heap.size) _ ⟨hHeld,Kd.bu (Kd.aZ (Kd.jt HO.out) (fun _ hk=>⟨hk.1.1.1.2,hk.1.1.2,hk.1.2,Nat.ne_of_lt hk.2.2.1⟩)) _,jg _ _,aC b1.out _,aC b2.out _,aC b5.out _,aU HB.out _⟩)
   ·refine nZ (v:= .slice (some ⟨w5.heap.size,0,none⟩) 1 1) (w1:=w5.alloc (.cells #[.string kr,.int .i64 a2] 75)) (by rfl) (by first|(go_simp;done)|(go_simp;rfl)) ?_;refine eW hK 28 ⟨(World.cell?_alloc_lt _ _ _ (fM b1.out)).trans hHeld.1,(World.cell?_alloc_lt _ _ _ (fM b1.out)).trans hHeld.2⟩ (fun hHeld=> ?_);clear hK K;have b9:=am (jg w5 (.cells #[.string kr,.int .i64 a2] 75));replace b1:=am (aC b1.out (.cells #[.string kr,.int .i64 a2] 75));replace b2:=am (aC b2.out (.cells #[.string kr,.int .i64 a2] 75));replace b5:=am (aC b5.out (.cells #[.string kr,.int .i64 a2] 75));replace HB:=am (aU HB.out (.cells #[.string kr,.int .i64 a2] 75));generalize w5.alloc (.cells #[.string kr,.int .i64 a2] 75)=w6 at b1 b2 b5 b9 HB hHeld⊢;refine wT 3 22 (fun K hK=> ?_);refine lO 22 func96 (cG.calls _ _ aG y _ (kC bE) bI.out H1.out) ?_;rintro e w7 ⟨bC,rfl,ho,hb⟩;refine⟨_,rfl,?_⟩;have HO:=am (Kd.an (Kd.lX (Kd.lX (Kd.lX (Kd.lX ho (oF b1)) (oF b2)) (oF b5)) (oF b9)) (ah oB));replace b1:=aJ b1 hb;replace b2:=aJ b2 hb;replace b5:=aJ b5 hb;replace b9:=aJ b9 hb;replace HB:=hB HB hb;clear hb ho;refine eW hK 22 oH (fun hHeld=> ?_);clear hK K;exact pF (by simp only[lG,Act.put,List.setIfInBounds_toArray,List.set_cons_zero,List.set_cons_succ]) (qw (bC,w5.heap.size) _ ⟨hHeld,Kd.aZ HO.out (fun _ hk=>⟨hk.1.1.1.2,hk.1.1.2,hk.1.2,hk.2⟩),b9.out,b1.out,b2.out,b5.out,HB.out⟩)
  clear b1 b2 b5 HB hHeld;rintro⟨bC,g9⟩ w7 ⟨hHeld,hR,hG,b3,b4,b6,hB⟩;dsimp only at hR hG;have b1:=ae.mk b3;have b2:=ae.mk b4;have b5:=ae.mk b6;have HB:=ae.mk hB;clear b3 b4 b6 hB;obtain⟨A9,c9,rfl⟩:=Kd.ao hR;refine pF (a':= ?_) ?_ ?_;rotate_left
  ·simp only[lG,Act.put,List.setIfInBounds_toArray,List.set_cons_zero,List.set_cons_succ]
   rfl
  refine wT 10 29 (fun K hK=> ?_);refine lO 29 func105 (adl.calls A9 y.length c9 (oe kr aG) g9 w.heap.size _ (y.map xz) [.string kr,.int .i64 a2] w _ HPY.out (List.length_map ..) (aej (d:=fI) xz (fun _ _ _ _ _ h=>iw h) hR) hG (Kd.lW hR (fun _ hk=>hk.2.2.2)) rfl (by simp;exact⟨rfl,rfl⟩) HB.out (ah HB.out) bN.out) ?_;rintro e w8 ⟨v',rfl,bF,bJ,bD,bM⟩;refine⟨_,rfl,?_⟩;rw[show(y.map xz).take (oe kr aG)++[[.string kr,.int .i64 a2]]++(y.map xz).drop (oe kr aG)=Y.map xz from by rw[HY.out];simp[List.map_take,List.map_drop,xz]]at bF
  have bG:=am (Kd.aZ (ok':=fun k_=>k_≠b7∧k_≠bB∧k_≠b8) (acR (d:=fI) xz (fun _ _ _ x=>lh _ _ _ x) bF) (fun k_ hk=>by
   have l3:=fM b1.out;have l4:=fM b2.out;have l6:=fM b5.out;rcases hk with h|h
   ·have:=hR.1 k_ h.symm;exact⟨this.1,this.2.1,this.2.2.1⟩
   ·exact⟨by omega,by omega,by omega⟩))
  replace b1:=am (lB b1.out bD (Kd.lW hR (fun _ hk=>hk.1)));replace b2:=am (lB b2.out bD (Kd.lW hR (fun _ hk=>hk.2.1)));replace b5:=am (lB b5.out bD (Kd.lW hR (fun _ hk=>hk.2.2.1)));replace HB:=ae.mk bJ;obtain⟨A8,c8,rfl⟩:=Kd.ao bG.out;clear bF bJ bD bM hR hG hHeld;refine eW hK 29 oH (fun hHeld=> ?_);clear hK K;refine rf 11 30 ?_;refine rf 12 31 ?_;refine yr (i:=13) (N:=none) (lb 14 16383) rfl rfl (by kernel_rfl) (by decide) (fun K hK=> ?_);obtain⟨⟨_,_,_,_,_,_,_⟩,_,_,_,_,_,_,_⟩:=z7 b1;refine su (w1:= ?_) (by rfl) rfl ?_ ?_;rotate_left
  ·go_simp
   rfl
  refine hK.out _ _ ?_;clear hK K;refine qi (by kernel_rfl) ?_;have bK:ae ((w8.setCell ⟨b7,4,none⟩ (.slice A8 Y.length c8)).heap[b7]? =some (.cells #[.int .i64 bo,.int .i64 ak,.int .i64 cE,.slice fP ch.length fQ,.slice A8 Y.length c8,.slice fG cp.length fH,.string kr] 65 (0,0))):=⟨oP b1⟩;have bH:=am (Kd.hD (p:=⟨b7,4,none⟩) bG.out (fun _ hk=>hk.1) (.slice A8 Y.length c8));generalize kc:w8.setCell ⟨b7,4,none⟩ (.slice A8 Y.length c8)=w9 at bK bH⊢;replace b2:=wO kc b2;replace b5:=wO kc b5;replace HB:=wS kc HB;clear b1 bG kc;obtain⟨⟨_,_,_,_,_,_,_⟩,_,_,_,_,_,_,_⟩:=z7 bK;obtain⟨⟨_,_⟩,_,_⟩:=z2 b2
  go_wp2_with ((with_reducible refine ai (f:=58) rfl ?_);refine ej 35 func58 (gr.calls k _ _ mb cC bo ak cE _ _ ch _ _ Y _ _ cp r1 r2 _ (kC bT) bU.out (kC bP) bQ.out (kO bH) (ko bH) (kC bR) bS.out H2.out) ?_;rintro e d6 ⟨v0,rfl,hs,hb⟩;refine⟨_,rfl,?_⟩;obtain⟨A0,c0,rfl⟩:=Kd.iA hs;have HS:=vr hs w9.heap.size w.heap.size (Nat.le_refl _) (ah HB.out);have bL:=am (fM b5.out);replace b5:=aJ b5 hb;replace HB:=hB HB hb;clear hs hb;obtain⟨⟨_,_⟩,_,_⟩:=z2 b5)
  refine bodyPost_ret (results_cell_row rfl _ _ b8 28 #[.slice A0 r1.length c0,.int .i64 r2] (0,0) _ rfl (oP b5) underlying28 rfl (by kernel_rfl)) rfl ?_;exact⟨_,rfl,Kd.eV (Kd.eJ (Kd.eJ HS.out (fun k_ hk=>by have:=hk.1;have:=bL.out;dsimp only;omega) _) (fun k_ hk=>by have:=hk.1;have:=bL.out;dsimp only;omega) _) (fun _ _=>trivial),oB⟩
def ix.f (k:Nat) (ag:List (aX)) (ak:Int) (a1:ByteArray):Option (Int×Int×Int×List Int×(List (cA))×(List (eu))×Int):=(fw.f k ag ak a1).bind fun b2=>(if b2.2=0 then((cT.f k ag ak b2.1).bind fun b1=>(if b1.2.2.2.2.2.2=true then(some (b1.1,b1.2.1,b1.2.2.1,b1.2.2.2.1,b1.2.2.2.2.1,b1.2.2.2.2.2.1,0))else(some (0,0,0,([]:List Int),([]:List (cA)),([]:List (eu)),2))))else(some (0,0,0,([]:List Int),([]:List (cA)),([]:List (eu)),b2.2)))
theorem ix.calls (k:Nat) (bh:Option Addr) (aT:Nat) (ag:List (aX)) (ak:Int) (a1:ByteArray) (r1:Int) (r2:Int) (r3:Int) (r4:List Int) (r5:List (cA)) (r6:List (eu)) (r7:Int) (w:World) (cj:Kd.C gh w bh ag.length ag) (ck:ag.length≤aT) (h:ix.f k ag ak a1=some (r1,r2,r3,r4,r5,r6,r7)) (hG:yL w:=by exact gk_ oB (by first|(with_reducible assumption)|assumption)):
  Calls Tryz.prog 47 #[.agg #[.slice bh ag.length aT,.int .i64 ak],.string a1] w fun e w'=>∃pL pM pN:Value,e= .returned (.tuple #[.agg #[.int .i64 r1,.int .i64 r2,.int .i64 r3,pL,pM,pN],.int .i64 r7])∧Kd.R (Kd.int .u8) 5 w' w.heap.size (fun _=>True) pL r4∧Kd.R fI 75 w' w.heap.size (fun _=>True) pM r5∧Kd.R jl 82 w' w.heap.size (fun _=>True) pN r6∧Below w.heap.size w w':=by
 have HG:=ae.mk hG;clear hG;have dR:=underlying28;have dS:=underlying58;have bF:=ae.mk cj;have bG:=ae.mk ck;clear cj ck;have HB:=am (Below.refl w.heap.size w);unfold ix.f at h;have H:=h;clear h;replace H:=bA H;obtain⟨⟨bI,b8⟩,A3,H⟩:=H
 try dsimp only at H
 by_cases c4:b8=0
 rotate_left
 ·rw[if_neg c4]at H;have bX:(b8==0)=false:=beq_eq_false_iff_ne.mpr c4;have bY:(b8 !=0)=true:=bne_iff_ne.mpr c4;simp only[Option.some.injEq,Prod.mk.injEq]at H;obtain⟨rfl,rfl,rfl,rfl,rfl,rfl,rfl⟩:=H
  go_enter func47,ntmps47
  go_wp2_with (first|((with_reducible refine aj (N:=2) rfl ?_);refine cO 2 #[.slice bh ag.length aT,.int .i64 ak] 28 ?_;intro bR hg gC hbox hb;have b1:=am (hbox);have bS:=cN hg;replace HB:=hB HB hb;clear hb hbox hg)|((with_reducible refine aj (N:=4) rfl ?_);refine cO 4 #[.int .i64 0,.int .i64 0,.int .i64 0,.slice none 0 0,.slice none 0 0,.slice none 0 0] 58 ?_;intro bH hg gD hbox hb;have b2:=am (hbox);have bT:=cN hg;have b3:=dm hg b1;have b4:=dn hg b1;replace b1:=aJ b1 hb;replace HB:=hB HB hb;clear hb hbox hg;have dF:=b3.out;have dG:=b4.out;obtain⟨⟨_,_⟩,_,_⟩:=z2 b1)|((with_reducible refine ai (f:=90) rfl ?_);refine ej 13 func90 (fw.calls k _ _ ag ak a1 bI b8 _ (kC bF) bG.out A3.out) ?_;rintro e gE ⟨rfl,hb⟩;refine⟨_,rfl,?_⟩;replace b1:=aJ b1 hb;replace b2:=aJ b2 hb;replace HB:=hB HB hb;obtain⟨⟨_,_,_,_,_,_⟩,_,_,_,_,_,_⟩:=z6 b2))
  refine bodyPost_ret (cQ rfl _ _ bH 58 #[.int .i64 0,.int .i64 0,.int .i64 0,.slice none 0 0,.slice none 0 0,.slice none 0 0] (0,0) _ rfl (oP b2) underlying58 rfl (by kernel_rfl)) rfl ?_;exact⟨_,_,_,oE,by first|exact Kd.eD _ _ _ _ _|exact Kd.ff _ _ _ _ _|exact Kd.fg _ _ _ _ _|exact Kd.fc _ _ _ _ _|exact Kd.fe _ _ _ _ _,by first|exact Kd.eD _ _ _ _ _|exact Kd.ff _ _ _ _ _|exact Kd.fg _ _ _ _ _|exact Kd.fc _ _ _ _ _|exact Kd.fe _ _ _ _ _,by first|exact Kd.eD _ _ _ _ _|exact Kd.ff _ _ _ _ _|exact Kd.fg _ _ _ _ _|exact Kd.fc _ _ _ _ _|exact Kd.fe _ _ _ _ _,oB⟩
 rw[if_pos c4]at H;have bX:(b8==0)=true:=beq_iff_eq.mpr c4;have bY:(b8 !=0)=false:=bne_eq_false_iff_eq.mpr c4;clear c4;replace H:=bA H;obtain⟨⟨bL,bM,bN,bO,bP,bQ,dT⟩,A5,H⟩:=H
 try dsimp only at H
 replace H:=lr H;rcases H with⟨rfl,H⟩|⟨rfl,H⟩
 ·simp only[Option.some.injEq,Prod.mk.injEq]at H;obtain⟨rfl,rfl,rfl,rfl,rfl,rfl,rfl⟩:=H
  go_enter func47,ntmps47
  go_wp2_with (first|((with_reducible refine aj (N:=2) rfl ?_);refine cO 2 #[.slice bh ag.length aT,.int .i64 ak] 28 ?_;intro bR hg w7 hbox hb;have b1:=am (hbox);have bS:=cN hg;replace HB:=hB HB hb;clear hb hbox hg)|((with_reducible refine aj (N:=4) rfl ?_);refine cO 4 #[.int .i64 0,.int .i64 0,.int .i64 0,.slice none 0 0,.slice none 0 0,.slice none 0 0] 58 ?_;intro bH hg w8 hbox hb;have b2:=am (hbox);have bT:=cN hg;have b3:=dm hg b1;have b4:=dn hg b1;replace b1:=aJ b1 hb;replace HB:=hB HB hb;clear hb hbox hg;have dU:=b3.out;have dV:=b4.out;obtain⟨⟨_,_⟩,_,_⟩:=z2 b1)|((with_reducible refine ai (f:=90) rfl ?_);refine ej 13 func90 (fw.calls k _ _ ag ak a1 bI b8 _ (kC bF) bG.out A3.out) ?_;rintro e gF ⟨rfl,hb⟩;refine⟨_,rfl,?_⟩;replace b1:=aJ b1 hb;replace b2:=aJ b2 hb;replace HB:=hB HB hb;obtain⟨⟨_,_⟩,_,_⟩:=z2 b1)|((with_reducible refine ai (f:=91) rfl ?_);refine ej 23 func91 (cT.calls k _ _ ag ak bI bL bM bN bO bP bQ true _ (kC bF) bG.out A5.out) ?_;rintro e gG ⟨bZ,d1,d2,rfl,bU,bJ,bK,hb⟩;refine⟨_,rfl,?_⟩;have b5:=am (Kd.an bU (ah oB));have b6:=am (Kd.an bJ (ah oB));have b7:=am (Kd.an bK (ah oB));replace b1:=aJ b1 hb;replace b2:=aJ b2 hb;replace HB:=hB HB hb;(try clear bJ);(try clear bK))|((with_reducible refine aj (N:=8) rfl ?_);refine cO 8 #[.int .i64 0,.int .i64 0,.int .i64 0,.slice none 0 0,.slice none 0 0,.slice none 0 0] 58 ?_;intro bV hg gH hbox hb;have bE:=am (hbox);have bW:=cN hg;have b9:=dm hg b1;have bB:=dn hg b1;have bC:=dm hg b2;have bD:=dn hg b2;replace b5:=ei b5 hb;replace b6:=ei b6 hb;replace b7:=ei b7 hb;replace b1:=aJ b1 hb;replace b2:=aJ b2 hb;replace HB:=hB HB hb;clear hb hbox hg;have dH:=bB.out;have dI:=b9.out;have dJ:=bD.out;have dK:=bC.out;obtain⟨⟨_,_,_,_,_,_⟩,_,_,_,_,_,_⟩:=z6 bE;obtain⟨d3,d4,d5⟩:=Kd.ao b5.out;subst d5;obtain⟨d6,d7,d8⟩:=Kd.ao b6.out;subst d8;obtain⟨d9,dA,dB⟩:=Kd.ao b7.out;subst dB;obtain⟨⟨_,_,_,_,_,_⟩,_,_,_,_,_,_⟩:=z6 b2))
  refine bodyPost_ret (cQ rfl _ _ bH 58 #[.int .i64 bL,.int .i64 bM,.int .i64 bN,.slice d3 bO.length d4,.slice d6 bP.length d7,.slice d9 bQ.length dA] (0,0) _ rfl (oP b2) underlying58 rfl (by kernel_rfl)) rfl ?_;exact⟨_,_,_,oE,pB b5 bE b2,pB b6 bE b2,pB b7 bE b2,oB⟩
 simp only[Option.some.injEq,Prod.mk.injEq]at H;obtain⟨rfl,rfl,rfl,rfl,rfl,rfl,rfl⟩:=H
 go_enter func47,ntmps47
 go_wp2_with (first|((with_reducible refine aj (N:=2) rfl ?_);refine cO 2 #[.slice bh ag.length aT,.int .i64 ak] 28 ?_;intro bR hg gI hbox hb;have b1:=am (hbox);have bS:=cN hg;replace HB:=hB HB hb;clear hb hbox hg)|((with_reducible refine aj (N:=4) rfl ?_);refine cO 4 #[.int .i64 0,.int .i64 0,.int .i64 0,.slice none 0 0,.slice none 0 0,.slice none 0 0] 58 ?_;intro bH hg gJ hbox hb;have b2:=am (hbox);have bT:=cN hg;have b3:=dm hg b1;have b4:=dn hg b1;replace b1:=aJ b1 hb;replace HB:=hB HB hb;clear hb hbox hg;have dL:=b3.out;have dM:=b4.out;obtain⟨⟨_,_⟩,_,_⟩:=z2 b1)|((with_reducible refine ai (f:=90) rfl ?_);refine ej 13 func90 (fw.calls k _ _ ag ak a1 bI b8 _ (kC bF) bG.out A3.out) ?_;rintro e gK ⟨rfl,hb⟩;refine⟨_,rfl,?_⟩;replace b1:=aJ b1 hb;replace b2:=aJ b2 hb;replace HB:=hB HB hb;obtain⟨⟨_,_⟩,_,_⟩:=z2 b1)|((with_reducible refine ai (f:=91) rfl ?_);refine ej 23 func91 (cT.calls k _ _ ag ak bI bL bM bN bO bP bQ false _ (kC bF) bG.out A5.out) ?_;rintro e gL ⟨bZ,d1,d2,rfl,bU,bJ,bK,hb⟩;refine⟨_,rfl,?_⟩;have b5:=am (Kd.an bU (ah oB));have b6:=am (Kd.an bJ (ah oB));have b7:=am (Kd.an bK (ah oB));replace b1:=aJ b1 hb;replace b2:=aJ b2 hb;replace HB:=hB HB hb;(try clear bJ);(try clear bK))|((with_reducible refine aj (N:=8) rfl ?_);refine cO 8 #[.int .i64 0,.int .i64 0,.int .i64 0,.slice none 0 0,.slice none 0 0,.slice none 0 0] 58 ?_;intro bV hg gM hbox hb;have bE:=am (hbox);have bW:=cN hg;have b9:=dm hg b1;have bB:=dn hg b1;have bC:=dm hg b2;have bD:=dn hg b2;replace b5:=ei b5 hb;replace b6:=ei b6 hb;replace b7:=ei b7 hb;replace b1:=aJ b1 hb;replace b2:=aJ b2 hb;replace HB:=hB HB hb;clear hb hbox hg;have dN:=bB.out;have dO:=b9.out;have dP:=bD.out;have dQ:=bC.out;obtain⟨⟨_,_,_,_,_,_⟩,_,_,_,_,_,_⟩:=z6 bE;obtain⟨dW,dX,dC⟩:=Kd.ao b5.out;subst dC;obtain⟨dY,dZ,dD⟩:=Kd.ao b6.out;subst dD;obtain⟨gA,gB,dE⟩:=Kd.ao b7.out;subst dE;obtain⟨⟨_,_,_,_,_,_⟩,_,_,_,_,_,_⟩:=z6 b2))
 refine bodyPost_ret (cQ rfl _ _ bH 58 #[.int .i64 0,.int .i64 0,.int .i64 0,.slice none 0 0,.slice none 0 0,.slice none 0 0] (0,0) _ rfl (oP b2) underlying58 rfl (by kernel_rfl)) rfl ?_;exact⟨_,_,_,oE,by first|exact Kd.eD _ _ _ _ _|exact Kd.ff _ _ _ _ _|exact Kd.fg _ _ _ _ _|exact Kd.fc _ _ _ _ _|exact Kd.fe _ _ _ _ _,by first|exact Kd.eD _ _ _ _ _|exact Kd.ff _ _ _ _ _|exact Kd.fg _ _ _ _ _|exact Kd.fc _ _ _ _ _|exact Kd.fe _ _ _ _ _,by first|exact Kd.eD _ _ _ _ _|exact Kd.ff _ _ _ _ _|exact Kd.fg _ _ _ _ _|exact Kd.fc _ _ _ _ _|exact Kd.fe _ _ _ _ _,oB⟩

def f_.f (k:Nat) (ag:List (aX)) (ak:Int) (a1:ByteArray):Option (Int×Int×Int×List Int×(List (cA))×(List (eu))×Int):=(kv.f k ag ak a1).bind fun b2=>(if b2.2=0 then((fR.f k ag ak b2.1).bind fun b1=>(if b1.2.2.2.2.2.2=true then(some (b1.1,b1.2.1,b1.2.2.1,b1.2.2.2.1,b1.2.2.2.2.1,b1.2.2.2.2.2.1,0))else(some (0,0,0,([]:List Int),([]:List (cA)),([]:List (eu)),2))))else(some (0,0,0,([]:List Int),([]:List (cA)),([]:List (eu)),b2.2)))
theorem f_.calls (k:Nat) (bh:Option Addr) (aT:Nat) (ag:List (aX)) (ak:Int) (a1:ByteArray) (r1:Int) (r2:Int) (r3:Int) (r4:List Int) (r5:List (cA)) (r6:List (eu)) (r7:Int) (w:World) (cj:Kd.C gh w bh ag.length ag) (ck:ag.length≤aT) (h:f_.f k ag ak a1=some (r1,r2,r3,r4,r5,r6,r7)):
  Calls Tryz.prog 42 #[.agg #[.slice bh ag.length aT,.int .i64 ak],.string a1] w fun e w'=>∃pL pM pN:Value,e= .returned (.tuple #[.agg #[.int .i64 r1,.int .i64 r2,.int .i64 r3,pL,pM,pN],.int .i64 r7])∧Kd.R (Kd.int .u8) 5 w' w.heap.size (fun _=>True) pL r4∧Kd.R fI 75 w' w.heap.size (fun _=>True) pM r5∧Kd.R jl 82 w' w.heap.size (fun _=>True) pN r6∧Below w.heap.size w w':=by
 have dR:=underlying28;have dS:=underlying58;have bF:=ae.mk cj;have bG:=ae.mk ck;clear cj ck;have HB:=am (Below.refl w.heap.size w);unfold f_.f at h;have H:=h;clear h;replace H:=bA H;obtain⟨⟨bI,b8⟩,A3,H⟩:=H
 try dsimp only at H
 by_cases c4:b8=0
 rotate_left
 ·rw[if_neg c4]at H;have bX:(b8==0)=false:=beq_eq_false_iff_ne.mpr c4;have bY:(b8 !=0)=true:=bne_iff_ne.mpr c4;simp only[Option.some.injEq,Prod.mk.injEq]at H;obtain⟨rfl,rfl,rfl,rfl,rfl,rfl,rfl⟩:=H
  go_enter func42,ntmps42
  go_wp2_with (first|((with_reducible refine aj (N:=2) rfl ?_);refine cO 2 #[.slice bh ag.length aT,.int .i64 ak] 28 ?_;intro bR hg gC hbox hb;have b1:=am (hbox);have bS:=cN hg;replace HB:=hB HB hb;clear hb hbox hg)|((with_reducible refine aj (N:=4) rfl ?_);refine cO 4 #[.int .i64 0,.int .i64 0,.int .i64 0,.slice none 0 0,.slice none 0 0,.slice none 0 0] 58 ?_;intro bH hg gD hbox hb;have b2:=am (hbox);have bT:=cN hg;have b3:=dm hg b1;have b4:=dn hg b1;replace b1:=aJ b1 hb;replace HB:=hB HB hb;clear hb hbox hg;have dF:=b3.out;have dG:=b4.out;obtain⟨⟨_,_⟩,_,_⟩:=z2 b1)|((with_reducible refine ai (f:=84) rfl ?_);refine ej 13 func84 (kv.calls k _ _ ag ak a1 bI b8 _ (kC bF) bG.out A3.out) ?_;rintro e gE ⟨rfl,hb⟩;refine⟨_,rfl,?_⟩;replace b1:=aJ b1 hb;replace b2:=aJ b2 hb;replace HB:=hB HB hb;obtain⟨⟨_,_,_,_,_,_⟩,_,_,_,_,_,_⟩:=z6 b2))
  refine bodyPost_ret (cQ rfl _ _ bH 58 #[.int .i64 0,.int .i64 0,.int .i64 0,.slice none 0 0,.slice none 0 0,.slice none 0 0] (0,0) _ rfl (oP b2) underlying58 rfl (by kernel_rfl)) rfl ?_;exact⟨_,_,_,oE,by first|exact Kd.eD _ _ _ _ _|exact Kd.ff _ _ _ _ _|exact Kd.fg _ _ _ _ _|exact Kd.fc _ _ _ _ _|exact Kd.fe _ _ _ _ _,by first|exact Kd.eD _ _ _ _ _|exact Kd.ff _ _ _ _ _|exact Kd.fg _ _ _ _ _|exact Kd.fc _ _ _ _ _|exact Kd.fe _ _ _ _ _,by first|exact Kd.eD _ _ _ _ _|exact Kd.ff _ _ _ _ _|exact Kd.fg _ _ _ _ _|exact Kd.fc _ _ _ _ _|exact Kd.fe _ _ _ _ _,oB⟩
 rw[if_pos c4]at H;have bX:(b8==0)=true:=beq_iff_eq.mpr c4;have bY:(b8 !=0)=false:=bne_eq_false_iff_eq.mpr c4;clear c4;replace H:=bA H;obtain⟨⟨bL,bM,bN,bO,bP,bQ,dT⟩,A5,H⟩:=H
 try dsimp only at H
 replace H:=lr H;rcases H with⟨rfl,H⟩|⟨rfl,H⟩
 ·simp only[Option.some.injEq,Prod.mk.injEq]at H;obtain⟨rfl,rfl,rfl,rfl,rfl,rfl,rfl⟩:=H
  go_enter func42,ntmps42
  go_wp2_with (first|((with_reducible refine aj (N:=2) rfl ?_);refine cO 2 #[.slice bh ag.length aT,.int .i64 ak] 28 ?_;intro bR hg w7 hbox hb;have b1:=am (hbox);have bS:=cN hg;replace HB:=hB HB hb;clear hb hbox hg)|((with_reducible refine aj (N:=4) rfl ?_);refine cO 4 #[.int .i64 0,.int .i64 0,.int .i64 0,.slice none 0 0,.slice none 0 0,.slice none 0 0] 58 ?_;intro bH hg w8 hbox hb;have b2:=am (hbox);have bT:=cN hg;have b3:=dm hg b1;have b4:=dn hg b1;replace b1:=aJ b1 hb;replace HB:=hB HB hb;clear hb hbox hg;have dU:=b3.out;have dV:=b4.out;obtain⟨⟨_,_⟩,_,_⟩:=z2 b1)|((with_reducible refine ai (f:=84) rfl ?_);refine ej 13 func84 (kv.calls k _ _ ag ak a1 bI b8 _ (kC bF) bG.out A3.out) ?_;rintro e gF ⟨rfl,hb⟩;refine⟨_,rfl,?_⟩;replace b1:=aJ b1 hb;replace b2:=aJ b2 hb;replace HB:=hB HB hb;obtain⟨⟨_,_⟩,_,_⟩:=z2 b1)|((with_reducible refine ai (f:=85) rfl ?_);refine ej 23 func85 (fR.calls k _ _ ag ak bI bL bM bN bO bP bQ true _ (kC bF) bG.out A5.out) ?_;rintro e gG ⟨bZ,d1,d2,rfl,bU,bJ,bK,hb⟩;refine⟨_,rfl,?_⟩;have b5:=am (Kd.an bU (ah oB));have b6:=am (Kd.an bJ (ah oB));have b7:=am (Kd.an bK (ah oB));replace b1:=aJ b1 hb;replace b2:=aJ b2 hb;replace HB:=hB HB hb;(try clear bJ);(try clear bK))|((with_reducible refine aj (N:=8) rfl ?_);refine cO 8 #[.int .i64 0,.int .i64 0,.int .i64 0,.slice none 0 0,.slice none 0 0,.slice none 0 0] 58 ?_;intro bV hg gH hbox hb;have bE:=am (hbox);have bW:=cN hg;have b9:=dm hg b1;have bB:=dn hg b1;have bC:=dm hg b2;have bD:=dn hg b2;replace b5:=ei b5 hb;replace b6:=ei b6 hb;replace b7:=ei b7 hb;replace b1:=aJ b1 hb;replace b2:=aJ b2 hb;replace HB:=hB HB hb;clear hb hbox hg;have dH:=bB.out;have dI:=b9.out;have dJ:=bD.out;have dK:=bC.out;obtain⟨⟨_,_,_,_,_,_⟩,_,_,_,_,_,_⟩:=z6 bE;obtain⟨d3,d4,d5⟩:=Kd.ao b5.out;subst d5;obtain⟨d6,d7,d8⟩:=Kd.ao b6.out;subst d8;obtain⟨d9,dA,dB⟩:=Kd.ao b7.out;subst dB;obtain⟨⟨_,_,_,_,_,_⟩,_,_,_,_,_,_⟩:=z6 b2))
  refine bodyPost_ret (cQ rfl _ _ bH 58 #[.int .i64 bL,.int .i64 bM,.int .i64 bN,.slice d3 bO.length d4,.slice d6 bP.length d7,.slice d9 bQ.length dA] (0,0) _ rfl (oP b2) underlying58 rfl (by kernel_rfl)) rfl ?_;exact⟨_,_,_,oE,pB b5 bE b2,pB b6 bE b2,pB b7 bE b2,oB⟩
 simp only[Option.some.injEq,Prod.mk.injEq]at H;obtain⟨rfl,rfl,rfl,rfl,rfl,rfl,rfl⟩:=H
 go_enter func42,ntmps42
 go_wp2_with (first|((with_reducible refine aj (N:=2) rfl ?_);refine cO 2 #[.slice bh ag.length aT,.int .i64 ak] 28 ?_;intro bR hg gI hbox hb;have b1:=am (hbox);have bS:=cN hg;replace HB:=hB HB hb;clear hb hbox hg)|((with_reducible refine aj (N:=4) rfl ?_);refine cO 4 #[.int .i64 0,.int .i64 0,.int .i64 0,.slice none 0 0,.slice none 0 0,.slice none 0 0] 58 ?_;intro bH hg gJ hbox hb;have b2:=am (hbox);have bT:=cN hg;have b3:=dm hg b1;have b4:=dn hg b1;replace b1:=aJ b1 hb;replace HB:=hB HB hb;clear hb hbox hg;have dL:=b3.out;have dM:=b4.out;obtain⟨⟨_,_⟩,_,_⟩:=z2 b1)|((with_reducible refine ai (f:=84) rfl ?_);refine ej 13 func84 (kv.calls k _ _ ag ak a1 bI b8 _ (kC bF) bG.out A3.out) ?_;rintro e gK ⟨rfl,hb⟩;refine⟨_,rfl,?_⟩;replace b1:=aJ b1 hb;replace b2:=aJ b2 hb;replace HB:=hB HB hb;obtain⟨⟨_,_⟩,_,_⟩:=z2 b1)|((with_reducible refine ai (f:=85) rfl ?_);refine ej 23 func85 (fR.calls k _ _ ag ak bI bL bM bN bO bP bQ false _ (kC bF) bG.out A5.out) ?_;rintro e gL ⟨bZ,d1,d2,rfl,bU,bJ,bK,hb⟩;refine⟨_,rfl,?_⟩;have b5:=am (Kd.an bU (ah oB));have b6:=am (Kd.an bJ (ah oB));have b7:=am (Kd.an bK (ah oB));replace b1:=aJ b1 hb;replace b2:=aJ b2 hb;replace HB:=hB HB hb;(try clear bJ);(try clear bK))|((with_reducible refine aj (N:=8) rfl ?_);refine cO 8 #[.int .i64 0,.int .i64 0,.int .i64 0,.slice none 0 0,.slice none 0 0,.slice none 0 0] 58 ?_;intro bV hg gM hbox hb;have bE:=am (hbox);have bW:=cN hg;have b9:=dm hg b1;have bB:=dn hg b1;have bC:=dm hg b2;have bD:=dn hg b2;replace b5:=ei b5 hb;replace b6:=ei b6 hb;replace b7:=ei b7 hb;replace b1:=aJ b1 hb;replace b2:=aJ b2 hb;replace HB:=hB HB hb;clear hb hbox hg;have dN:=bB.out;have dO:=b9.out;have dP:=bD.out;have dQ:=bC.out;obtain⟨⟨_,_,_,_,_,_⟩,_,_,_,_,_,_⟩:=z6 bE;obtain⟨dW,dX,dC⟩:=Kd.ao b5.out;subst dC;obtain⟨dY,dZ,dD⟩:=Kd.ao b6.out;subst dD;obtain⟨gA,gB,dE⟩:=Kd.ao b7.out;subst dE;obtain⟨⟨_,_,_,_,_,_⟩,_,_,_,_,_,_⟩:=z6 b2))
 refine bodyPost_ret (cQ rfl _ _ bH 58 #[.int .i64 0,.int .i64 0,.int .i64 0,.slice none 0 0,.slice none 0 0,.slice none 0 0] (0,0) _ rfl (oP b2) underlying58 rfl (by kernel_rfl)) rfl ?_;exact⟨_,_,_,oE,by first|exact Kd.eD _ _ _ _ _|exact Kd.ff _ _ _ _ _|exact Kd.fg _ _ _ _ _|exact Kd.fc _ _ _ _ _|exact Kd.fe _ _ _ _ _,by first|exact Kd.eD _ _ _ _ _|exact Kd.ff _ _ _ _ _|exact Kd.fg _ _ _ _ _|exact Kd.fc _ _ _ _ _|exact Kd.fe _ _ _ _ _,by first|exact Kd.eD _ _ _ _ _|exact Kd.ff _ _ _ _ _|exact Kd.fg _ _ _ _ _|exact Kd.fc _ _ _ _ _|exact Kd.fe _ _ _ _ _,oB⟩

def gl.f (k:Nat) (ag:List (aX)) (ak:Int) (mb:List (aX)) (cC:Int):Option (Bool):=(cg.f k ag mb).bind fun b1=>(if b1=true then(if ak=cC then(some true)else(some false))else(some false))
theorem gl.calls (k:Nat) (bh:Option Addr) (aT:Nat) (ag:List (aX)) (ak:Int) (sF:Option Addr) (sG:Nat) (mb:List (aX)) (cC:Int) (r:Bool) (w:World) (cj:Kd.C gh w bh ag.length ag) (ck:ag.length≤aT) (vY:Kd.C gh w sF mb.length mb) (vZ:mb.length≤sG) (h:gl.f k ag ak mb cC=some r):
  Calls Tryz.prog 14 #[.agg #[.slice bh ag.length aT,.int .i64 ak],.agg #[.slice sF mb.length sG,.int .i64 cC]] w fun e w'=>e= .returned (.bool r)∧Below w.heap.size w w':=by
 have bK:=underlying28;have b5:=ae.mk cj;have b6:=ae.mk ck;clear cj ck;have b7:=ae.mk vY;have b8:=ae.mk vZ;clear vY vZ;have HB:=am (Below.refl w.heap.size w);unfold gl.f at h;have H:=h;clear h;replace H:=bA H;obtain⟨bL,A3,H⟩:=H
 try dsimp only at H
 replace H:=lr H;rcases H with⟨rfl,H⟩|⟨rfl,H⟩;rotate_left
 ·obtain rfl:=Option.some.inj H
  go_enter func14,ntmps14
  go_wp2_with (first|((with_reducible refine aj (N:=2) rfl ?_);refine cO 2 #[.slice bh ag.length aT,.int .i64 ak] 28 ?_;intro b9 hg bO hbox hb;have b1:=am (hbox);have bB:=cN hg;replace HB:=hB HB hb;clear hb hbox hg)|((with_reducible refine aj (N:=3) rfl ?_);refine cO 3 #[.slice sF mb.length sG,.int .i64 cC] 28 ?_;intro bC hg bP hbox hb;have b2:=am (hbox);have bD:=cN hg;have b3:=dm hg b1;have b4:=dn hg b1;replace b1:=aJ b1 hb;replace HB:=hB HB hb;clear hb hbox hg;have bG:=b3.out;have bH:=b4.out;obtain⟨⟨_,_⟩,_,_⟩:=z2 b1;obtain⟨⟨_,_⟩,_,_⟩:=z2 b2)|((with_reducible refine ai (f:=36) rfl ?_);refine ej 9 func36 (cg.calls k _ _ ag _ _ mb false _ (kC b5) b6.out (kC b7) b8.out A3.out) ?_;rintro e bQ ⟨rfl,hb⟩;refine⟨_,rfl,?_⟩;replace b1:=aJ b1 hb;replace b2:=aJ b2 hb;replace HB:=hB HB hb))
  go_ret
  exact⟨oE,oB⟩
 by_cases c5:ak=cC
 rotate_left
 ·rw[if_neg c5]at H;have bE:(ak==cC)=false:=beq_eq_false_iff_ne.mpr c5;have bF:(ak !=cC)=true:=bne_iff_ne.mpr c5;obtain rfl:=Option.some.inj H
  go_enter func14,ntmps14
  go_wp2_with (first|((with_reducible refine aj (N:=2) rfl ?_);refine cO 2 #[.slice bh ag.length aT,.int .i64 ak] 28 ?_;intro b9 hg bR hbox hb;have b1:=am (hbox);have bB:=cN hg;replace HB:=hB HB hb;clear hb hbox hg)|((with_reducible refine aj (N:=3) rfl ?_);refine cO 3 #[.slice sF mb.length sG,.int .i64 cC] 28 ?_;intro bC hg bS hbox hb;have b2:=am (hbox);have bD:=cN hg;have b3:=dm hg b1;have b4:=dn hg b1;replace b1:=aJ b1 hb;replace HB:=hB HB hb;clear hb hbox hg;have bI:=b3.out;have bJ:=b4.out;obtain⟨⟨_,_⟩,_,_⟩:=z2 b1;obtain⟨⟨_,_⟩,_,_⟩:=z2 b2)|((with_reducible refine ai (f:=36) rfl ?_);refine ej 9 func36 (cg.calls k _ _ ag _ _ mb true _ (kC b5) b6.out (kC b7) b8.out A3.out) ?_;rintro e bT ⟨rfl,hb⟩;refine⟨_,rfl,?_⟩;replace b1:=aJ b1 hb;replace b2:=aJ b2 hb;replace HB:=hB HB hb;obtain⟨⟨_,_⟩,_,_⟩:=z2 b1;obtain⟨⟨_,_⟩,_,_⟩:=z2 b2))
  go_ret
  exact⟨oE,oB⟩
 rw[if_pos c5]at H;have bE:(ak==cC)=true:=beq_iff_eq.mpr c5;have bF:(ak !=cC)=false:=bne_eq_false_iff_eq.mpr c5;clear c5;obtain rfl:=Option.some.inj H
 go_enter func14,ntmps14
 go_wp2_with (first|((with_reducible refine aj (N:=2) rfl ?_);refine cO 2 #[.slice bh ag.length aT,.int .i64 ak] 28 ?_;intro b9 hg w6 hbox hb;have b1:=am (hbox);have bB:=cN hg;replace HB:=hB HB hb;clear hb hbox hg)|((with_reducible refine aj (N:=3) rfl ?_);refine cO 3 #[.slice sF mb.length sG,.int .i64 cC] 28 ?_;intro bC hg w7 hbox hb;have b2:=am (hbox);have bD:=cN hg;have b3:=dm hg b1;have b4:=dn hg b1;replace b1:=aJ b1 hb;replace HB:=hB HB hb;clear hb hbox hg;have bM:=b3.out;have bN:=b4.out;obtain⟨⟨_,_⟩,_,_⟩:=z2 b1;obtain⟨⟨_,_⟩,_,_⟩:=z2 b2)|((with_reducible refine ai (f:=36) rfl ?_);refine ej 9 func36 (cg.calls k _ _ ag _ _ mb true _ (kC b5) b6.out (kC b7) b8.out A3.out) ?_;rintro e bU ⟨rfl,hb⟩;refine⟨_,rfl,?_⟩;replace b1:=aJ b1 hb;replace b2:=aJ b2 hb;replace HB:=hB HB hb;obtain⟨⟨_,_⟩,_,_⟩:=z2 b1;obtain⟨⟨_,_⟩,_,_⟩:=z2 b2))
 go_ret
 exact⟨oE,oB⟩

def kf.f (k:Nat) (ag:List (nL)) (ak:Int) (a1:Int):Option (Int):=(dg.f k ag a1).bind fun b1=>(if b1<0 then(some (-1))else(some b1))
theorem kf.calls (k:Nat) (bh:Option Addr) (aT:Nat) (ag:List (nL)) (ak:Int) (a1:Int) (r:Int) (w:World) (cj:Kd.C k92 w bh ag.length ag) (ck:ag.length≤aT) (h:kf.f k ag ak a1=some r):
  Calls Tryz.prog 10 #[.agg #[.slice bh ag.length aT,.int .i64 ak],.int .i64 a1] w fun e w'=>e= .returned (.int .i64 r)∧Below w.heap.size w w':=by
 have b8:=underlying24;have b2:=ae.mk cj;have b3:=ae.mk ck;clear cj ck;have HB:=am (Below.refl w.heap.size w);unfold kf.f at h;have H:=h;clear h;replace H:=bA H;obtain⟨b4,A3,H⟩:=H
 try dsimp only at H
 replace H:=jm H;rcases H with⟨b7,H⟩|⟨b7,H⟩
 ·obtain rfl:=Option.some.inj H
  go_enter func10,ntmps10
  go_wp2_with (first|((with_reducible refine aj (N:=2) rfl ?_);refine cO 2 #[.slice bh ag.length aT,.int .i64 ak] 24 ?_;intro b5 hg w5 hbox hb;have b1:=am (hbox);have b6:=cN hg;replace HB:=hB HB hb;clear hb hbox hg;obtain⟨⟨_,_⟩,_,_⟩:=z2 b1)|((with_reducible refine ai (f:=32) rfl ?_);refine ej 8 func32 (dg.calls k _ _ ag a1 b4 _ (kC b2) b3.out A3.out) ?_;rintro e w7 ⟨rfl,hb⟩;refine⟨_,rfl,?_⟩;replace b1:=aJ b1 hb;replace HB:=hB HB hb))
  go_ret
  exact⟨oE,oB⟩
 obtain rfl:=Option.some.inj H
 go_enter func10,ntmps10
 go_wp2_with (first|((with_reducible refine aj (N:=2) rfl ?_);refine cO 2 #[.slice bh ag.length aT,.int .i64 ak] 24 ?_;intro b5 hg w8 hbox hb;have b1:=am (hbox);have b6:=cN hg;replace HB:=hB HB hb;clear hb hbox hg;obtain⟨⟨_,_⟩,_,_⟩:=z2 b1)|((with_reducible refine ai (f:=32) rfl ?_);refine ej 8 func32 (dg.calls k _ _ ag a1 b4 _ (kC b2) b3.out A3.out) ?_;rintro e b9 ⟨rfl,hb⟩;refine⟨_,rfl,?_⟩;replace b1:=aJ b1 hb;replace HB:=hB HB hb))
 go_ret
 exact⟨oE,oB⟩

def iX.f (k:Nat) (ag:List (nL)) (ak:Int):Option ((List (aX))×Int):=(dh.f k ag).bind fun b1=>(some (b1,ak))
theorem iX.calls (k:Nat) (bh:Option Addr) (aT:Nat) (ag:List (nL)) (ak:Int) (r1:List (aX)) (r2:Int) (w:World) (cj:Kd.C k92 w bh ag.length ag) (ck:ag.length≤aT) (h:iX.f k ag ak=some (r1,r2)):
  Calls Tryz.prog 12 #[.agg #[.slice bh ag.length aT,.int .i64 ak]] w fun e w'=>∃jx:Value,e= .returned (.agg #[jx,.int .i64 r2])∧Kd.S gh 58 w' w.heap.size (fun _=>True) jx r1∧Below w.heap.size w w':=by
 have bR:=underlying24;have bS:=underlying28;have bH:=ae.mk cj;have bI:=ae.mk ck;clear cj ck;have HB:=am (Below.refl w.heap.size w);unfold iX.f at h;have H:=h;clear h;replace H:=bA H;obtain⟨b4,A2,H⟩:=H
 try dsimp only at H
 simp only[Option.some.injEq,Prod.mk.injEq]at H;obtain⟨rfl,rfl⟩:=H
 go_enter func12,ntmps12
 go_wp2_with (first|((with_reducible refine aj (N:=1) rfl ?_);refine cO 1 #[.slice bh ag.length aT,.int .i64 ak] 24 ?_;intro bL hg w3 hbox hb;have b1:=am (hbox);have bM:=cN hg;replace HB:=hB HB hb;clear hb hbox hg)|((with_reducible refine aj (N:=2) rfl ?_);refine cO 2 #[.slice none 0 0,.int .i64 0] 28 ?_;intro b5 hg w4 hbox hb;have b2:=am (hbox);have bN:=cN hg;have b6:=dm hg b1;have b7:=dn hg b1;replace b1:=aJ b1 hb;replace HB:=hB HB hb;clear hb hbox hg)|((with_reducible refine aj (N:=3) rfl ?_);refine cO 3 #[.slice none 0 0,.int .i64 0] 28 ?_;intro bF hg w5 hbox hb;have b3:=am (hbox);have bO:=cN hg;have b8:=dm hg b1;have b9:=dn hg b1;have bB:=dm hg b2;have bC:=dn hg b2;replace b1:=aJ b1 hb;replace b2:=aJ b2 hb;replace HB:=hB HB hb;clear hb hbox hg;have bT:=b6.out;have bU:=b7.out;have bV:=b8.out;have bW:=b9.out;obtain⟨⟨_,_⟩,_,_⟩:=z2 b1)|((with_reducible refine ai (f:=34) rfl ?_);refine ej 6 func34 (dh.calls k _ _ ag b4 _ (kC bH) bI.out A2.out) ?_;rintro e w9 ⟨bX,rfl,bK,hb⟩;refine⟨_,rfl,?_⟩;have bG:=am (Kd.pn bK (ah oB));replace b1:=aJ b1 hb;replace b2:=aJ b2 hb;replace b3:=aJ b3 hb;replace HB:=hB HB hb;obtain⟨bD,bE,bJ⟩:=Kd.iA bG.out;subst bJ;have bP:=bC.out;have bQ:=bB.out;obtain⟨⟨_,_⟩,_,_⟩:=z2 b3;obtain⟨⟨_,_⟩,_,_⟩:=z2 b1;obtain⟨⟨_,_⟩,_,_⟩:=z2 b2))
 refine bodyPost_ret (results_cell_row rfl _ _ b5 28 #[.slice bD b4.length bE,.int .i64 ak] (0,0) _ rfl (oP b2) underlying28 rfl (by kernel_rfl)) rfl ?_;exact⟨_,oE,by(with_reducible repeat(first|apply Kd.eL|apply Kd.eR|apply Kd.fi));exact Kd.eV (Kd.eJ (p:=⟨b5,1,none⟩) (Kd.eJ (p:=⟨b5,0,none⟩) (Kd.eJ (p:=⟨bF,1,none⟩) (Kd.eJ (p:=⟨bF,0,none⟩) (Kd.ka (Kd.ka bG.out b3.out (by decide)) b2.out (by decide)) (fun _ hk=>hk.1.2) (.slice bD b4.length bE)) (fun _ hk=>hk.1.2) (.int .i64 ak)) (fun _ hk=>hk.2) (.slice bD b4.length bE)) (fun _ hk=>hk.2) (.int .i64 ak)) (fun _ hk=>trivial),oB⟩
end Go.Proofs.YtlecajlnjmbilaaGreatDoor.P
