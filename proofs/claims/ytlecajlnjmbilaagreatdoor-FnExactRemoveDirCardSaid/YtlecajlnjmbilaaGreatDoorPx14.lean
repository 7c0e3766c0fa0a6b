-- Printed walks.
import Derived.Test.YtlecajlnjmbilaaGreatDoorPx10
import Derived.Test.YtlecajlnjmbilaaGreatDoorPx11
import Derived.Test.YtlecajlnjmbilaaGreatDoorPx12
set_option linter.all false
set_option maxHeartbeats 8000000
set_option maxRecDepth 100000
namespace Go.Proofs.YtlecajlnjmbilaaGreatDoor.P
open Go.RowKit Go.Proofs.ab.ao Go.Proofs.ab.aE Go.Proofs.ab.aI
attribute [local go_sem] fV fW im iq fh fi fX fY

mutual
def bd.j0:Nat→Bool→List (aZ)→Int→Option (Bool)
 |0,_,_,_=>none
 |k+1,b3,b1,b2=>if b3=true then(some false)else(bd.l0 k b1 (b1.length:Int) 0 b1 b2)
def bd.l0:Nat→List (aZ)→Int→Int→List (aZ)→Int→Option (Bool)
 |0,_,_,_,_,_=>none
 |k+1,b2,b5,b1,b3,b4=>if b1<b5 then(if 0≤b1 then(if b1<(b2.length:Int)then((bz.f k b3 b4 ((af b2 b1).f0)).bind fun b6=>(if((af b2 b1).f2)=b6 then(bd.l1 k b2 b5 b1 ((af b2 b1).f4) (((af b2 b1).f4).length:Int) 0 b3 b4)else(some false)))else(none))else(none))else(some true)
def bd.l1:Nat→List (aZ)→Int→Int→List (db)→Int→Int→List (aZ)→Int→Option (Bool)
 |0,_,_,_,_,_,_,_,_=>none
 |k+1,b5,b6,b7,b4,b8,b3,b1,b2=>if b3<b8 then(if 0≤b3 then(if b3<(b4.length:Int)then((ez.f k b1 b2 ((al b4 b3).f1)).bind fun b9=>(if b9<0 then(some false)else(bd.l1 k b5 b6 b7 b4 b8 (wrap64 (b3+1)) b1 b2)))else(none))else(none))else(bd.l0 k b5 b6 (wrap64 (b7+1)) b1 b2)
end
def bd.f (k:Nat) (ag:List (aZ)) (ak:Int):Option (Bool):=(bq.f k ag ak).bind fun b1=>(if b1=true then((aV.f k ag ak).bind fun b2=>(bd.j0 k ((b2.length:Int) !=(ag.length:Int)) ag ak))else(bd.j0 k true ag ak))
def bd.T1:Bool×List (List Nat×List Nat):=(true,[([],[]),([0],[0]),([1],[1]),([2,1],[2]),([3],[3]),([4,3,3],[3,4]),([5,3],[3,5]),([3],[3]),([7,3],[3,7]),([8,3],[3,8]),([6,9,3],[3,6,9]),([3,10],[3,10])])
def bd.B1:List Nat:=[0,1,3,7,15,31,63,15,143,399,1023,2047]
theorem bd.aaV:gy .any (opsOf Tryz.f89 1)=bd.T1:=by kernel_rfl
theorem bd.uY:eR bd.T1.2 bd.B1=true:=by kernel_rfl
theorem bd.calls (k:Nat) (bl:Option Addr) (aW:Nat) (ag:List (aZ)) (ak:Int) (r:Bool) (w:World) (cg:Kd.C fv w bl ag.length ag) (ch:ag.length≤aW) (h:bd.f k ag ak=some r):
  Calls Tryz.prog 89 #[.agg #[.slice bl ag.length aW,.int .i64 ak]] w fun e w'=>e= .returned (.bool r)∧Below w.heap.size w w':=by
 have gY:=Tryz.underlying28;have gZ:=Tryz.underlying58;have j1:=Tryz.underlying75;have bG:=ae.mk cg;have bH:=ae.mk ch;clear cg ch;have HB:=am (Below.refl w.heap.size w);unfold bd.f at h;have H:=h;clear h;have dC:=ae.mk H;clear H
 go_enter Tryz.func89,Tryz.ntmps89
 go_upto_region 1 with(first|((with_reducible refine aj (N:=1) rfl ?_);(try(refine ck (by rfl) ?_;dsimp only));refine dp 1 #[.slice bl ag.length aW,.int .i64 ak] 28 ?_;intro b6 hg w3 hbox hb;have b2:=am (hbox);have gF:=dn hg;replace HB:=hB HB hb;clear hb hbox hg))
 (try simp only[Act.put,List.setIfInBounds_toArray,List.set_cons_zero,List.set_cons_succ])
 go_cut [18] (fun dX wc=>∃(kq:Nat) (bR:Bool),dX= .bool bR∧ae (bd.j0 kq bR ag ak=some r)∧ae (kq≤k)∧ae (wc.heap[b6]? =some (.cells #[(.slice bl ag.length aW),.int .i64 ak] 28 (0,0)))∧ae (Below w.heap.size w wc))
 case first=>
  have H:=dC.out;clear dC;replace H:=bA H;obtain⟨j2,A4,H⟩:=H
  try dsimp only at H
  replace H:=ll H;rcases H with⟨rfl,H⟩|⟨rfl,H⟩;rotate_left
  ·have H':=ae.mk H;clear H
   try go_wp2
   replace b2:=am (av b2.out);replace HB:=am (au HB.out);refine mn 12 (fun w'=>w'.cell? ⟨b6,0,none⟩=some (.slice bl ag.length aW)∧w'.cell? ⟨b6,1,none⟩=some (.int .i64 ak)) bd.aaV bd.uY oH (fun hHeld ax eF=> ?_);generalize w3.drew=j6 at b2 HB hHeld⊢;refine fS 0 7 ax eF hHeld ?_;refine kM 1 8 ax (fun K hK=> ?_);refine lG 8 Tryz.func123 (bq.calls k _ _ ag ak false _ (kC bG) bH.out A4.out) ?_;rintro e j7 ⟨rfl,hb⟩;refine⟨_,rfl,?_⟩;replace b2:=bj b2 hb;replace HB:=hB HB hb;refine eY hK 8 oH (fun hHeld=> ?_);clear hK K;refine bx 2 9 ax ?_;refine bx 3 10 ax ?_;refine gh 4 11 ax ?_;refine gh 5 12 ax ?_;refine gh 6 13 ax ?_;refine gh 7 14 ax ?_;refine gh 8 15 ax ?_;refine gh 9 16 ax ?_;refine gh 10 17 ax ?_;refine bx 11 18 ax ?_;refine lY ax ?_
   try go_wp2
   go_meet
   case rel=>exact⟨_,(true),oS,H',⟨by first|omega|exact Nat.le_refl _⟩,⟨oF b2⟩,⟨oB⟩⟩
  replace H:=bA H;obtain⟨dD,A6,H⟩:=H
  try dsimp only at H
  have H':=ae.mk H;clear H
  try go_wp2
  replace b2:=am (av b2.out);replace HB:=am (au HB.out);refine mn 12 (fun w'=>w'.cell? ⟨b6,0,none⟩=some (.slice bl ag.length aW)∧w'.cell? ⟨b6,1,none⟩=some (.int .i64 ak)) bd.aaV bd.uY oH (fun hHeld ax eF=> ?_);generalize w3.drew=w7 at b2 HB hHeld⊢;refine fS 0 7 ax eF hHeld ?_;refine kM 1 8 ax (fun K hK=> ?_);refine lG 8 Tryz.func123 (bq.calls k _ _ ag ak true _ (kC bG) bH.out A4.out) ?_;rintro e w8 ⟨rfl,hb⟩;refine⟨_,rfl,?_⟩;replace b2:=bj b2 hb;replace HB:=hB HB hb;refine eY hK 8 oH (fun hHeld=> ?_);clear hK K;refine bx 2 9 ax ?_;refine bx 3 10 ax ?_;refine bx 7 14 ax ?_;refine fS 4 11 ax eF hHeld ?_;refine fS 8 15 ax eF hHeld ?_;refine bx 9 16 ax ?_;refine kM 5 12 ax (fun K hK=> ?_);refine lG 12 Tryz.func124 (aV.calls k _ _ ag ak dD _ (kC bG) bH.out A6.out) ?_;rintro e w9 ⟨j3,rfl,dY,hb⟩;refine⟨_,rfl,?_⟩;have dG:=am (Kd.ar dY (ah oB));replace b2:=bj b2 hb;replace HB:=hB HB hb;obtain⟨j4,j5,dE⟩:=Kd.aw dG.out
  (first|subst dE|(injection dE with jf lB jg;have dZ:=jf.symm;have gA:=jg.symm;clear jf lB jg;subst dZ;subst gA))
  refine eY hK 12 oH (fun hHeld=> ?_);clear hK K;refine bx 6 13 ax ?_;refine bx 10 17 ax ?_;refine bx 11 18 ax ?_;refine lY ax ?_
  try go_wp2
  go_meet
  case rel=>exact⟨_,(((dD.length:Int) !=(ag.length:Int))),oS,H',⟨by first|omega|exact Nat.le_refl _⟩,⟨oF b2⟩,⟨oB⟩⟩
 case rest=>
  clear dC;obtain⟨kq,bR,rfl,HA,bU,b2,HB⟩:=hcut
  cases kq with
  |zero=>exact absurd HA.out (by simp[bd.j0])
  |succ wE=>
   have H:=HA.out;clear HA;simp only[bd.j0]at H;replace H:=ll H;rcases H with⟨rfl,H⟩|⟨rfl,H⟩
   ·obtain rfl:=Option.some.inj H
    go_wp2
    go_ret
    exact⟨oE,oB⟩
   have H':=ae.mk H;clear H;obtain⟨⟨_,_⟩,_,_⟩:=z2 b2
   go_wp2
   go_loopg [22] wE (fun kq gB w'=>∃(b1:Int),gB= .int .i64 b1∧ae (bd.l0 kq ag (ag.length:Int) b1 ag ak=some r)∧ae (kq≤wE)∧ae (w'.heap[b6]? =some (.cells #[(.slice bl ag.length aW),.int .i64 ak] 28 (0,0)))∧ae (Below w.heap.size w w'))
   case atStart=>exact⟨(0),oS,H',⟨Nat.le_refl _⟩,⟨oF b2⟩,⟨oB⟩⟩
   case round=>
    clear H';obtain⟨b1,rfl,HA,bV,b2,HB⟩:=hrel
    cases gk with
    |zero=>exact absurd HA.out (by simp[bd.l0])
    |succ k2=>
     have H:=HA.out;clear HA;simp only[bd.l0]at H;replace H:=jd H;rcases H with⟨bW,H⟩|⟨bW,H⟩;rotate_left
     ·obtain rfl:=Option.some.inj H
      go_wp2
      go_ret
      exact⟨oE,oB⟩
     obtain⟨dH,H⟩:=cX H;obtain⟨dI,H⟩:=cX H;replace H:=bA H;obtain⟨bN,dR,H⟩:=H
     try dsimp only at H
     by_cases bP:((af ag b1).f2)=bN
     rotate_left
     ·rw[if_neg bP]at H;have dJ:(((af ag b1).f2)==bN)=false:=beq_eq_false_iff_ne.mpr bP;have dK:(((af ag b1).f2) !=bN)=true:=bne_iff_ne.mpr bP;obtain rfl:=Option.some.inj H;have dT:(0≤(b1:Int))=True:=oT;have dU:(b1<(ag.length:Int))=True:=oT;obtain⟨bQ,b7,b8,b9,bB,bC,bD,bS,bY,bZ,d1,d2,d3,d4,d5,d6,d7,bO,d8,d9⟩:=ft bG HB b1 oa oa
      cases bS
      try go_wp2_with (first|((with_reducible refine aj (N:=4) rfl ?_);(try(refine ck (by rfl) ?_;dsimp only));refine dp 4 #[.int .i64 0,.int .i64 0,.int .i64 0,.slice none 0 0,.slice none 0 0,.slice none 0 0] 58 ?_;intro b4 hg gC hbox hb;have b3:=am (hbox);have dL:=dn hg;have bE:=eN hg b2;have bF:=eO hg b2;replace b2:=bj b2 hb;replace HB:=hB HB hb;clear hb hbox hg;have gG:=bF.out;have gH:=bE.out;obtain⟨⟨_,_,_,_,_,_⟩,_,_,_,_,_,_⟩:=z6 b3))
      generalize jy:((((((gC.setCell ⟨b4,0,none⟩ (.int .i64 ((af ag b1).f0))).setCell ⟨b4,1,none⟩ (.int .i64 ((af ag b1).f1))).setCell ⟨b4,2,none⟩ (.int .i64 ((af ag b1).f2))).setCell ⟨b4,3,none⟩ (.slice b7 ((af ag b1).f3).length b8)).setCell ⟨b4,4,none⟩ (.slice b9 ((af ag b1).f4).length bB)).setCell ⟨b4,5,none⟩ (.slice bC ((af ag b1).f5).length bD))=w49;replace b2:=vO jy b2;replace b3:=xz #[.int .i64 ((af ag b1).f0),.int .i64 ((af ag b1).f1),.int .i64 ((af ag b1).f2),.slice b7 ((af ag b1).f3).length b8,.slice b9 ((af ag b1).f4).length bB,.slice bC ((af ag b1).f5).length bD] jy b3;replace HB:=vS jy HB;clear jy;replace b2:=am (av b2.out);replace b3:=am (av b3.out);replace HB:=am (au HB.out);refine s0_ 7 (fun w'=>w'.cell? ⟨b4,0,none⟩=some (.int .i64 ((af ag b1).f0))∧w'.cell? ⟨b4,1,none⟩=some (.int .i64 ((af ag b1).f1))∧w'.cell? ⟨b4,2,none⟩=some (.int .i64 ((af ag b1).f2))∧w'.cell? ⟨b4,3,none⟩=some (.slice b7 ((af ag b1).f3).length b8)∧w'.cell? ⟨b4,4,none⟩=some (.slice b9 ((af ag b1).f4).length bB)∧w'.cell? ⟨b4,5,none⟩=some (.slice bC ((af ag b1).f5).length bD)∧w'.cell? ⟨b6,0,none⟩=some (.slice (some bQ) ag.length aW)∧w'.cell? ⟨b6,1,none⟩=some (.int .i64 ak)) oH (fun hHeld=> ?_);generalize w49.drew=j8 at b2 b3 HB hHeld⊢;refine vT 0 26 ?_;refine vT 3 29 ?_;refine xA 1 27 hHeld ?_;refine xA 2 28 hHeld ?_;refine xA 4 30 hHeld ?_;refine o0_ 5 31 (fun K hK=> ?_);refine lG 31 Tryz.func125 (bz.calls k2 _ _ ag ak ((af ag b1).f0) bN _ (kC bG) bH.out dR.out) ?_;rintro e j9 ⟨rfl,hb⟩;refine⟨_,rfl,?_⟩;replace b2:=bj b2 hb;replace b3:=bj b3 hb;replace HB:=hB HB hb;refine eY hK 31 oH (fun hHeld=> ?_);clear hK K;refine vT 6 32 ?_;refine sP (by kernel_rfl) ?_
      try go_wp2
      go_ret
      exact⟨oE,oB⟩
     rw[if_pos bP]at H;have dJ:(((af ag b1).f2)==bN)=true:=beq_iff_eq.mpr bP;have dK:(((af ag b1).f2) !=bN)=false:=bne_eq_false_iff_eq.mpr bP;clear bP;have H':=ae.mk H;clear H;have dT:(0≤(b1:Int))=True:=oT;have dU:(b1<(ag.length:Int))=True:=oT;obtain⟨bQ,b7,b8,b9,bB,bC,bD,bS,bY,bZ,d1,d2,d3,d4,d5,d6,d7,bO,d8,d9⟩:=ft bG HB b1 oa oa
     cases bS
     try go_wp2_with (first|((with_reducible refine aj (N:=4) rfl ?_);(try(refine ck (by rfl) ?_;dsimp only));refine dp 4 #[.int .i64 0,.int .i64 0,.int .i64 0,.slice none 0 0,.slice none 0 0,.slice none 0 0] 58 ?_;intro b4 hg gD hbox hb;have b3:=am (hbox);have dL:=dn hg;have bE:=eN hg b2;have bF:=eO hg b2;replace b2:=bj b2 hb;replace HB:=hB HB hb;clear hb hbox hg;have gI:=bF.out;have gJ:=bE.out;obtain⟨⟨_,_,_,_,_,_⟩,_,_,_,_,_,_⟩:=z6 b3))
     generalize jy:((((((gD.setCell ⟨b4,0,none⟩ (.int .i64 ((af ag b1).f0))).setCell ⟨b4,1,none⟩ (.int .i64 ((af ag b1).f1))).setCell ⟨b4,2,none⟩ (.int .i64 ((af ag b1).f2))).setCell ⟨b4,3,none⟩ (.slice b7 ((af ag b1).f3).length b8)).setCell ⟨b4,4,none⟩ (.slice b9 ((af ag b1).f4).length bB)).setCell ⟨b4,5,none⟩ (.slice bC ((af ag b1).f5).length bD))=w23;replace b2:=vO jy b2;replace b3:=xz #[.int .i64 ((af ag b1).f0),.int .i64 ((af ag b1).f1),.int .i64 ((af ag b1).f2),.slice b7 ((af ag b1).f3).length b8,.slice b9 ((af ag b1).f4).length bB,.slice bC ((af ag b1).f5).length bD] jy b3;replace HB:=vS jy HB;clear jy;replace b2:=am (av b2.out);replace b3:=am (av b3.out);replace HB:=am (au HB.out);refine s0_ 7 (fun w'=>w'.cell? ⟨b4,0,none⟩=some (.int .i64 ((af ag b1).f0))∧w'.cell? ⟨b4,1,none⟩=some (.int .i64 ((af ag b1).f1))∧w'.cell? ⟨b4,2,none⟩=some (.int .i64 ((af ag b1).f2))∧w'.cell? ⟨b4,3,none⟩=some (.slice b7 ((af ag b1).f3).length b8)∧w'.cell? ⟨b4,4,none⟩=some (.slice b9 ((af ag b1).f4).length bB)∧w'.cell? ⟨b4,5,none⟩=some (.slice bC ((af ag b1).f5).length bD)∧w'.cell? ⟨b6,0,none⟩=some (.slice (some bQ) ag.length aW)∧w'.cell? ⟨b6,1,none⟩=some (.int .i64 ak)) oH (fun hHeld=> ?_);generalize w23.drew=jA at b2 b3 HB hHeld⊢;refine vT 0 26 ?_;refine vT 3 29 ?_;refine xA 1 27 hHeld ?_;refine xA 2 28 hHeld ?_;refine xA 4 30 hHeld ?_;refine o0_ 5 31 (fun K hK=> ?_);refine lG 31 Tryz.func125 (bz.calls k2 _ _ ag ak ((af ag b1).f0) bN _ (kC bG) bH.out dR.out) ?_;rintro e jB ⟨rfl,hb⟩;refine⟨_,rfl,?_⟩;replace b2:=bj b2 hb;replace b3:=bj b3 hb;replace HB:=hB HB hb;refine eY hK 31 oH (fun hHeld=> ?_);clear hK K;refine vT 6 32 ?_;refine sP (by kernel_rfl) ?_;obtain⟨⟨_,_,_,_,_,_⟩,_,_,_,_,_,_⟩:=z6 b3
     try go_wp2
     go_loopg [36] k2 (fun kq gE w'=>∃(b5:Int),gE= .int .i64 b5∧ae (bd.l1 kq ag (ag.length:Int) b1 ((af ag b1).f4) (((af ag b1).f4).length:Int) b5 ag ak=some r)∧ae (kq≤k2)∧ae (w'.heap[b6]? =some (.cells #[(.slice (some bQ) ag.length aW),.int .i64 ak] 28 (0,0)))∧ae (w'.heap[b4]? =some (.cells #[.int .i64 ((af ag b1).f0),.int .i64 ((af ag b1).f1),.int .i64 ((af ag b1).f2),(.slice b7 ((af ag b1).f3).length b8),(.slice b9 ((af ag b1).f4).length bB),(.slice bC ((af ag b1).f5).length bD)] 58 (0,0)))∧ae (Below w.heap.size w w'))
     case atStart=>exact⟨(0),oS,H',⟨Nat.le_refl _⟩,⟨oF b2⟩,⟨oF b3⟩,⟨oB⟩⟩
     case round=>
      clear H'
      try clear bW
      try clear dH
      try clear dI
      try clear bP
      obtain⟨b5,rfl,HA,bX,b2,b3,HB⟩:=hrel
      cases gk with
      |zero=>exact absurd HA.out (by simp[bd.l1])
      |succ k3=>
       have H:=HA.out;clear HA;simp only[bd.l1]at H;replace H:=jd H;rcases H with⟨dM,H⟩|⟨dM,H⟩;rotate_left
       ·have H':=ae.mk H;clear H
        go_wp2
        go_roundg k3
        case measure=>have:=bU.out;have:=bV.out;have:=bX.out;omega
        case rel=>exact⟨(wrap64 (b1+1)),oS,H',⟨by have:=bU.out;have:=bV.out;have:=bX.out;omega⟩,⟨oF b2⟩,⟨oB⟩⟩
       obtain⟨gK,H⟩:=cX H;obtain⟨gL,H⟩:=cX H;replace H:=bA H;obtain⟨dF,dS,H⟩:=H
       try dsimp only at H
       replace H:=jd H;rcases H with⟨dN,H⟩|⟨dN,H⟩
       ·obtain rfl:=Option.some.inj H;have dV:(0≤(b5:Int))=True:=oT;have dW:(b5<(((af ag b1).f4).length:Int))=True:=oT;obtain⟨dO,bT,dA,dB⟩:=kf bO HB b5 oa oa
        cases bT
        go_wp2_with (first|((with_reducible refine aj (N:=6) rfl ?_);(try(refine ck (by rfl) ?_;dsimp only));refine dp 6 #[.string (⟨#[]⟩:ByteArray),.int .i64 0] 75 ?_;intro dP hg jC hbox hb;have bI:=am (hbox);have dQ:=dn hg;have bJ:=eN hg b2;have bK:=eO hg b2;have bL:=eN hg b3;have bM:=eO hg b3;replace b2:=bj b2 hb;replace b3:=bj b3 hb;replace HB:=hB HB hb;clear hb hbox hg;have gM:=bK.out;have gN:=bJ.out;have gO:=bM.out;have gP:=bL.out;obtain⟨⟨_,_⟩,_,_⟩:=z2 bI;have gQ:=bE.out;have gR:=bF.out;obtain⟨⟨_,_⟩,_,_⟩:=z2 b2)|((with_reducible refine ai (f:=99) rfl ?_);refine eL 43 Tryz.func99 (ez.calls k3 _ _ ag ak ((al ((af ag b1).f4) b5).f1) dF _ ?eH bH.out dS.out) ?_;(case eH=>exact Kd.da bG.out oB);rintro e jD ⟨rfl,hb⟩;refine⟨_,rfl,?_⟩;replace b2:=bj b2 hb;replace b3:=bj b3 hb;replace bI:=rg #[.string ((al ((af ag b1).f4) b5).f0),.int .i64 ((al ((af ag b1).f4) b5).f1)] bI hb;replace HB:=hB HB hb))
        go_ret
        exact⟨oE,oB⟩
       have H':=ae.mk H;clear H;have dV:(0≤(b5:Int))=True:=oT;have dW:(b5<(((af ag b1).f4).length:Int))=True:=oT;obtain⟨dO,bT,dA,dB⟩:=kf bO HB b5 oa oa
       cases bT
       go_wp2_with (first|((with_reducible refine aj (N:=6) rfl ?_);(try(refine ck (by rfl) ?_;dsimp only));refine dp 6 #[.string (⟨#[]⟩:ByteArray),.int .i64 0] 75 ?_;intro dP hg jE hbox hb;have bI:=am (hbox);have dQ:=dn hg;have bJ:=eN hg b2;have bK:=eO hg b2;have bL:=eN hg b3;have bM:=eO hg b3;replace b2:=bj b2 hb;replace b3:=bj b3 hb;replace HB:=hB HB hb;clear hb hbox hg;have gS:=bK.out;have gT:=bJ.out;have gU:=bM.out;have gV:=bL.out;obtain⟨⟨_,_⟩,_,_⟩:=z2 bI;have gW:=bE.out;have gX:=bF.out;obtain⟨⟨_,_⟩,_,_⟩:=z2 b2)|((with_reducible refine ai (f:=99) rfl ?_);refine eL 43 Tryz.func99 (ez.calls k3 _ _ ag ak ((al ((af ag b1).f4) b5).f1) dF _ ?eH bH.out dS.out) ?_;(case eH=>exact Kd.da bG.out oB);rintro e jF ⟨rfl,hb⟩;refine⟨_,rfl,?_⟩;replace b2:=bj b2 hb;replace b3:=bj b3 hb;replace bI:=rg #[.string ((al ((af ag b1).f4) b5).f0),.int .i64 ((al ((af ag b1).f4) b5).f1)] bI hb;replace HB:=hB HB hb))
       go_roundg k3
       case measure=>have:=bU.out;have:=bV.out;have:=bX.out;omega
       case rel=>exact⟨(wrap64 (b5+1)),oS,H',⟨by have:=bU.out;have:=bV.out;have:=bX.out;omega⟩,⟨oF b2⟩,⟨oF b3⟩,⟨oB⟩⟩

def eqS (a b:ByteArray):Bool:=a.toList==b.toList
def eqN (s:ByteArray):List db→Nat→Int
 |[],_=> -1
 |x::l,i=>if(eqS x.f0 s)=true then(i:Int)else eqN s l (i+1)
theorem tS.calls (s a:ByteArray) (b:Int) (B:Nat) (W:World) (hB:B<W.heap.size) (hc:W.cell? ⟨B,6,none⟩=some (.string s)):
  Calls Tryz.prog 97 #[.agg #[.string a,.int .i64 b],.pointer (some ⟨B,0,none⟩)] W fun e w'=>e= .returned (.bool (eqS a s))∧Below W.heap.size W w':=by
 have hne:B≠W.heap.size:=by omega
 go_enter Tryz.func97,Tryz.ntmps97
 go_wp2
 all_goals(go_ret;exact⟨by simp_all [eqS],(Below.refl _ W).alloc (Nat.le_refl _) _⟩)
theorem aaW (l:List db) (k:Nat) (h:k<l.length):al l (k:Int)=l[k]:=by
 simp[al,List.getD_eq_getElem?_getD,List.getElem?_eq_getElem h]
theorem aca (s:ByteArray) (l:List db) (k j:Nat) (h:k<l.length) (hit:(eqS (al l (k:Int)).f0 s)=true):eqN s (l.drop k) j=(j:Int):=by
 rw[List.drop_eq_getElem_cons h,eqN,if_pos (by rw[←aaW l k h];exact hit)]
theorem aaX (s:ByteArray) (l:List db) (k j:Nat) (h:k<l.length) (hit:(eqS (al l (k:Int)).f0 s)=false):eqN s (l.drop k) j=eqN s (l.drop (k+1)) (j+1):=by
 rw[List.drop_eq_getElem_cons h,eqN,if_neg (by rw[←aaW l k h,hit];decide)]
theorem adv.calls (s:ByteArray) (A0:Option Addr) (c0:Nat) (l:List db) (B:Nat) (w:World) (hr:iA.C w A0 l.length l) (hB:B<w.heap.size) (hc:w.cell? ⟨B,6,none⟩=some (.string s)) (hl:l.length≤9223372036854775807):
  Calls Tryz.prog 103 #[.slice A0 l.length c0,.func (.func 97) #[] #[.pointer (some ⟨B,0,none⟩)]] w fun e w'=>e= .returned (.int .i64 (eqN s l 0))∧Below w.heap.size w w':=by
 go_enter Tryz.func103,Tryz.ntmps103
 go_wp2
 go_loopg [5,8] l.length (fun gg _ s8 wr=>∃kk:Nat,kk≤l.length∧l.length-kk≤gg∧s8= .int .i64 kk∧ae (Below w.heap.size w wr)∧ae (eqN s l 0=eqN s (l.drop kk) kk))
 case atStart=>exact⟨0,Nat.zero_le _,by omega,rfl,⟨Below.refl _ w⟩,⟨rfl⟩⟩
 case round=>
  obtain⟨kk,hkk,hg,rfl,BW,A⟩:=hrel
  by_cases hlt:kk<l.length
  rotate_left
  ·have hltz:¬(kk:Int)<(l.length:Int):=by omega
   obtain rfl:kk=l.length:=by omega
   go_wp2
   go_ret
   exact⟨by rw[A.out,List.drop_length];rfl,BW.out⟩
  have hltz:(kk:Int)<(l.length:Int):=by omega
  obtain⟨ad,e0,h0,h1⟩:=cT (Kd.da hr BW.out) (kk:Int) (by omega) hltz
  cases e0
  rw[Int.toNat_natCast]at h0 h1;have hBw:B<wr.heap.size:=Nat.lt_of_lt_of_le hB BW.out.size;have hcw:wr.cell? ⟨B,6,none⟩=some (.string s):=(BW.out.cell (p:=⟨B,6,none⟩) hB).trans hc
  cases hq:(eqS (al l (kk:Int)).f0 s)with
  |true=>
   go_wp2_with (go_at_call 97;refine(tS.calls s _ _ B wr hBw hcw).mono ?_;rintro e w' ⟨rfl,hb'⟩;rw[hq])
   go_ret
   exact⟨by rw[A.out,aca s l kk kk hlt hq];rfl,er BW.out BW.out.size hb'⟩
  |false=>
   go_wp2_with (go_at_call 97;refine(tS.calls s _ _ B wr hBw hcw).mono ?_;rintro e w' ⟨rfl,hb'⟩;rw[hq])
   go_roundg (l.length-(kk+1))
   case measure=>omega
   case rel=>exact⟨kk+1,by omega,by omega,by go_num,⟨er BW.out BW.out.size hb'⟩,⟨by rw[A.out,aaX s l kk kk hlt hq]⟩⟩
def delN (s:ByteArray) (l:List db):List db:=l.filter fun x=> !(eqS x.f0 s)
theorem aaY (s:ByteArray) (l:List db):∀j:Nat,(eqN s l j= -1∧∀x∈l,(eqS x.f0 s)=false)∨∃i:Nat,eqN s l j=((j+i:Nat):Int)∧∃h:i<l.length,(eqS l[i].f0 s)=true∧∀(q:Nat) (hq:q<i),(eqS l[q].f0 s)=false:=by
 induction l with
 |nil=>intro j;exact .inl ⟨rfl,by simp⟩
 |cons x l ih=>
  intro j;rw[eqN]
  cases c:(eqS x.f0 s)with
  |true=>exact .inr ⟨0,by simp,by simp,c,fun q hq=>by omega⟩
  |false=>
   rw[if_neg (by decide)];rcases ih (j+1)with⟨h1,h2⟩|⟨i,h1,h2,h3,h4⟩
   ·left
    refine⟨h1,fun y hy=> ?_⟩;rcases List.mem_cons.1 hy with rfl|hy
    ·exact c
    ·exact h2 y hy
   ·right
    refine⟨i+1,by rw[h1];congr 1;omega,by simpa using h2,by simpa using h3,fun q hq=> ?_⟩
    cases q with
    |zero=>exact c
    |succ q=>exact h4 q (by omega)
theorem aaZ (s:ByteArray) (l:List db) (h:∀x∈l,(eqS x.f0 s)=false):delN s l=l:=List.filter_eq_self.2 (fun x hx=>by rw[h x hx];rfl)
theorem yq (s:ByteArray) (l:List db) (i:Nat) (h:i<l.length) (h1:(eqS l[i].f0 s)=true) (h2:∀(q:Nat) (hq:q<i),(eqS l[q].f0 s)=false):delN s (l.take (i+1))=l.take i:=by
 unfold delN;rw[List.take_succ_eq_append_getElem h,List.filter_append,List.filter_cons_of_neg (by rw[h1];decide),List.filter_nil,List.append_nil]
 exact List.filter_eq_self.2 (fun x hx=>by
  obtain⟨q,hq,rfl⟩:=List.getElem_of_mem hx;rw[List.length_take]at hq
  rw[List.getElem_take,h2 q (by omega)];rfl)
theorem yr (s:ByteArray) (l:List db) (j:Nat) (h:j<l.length):delN s (l.take (j+1))=delN s (l.take j)++(if(eqS l[j].f0 s)=true then []else [l[j]]):=by
 unfold delN;rw[List.take_succ_eq_append_getElem h,List.filter_append]
 congr 1
 cases c:(eqS l[j].f0 s)with
 |true=>rw[if_pos rfl,List.filter_cons_of_neg (by rw[c];decide),List.filter_nil]
 |false=>rw[if_neg (by decide),List.filter_cons_of_pos (by rw[c];rfl),List.filter_nil]
theorem aa0 (w:World):(zeroValue 75).run Tryz.prog w= .ok (.agg #[.string ⟨#[]⟩,.int .i64 0]) w:=by kernel_rfl
def sG (x:db):List Value:=[.string x.f0,.int .i64 x.f1]
theorem adw.calls (s:ByteArray) (A0:Option Addr) (c0:Nat) (l:List db) (B:Nat) (ok:Nat→Prop) (w0 w:World) (hB:Below w0.heap.size w0 w) (hR:Kd.R iA 75 w w0.heap.size ok (.slice A0 l.length c0) l) (hBl:B<w.heap.size) (hc:w.cell? ⟨B,6,none⟩=some (.string s)) (hne:¬ok B) (hl:l.length≤9223372036854775807):
  Calls Tryz.prog 95 #[.slice A0 l.length c0,.func (.func 97) #[] #[.pointer (some ⟨B,0,none⟩)]] w fun e w'=>e= .returned (.slice A0 (delN s l).length c0)∧Kd.R iA 75 w' w0.heap.size ok (.slice A0 (delN s l).length c0) (delN s l)∧Below w0.heap.size w0 w'∧Kept w w' ok:=by
 have hr:=(Kd.bm hR).2.2;have b1:=ae.mk hR;have HB:=ae.mk hB;have HW:=ae.mk hB.size;have HN:=ae.mk hne;have hcall:=adv.calls s A0 c0 l B w hr hBl hc hl;clear hR hB hne hr;rcases aaY s l 0 with⟨hp,hall⟩|⟨i0,hp,b8,hhit,hbef⟩
 ·rw[hp]at hcall;have HC:=ae.mk hcall;have HD:=am (aaZ s l hall);clear hcall hc hall hp
  go_enter Tryz.func95,Tryz.ntmps95
  go_wp2_with (go_at_call 103;refine HC.out.mono ?_;rintro e w1 ⟨rfl,hb⟩)
  go_ret
  rw[HD.out];exact⟨rfl,Kd.fT b1.out hb,er HB.out HW.out hb,Kept.of_below hb _⟩
 ·rw[Nat.zero_add]at hp;rw[hp]at hcall;have HC:=ae.mk hcall;have pQ:=yq s l i0 b8 hhit hbef;obtain⟨g,cap,ev,gb,_,_⟩:=Kd.lI b1.out (by omega);injection ev with ea en ec;subst ea;clear en;subst ec;have hPg:ok g:=b1.out.1 g rfl;have HP:=ae.mk hPg
  have hBg:B≠g:=fun he=>HN.out (he▸hPg)
  have HR:=am (Kd.bf (ok':=fun k=>k=g) ((⟨fun k hk=>by simpa [Value.ownBlock]using hk.symm,(aet sG (fun _ _ _ _ _ h=>lq h) b1.out).2⟩:(Kd.raw iA.sz).R 75 w w0.heap.size (fun k=>k=g) (.slice (some ⟨g,0,none⟩) l.length c0) (l.map sG))) (fun _ h=>h))
  have hil:(delN s (l.take (i0+1))).length=i0:=by rw[pQ,List.length_take];omega
  have HI:=am (⟨by omega,by rw[hil,pQ,List.map_take],List.length_map ..⟩:(delN s (l.take (i0+1))).length<i0+1∧(l.map sG).take (delN s (l.take (i0+1))).length=(delN s (l.take (i0+1))).map sG∧(l.map sG).length=l.length);have HG:=ae.mk gb;have HCC:=ae.mk hc;clear hcall hc hhit hbef hp pQ hPg gb
  go_enter Tryz.func95,Tryz.ntmps95
  go_wp2_with (go_at_call 103;refine HC.out.mono ?_;rintro e w1 ⟨rfl,hb⟩)
  replace HR:=am (Kd.fT HR.out hb);have HK:=am (Kept.of_below hb (fun k=>k=g));replace HB:=am (er HB.out HW.out hb);clear hb HC b1
  go_loopg [5,6] l.length (fun gg s5 s6 wr=>∃(jj:Nat) (rws:List (List Value)),jj≤l.length∧l.length-jj≤gg∧s5= .int .i64 (delN s (l.take jj)).length∧s6= .int .i64 jj∧ae ((delN s (l.take jj)).length<jj∧rws.take (delN s (l.take jj)).length=(delN s (l.take jj)).map sG∧rws.length=l.length)∧ae (rws.drop jj=(l.map sG).drop jj)∧ae ((Kd.raw iA.sz).R 75 wr w0.heap.size (fun k=>k=g) (.slice (some ⟨g,0,none⟩) l.length c0) rws)∧ae (Below w0.heap.size w0 wr)∧ae (Kept w wr (fun k=>k=g)))
  case atStart=>exact⟨i0+1,l.map sG,by omega,by omega,by rw[hil],by go_num,HI,⟨rfl⟩,HR,HB,HK⟩
  case round=>
   clear HR HB HK HI hil;obtain⟨jj,rws,hjj,hgg,rfl,rfl,HI,HD,HR,HB,HK⟩:=hrel
   by_cases hlt:jj<l.length
   rotate_left
   ·have hltz:¬(jj:Int)<(l.length:Int):=by omega
    obtain rfl:jj=l.length:=by omega
    have hIx:=HI.out;rw[List.take_length]at hIx⊢;obtain⟨hmj,htk,wF⟩:=hIx;have hcap:=(Kd.bm HR.out).2.1;have HTK:=ae.mk htk;generalize hm:(delN s l).length=m at hmj htk⊢
    have hml:(m:Int)<(l.length:Int):=by omega
    have b2:(0:Int)≤(m:Int):=by omega
    obtain⟨w1,hst,b3,b5⟩:=sV (P:=Tryz.prog) (zs:=(Builtin.zeroCells (Value.agg #[.string ⟨#[]⟩,.int .i64 0]).cells (l.length-m)).toList) (i:=m) HR.out (by omega) (by rw[Array.length_toList,size_zeroCells];rfl) (pa (by decide) _)
    have hrun:=fun ty=>sU (P:=Tryz.prog) (ty:=ty) (c:=c0-m) (show Tryz.prog.underlying 55=some (.slice 75) by kernel_rfl) (aa0 wr) (show l.length-m≠0 by omega) (show(storeCells ⟨g,m*2,none⟩ (Builtin.zeroCells (Value.agg #[.string ⟨#[]⟩,.int .i64 0]).cells (l.length-m)).toList).run Tryz.prog wr= .ok () w1 from hst)
    have hk1:Kept w w1 (fun k=>k=g):=Kept.kg b5 HK.out (fun k e=> .inl (by injection e with e;exact e.symm));have b9:Below w0.heap.size w0 w1:=HB.out.grown b5 HB.out.size (fun k e=>by injection e with e;rw[←e];exact HG.out);rw[htk]at b3;have bB:=am (Kd.bf (ok':=ok) (acU (d:=iA) sG (fun _ _ _ x=>oy _ _ _ x) b3) (fun k hk=>hk▸HP.out));clear hst b3 htk
    go_wp2_with ((with_reducible refine eb (b:= .clear) rfl ?_);refine o_ (w1:=w1) rfl rfl rfl (v:= .tuple #[]) ?hr ?_;(case hr=>go_simp;rw[hrun 0];rfl);(intro w2 hw;subst hw))
    go_ret
    exact⟨rfl,bB.out,b9,hk1.mono (fun k hk=>by rw[hk];exact HP.out)⟩
   have hltz:(jj:Int)<(l.length:Int):=by omega
   have hnn:(0:Int)≤(jj:Int):=by omega
   have hjr:rws.getD jj []=sG l[jj]:=by
    have:=congrArg (fun L=>L.getD 0 []) HD.out
    simpa [List.getD_eq_getElem?_getD,List.getElem?_drop,List.getElem?_map,List.getElem?_eq_getElem hlt]using this
   obtain⟨c,hcl,hcm,hcc,hcf⟩:=Kd.jn HR.out [] (jj:Int) hnn hltz
   have hce:c=[.string l[jj].f0,.int .i64 l[jj].f1]:=by
    have:=hcm.1;rw[Int.toNat_natCast,hjr]at this;exact this
   have hone:=hcm.2.2;subst hce;have bG:wr.cell? ⟨g,jj*2,none⟩=some (.string l[jj].f0):=hcc 0 _ rfl;have bH:wr.cell? ⟨g,jj*2+1,none⟩=some (.int .i64 l[jj].f1):=hcc 1 _ rfl;have hgs:=Kd.vR HR.out g (by simp[Value.ownBlock]);have hBw:B<wr.heap.size:=Nat.lt_of_lt_of_le hBl HK.out.1
   have hcw:∀o,(wr.alloc o).cell? ⟨B,6,none⟩=some (.string s):=fun o=>cB (W:=wr.alloc o) ⟨aK (Below.refl _ _) o⟩ (cell_kept HCC.out HK.out hBg)
   have rP:=ae.mk hone;clear hcm hcc hcf hcl hone hjr;have hst:=yr s l jj hlt;have hIx:=HI.out;obtain⟨hmj,htk,wF⟩:=hIx
   cases hq:(eqS l[jj].f0 s)with
   |true=>
    rw[hq,if_pos rfl,List.append_nil]at hst;have HST:=ae.mk hst;clear hst htk hmj wF
    go_wp2_with (go_at_call 97;refine(tS.calls s _ _ B _ (by simp only[World.size_alloc];omega) (hcw _)).mono ?_;rintro e w2 ⟨rfl,hb⟩;rw[hq])
    go_roundg (l.length-(jj+1))
    case measure=>omega
    case rel=>
     have b4:=bold hb;refine⟨jj+1,rws,by omega,by omega,by rw[HST.out],by go_num,⟨?_⟩,⟨?_⟩,⟨Kd.fT HR.out b4⟩,⟨er HB.out HB.out.size b4⟩,⟨Kept.below HK.out b4⟩⟩
     ·rw[HST.out];have:=HI.out;exact⟨by omega,this.2⟩
     ·have:=congrArg (fun L=>L.drop 1) HD.out
      simpa [List.drop_drop,Nat.add_comm]using this
   |false=>
    rw[hq,if_neg (by decide)]at hst;have HST:=ae.mk hst;generalize hm:(delN s (l.take jj)).length=m at hmj htk⊢;have HTK:=ae.mk htk
    have hml:(m:Int)<(l.length:Int):=by omega
    have b2:(0:Int)≤(m:Int):=by omega
    clear hst htk
    go_wp2_with (first|(go_at_call 97;refine(tS.calls s _ _ B _ (by simp only[World.size_alloc];omega) (hcw _)).mono ?_;rintro e w2 ⟨rfl,hb⟩;rw[hq];have KV:=vQ hb;replace hb:=bold hb;have zv:=z2 KV;have b6:=am (Kd.fT HR.out hb);have bC:=am (er HB.out HB.out.size hb);have bD:=am (Kept.below HK.out hb))|((with_reducible refine fu (t:=75) (p:=33) rfl ?_);obtain⟨c',hcl',hcm',sE,_⟩:=Kd.jn b6.out [] (m:Int) b2 hml;refine Kd.tG (Kd.raw iA.sz) w0.heap.size rfl rfl 75 (.tmp 33) (.tmp 32) rfl 75 (m:Int) 0 rws [.string l[jj].f0,.int .i64 l[jj].f1] (.agg [.string l[jj].f0,.int .i64 l[jj].f1].toArray) [.string l[jj].f0,.int .i64 l[jj].f1] c' (fun k=>k=g) (fun _=>False) rfl (by simp;rfl) rfl rfl (by kernel_rfl) rP.out b6.out b2 hml hcl' sE (Nat.le_refl _) ?_ (fun _ hk=>hk.elim) bC.out ?_;(first|(exact sW hcl' rfl rP.out)|skip);intro w3 b7 bE bF))
    go_roundg (l.length-(jj+1))
    case measure=>omega
    case rel=>
     rw[Int.toNat_natCast]at b7;have hT:=HTK.out
     have hlen:(delN s (l.take (jj+1))).length=m+1:=by rw[HST.out,List.length_append,hm];rfl
     refine⟨jj+1,rws.set m [.string l[jj].f0,.int .i64 l[jj].f1],by omega,by omega,by rw[hlen];go_num,by go_num,⟨?_⟩,⟨?_⟩,⟨b7⟩,⟨bE⟩,⟨Kept.kg bF bD.out (fun k e=> .inl (by injection e with e;exact e.symm))⟩⟩
     ·refine⟨by omega,?_,by rw[List.length_set];exact wF⟩;rw[hlen,HST.out,List.map_append,List.take_succ_eq_append_getElem (by rw[List.length_set];omega),List.getElem_set_self,List.take_set_of_le (Nat.le_refl m),hT]
      rfl
     ·rw[List.drop_set_of_lt (by omega)];have:=congrArg (fun L=>L.drop 1) HD.out
      simpa [List.drop_drop,Nat.add_comm]using this
def hJ.f (k:Nat) (bo ak cE:Int) (cf:List Int) (aJ:List db) (cr:List ey) (uZ:ByteArray) (mf:List aZ) (dz:Int):Option (List aZ×Int):=
 (cH.f aJ).bind fun y=>if y.length≤9223372036854775807 then iW.f k mf dz bo ak cE cf (delN uZ y) cr else none
theorem hJ.calls (k:Nat) (bo ak cE:Int) (fP:Option Addr) (fQ:Nat) (cf:List Int) (fM:Option Addr) (fN:Nat) (aJ:List db) (fA:Option Addr) (fC:Nat) (cr:List ey) (uZ:ByteArray) (tT:Option Addr) (tU:Nat) (mf:List aZ) (dz:Int) (r1:List aZ) (r2:Int) (w:World)
  (iH:Kd.C (Kd.int .u8) w fP cf.length cf) (iI:cf.length≤fQ) (iJ:Kd.C iA w fM aJ.length aJ) (iK:aJ.length≤fN) (iL:Kd.C jr w fA cr.length cr) (iM:cr.length≤fC) (u_:Kd.C fv w tT mf.length mf) (vk:mf.length≤tU) (h:hJ.f k bo ak cE cf aJ cr uZ mf dz=some (r1,r2)):
  Calls Tryz.prog 50 #[.agg #[.int .i64 bo,.int .i64 ak,.int .i64 cE,.slice fP cf.length fQ,.slice fM aJ.length fN,.slice fA cr.length fC,.string uZ],.agg #[.slice tT mf.length tU,.int .i64 dz]] w fun e w'=>∃iY:Value,e= .returned (.agg #[iY,.int .i64 r2])∧Kd.S fv 58 w' w.heap.size (fun _=>True) iY r1∧Below w.heap.size w w':=by
 unfold hJ.f at h;replace h:=bA h;obtain⟨y,H1,h⟩:=h
 split at h
 case isFalse=>cases h
 case isTrue hl=>
 have HLY:=ae.mk hl;obtain⟨Y,hY⟩:∃Y,Y=delN uZ y:=⟨_,rfl⟩;rw[←hY]at h;have HY:=ae.mk hY;have H2:=ae.mk h;have bB:=ae.mk iH;have bC:=ae.mk iI;have bD:=ae.mk iJ;have bE:=ae.mk iK;have bF:=ae.mk iL;have bG:=ae.mk iM;have bH:=ae.mk u_;have bI:=ae.mk vk;clear hl h hY iH iI iJ iK iL iM u_ vk;have HB:=am (Below.refl w.heap.size w)
 go_enter Tryz.func50,Tryz.ntmps50
 go_upto_region 2 with(first|((with_reducible refine aj (N:=2) rfl ?_);refine dp 2 #[.int .i64 bo,.int .i64 ak,.int .i64 cE,.slice fP cf.length fQ,.slice fM aJ.length fN,.slice fA cr.length fC,.string uZ] 65 ?_;intro b4 hg w1 hbox hb;have b1:=ae.mk hbox;have bQ:=dn hg;replace HB:=hB HB hb;clear hb hbox hg)|((with_reducible refine aj (N:=3) rfl ?_);refine dp 3 #[.slice tT mf.length tU,.int .i64 dz] 28 ?_;intro bJ hg w2 hbox hb;have b2:=ae.mk hbox;have bR:=dn hg;have bK:=eN hg b1;have bL:=eO hg b1;replace b1:=bj b1 hb;replace HB:=hB HB hb;clear hb hbox hg)|((with_reducible refine aj (N:=4) rfl ?_);refine dp 4 #[.slice none 0 0,.int .i64 0] 28 ?_;intro b6 hg w3 hbox hb;have b3:=ae.mk hbox;have bS:=dn hg;have bM:=eN hg b1;have bN:=eO hg b1;have bO:=eN hg b2;have bP:=eO hg b2;replace b1:=bj b1 hb;replace b2:=bj b2 hb;replace HB:=hB HB hb;clear hb hbox hg;obtain⟨⟨_,_,_,_,_,_,_⟩,_,_,_,_,_,_,_⟩:=z7 b1)|((with_reducible refine ai (f:=96) rfl ?_);refine eL 8 Tryz.func96 (cH.calls _ _ aJ y _ (kC bD) bE.out H1.out) ?_;rintro e w4 ⟨v8,rfl,ho,hb⟩;refine⟨_,rfl,?_⟩;have HO:=am (Kd.ar (Kd.wm (Kd.wm (Kd.wm ho (oF b1)) (oF b2)) (oF b3)) (ah oB));replace b1:=bj b1 hb;replace b2:=bj b2 hb;replace b3:=bj b3 hb;replace HB:=hB HB hb;clear hb ho;obtain⟨A8,c8,rfl⟩:=Kd.aw HO.out)|(go_at_call 95;refine(adw.calls uZ A8 c8 y b4 (fun k_=>k_≠b4∧k_≠bJ∧k_≠b6) w _ oB (Kd.bf (oR HO) (fun _ hk=>⟨hk.1.1.2,hk.1.2,hk.2⟩)) (iU (oF b1)) ((an (oF b1) 6).trans rfl) (fun h=>h.1 rfl) HLY.out).mono ?_;rw[←HY.out];rintro e w5 ⟨rfl,hr,hb,hk⟩;have b7:=ae.mk hr;replace b1:=nW ⟨oF b1⟩ hk (fun h=>h.1 rfl);replace b2:=nW ⟨oF b2⟩ hk (fun h=>h.2.1 rfl);replace b3:=nW ⟨oF b3⟩ hk (fun h=>h.2.2 rfl);replace HB:=ae.mk hb;clear hr hb hk HO;obtain⟨⟨_,_,_,_,_,_,_⟩,_,_,_,_,_,_,_⟩:=z7 b1))
 have b8:ae ((w5.setCell ⟨b4,4,none⟩ (.slice A8 Y.length c8)).heap[b4]? =some (.cells #[.int .i64 bo,.int .i64 ak,.int .i64 cE,.slice fP cf.length fQ,.slice A8 Y.length c8,.slice fA cr.length fC,.string uZ] 65 (0,0))):=⟨oP b1⟩;have b5:=am (Kd.cJ (p:=⟨b4,4,none⟩) b7.out (fun _ hk=>hk.1) (.slice A8 Y.length c8));generalize jy:w5.setCell ⟨b4,4,none⟩ (.slice A8 Y.length c8)=w9 at b8 b5⊢;replace b2:=vO jy b2;replace b3:=vO jy b3;replace HB:=vS jy HB;clear b1 b7 jy;obtain⟨⟨_,_,_,_,_,_,_⟩,_,_,_,_,_,_,_⟩:=z7 b8;obtain⟨⟨_,_⟩,_,_⟩:=z2 b2
 go_wp2_with ((with_reducible refine ai (f:=58) rfl ?_);refine eL 16 Tryz.func58 (iW.calls k _ _ mf dz bo ak cE _ _ cf _ _ Y _ _ cr r1 r2 _ (kC bH) bI.out (kC bB) bC.out (kO b5) (ko b5) (kC bF) bG.out H2.out) ?_;rintro e bT ⟨v0,rfl,hs,hb⟩;refine⟨_,rfl,?_⟩;obtain⟨A0,c0,rfl⟩:=Kd.gf hs;have HS:=tt hs w9.heap.size w.heap.size (Nat.le_refl _) (ah HB.out);have b9:=am (iU b3.out);replace b3:=bj b3 hb;replace HB:=hB HB hb;clear hs hb;obtain⟨⟨_,_⟩,_,_⟩:=z2 b3)
 refine bodyPost_ret (results_cell_row rfl _ _ b6 28 #[.slice A0 r1.length c0,.int .i64 r2] (0,0) _ rfl (oP b3) Tryz.underlying28 rfl (by kernel_rfl)) rfl ?_;exact⟨_,rfl,Kd.eu (Kd.cV (Kd.cV HS.out (fun k_ hk=>by have:=hk.1;have:=b9.out;dsimp only;omega) _) (fun k_ hk=>by have:=hk.1;have:=b9.out;dsimp only;omega) _) (fun _ _=>trivial),oB⟩
def gw.f (k:Nat) (ag:List (aZ)) (ak:Int) (a1:ByteArray):Option (Int×Int×Int×List Int×(List (db))×(List (ey))×Int):=(fj.f k ag ak a1).bind fun b2=>(if b2.2=0 then((cO.f k ag ak b2.1).bind fun b1=>(if b1.2.2.2.2.2.2=true then(some (b1.1,b1.2.1,b1.2.2.1,b1.2.2.2.1,b1.2.2.2.2.1,b1.2.2.2.2.2.1,0))else(some (0,0,0,([]:List Int),([]:List (db)),([]:List (ey)),2))))else(some (0,0,0,([]:List Int),([]:List (db)),([]:List (ey)),b2.2)))
theorem gw.calls (k:Nat) (bl:Option Addr) (aW:Nat) (ag:List (aZ)) (ak:Int) (a1:ByteArray) (r1:Int) (r2:Int) (r3:Int) (r4:List Int) (r5:List (db)) (r6:List (ey)) (r7:Int) (w:World) (cg:Kd.C fv w bl ag.length ag) (ch:ag.length≤aW) (h:gw.f k ag ak a1=some (r1,r2,r3,r4,r5,r6,r7)) (hG:zc w:=by exact gk_ oB (by first|(with_reducible assumption)|assumption)):
  Calls Tryz.prog 47 #[.agg #[.slice bl ag.length aW,.int .i64 ak],.string a1] w fun e w'=>∃rJ rK rL:Value,e= .returned (.tuple #[.agg #[.int .i64 r1,.int .i64 r2,.int .i64 r3,rJ,rK,rL],.int .i64 r7])∧Kd.R (Kd.int .u8) 5 w' w.heap.size (fun _=>True) rJ r4∧Kd.R iA 75 w' w.heap.size (fun _=>True) rK r5∧Kd.R jr 82 w' w.heap.size (fun _=>True) rL r6∧Below w.heap.size w w':=by
 have HG:=ae.mk hG;clear hG;have dR:=Tryz.underlying28;have dS:=Tryz.underlying58;have bF:=ae.mk cg;have bG:=ae.mk ch;clear cg ch;have HB:=am (Below.refl w.heap.size w);unfold gw.f at h;have H:=h;clear h;replace H:=bA H;obtain⟨⟨bI,b8⟩,A3,H⟩:=H
 try dsimp only at H
 by_cases c4:b8=0
 rotate_left
 ·rw[if_neg c4]at H;have bX:(b8==0)=false:=beq_eq_false_iff_ne.mpr c4;have bY:(b8 !=0)=true:=bne_iff_ne.mpr c4;simp only[Option.some.injEq,Prod.mk.injEq]at H;obtain⟨rfl,rfl,rfl,rfl,rfl,rfl,rfl⟩:=H
  go_enter Tryz.func47,Tryz.ntmps47
  go_wp2_with (first|((with_reducible refine aj (N:=2) rfl ?_);refine dp 2 #[.slice bl ag.length aW,.int .i64 ak] 28 ?_;intro bR hg gC hbox hb;have b1:=am (hbox);have bS:=dn hg;replace HB:=hB HB hb;clear hb hbox hg)|((with_reducible refine aj (N:=4) rfl ?_);refine dp 4 #[.int .i64 0,.int .i64 0,.int .i64 0,.slice none 0 0,.slice none 0 0,.slice none 0 0] 58 ?_;intro bH hg gD hbox hb;have b2:=am (hbox);have bT:=dn hg;have b3:=eN hg b1;have b4:=eO hg b1;replace b1:=bj b1 hb;replace HB:=hB HB hb;clear hb hbox hg;have dF:=b3.out;have dG:=b4.out;obtain⟨⟨_,_⟩,_,_⟩:=z2 b1)|((with_reducible refine ai (f:=90) rfl ?_);refine eL 13 Tryz.func90 (fj.calls k _ _ ag ak a1 bI b8 _ (kC bF) bG.out A3.out) ?_;rintro e gE ⟨rfl,hb⟩;refine⟨_,rfl,?_⟩;replace b1:=bj b1 hb;replace b2:=bj b2 hb;replace HB:=hB HB hb;obtain⟨⟨_,_,_,_,_,_⟩,_,_,_,_,_,_⟩:=z6 b2))
  refine bodyPost_ret (dx rfl _ _ bH 58 #[.int .i64 0,.int .i64 0,.int .i64 0,.slice none 0 0,.slice none 0 0,.slice none 0 0] (0,0) _ rfl (oP b2) Tryz.underlying58 rfl (by kernel_rfl)) rfl ?_;exact⟨_,_,_,oE,by first|exact Kd.fD _ _ _ _ _|exact Kd.ig _ _ _ _ _|exact Kd.ij _ _ _ _ _|exact Kd.ic _ _ _ _ _|exact Kd.ie _ _ _ _ _,by first|exact Kd.fD _ _ _ _ _|exact Kd.ig _ _ _ _ _|exact Kd.ij _ _ _ _ _|exact Kd.ic _ _ _ _ _|exact Kd.ie _ _ _ _ _,by first|exact Kd.fD _ _ _ _ _|exact Kd.ig _ _ _ _ _|exact Kd.ij _ _ _ _ _|exact Kd.ic _ _ _ _ _|exact Kd.ie _ _ _ _ _,oB⟩
 rw[if_pos c4]at H;have bX:(b8==0)=true:=beq_iff_eq.mpr c4;have bY:(b8 !=0)=false:=bne_eq_false_iff_eq.mpr c4;clear c4;replace H:=bA H;obtain⟨⟨bL,bM,bN,bO,bP,bQ,dT⟩,A5,H⟩:=H
 try dsimp only at H
 replace H:=ll H;rcases H with⟨rfl,H⟩|⟨rfl,H⟩
 ·simp only[Option.some.injEq,Prod.mk.injEq]at H;obtain⟨rfl,rfl,rfl,rfl,rfl,rfl,rfl⟩:=H
  go_enter Tryz.func47,Tryz.ntmps47
  go_wp2_with (first|((with_reducible refine aj (N:=2) rfl ?_);refine dp 2 #[.slice bl ag.length aW,.int .i64 ak] 28 ?_;intro bR hg w7 hbox hb;have b1:=am (hbox);have bS:=dn hg;replace HB:=hB HB hb;clear hb hbox hg)|((with_reducible refine aj (N:=4) rfl ?_);refine dp 4 #[.int .i64 0,.int .i64 0,.int .i64 0,.slice none 0 0,.slice none 0 0,.slice none 0 0] 58 ?_;intro bH hg w8 hbox hb;have b2:=am (hbox);have bT:=dn hg;have b3:=eN hg b1;have b4:=eO hg b1;replace b1:=bj b1 hb;replace HB:=hB HB hb;clear hb hbox hg;have dU:=b3.out;have dV:=b4.out;obtain⟨⟨_,_⟩,_,_⟩:=z2 b1)|((with_reducible refine ai (f:=90) rfl ?_);refine eL 13 Tryz.func90 (fj.calls k _ _ ag ak a1 bI b8 _ (kC bF) bG.out A3.out) ?_;rintro e gF ⟨rfl,hb⟩;refine⟨_,rfl,?_⟩;replace b1:=bj b1 hb;replace b2:=bj b2 hb;replace HB:=hB HB hb;obtain⟨⟨_,_⟩,_,_⟩:=z2 b1)|((with_reducible refine ai (f:=91) rfl ?_);refine eL 23 Tryz.func91 (cO.calls k _ _ ag ak bI bL bM bN bO bP bQ true _ (kC bF) bG.out A5.out) ?_;rintro e gG ⟨bZ,d1,d2,rfl,bU,bJ,bK,hb⟩;refine⟨_,rfl,?_⟩;have b5:=am (Kd.ar bU (ah oB));have b6:=am (Kd.ar bJ (ah oB));have b7:=am (Kd.ar bK (ah oB));replace b1:=bj b1 hb;replace b2:=bj b2 hb;replace HB:=hB HB hb;(try clear bJ);(try clear bK))|((with_reducible refine aj (N:=8) rfl ?_);refine dp 8 #[.int .i64 0,.int .i64 0,.int .i64 0,.slice none 0 0,.slice none 0 0,.slice none 0 0] 58 ?_;intro bV hg gH hbox hb;have bE:=am (hbox);have bW:=dn hg;have b9:=eN hg b1;have bB:=eO hg b1;have bC:=eN hg b2;have bD:=eO hg b2;replace b5:=ga b5 hb;replace b6:=ga b6 hb;replace b7:=ga b7 hb;replace b1:=bj b1 hb;replace b2:=bj b2 hb;replace HB:=hB HB hb;clear hb hbox hg;have dH:=bB.out;have dI:=b9.out;have dJ:=bD.out;have dK:=bC.out;obtain⟨⟨_,_,_,_,_,_⟩,_,_,_,_,_,_⟩:=z6 bE;obtain⟨d3,d4,d5⟩:=Kd.aw b5.out;subst d5;obtain⟨d6,d7,d8⟩:=Kd.aw b6.out;subst d8;obtain⟨d9,dA,dB⟩:=Kd.aw b7.out;subst dB;obtain⟨⟨_,_,_,_,_,_⟩,_,_,_,_,_,_⟩:=z6 b2))
  refine bodyPost_ret (dx rfl _ _ bH 58 #[.int .i64 bL,.int .i64 bM,.int .i64 bN,.slice d3 bO.length d4,.slice d6 bP.length d7,.slice d9 bQ.length dA] (0,0) _ rfl (oP b2) Tryz.underlying58 rfl (by kernel_rfl)) rfl ?_;exact⟨_,_,_,oE,ux b5 bE b2,ux b6 bE b2,ux b7 bE b2,oB⟩
 simp only[Option.some.injEq,Prod.mk.injEq]at H;obtain⟨rfl,rfl,rfl,rfl,rfl,rfl,rfl⟩:=H
 go_enter Tryz.func47,Tryz.ntmps47
 go_wp2_with (first|((with_reducible refine aj (N:=2) rfl ?_);refine dp 2 #[.slice bl ag.length aW,.int .i64 ak] 28 ?_;intro bR hg gI hbox hb;have b1:=am (hbox);have bS:=dn hg;replace HB:=hB HB hb;clear hb hbox hg)|((with_reducible refine aj (N:=4) rfl ?_);refine dp 4 #[.int .i64 0,.int .i64 0,.int .i64 0,.slice none 0 0,.slice none 0 0,.slice none 0 0] 58 ?_;intro bH hg gJ hbox hb;have b2:=am (hbox);have bT:=dn hg;have b3:=eN hg b1;have b4:=eO hg b1;replace b1:=bj b1 hb;replace HB:=hB HB hb;clear hb hbox hg;have dL:=b3.out;have dM:=b4.out;obtain⟨⟨_,_⟩,_,_⟩:=z2 b1)|((with_reducible refine ai (f:=90) rfl ?_);refine eL 13 Tryz.func90 (fj.calls k _ _ ag ak a1 bI b8 _ (kC bF) bG.out A3.out) ?_;rintro e gK ⟨rfl,hb⟩;refine⟨_,rfl,?_⟩;replace b1:=bj b1 hb;replace b2:=bj b2 hb;replace HB:=hB HB hb;obtain⟨⟨_,_⟩,_,_⟩:=z2 b1)|((with_reducible refine ai (f:=91) rfl ?_);refine eL 23 Tryz.func91 (cO.calls k _ _ ag ak bI bL bM bN bO bP bQ false _ (kC bF) bG.out A5.out) ?_;rintro e gL ⟨bZ,d1,d2,rfl,bU,bJ,bK,hb⟩;refine⟨_,rfl,?_⟩;have b5:=am (Kd.ar bU (ah oB));have b6:=am (Kd.ar bJ (ah oB));have b7:=am (Kd.ar bK (ah oB));replace b1:=bj b1 hb;replace b2:=bj b2 hb;replace HB:=hB HB hb;(try clear bJ);(try clear bK))|((with_reducible refine aj (N:=8) rfl ?_);refine dp 8 #[.int .i64 0,.int .i64 0,.int .i64 0,.slice none 0 0,.slice none 0 0,.slice none 0 0] 58 ?_;intro bV hg gM hbox hb;have bE:=am (hbox);have bW:=dn hg;have b9:=eN hg b1;have bB:=eO hg b1;have bC:=eN hg b2;have bD:=eO hg b2;replace b5:=ga b5 hb;replace b6:=ga b6 hb;replace b7:=ga b7 hb;replace b1:=bj b1 hb;replace b2:=bj b2 hb;replace HB:=hB HB hb;clear hb hbox hg;have dN:=bB.out;have dO:=b9.out;have dP:=bD.out;have dQ:=bC.out;obtain⟨⟨_,_,_,_,_,_⟩,_,_,_,_,_,_⟩:=z6 bE;obtain⟨dW,dX,dC⟩:=Kd.aw b5.out;subst dC;obtain⟨dY,dZ,dD⟩:=Kd.aw b6.out;subst dD;obtain⟨gA,gB,dE⟩:=Kd.aw b7.out;subst dE;obtain⟨⟨_,_,_,_,_,_⟩,_,_,_,_,_,_⟩:=z6 b2))
 refine bodyPost_ret (dx rfl _ _ bH 58 #[.int .i64 0,.int .i64 0,.int .i64 0,.slice none 0 0,.slice none 0 0,.slice none 0 0] (0,0) _ rfl (oP b2) Tryz.underlying58 rfl (by kernel_rfl)) rfl ?_;exact⟨_,_,_,oE,by first|exact Kd.fD _ _ _ _ _|exact Kd.ig _ _ _ _ _|exact Kd.ij _ _ _ _ _|exact Kd.ic _ _ _ _ _|exact Kd.ie _ _ _ _ _,by first|exact Kd.fD _ _ _ _ _|exact Kd.ig _ _ _ _ _|exact Kd.ij _ _ _ _ _|exact Kd.ic _ _ _ _ _|exact Kd.ie _ _ _ _ _,by first|exact Kd.fD _ _ _ _ _|exact Kd.ig _ _ _ _ _|exact Kd.ij _ _ _ _ _|exact Kd.ic _ _ _ _ _|exact Kd.ie _ _ _ _ _,oB⟩

def iB.f (k:Nat) (ag:List (aZ)) (ak:Int) (a1:ByteArray):Option (Int×Int×Int×List Int×(List (db))×(List (ey))×Int):=(kt.f k ag ak a1).bind fun b2=>(if b2.2=0 then((fJ.f k ag ak b2.1).bind fun b1=>(if b1.2.2.2.2.2.2=true then(some (b1.1,b1.2.1,b1.2.2.1,b1.2.2.2.1,b1.2.2.2.2.1,b1.2.2.2.2.2.1,0))else(some (0,0,0,([]:List Int),([]:List (db)),([]:List (ey)),2))))else(some (0,0,0,([]:List Int),([]:List (db)),([]:List (ey)),b2.2)))
theorem iB.calls (k:Nat) (bl:Option Addr) (aW:Nat) (ag:List (aZ)) (ak:Int) (a1:ByteArray) (r1:Int) (r2:Int) (r3:Int) (r4:List Int) (r5:List (db)) (r6:List (ey)) (r7:Int) (w:World) (cg:Kd.C fv w bl ag.length ag) (ch:ag.length≤aW) (h:iB.f k ag ak a1=some (r1,r2,r3,r4,r5,r6,r7)):
  Calls Tryz.prog 42 #[.agg #[.slice bl ag.length aW,.int .i64 ak],.string a1] w fun e w'=>∃rJ rK rL:Value,e= .returned (.tuple #[.agg #[.int .i64 r1,.int .i64 r2,.int .i64 r3,rJ,rK,rL],.int .i64 r7])∧Kd.R (Kd.int .u8) 5 w' w.heap.size (fun _=>True) rJ r4∧Kd.R iA 75 w' w.heap.size (fun _=>True) rK r5∧Kd.R jr 82 w' w.heap.size (fun _=>True) rL r6∧Below w.heap.size w w':=by
 have dR:=Tryz.underlying28;have dS:=Tryz.underlying58;have bF:=ae.mk cg;have bG:=ae.mk ch;clear cg ch;have HB:=am (Below.refl w.heap.size w);unfold iB.f at h;have H:=h;clear h;replace H:=bA H;obtain⟨⟨bI,b8⟩,A3,H⟩:=H
 try dsimp only at H
 by_cases c4:b8=0
 rotate_left
 ·rw[if_neg c4]at H;have bX:(b8==0)=false:=beq_eq_false_iff_ne.mpr c4;have bY:(b8 !=0)=true:=bne_iff_ne.mpr c4;simp only[Option.some.injEq,Prod.mk.injEq]at H;obtain⟨rfl,rfl,rfl,rfl,rfl,rfl,rfl⟩:=H
  go_enter Tryz.func42,Tryz.ntmps42
  go_wp2_with (first|((with_reducible refine aj (N:=2) rfl ?_);refine dp 2 #[.slice bl ag.length aW,.int .i64 ak] 28 ?_;intro bR hg gC hbox hb;have b1:=am (hbox);have bS:=dn hg;replace HB:=hB HB hb;clear hb hbox hg)|((with_reducible refine aj (N:=4) rfl ?_);refine dp 4 #[.int .i64 0,.int .i64 0,.int .i64 0,.slice none 0 0,.slice none 0 0,.slice none 0 0] 58 ?_;intro bH hg gD hbox hb;have b2:=am (hbox);have bT:=dn hg;have b3:=eN hg b1;have b4:=eO hg b1;replace b1:=bj b1 hb;replace HB:=hB HB hb;clear hb hbox hg;have dF:=b3.out;have dG:=b4.out;obtain⟨⟨_,_⟩,_,_⟩:=z2 b1)|((with_reducible refine ai (f:=84) rfl ?_);refine eL 13 Tryz.func84 (kt.calls k _ _ ag ak a1 bI b8 _ (kC bF) bG.out A3.out) ?_;rintro e gE ⟨rfl,hb⟩;refine⟨_,rfl,?_⟩;replace b1:=bj b1 hb;replace b2:=bj b2 hb;replace HB:=hB HB hb;obtain⟨⟨_,_,_,_,_,_⟩,_,_,_,_,_,_⟩:=z6 b2))
  refine bodyPost_ret (dx rfl _ _ bH 58 #[.int .i64 0,.int .i64 0,.int .i64 0,.slice none 0 0,.slice none 0 0,.slice none 0 0] (0,0) _ rfl (oP b2) Tryz.underlying58 rfl (by kernel_rfl)) rfl ?_;exact⟨_,_,_,oE,by first|exact Kd.fD _ _ _ _ _|exact Kd.ig _ _ _ _ _|exact Kd.ij _ _ _ _ _|exact Kd.ic _ _ _ _ _|exact Kd.ie _ _ _ _ _,by first|exact Kd.fD _ _ _ _ _|exact Kd.ig _ _ _ _ _|exact Kd.ij _ _ _ _ _|exact Kd.ic _ _ _ _ _|exact Kd.ie _ _ _ _ _,by first|exact Kd.fD _ _ _ _ _|exact Kd.ig _ _ _ _ _|exact Kd.ij _ _ _ _ _|exact Kd.ic _ _ _ _ _|exact Kd.ie _ _ _ _ _,oB⟩
 rw[if_pos c4]at H;have bX:(b8==0)=true:=beq_iff_eq.mpr c4;have bY:(b8 !=0)=false:=bne_eq_false_iff_eq.mpr c4;clear c4;replace H:=bA H;obtain⟨⟨bL,bM,bN,bO,bP,bQ,dT⟩,A5,H⟩:=H
 try dsimp only at H
 replace H:=ll H;rcases H with⟨rfl,H⟩|⟨rfl,H⟩
 ·simp only[Option.some.injEq,Prod.mk.injEq]at H;obtain⟨rfl,rfl,rfl,rfl,rfl,rfl,rfl⟩:=H
  go_enter Tryz.func42,Tryz.ntmps42
  go_wp2_with (first|((with_reducible refine aj (N:=2) rfl ?_);refine dp 2 #[.slice bl ag.length aW,.int .i64 ak] 28 ?_;intro bR hg w7 hbox hb;have b1:=am (hbox);have bS:=dn hg;replace HB:=hB HB hb;clear hb hbox hg)|((with_reducible refine aj (N:=4) rfl ?_);refine dp 4 #[.int .i64 0,.int .i64 0,.int .i64 0,.slice none 0 0,.slice none 0 0,.slice none 0 0] 58 ?_;intro bH hg w8 hbox hb;have b2:=am (hbox);have bT:=dn hg;have b3:=eN hg b1;have b4:=eO hg b1;replace b1:=bj b1 hb;replace HB:=hB HB hb;clear hb hbox hg;have dU:=b3.out;have dV:=b4.out;obtain⟨⟨_,_⟩,_,_⟩:=z2 b1)|((with_reducible refine ai (f:=84) rfl ?_);refine eL 13 Tryz.func84 (kt.calls k _ _ ag ak a1 bI b8 _ (kC bF) bG.out A3.out) ?_;rintro e gF ⟨rfl,hb⟩;refine⟨_,rfl,?_⟩;replace b1:=bj b1 hb;replace b2:=bj b2 hb;replace HB:=hB HB hb;obtain⟨⟨_,_⟩,_,_⟩:=z2 b1)|((with_reducible refine ai (f:=85) rfl ?_);refine eL 23 Tryz.func85 (fJ.calls k _ _ ag ak bI bL bM bN bO bP bQ true _ (kC bF) bG.out A5.out) ?_;rintro e gG ⟨bZ,d1,d2,rfl,bU,bJ,bK,hb⟩;refine⟨_,rfl,?_⟩;have b5:=am (Kd.ar bU (ah oB));have b6:=am (Kd.ar bJ (ah oB));have b7:=am (Kd.ar bK (ah oB));replace b1:=bj b1 hb;replace b2:=bj b2 hb;replace HB:=hB HB hb;(try clear bJ);(try clear bK))|((with_reducible refine aj (N:=8) rfl ?_);refine dp 8 #[.int .i64 0,.int .i64 0,.int .i64 0,.slice none 0 0,.slice none 0 0,.slice none 0 0] 58 ?_;intro bV hg gH hbox hb;have bE:=am (hbox);have bW:=dn hg;have b9:=eN hg b1;have bB:=eO hg b1;have bC:=eN hg b2;have bD:=eO hg b2;replace b5:=ga b5 hb;replace b6:=ga b6 hb;replace b7:=ga b7 hb;replace b1:=bj b1 hb;replace b2:=bj b2 hb;replace HB:=hB HB hb;clear hb hbox hg;have dH:=bB.out;have dI:=b9.out;have dJ:=bD.out;have dK:=bC.out;obtain⟨⟨_,_,_,_,_,_⟩,_,_,_,_,_,_⟩:=z6 bE;obtain⟨d3,d4,d5⟩:=Kd.aw b5.out;subst d5;obtain⟨d6,d7,d8⟩:=Kd.aw b6.out;subst d8;obtain⟨d9,dA,dB⟩:=Kd.aw b7.out;subst dB;obtain⟨⟨_,_,_,_,_,_⟩,_,_,_,_,_,_⟩:=z6 b2))
  refine bodyPost_ret (dx rfl _ _ bH 58 #[.int .i64 bL,.int .i64 bM,.int .i64 bN,.slice d3 bO.length d4,.slice d6 bP.length d7,.slice d9 bQ.length dA] (0,0) _ rfl (oP b2) Tryz.underlying58 rfl (by kernel_rfl)) rfl ?_;exact⟨_,_,_,oE,ux b5 bE b2,ux b6 bE b2,ux b7 bE b2,oB⟩
 simp only[Option.some.injEq,Prod.mk.injEq]at H;obtain⟨rfl,rfl,rfl,rfl,rfl,rfl,rfl⟩:=H
 go_enter Tryz.func42,Tryz.ntmps42
 go_wp2_with (first|((with_reducible refine aj (N:=2) rfl ?_);refine dp 2 #[.slice bl ag.length aW,.int .i64 ak] 28 ?_;intro bR hg gI hbox hb;have b1:=am (hbox);have bS:=dn hg;replace HB:=hB HB hb;clear hb hbox hg)|((with_reducible refine aj (N:=4) rfl ?_);refine dp 4 #[.int .i64 0,.int .i64 0,.int .i64 0,.slice none 0 0,.slice none 0 0,.slice none 0 0] 58 ?_;intro bH hg gJ hbox hb;have b2:=am (hbox);have bT:=dn hg;have b3:=eN hg b1;have b4:=eO hg b1;replace b1:=bj b1 hb;replace HB:=hB HB hb;clear hb hbox hg;have dL:=b3.out;have dM:=b4.out;obtain⟨⟨_,_⟩,_,_⟩:=z2 b1)|((with_reducible refine ai (f:=84) rfl ?_);refine eL 13 Tryz.func84 (kt.calls k _ _ ag ak a1 bI b8 _ (kC bF) bG.out A3.out) ?_;rintro e gK ⟨rfl,hb⟩;refine⟨_,rfl,?_⟩;replace b1:=bj b1 hb;replace b2:=bj b2 hb;replace HB:=hB HB hb;obtain⟨⟨_,_⟩,_,_⟩:=z2 b1)|((with_reducible refine ai (f:=85) rfl ?_);refine eL 23 Tryz.func85 (fJ.calls k _ _ ag ak bI bL bM bN bO bP bQ false _ (kC bF) bG.out A5.out) ?_;rintro e gL ⟨bZ,d1,d2,rfl,bU,bJ,bK,hb⟩;refine⟨_,rfl,?_⟩;have b5:=am (Kd.ar bU (ah oB));have b6:=am (Kd.ar bJ (ah oB));have b7:=am (Kd.ar bK (ah oB));replace b1:=bj b1 hb;replace b2:=bj b2 hb;replace HB:=hB HB hb;(try clear bJ);(try clear bK))|((with_reducible refine aj (N:=8) rfl ?_);refine dp 8 #[.int .i64 0,.int .i64 0,.int .i64 0,.slice none 0 0,.slice none 0 0,.slice none 0 0] 58 ?_;intro bV hg gM hbox hb;have bE:=am (hbox);have bW:=dn hg;have b9:=eN hg b1;have bB:=eO hg b1;have bC:=eN hg b2;have bD:=eO hg b2;replace b5:=ga b5 hb;replace b6:=ga b6 hb;replace b7:=ga b7 hb;replace b1:=bj b1 hb;replace b2:=bj b2 hb;replace HB:=hB HB hb;clear hb hbox hg;have dN:=bB.out;have dO:=b9.out;have dP:=bD.out;have dQ:=bC.out;obtain⟨⟨_,_,_,_,_,_⟩,_,_,_,_,_,_⟩:=z6 bE;obtain⟨dW,dX,dC⟩:=Kd.aw b5.out;subst dC;obtain⟨dY,dZ,dD⟩:=Kd.aw b6.out;subst dD;obtain⟨gA,gB,dE⟩:=Kd.aw b7.out;subst dE;obtain⟨⟨_,_,_,_,_,_⟩,_,_,_,_,_,_⟩:=z6 b2))
 refine bodyPost_ret (dx rfl _ _ bH 58 #[.int .i64 0,.int .i64 0,.int .i64 0,.slice none 0 0,.slice none 0 0,.slice none 0 0] (0,0) _ rfl (oP b2) Tryz.underlying58 rfl (by kernel_rfl)) rfl ?_;exact⟨_,_,_,oE,by first|exact Kd.fD _ _ _ _ _|exact Kd.ig _ _ _ _ _|exact Kd.ij _ _ _ _ _|exact Kd.ic _ _ _ _ _|exact Kd.ie _ _ _ _ _,by first|exact Kd.fD _ _ _ _ _|exact Kd.ig _ _ _ _ _|exact Kd.ij _ _ _ _ _|exact Kd.ic _ _ _ _ _|exact Kd.ie _ _ _ _ _,by first|exact Kd.fD _ _ _ _ _|exact Kd.ig _ _ _ _ _|exact Kd.ij _ _ _ _ _|exact Kd.ic _ _ _ _ _|exact Kd.ie _ _ _ _ _,oB⟩

def f_.f (k:Nat) (ag:List (aZ)) (ak:Int) (mf:List (aZ)) (dz:Int):Option (Bool):=(ca.f k ag mf).bind fun b1=>(if b1=true then(if ak=dz then(some true)else(some false))else(some false))
theorem f_.calls (k:Nat) (bl:Option Addr) (aW:Nat) (ag:List (aZ)) (ak:Int) (tT:Option Addr) (tU:Nat) (mf:List (aZ)) (dz:Int) (r:Bool) (w:World) (cg:Kd.C fv w bl ag.length ag) (ch:ag.length≤aW) (u_:Kd.C fv w tT mf.length mf) (vk:mf.length≤tU) (h:f_.f k ag ak mf dz=some r):
  Calls Tryz.prog 14 #[.agg #[.slice bl ag.length aW,.int .i64 ak],.agg #[.slice tT mf.length tU,.int .i64 dz]] w fun e w'=>e= .returned (.bool r)∧Below w.heap.size w w':=by
 have bK:=Tryz.underlying28;have b5:=ae.mk cg;have b6:=ae.mk ch;clear cg ch;have b7:=ae.mk u_;have b8:=ae.mk vk;clear u_ vk;have HB:=am (Below.refl w.heap.size w);unfold f_.f at h;have H:=h;clear h;replace H:=bA H;obtain⟨bL,A3,H⟩:=H
 try dsimp only at H
 replace H:=ll H;rcases H with⟨rfl,H⟩|⟨rfl,H⟩;rotate_left
 ·obtain rfl:=Option.some.inj H
  go_enter Tryz.func14,Tryz.ntmps14
  go_wp2_with (first|((with_reducible refine aj (N:=2) rfl ?_);refine dp 2 #[.slice bl ag.length aW,.int .i64 ak] 28 ?_;intro b9 hg bO hbox hb;have b1:=am (hbox);have bB:=dn hg;replace HB:=hB HB hb;clear hb hbox hg)|((with_reducible refine aj (N:=3) rfl ?_);refine dp 3 #[.slice tT mf.length tU,.int .i64 dz] 28 ?_;intro bC hg bP hbox hb;have b2:=am (hbox);have bD:=dn hg;have b3:=eN hg b1;have b4:=eO hg b1;replace b1:=bj b1 hb;replace HB:=hB HB hb;clear hb hbox hg;have bG:=b3.out;have bH:=b4.out;obtain⟨⟨_,_⟩,_,_⟩:=z2 b1;obtain⟨⟨_,_⟩,_,_⟩:=z2 b2)|((with_reducible refine ai (f:=36) rfl ?_);refine eL 9 Tryz.func36 (ca.calls k _ _ ag _ _ mf false _ (kC b5) b6.out (kC b7) b8.out A3.out) ?_;rintro e bQ ⟨rfl,hb⟩;refine⟨_,rfl,?_⟩;replace b1:=bj b1 hb;replace b2:=bj b2 hb;replace HB:=hB HB hb))
  go_ret
  exact⟨oE,oB⟩
 by_cases c5:ak=dz
 rotate_left
 ·rw[if_neg c5]at H;have bE:(ak==dz)=false:=beq_eq_false_iff_ne.mpr c5;have bF:(ak !=dz)=true:=bne_iff_ne.mpr c5;obtain rfl:=Option.some.inj H
  go_enter Tryz.func14,Tryz.ntmps14
  go_wp2_with (first|((with_reducible refine aj (N:=2) rfl ?_);refine dp 2 #[.slice bl ag.length aW,.int .i64 ak] 28 ?_;intro b9 hg bR hbox hb;have b1:=am (hbox);have bB:=dn hg;replace HB:=hB HB hb;clear hb hbox hg)|((with_reducible refine aj (N:=3) rfl ?_);refine dp 3 #[.slice tT mf.length tU,.int .i64 dz] 28 ?_;intro bC hg bS hbox hb;have b2:=am (hbox);have bD:=dn hg;have b3:=eN hg b1;have b4:=eO hg b1;replace b1:=bj b1 hb;replace HB:=hB HB hb;clear hb hbox hg;have bI:=b3.out;have bJ:=b4.out;obtain⟨⟨_,_⟩,_,_⟩:=z2 b1;obtain⟨⟨_,_⟩,_,_⟩:=z2 b2)|((with_reducible refine ai (f:=36) rfl ?_);refine eL 9 Tryz.func36 (ca.calls k _ _ ag _ _ mf true _ (kC b5) b6.out (kC b7) b8.out A3.out) ?_;rintro e bT ⟨rfl,hb⟩;refine⟨_,rfl,?_⟩;replace b1:=bj b1 hb;replace b2:=bj b2 hb;replace HB:=hB HB hb;obtain⟨⟨_,_⟩,_,_⟩:=z2 b1;obtain⟨⟨_,_⟩,_,_⟩:=z2 b2))
  go_ret
  exact⟨oE,oB⟩
 rw[if_pos c5]at H;have bE:(ak==dz)=true:=beq_iff_eq.mpr c5;have bF:(ak !=dz)=false:=bne_eq_false_iff_eq.mpr c5;clear c5;obtain rfl:=Option.some.inj H
 go_enter Tryz.func14,Tryz.ntmps14
 go_wp2_with (first|((with_reducible refine aj (N:=2) rfl ?_);refine dp 2 #[.slice bl ag.length aW,.int .i64 ak] 28 ?_;intro b9 hg w6 hbox hb;have b1:=am (hbox);have bB:=dn hg;replace HB:=hB HB hb;clear hb hbox hg)|((with_reducible refine aj (N:=3) rfl ?_);refine dp 3 #[.slice tT mf.length tU,.int .i64 dz] 28 ?_;intro bC hg w7 hbox hb;have b2:=am (hbox);have bD:=dn hg;have b3:=eN hg b1;have b4:=eO hg b1;replace b1:=bj b1 hb;replace HB:=hB HB hb;clear hb hbox hg;have bM:=b3.out;have bN:=b4.out;obtain⟨⟨_,_⟩,_,_⟩:=z2 b1;obtain⟨⟨_,_⟩,_,_⟩:=z2 b2)|((with_reducible refine ai (f:=36) rfl ?_);refine eL 9 Tryz.func36 (ca.calls k _ _ ag _ _ mf true _ (kC b5) b6.out (kC b7) b8.out A3.out) ?_;rintro e bU ⟨rfl,hb⟩;refine⟨_,rfl,?_⟩;replace b1:=bj b1 hb;replace b2:=bj b2 hb;replace HB:=hB HB hb;obtain⟨⟨_,_⟩,_,_⟩:=z2 b1;obtain⟨⟨_,_⟩,_,_⟩:=z2 b2))
 go_ret
 exact⟨oE,oB⟩

def kc.f (k:Nat) (ag:List (nq)) (ak:Int) (a1:Int):Option (Int):=(df.f k ag a1).bind fun b1=>(if b1<0 then(some (-1))else(some b1))
theorem kc.calls (k:Nat) (bl:Option Addr) (aW:Nat) (ag:List (nq)) (ak:Int) (a1:Int) (r:Int) (w:World) (cg:Kd.C k92 w bl ag.length ag) (ch:ag.length≤aW) (h:kc.f k ag ak a1=some r):
  Calls Tryz.prog 10 #[.agg #[.slice bl ag.length aW,.int .i64 ak],.int .i64 a1] w fun e w'=>e= .returned (.int .i64 r)∧Below w.heap.size w w':=by
 have b8:=Tryz.underlying24;have b2:=ae.mk cg;have b3:=ae.mk ch;clear cg ch;have HB:=am (Below.refl w.heap.size w);unfold kc.f at h;have H:=h;clear h;replace H:=bA H;obtain⟨b4,A3,H⟩:=H
 try dsimp only at H
 replace H:=jd H;rcases H with⟨b7,H⟩|⟨b7,H⟩
 ·obtain rfl:=Option.some.inj H
  go_enter Tryz.func10,Tryz.ntmps10
  go_wp2_with (first|((with_reducible refine aj (N:=2) rfl ?_);refine dp 2 #[.slice bl ag.length aW,.int .i64 ak] 24 ?_;intro b5 hg w5 hbox hb;have b1:=am (hbox);have b6:=dn hg;replace HB:=hB HB hb;clear hb hbox hg;obtain⟨⟨_,_⟩,_,_⟩:=z2 b1)|((with_reducible refine ai (f:=32) rfl ?_);refine eL 8 Tryz.func32 (df.calls k _ _ ag a1 b4 _ (kC b2) b3.out A3.out) ?_;rintro e w7 ⟨rfl,hb⟩;refine⟨_,rfl,?_⟩;replace b1:=bj b1 hb;replace HB:=hB HB hb))
  go_ret
  exact⟨oE,oB⟩
 obtain rfl:=Option.some.inj H
 go_enter Tryz.func10,Tryz.ntmps10
 go_wp2_with (first|((with_reducible refine aj (N:=2) rfl ?_);refine dp 2 #[.slice bl ag.length aW,.int .i64 ak] 24 ?_;intro b5 hg w8 hbox hb;have b1:=am (hbox);have b6:=dn hg;replace HB:=hB HB hb;clear hb hbox hg;obtain⟨⟨_,_⟩,_,_⟩:=z2 b1)|((with_reducible refine ai (f:=32) rfl ?_);refine eL 8 Tryz.func32 (df.calls k _ _ ag a1 b4 _ (kC b2) b3.out A3.out) ?_;rintro e b9 ⟨rfl,hb⟩;refine⟨_,rfl,?_⟩;replace b1:=bj b1 hb;replace HB:=hB HB hb))
 go_ret
 exact⟨oE,oB⟩

def iS.f (k:Nat) (ag:List (nq)) (ak:Int):Option ((List (aZ))×Int):=(dg.f k ag).bind fun b1=>(some (b1,ak))
theorem iS.calls (k:Nat) (bl:Option Addr) (aW:Nat) (ag:List (nq)) (ak:Int) (r1:List (aZ)) (r2:Int) (w:World) (cg:Kd.C k92 w bl ag.length ag) (ch:ag.length≤aW) (h:iS.f k ag ak=some (r1,r2)):
  Calls Tryz.prog 12 #[.agg #[.slice bl ag.length aW,.int .i64 ak]] w fun e w'=>∃iY:Value,e= .returned (.agg #[iY,.int .i64 r2])∧Kd.S fv 58 w' w.heap.size (fun _=>True) iY r1∧Below w.heap.size w w':=by
 have bR:=Tryz.underlying24;have bS:=Tryz.underlying28;have bH:=ae.mk cg;have bI:=ae.mk ch;clear cg ch;have HB:=am (Below.refl w.heap.size w);unfold iS.f at h;have H:=h;clear h;replace H:=bA H;obtain⟨b4,A2,H⟩:=H
 try dsimp only at H
 simp only[Option.some.injEq,Prod.mk.injEq]at H;obtain⟨rfl,rfl⟩:=H
 go_enter Tryz.func12,Tryz.ntmps12
 go_wp2_with (first|((with_reducible refine aj (N:=1) rfl ?_);refine dp 1 #[.slice bl ag.length aW,.int .i64 ak] 24 ?_;intro bL hg w3 hbox hb;have b1:=am (hbox);have bM:=dn hg;replace HB:=hB HB hb;clear hb hbox hg)|((with_reducible refine aj (N:=2) rfl ?_);refine dp 2 #[.slice none 0 0,.int .i64 0] 28 ?_;intro b5 hg w4 hbox hb;have b2:=am (hbox);have bN:=dn hg;have b6:=eN hg b1;have b7:=eO hg b1;replace b1:=bj b1 hb;replace HB:=hB HB hb;clear hb hbox hg)|((with_reducible refine aj (N:=3) rfl ?_);refine dp 3 #[.slice none 0 0,.int .i64 0] 28 ?_;intro bF hg w5 hbox hb;have b3:=am (hbox);have bO:=dn hg;have b8:=eN hg b1;have b9:=eO hg b1;have bB:=eN hg b2;have bC:=eO hg b2;replace b1:=bj b1 hb;replace b2:=bj b2 hb;replace HB:=hB HB hb;clear hb hbox hg;have bT:=b6.out;have bU:=b7.out;have bV:=b8.out;have bW:=b9.out;obtain⟨⟨_,_⟩,_,_⟩:=z2 b1)|((with_reducible refine ai (f:=34) rfl ?_);refine eL 6 Tryz.func34 (dg.calls k _ _ ag b4 _ (kC bH) bI.out A2.out) ?_;rintro e w9 ⟨bX,rfl,bK,hb⟩;refine⟨_,rfl,?_⟩;have bG:=am (Kd.ox bK (ah oB));replace b1:=bj b1 hb;replace b2:=bj b2 hb;replace b3:=bj b3 hb;replace HB:=hB HB hb;obtain⟨bD,bE,bJ⟩:=Kd.gf bG.out;subst bJ;have bP:=bC.out;have bQ:=bB.out;obtain⟨⟨_,_⟩,_,_⟩:=z2 b3;obtain⟨⟨_,_⟩,_,_⟩:=z2 b1;obtain⟨⟨_,_⟩,_,_⟩:=z2 b2))
 refine bodyPost_ret (results_cell_row rfl _ _ b5 28 #[.slice bD b4.length bE,.int .i64 ak] (0,0) _ rfl (oP b2) Tryz.underlying28 rfl (by kernel_rfl)) rfl ?_;exact⟨_,oE,by(with_reducible repeat(first|apply Kd.eo|apply Kd.et|apply Kd.eI));exact Kd.eu (Kd.cV (p:=⟨b5,1,none⟩) (Kd.cV (p:=⟨b5,0,none⟩) (Kd.cV (p:=⟨bF,1,none⟩) (Kd.cV (p:=⟨bF,0,none⟩) (Kd.jl (Kd.jl bG.out b3.out (by decide)) b2.out (by decide)) (fun _ hk=>hk.1.2) (.slice bD b4.length bE)) (fun _ hk=>hk.1.2) (.int .i64 ak)) (fun _ hk=>hk.2) (.slice bD b4.length bE)) (fun _ hk=>hk.2) (.int .i64 ak)) (fun _ hk=>trivial),oB⟩
end Go.Proofs.YtlecajlnjmbilaaGreatDoor.P
