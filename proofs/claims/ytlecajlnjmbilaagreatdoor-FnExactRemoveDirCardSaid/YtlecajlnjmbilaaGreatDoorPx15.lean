-- Printed walks.
import Derived.Test.YtlecajlnjmbilaaGreatDoorPx6
import Derived.Test.YtlecajlnjmbilaaGreatDoorPx13
import Derived.Test.YtlecajlnjmbilaaGreatDoorPx14
set_option linter.all false
set_option maxHeartbeats 8000000
set_option maxRecDepth 100000
namespace Go.Proofs.YtlecajlnjmbilaaGreatDoor.P
open Go.RowKit Go.Proofs.ab.ao Go.Proofs.ab.aE Go.Proofs.ab.aI
attribute [local go_sem] fV fW im iq fh fi fX fY

mutual
def aH.j0:Nat→Bool→List (aZ)→Int→Option (Bool)
 |0,_,_,_=>none
 |k+1,b3,b1,b2=>if b3=true then(some false)else(aH.l0 k 0 b1 b2)
def aH.l0:Nat→Int→List (aZ)→Int→Option (Bool)
 |0,_,_,_=>none
 |k+1,x3,b1,b2=>if x3<(b1.length:Int)then(if 0≤x3 then((bg.f k b1 b2 ((af b1 x3).f0)).bind fun b3=>(if b3=((af b1 x3).f2)then(aH.l1 k x3 0 b1 b2 ((af b1 x3).f0) ((af b1 x3).f1) ((af b1 x3).f2) ((af b1 x3).f3) ((af b1 x3).f4) ((af b1 x3).f5))else(some false)))else(none))else(some true)
def aH.l1:Nat→Int→Int→List (aZ)→Int→Int→Int→Int→List Int→List (db)→List (ey)→Option (Bool)
 |0,_,_,_,_,_,_,_,_,_,_=>none
 |k+1,x3,x5,b1,b2,b4,b5,b6,b7,b3,b8=>if x5<(b3.length:Int)then(if 0≤x5 then((cF.f k b1 b2 ((al b3 x5).f1)).bind fun b9=>(if b9<0 then(some false)else(aH.l1 k x3 (wrap64 (x5+1)) b1 b2 b4 b5 b6 b7 b3 b8)))else(none))else(aH.l0 k (wrap64 (x3+1)) b1 b2)
end
def aH.f (k:Nat) (ag:List (aZ)) (ak:Int):Option (Bool):=(br.f k ag ak).bind fun b1=>(if b1=true then((ef.f k ag ak).bind fun b2=>(aH.j0 k ((b2.length:Int) !=(ag.length:Int)) ag ak))else(aH.j0 k true ag ak))
def aH.T1:Bool×List (List Nat×List Nat):=(true,[([],[]),([0],[0]),([1],[1]),([2,1],[2]),([3],[3]),([4,3,3],[3,4]),([5,3],[3,5]),([3],[3]),([7,3],[3,7]),([8,3],[3,8]),([6,9,3],[3,6,9]),([3,10],[3,10])])
def aH.B1:List Nat:=[0,1,3,7,15,31,63,15,143,399,1023,2047]
theorem aH.aaV:gy .any (opsOf Tryz.f40 1)=aH.T1:=by kernel_rfl
theorem aH.uY:eR aH.T1.2 aH.B1=true:=by kernel_rfl
def aH.T12:Bool×List (List Nat×List Nat):=(true,[([],[]),([],[]),([1],[1]),([],[]),([2,3],[2,3]),([4],[4]),([5],[5]),([0,6],[0,6]),([7],[7])])
def aH.B12:List Nat:=[0,0,2,0,14,30,62,127,255]
theorem aH.sL:gy .any (opsOf Tryz.f40 12)=aH.T12:=by kernel_rfl
theorem aH.qc:eR aH.T12.2 aH.B12=true:=by kernel_rfl
theorem aH.calls (k:Nat) (bl:Option Addr) (aW:Nat) (ag:List (aZ)) (ak:Int) (r:Bool) (w:World) (cg:Kd.C fv w bl ag.length ag) (ch:ag.length≤aW) (h:aH.f k ag ak=some r):
  Calls Tryz.prog 40 #[.agg #[.slice bl ag.length aW,.int .i64 ak]] w fun e w'=>e= .returned (.bool r)∧Below w.heap.size w w':=by
 have gJ:=Tryz.underlying28;have gK:=Tryz.underlying58;have bI:=ae.mk cg;have bK:=ae.mk ch;clear cg ch;have HB:=am (Below.refl w.heap.size w);unfold aH.f at h;have H:=h;clear h;have dA:=ae.mk H;clear H
 go_enter Tryz.func40,Tryz.ntmps40
 go_upto_region 1 with(first|((with_reducible refine aj (N:=1) rfl ?_);(try(refine ck (by rfl) ?_;dsimp only));refine dp 1 #[.slice bl ag.length aW,.int .i64 ak] 28 ?_;intro b6 hg w3 hbox hb;have b2:=am (hbox);have dX:=dn hg;replace HB:=hB HB hb;clear hb hbox hg))
 (try simp only[Act.put,List.setIfInBounds_toArray,List.set_cons_zero,List.set_cons_succ])
 go_cut [17] (fun dR wc=>∃(kq:Nat) (bP:Bool),dR= .bool bP∧ae (aH.j0 kq bP ag ak=some r)∧ae (kq≤k)∧ae (wc.heap[b6]? =some (.cells #[(.slice bl ag.length aW),.int .i64 ak] 28 (0,0)))∧ae (Below w.heap.size w wc))
 case first=>
  have H:=dA.out;clear dA;replace H:=bA H;obtain⟨gL,A4,H⟩:=H
  try dsimp only at H
  replace H:=ll H;rcases H with⟨rfl,H⟩|⟨rfl,H⟩;rotate_left
  ·have H':=ae.mk H;clear H
   try go_wp2
   replace b2:=am (av b2.out);replace HB:=am (au HB.out);refine mn 12 (fun w'=>w'.cell? ⟨b6,0,none⟩=some (.slice bl ag.length aW)∧w'.cell? ⟨b6,1,none⟩=some (.int .i64 ak)) aH.aaV aH.uY oH (fun hHeld ax eF=> ?_);generalize w3.drew=gP at b2 HB hHeld⊢;refine fS 0 6 ax eF hHeld ?_;refine kM 1 7 ax (fun K hK=> ?_);refine lG 7 Tryz.func79 (br.calls k _ _ ag ak false _ (kC bI) bK.out A4.out) ?_;rintro e gQ ⟨rfl,hb⟩;refine⟨_,rfl,?_⟩;replace b2:=bj b2 hb;replace HB:=hB HB hb;refine eY hK 7 oH (fun hHeld=> ?_);clear hK K;refine bx 2 8 ax ?_;refine bx 3 9 ax ?_;refine gh 4 10 ax ?_;refine gh 5 11 ax ?_;refine gh 6 12 ax ?_;refine gh 7 13 ax ?_;refine gh 8 14 ax ?_;refine gh 9 15 ax ?_;refine gh 10 16 ax ?_;refine bx 11 17 ax ?_;refine lY ax ?_
   try go_wp2
   go_meet
   case rel=>exact⟨_,(true),oS,H',⟨by first|omega|exact Nat.le_refl _⟩,⟨oF b2⟩,⟨oB⟩⟩
  replace H:=bA H;obtain⟨dB,A6,H⟩:=H
  try dsimp only at H
  have H':=ae.mk H;clear H
  try go_wp2
  replace b2:=am (av b2.out);replace HB:=am (au HB.out);refine mn 12 (fun w'=>w'.cell? ⟨b6,0,none⟩=some (.slice bl ag.length aW)∧w'.cell? ⟨b6,1,none⟩=some (.int .i64 ak)) aH.aaV aH.uY oH (fun hHeld ax eF=> ?_);generalize w3.drew=w7 at b2 HB hHeld⊢;refine fS 0 6 ax eF hHeld ?_;refine kM 1 7 ax (fun K hK=> ?_);refine lG 7 Tryz.func79 (br.calls k _ _ ag ak true _ (kC bI) bK.out A4.out) ?_;rintro e w8 ⟨rfl,hb⟩;refine⟨_,rfl,?_⟩;replace b2:=bj b2 hb;replace HB:=hB HB hb;refine eY hK 7 oH (fun hHeld=> ?_);clear hK K;refine bx 2 8 ax ?_;refine bx 3 9 ax ?_;refine bx 7 13 ax ?_;refine fS 4 10 ax eF hHeld ?_;refine fS 8 14 ax eF hHeld ?_;refine bx 9 15 ax ?_;refine kM 5 11 ax (fun K hK=> ?_);refine lG 11 Tryz.func80 (ef.calls k _ _ ag ak dB _ (kC bI) bK.out A6.out) ?_;rintro e w9 ⟨gM,rfl,dS,hb⟩;refine⟨_,rfl,?_⟩;have dE:=am (Kd.ar dS (ah oB));replace b2:=bj b2 hb;replace HB:=hB HB hb;obtain⟨gN,gO,dC⟩:=Kd.aw dE.out
  (first|subst dC|(injection dC with jf lB jg;have dT:=jf.symm;have dU:=jg.symm;clear jf lB jg;subst dT;subst dU))
  refine eY hK 11 oH (fun hHeld=> ?_);clear hK K;refine bx 6 12 ax ?_;refine bx 10 16 ax ?_;refine bx 11 17 ax ?_;refine lY ax ?_
  try go_wp2
  go_meet
  case rel=>exact⟨_,(((dB.length:Int) !=(ag.length:Int))),oS,H',⟨by first|omega|exact Nat.le_refl _⟩,⟨oF b2⟩,⟨oB⟩⟩
 case rest=>
  clear dA;obtain⟨kq,bP,rfl,HA,bS,b2,HB⟩:=hcut
  cases kq with
  |zero=>exact absurd HA.out (by simp[aH.j0])
  |succ wE=>
   have H:=HA.out;clear HA;simp only[aH.j0]at H;replace H:=ll H;rcases H with⟨rfl,H⟩|⟨rfl,H⟩
   ·obtain rfl:=Option.some.inj H
    go_wp2
    go_ret
    exact⟨oE,oB⟩
   have H':=ae.mk H;clear H
   go_wp2
   go_loopg [3] wE (fun kq v3 w'=>∃(b1:Int),v3= .int .i64 b1∧ae (aH.l0 kq b1 ag ak=some r)∧ae (kq≤wE)∧ae (w'.heap[b6]? =some (.cells #[(.slice bl ag.length aW),.int .i64 ak] 28 (0,0)))∧ae (Below w.heap.size w w'))
   case atStart=>exact⟨(0),oS,H',⟨Nat.le_refl _⟩,⟨oF b2⟩,⟨oB⟩⟩
   case round=>
    clear H';obtain⟨b1,rfl,HA,bT,b2,HB⟩:=hrel
    cases gk with
    |zero=>exact absurd HA.out (by simp[aH.l0])
    |succ k2=>
     have H:=HA.out;clear HA;simp only[aH.l0]at H;replace H:=jd H;rcases H with⟨bU,H⟩|⟨bU,H⟩;rotate_left
     ·obtain rfl:=Option.some.inj H;obtain⟨⟨_,_⟩,_,_⟩:=z2 b2
      go_wp2
      go_ret
      exact⟨oE,oB⟩
     obtain⟨dF,H⟩:=cX H;replace H:=bA H;obtain⟨bM,dL,H⟩:=H
     try dsimp only at H
     by_cases bO:bM=((af ag b1).f2)
     rotate_left
     ·rw[if_neg bO]at H;have dG:(bM==((af ag b1).f2))=false:=beq_eq_false_iff_ne.mpr bO;have dH:(bM !=((af ag b1).f2))=true:=bne_iff_ne.mpr bO;obtain rfl:=Option.some.inj H;obtain⟨⟨_,_⟩,_,_⟩:=z2 b2;have dN:(0≤(b1:Int))=True:=oT;have dO:(b1<(ag.length:Int))=True:=oT;obtain⟨bL,b9,bB,bH,bC,bD,bE,bQ,bW,bX,bY,bZ,d1,d2,d3,d4,d5,bN,d6,d7⟩:=ft bI HB b1 oa oa
      cases bQ
      try go_wp2_with (first|((with_reducible refine aj (N:=4) rfl ?_);(try(refine ck (by rfl) ?_;dsimp only));refine dp 4 #[.int .i64 0,.int .i64 0,.int .i64 0,.slice none 0 0,.slice none 0 0,.slice none 0 0] 58 ?_;intro b3 hg dV hbox hb;have b4:=am (hbox);have dI:=dn hg;have bF:=eN hg b2;have bG:=eO hg b2;replace b2:=bj b2 hb;replace HB:=hB HB hb;clear hb hbox hg;have dY:=bG.out;have dZ:=bF.out;obtain⟨⟨_,_,_,_,_,_⟩,_,_,_,_,_,_⟩:=z6 b4))
      generalize jy:((((((dV.setCell ⟨b3,0,none⟩ (.int .i64 ((af ag b1).f0))).setCell ⟨b3,1,none⟩ (.int .i64 ((af ag b1).f1))).setCell ⟨b3,2,none⟩ (.int .i64 ((af ag b1).f2))).setCell ⟨b3,3,none⟩ (.slice b9 ((af ag b1).f3).length bB)).setCell ⟨b3,4,none⟩ (.slice bH ((af ag b1).f4).length bC)).setCell ⟨b3,5,none⟩ (.slice bD ((af ag b1).f5).length bE))=w43;replace b2:=vO jy b2;replace b4:=xz #[.int .i64 ((af ag b1).f0),.int .i64 ((af ag b1).f1),.int .i64 ((af ag b1).f2),.slice b9 ((af ag b1).f3).length bB,.slice bH ((af ag b1).f4).length bC,.slice bD ((af ag b1).f5).length bE] jy b4;replace HB:=vS jy HB;clear jy;replace b2:=am (av b2.out);replace b4:=am (av b4.out);replace HB:=am (au HB.out);refine s0_ 7 (fun w'=>w'.cell? ⟨b6,0,none⟩=some (.slice (some bL) ag.length aW)∧w'.cell? ⟨b6,1,none⟩=some (.int .i64 ak)∧w'.cell? ⟨b3,0,none⟩=some (.int .i64 ((af ag b1).f0))∧w'.cell? ⟨b3,1,none⟩=some (.int .i64 ((af ag b1).f1))∧w'.cell? ⟨b3,2,none⟩=some (.int .i64 ((af ag b1).f2))∧w'.cell? ⟨b3,3,none⟩=some (.slice b9 ((af ag b1).f3).length bB)∧w'.cell? ⟨b3,4,none⟩=some (.slice bH ((af ag b1).f4).length bC)∧w'.cell? ⟨b3,5,none⟩=some (.slice bD ((af ag b1).f5).length bE)) oH (fun hHeld=> ?_);generalize w43.drew=gR at b2 b4 HB hHeld⊢;refine vT 1 31 ?_;refine vT 4 34 ?_;refine xA 0 30 hHeld ?_;refine xA 2 32 hHeld ?_;refine xA 5 35 hHeld ?_;refine o0_ 3 33 (fun K hK=> ?_);refine lG 33 Tryz.func81 (bg.calls k2 _ _ ag ak ((af ag b1).f0) bM _ (kC bI) bK.out dL.out) ?_;rintro e gS ⟨rfl,hb⟩;refine⟨_,rfl,?_⟩;replace b2:=bj b2 hb;replace b4:=bj b4 hb;replace HB:=hB HB hb;refine eY hK 33 oH (fun hHeld=> ?_);clear hK K;refine vT 6 36 ?_;refine sP (by kernel_rfl) ?_
      try go_wp2
      go_ret
      exact⟨oE,oB⟩
     rw[if_pos bO]at H;have dG:(bM==((af ag b1).f2))=true:=beq_iff_eq.mpr bO;have dH:(bM !=((af ag b1).f2))=false:=bne_eq_false_iff_eq.mpr bO;clear bO;have H':=ae.mk H;clear H;obtain⟨⟨_,_⟩,_,_⟩:=z2 b2;have dN:(0≤(b1:Int))=True:=oT;have dO:(b1<(ag.length:Int))=True:=oT;obtain⟨bL,b9,bB,bH,bC,bD,bE,bQ,bW,bX,bY,bZ,d1,d2,d3,d4,d5,bN,d6,d7⟩:=ft bI HB b1 oa oa
     cases bQ
     try go_wp2_with (first|((with_reducible refine aj (N:=4) rfl ?_);(try(refine ck (by rfl) ?_;dsimp only));refine dp 4 #[.int .i64 0,.int .i64 0,.int .i64 0,.slice none 0 0,.slice none 0 0,.slice none 0 0] 58 ?_;intro b3 hg dW hbox hb;have b4:=am (hbox);have dI:=dn hg;have bF:=eN hg b2;have bG:=eO hg b2;replace b2:=bj b2 hb;replace HB:=hB HB hb;clear hb hbox hg;have gA:=bG.out;have gB:=bF.out;obtain⟨⟨_,_,_,_,_,_⟩,_,_,_,_,_,_⟩:=z6 b4))
     generalize jy:((((((dW.setCell ⟨b3,0,none⟩ (.int .i64 ((af ag b1).f0))).setCell ⟨b3,1,none⟩ (.int .i64 ((af ag b1).f1))).setCell ⟨b3,2,none⟩ (.int .i64 ((af ag b1).f2))).setCell ⟨b3,3,none⟩ (.slice b9 ((af ag b1).f3).length bB)).setCell ⟨b3,4,none⟩ (.slice bH ((af ag b1).f4).length bC)).setCell ⟨b3,5,none⟩ (.slice bD ((af ag b1).f5).length bE))=w22;replace b2:=vO jy b2;replace b4:=xz #[.int .i64 ((af ag b1).f0),.int .i64 ((af ag b1).f1),.int .i64 ((af ag b1).f2),.slice b9 ((af ag b1).f3).length bB,.slice bH ((af ag b1).f4).length bC,.slice bD ((af ag b1).f5).length bE] jy b4;replace HB:=vS jy HB;clear jy;replace b2:=am (av b2.out);replace b4:=am (av b4.out);replace HB:=am (au HB.out);refine s0_ 7 (fun w'=>w'.cell? ⟨b6,0,none⟩=some (.slice (some bL) ag.length aW)∧w'.cell? ⟨b6,1,none⟩=some (.int .i64 ak)∧w'.cell? ⟨b3,0,none⟩=some (.int .i64 ((af ag b1).f0))∧w'.cell? ⟨b3,1,none⟩=some (.int .i64 ((af ag b1).f1))∧w'.cell? ⟨b3,2,none⟩=some (.int .i64 ((af ag b1).f2))∧w'.cell? ⟨b3,3,none⟩=some (.slice b9 ((af ag b1).f3).length bB)∧w'.cell? ⟨b3,4,none⟩=some (.slice bH ((af ag b1).f4).length bC)∧w'.cell? ⟨b3,5,none⟩=some (.slice bD ((af ag b1).f5).length bE)) oH (fun hHeld=> ?_);generalize w22.drew=gT at b2 b4 HB hHeld⊢;refine vT 1 31 ?_;refine vT 4 34 ?_;refine xA 0 30 hHeld ?_;refine xA 2 32 hHeld ?_;refine xA 5 35 hHeld ?_;refine o0_ 3 33 (fun K hK=> ?_);refine lG 33 Tryz.func81 (bg.calls k2 _ _ ag ak ((af ag b1).f0) bM _ (kC bI) bK.out dL.out) ?_;rintro e gU ⟨rfl,hb⟩;refine⟨_,rfl,?_⟩;replace b2:=bj b2 hb;replace b4:=bj b4 hb;replace HB:=hB HB hb;refine eY hK 33 oH (fun hHeld=> ?_);clear hK K;refine vT 6 36 ?_;refine sP (by kernel_rfl) ?_
     try go_wp2
     go_loopg [5] k2 (fun kq v5 w'=>∃(b5:Int),v5= .int .i64 b5∧ae (aH.l1 kq b1 b5 ag ak ((af ag b1).f0) ((af ag b1).f1) ((af ag b1).f2) ((af ag b1).f3) ((af ag b1).f4) ((af ag b1).f5)=some r)∧ae (kq≤k2)∧ae (w'.heap[b6]? =some (.cells #[(.slice (some bL) ag.length aW),.int .i64 ak] 28 (0,0)))∧ae (w'.heap[b3]? =some (.cells #[.int .i64 ((af ag b1).f0),.int .i64 ((af ag b1).f1),.int .i64 ((af ag b1).f2),(.slice b9 ((af ag b1).f3).length bB),(.slice bH ((af ag b1).f4).length bC),(.slice bD ((af ag b1).f5).length bE)] 58 (0,0)))∧ae (Below w.heap.size w w'))
     case atStart=>exact⟨(0),oS,H',⟨Nat.le_refl _⟩,⟨oF b2⟩,⟨oF b4⟩,⟨oB⟩⟩
     case round=>
      clear H'
      try clear bU
      try clear dF
      try clear bO
      obtain⟨b5,rfl,HA,bV,b2,b4,HB⟩:=hrel
      cases gk with
      |zero=>exact absurd HA.out (by simp[aH.l1])
      |succ k3=>
       have H:=HA.out;clear HA;simp only[aH.l1]at H;replace H:=jd H;rcases H with⟨dJ,H⟩|⟨dJ,H⟩;rotate_left
       ·have H':=ae.mk H;clear H;have gC:=bG.out;have gD:=bF.out;obtain⟨⟨_,_,_,_,_,_⟩,_,_,_,_,_,_⟩:=z6 b4
        go_wp2
        go_roundg k3
        case measure=>have:=bS.out;have:=bT.out;have:=bV.out;omega
        case rel=>exact⟨(wrap64 (b1+1)),oS,H',⟨by have:=bS.out;have:=bT.out;have:=bV.out;omega⟩,⟨oF b2⟩,⟨oB⟩⟩
       obtain⟨gE,H⟩:=cX H;replace H:=bA H;obtain⟨dD,dM,H⟩:=H
       try dsimp only at H
       replace H:=jd H;rcases H with⟨dK,H⟩|⟨dK,H⟩
       ·obtain rfl:=Option.some.inj H;have gF:=bG.out;have gG:=bF.out;obtain⟨⟨_,_,_,_,_,_⟩,_,_,_,_,_,_⟩:=z6 b4
        try go_wp2
        replace b2:=am (av b2.out);replace b4:=am (av b4.out);replace HB:=am (au HB.out);have dP:(0≤(b5:Int))=True:=oT;have dQ:(b5<(((af ag b1).f4).length:Int))=True:=oT;obtain⟨bJ,bR,b7,b8⟩:=cT bN.out b5 oa oa;have d8:=b8;have d9:=b7
        cases bR
        replace b7:=cB HB b7;replace b8:=cB HB b8;refine mn 9 (fun w'=>w'.cell? ⟨b6,0,none⟩=some (.slice (some bL) ag.length aW)∧w'.cell? ⟨b6,1,none⟩=some (.int .i64 ak)∧w'.cell? ⟨b3,0,none⟩=some (.int .i64 ((af ag b1).f0))∧w'.cell? ⟨b3,1,none⟩=some (.int .i64 ((af ag b1).f1))∧w'.cell? ⟨b3,2,none⟩=some (.int .i64 ((af ag b1).f2))∧w'.cell? ⟨b3,3,none⟩=some (.slice b9 ((af ag b1).f3).length bB)∧w'.cell? ⟨b3,4,none⟩=some (.slice (some bJ) ((af ag b1).f4).length bC)∧w'.cell? ⟨b3,5,none⟩=some (.slice bD ((af ag b1).f5).length bE)∧w'.cell? (bJ.add ((b5).toNat*2))=some (.string ((al ((af ag b1).f4) b5).f0))∧w'.cell? ⟨(bJ.add ((b5).toNat*2)).block,(bJ.add ((b5).toNat*2)).off+1,none⟩=some (.int .i64 ((al ((af ag b1).f4) b5).f1))) aH.sL aH.qc oH (fun hHeld ax eF=> ?_);generalize wr.drew=gV at b2 b4 HB b7 b8 hHeld⊢;refine bx 1 45 ax ?_;refine bx 3 47 ax ?_;refine fS 0 44 ax eF hHeld ?_;refine fS 2 46 ax eF hHeld ?_;refine bx 4 48 ax ?_;refine bx 5 49 ax ?_;refine fS 6 50 ax eF hHeld ?_;refine kM 7 51 ax (fun K hK=> ?_);refine lG 51 Tryz.func82 (cF.calls k3 _ _ ag ak ((al ((af ag b1).f4) b5).f1) dD _ (kC bI) bK.out dM.out) ?_;rintro e gW ⟨rfl,hb⟩;refine⟨_,rfl,?_⟩;replace b2:=bj b2 hb;replace b4:=bj b4 hb;replace HB:=hB HB hb;refine eY hK 51 oH (fun hHeld=> ?_);clear hK K;refine bx 8 52 ax ?_;refine lY ax ?_
        try go_wp2
        go_ret
        exact⟨oE,oB⟩
       have H':=ae.mk H;clear H;have gH:=bG.out;have gI:=bF.out;obtain⟨⟨_,_,_,_,_,_⟩,_,_,_,_,_,_⟩:=z6 b4
       try go_wp2
       replace b2:=am (av b2.out);replace b4:=am (av b4.out);replace HB:=am (au HB.out);have dP:(0≤(b5:Int))=True:=oT;have dQ:(b5<(((af ag b1).f4).length:Int))=True:=oT;obtain⟨bJ,bR,b7,b8⟩:=cT bN.out b5 oa oa;have d8:=b8;have d9:=b7
       cases bR
       replace b7:=cB HB b7;replace b8:=cB HB b8;refine mn 9 (fun w'=>w'.cell? ⟨b6,0,none⟩=some (.slice (some bL) ag.length aW)∧w'.cell? ⟨b6,1,none⟩=some (.int .i64 ak)∧w'.cell? ⟨b3,0,none⟩=some (.int .i64 ((af ag b1).f0))∧w'.cell? ⟨b3,1,none⟩=some (.int .i64 ((af ag b1).f1))∧w'.cell? ⟨b3,2,none⟩=some (.int .i64 ((af ag b1).f2))∧w'.cell? ⟨b3,3,none⟩=some (.slice b9 ((af ag b1).f3).length bB)∧w'.cell? ⟨b3,4,none⟩=some (.slice (some bJ) ((af ag b1).f4).length bC)∧w'.cell? ⟨b3,5,none⟩=some (.slice bD ((af ag b1).f5).length bE)∧w'.cell? (bJ.add ((b5).toNat*2))=some (.string ((al ((af ag b1).f4) b5).f0))∧w'.cell? ⟨(bJ.add ((b5).toNat*2)).block,(bJ.add ((b5).toNat*2)).off+1,none⟩=some (.int .i64 ((al ((af ag b1).f4) b5).f1))) aH.sL aH.qc oH (fun hHeld ax eF=> ?_);generalize wr.drew=gX at b2 b4 HB b7 b8 hHeld⊢;refine bx 1 45 ax ?_;refine bx 3 47 ax ?_;refine fS 0 44 ax eF hHeld ?_;refine fS 2 46 ax eF hHeld ?_;refine bx 4 48 ax ?_;refine bx 5 49 ax ?_;refine fS 6 50 ax eF hHeld ?_;refine kM 7 51 ax (fun K hK=> ?_);refine lG 51 Tryz.func82 (cF.calls k3 _ _ ag ak ((al ((af ag b1).f4) b5).f1) dD _ (kC bI) bK.out dM.out) ?_;rintro e gY ⟨rfl,hb⟩;refine⟨_,rfl,?_⟩;replace b2:=bj b2 hb;replace b4:=bj b4 hb;replace HB:=hB HB hb;refine eY hK 51 oH (fun hHeld=> ?_);clear hK K;refine bx 8 52 ax ?_;refine lY ax ?_
       try go_wp2
       go_roundg k3
       case measure=>have:=bS.out;have:=bT.out;have:=bV.out;omega
       case rel=>exact⟨(wrap64 (b5+1)),oS,H',⟨by have:=bS.out;have:=bT.out;have:=bV.out;omega⟩,⟨oF b2⟩,⟨oF b4⟩,⟨oB⟩⟩

def eT.l0:Nat→List ByteArray→Int→Int→List (aZ)→Int→Option (Bool)
 |0,_,_,_,_,_=>none
 |k+1,x9,b5,b3,b1,b2=>if b3<b5 then(if 0≤b3 then(if b3<(x9.length:Int)then((d_.f k (iZ ByteArray.empty x9 b3)).bind fun b4=>(if b4.2=true then(eT.l0 k x9 b5 (wrap64 (b3+1)) b1 b2)else(some false)))else(none))else(none))else((bd.f k b1 b2).bind fun b6=>(some b6))
def eT.f (k:Nat) (ag:List (aZ)) (ak:Int) (l1:List ByteArray):Option (Bool):=eT.l0 k l1 (l1.length:Int) 0 ag ak
theorem eT.calls (k:Nat) (bl:Option Addr) (aW:Nat) (ag:List (aZ)) (ak:Int) (A1:Option Addr) (c1:Nat) (l1:List ByteArray) (r:Bool) (w:World) (cg:Kd.C fv w bl ag.length ag) (ch:ag.length≤aW) (hr1:Kd.C Kd.string w A1 l1.length l1) (hc1:l1.length≤c1) (h:eT.f k ag ak l1=some r) (hG:zc w:=by exact gk_ oB (by first|(with_reducible assumption)|assumption)):
  Calls Tryz.prog 46 #[.agg #[.slice bl ag.length aW,.int .i64 ak],.slice A1 l1.length c1] w fun e w'=>e= .returned (.bool r)∧Below w.heap.size w w':=by
 have HG:=ae.mk hG;clear hG;have bN:=Tryz.underlying28;have b7:=ae.mk cg;have b8:=ae.mk ch;clear cg ch;have bD:=ae.mk hr1;have bR:=ae.mk hc1;clear hr1 hc1;have HB:=am (Below.refl w.heap.size w);unfold eT.f at h;have H:=h;clear h;have H':=ae.mk H;clear H
 go_enter Tryz.func46,Tryz.ntmps46
 go_wp2_with (first|((with_reducible refine aj (N:=2) rfl ?_);refine dp 2 #[.slice bl ag.length aW,.int .i64 ak] 28 ?_;intro b9 hg w3 hbox hb;have b2:=am (hbox);have bM:=dn hg;replace HB:=hB HB hb;clear hb hbox hg))
 go_loopg [11] k (fun kq bK w'=>∃(b1:Int),bK= .int .i64 b1∧ae (eT.l0 kq l1 (l1.length:Int) b1 ag ak=some r)∧ae (kq≤k)∧ae (w'.heap[b9]? =some (.cells #[(.slice bl ag.length aW),.int .i64 ak] 28 (0,0)))∧ae (Below w.heap.size w w'))
 case atStart=>exact⟨(0),oS,H',⟨Nat.le_refl _⟩,⟨oF b2⟩,⟨oB⟩⟩
 case round=>
  clear H'
  try clear c1
  obtain⟨b1,rfl,HA,bE,b2,HB⟩:=hrel
  cases gk with
  |zero=>exact absurd HA.out (by simp[eT.l0])
  |succ k1=>
   have H:=HA.out;clear HA;simp only[eT.l0]at H;replace H:=jd H;rcases H with⟨bF,H⟩|⟨bF,H⟩;rotate_left
   ·replace H:=bA H;obtain⟨bG,bL,H⟩:=H
    try dsimp only at H
    obtain rfl:=Option.some.inj H;obtain⟨⟨_,_⟩,_,_⟩:=z2 b2
    go_wp2_with (first|((with_reducible refine ai (f:=89) rfl ?_);refine eL 24 Tryz.func89 (bd.calls k1 _ _ ag ak bG _ (kC b7) b8.out bL.out) ?_;rintro e bS ⟨rfl,hb⟩;refine⟨_,rfl,?_⟩;replace b2:=bj b2 hb;replace HB:=hB HB hb))
    go_ret
    exact⟨oE,oB⟩
   obtain⟨bO,H⟩:=cX H;obtain⟨bP,H⟩:=cX H;replace H:=bA H;obtain⟨⟨b5,bQ⟩,A7,H⟩:=H
   try dsimp only at H
   replace H:=ll H;rcases H with⟨rfl,H⟩|⟨rfl,H⟩;rotate_left
   ·obtain rfl:=Option.some.inj H;have bH:(0≤(b1:Int))=True:=oT;have bI:(b1<(l1.length:Int))=True:=oT;obtain⟨bB,b4,b3⟩:=Kd.eX bD.out b1 oa oa
    cases b4
    replace b3:=cB HB b3
    go_wp2_with (first|((with_reducible refine ai (f:=88) rfl ?_);refine eL 17 Tryz.func88 (d_.calls k1 (iZ ByteArray.empty l1 b1) b5 false _ A7.out) ?_;rintro e bT ⟨bJ,rfl,b6,hb⟩;refine⟨_,rfl,?_⟩;have bC:=am (Kd.nD b6 (ah oB));replace b2:=bj b2 hb;replace HB:=hB HB hb))
    go_ret
    exact⟨oE,oB⟩
   have H':=ae.mk H;clear H;have bH:(0≤(b1:Int))=True:=oT;have bI:(b1<(l1.length:Int))=True:=oT;obtain⟨bB,b4,b3⟩:=Kd.eX bD.out b1 oa oa
   cases b4
   replace b3:=cB HB b3
   go_wp2_with (first|((with_reducible refine ai (f:=88) rfl ?_);refine eL 17 Tryz.func88 (d_.calls k1 (iZ ByteArray.empty l1 b1) b5 true _ A7.out) ?_;rintro e w9 ⟨bJ,rfl,b6,hb⟩;refine⟨_,rfl,?_⟩;have bC:=am (Kd.nD b6 (ah oB));replace b2:=bj b2 hb;replace HB:=hB HB hb))
   go_roundg k1
   case measure=>have:=bE.out;omega
   case rel=>exact⟨(wrap64 (b1+1)),oS,H',⟨by have:=bE.out;omega⟩,⟨oF b2⟩,⟨oB⟩⟩

def km.f (k:Nat) (ag:List (aZ)) (ak:Int) (a1:ByteArray):Option (Int×Int×Int×List Int×(List (db))×(List (ey))×ByteArray×Int):=(dh.f k a1).bind fun b2=>((gw.f k ag ak b2.1).bind fun b1=>(if b1.2.2.2.2.2.2=0 then(if b1.2.1=2 then(some (b1.1,b1.2.1,b1.2.2.1,b1.2.2.2.1,b1.2.2.2.2.1,b1.2.2.2.2.2.1,b2.2.1,0))else(some (0,0,0,([]:List Int),([]:List (db)),([]:List (ey)),(⟨#[]⟩:ByteArray),3)))else(some (0,0,0,([]:List Int),([]:List (db)),([]:List (ey)),(⟨#[]⟩:ByteArray),b1.2.2.2.2.2.2))))
theorem km.calls (k:Nat) (bl:Option Addr) (aW:Nat) (ag:List (aZ)) (ak:Int) (a1:ByteArray) (r1:Int) (r2:Int) (r3:Int) (r4:List Int) (r5:List (db)) (r6:List (ey)) (r7:ByteArray) (r8:Int) (w:World) (cg:Kd.C fv w bl ag.length ag) (ch:ag.length≤aW) (h:km.f k ag ak a1=some (r1,r2,r3,r4,r5,r6,r7,r8)) (hG:zc w:=by exact gk_ oB (by first|(with_reducible assumption)|assumption)):
  Calls Tryz.prog 48 #[.agg #[.slice bl ag.length aW,.int .i64 ak],.string a1] w fun e w'=>∃rJ rK rL:Value,e= .returned (.tuple #[.agg #[.int .i64 r1,.int .i64 r2,.int .i64 r3,rJ,rK,rL,.string r7],.int .i64 r8])∧Kd.R (Kd.int .u8) 5 w' w.heap.size (fun _=>True) rJ r4∧Kd.R iA 75 w' w.heap.size (fun _=>True) rK r5∧Kd.R jr 82 w' w.heap.size (fun _=>True) rL r6∧Below w.heap.size w w':=by
 have HG:=ae.mk hG;clear hG;have gE:=Tryz.underlying28;have gF:=Tryz.underlying65;have gG:=Tryz.underlying58;have bK:=ae.mk cg;have bL:=ae.mk ch;clear cg ch;have HB:=am (Below.refl w.heap.size w);unfold km.f at h;have H:=h;clear h;replace H:=bA H;obtain⟨⟨bH,bM,bT⟩,A3,H⟩:=H
 try dsimp only at H
 replace H:=bA H;obtain⟨⟨bN,bE,bO,bP,bQ,bR,bF⟩,A4,H⟩:=H
 try dsimp only at H
 by_cases c5:bF=0
 rotate_left
 ·rw[if_neg c5]at H;have d3:(bF==0)=false:=beq_eq_false_iff_ne.mpr c5;have d4:(bF !=0)=true:=bne_iff_ne.mpr c5;simp only[Option.some.injEq,Prod.mk.injEq]at H;obtain⟨rfl,rfl,rfl,rfl,rfl,rfl,rfl,rfl⟩:=H
  go_enter Tryz.func48,Tryz.ntmps48
  go_wp2_with (first|((with_reducible refine aj (N:=2) rfl ?_);refine dp 2 #[.slice bl ag.length aW,.int .i64 ak] 28 ?_;intro bU hg gT hbox hb;have b1:=am (hbox);have bV:=dn hg;replace HB:=hB HB hb;clear hb hbox hg)|((with_reducible refine aj (N:=4) rfl ?_);refine dp 4 #[.int .i64 0,.int .i64 0,.int .i64 0,.slice none 0 0,.slice none 0 0,.slice none 0 0,.string (⟨#[]⟩:ByteArray)] 65 ?_;intro bG hg gU hbox hb;have b2:=am (hbox);have bW:=dn hg;have b6:=eN hg b1;have b7:=eO hg b1;replace b1:=bj b1 hb;replace HB:=hB HB hb;clear hb hbox hg)|((with_reducible refine ai (f:=92) rfl ?_);refine eL 13 Tryz.func92 (dh.calls k a1 bH bM bT _ A3.out) ?_;rintro e gV ⟨rfl,hb⟩;refine⟨_,rfl,?_⟩;replace b1:=bj b1 hb;replace b2:=bj b2 hb;replace HB:=hB HB hb;have dM:=b6.out;have dN:=b7.out;obtain⟨⟨_,_⟩,_,_⟩:=z2 b1)|((with_reducible refine ai (f:=47) rfl ?_);refine eL 20 Tryz.func47 (gw.calls k _ _ ag ak bH bN bE bO bP bQ bR bF _ (kC bK) bL.out A4.out) ?_;rintro e gW ⟨bZ,d1,d2,rfl,bS,bI,bJ,hb⟩;refine⟨_,rfl,?_⟩;have b3:=am (Kd.ar bS (ah oB));have b4:=am (Kd.ar bI (ah oB));have b5:=am (Kd.ar bJ (ah oB));replace b1:=bj b1 hb;replace b2:=bj b2 hb;replace HB:=hB HB hb;(try clear bI);(try clear bJ))|((with_reducible refine aj (N:=9) rfl ?_);refine dp 9 #[.int .i64 0,.int .i64 0,.int .i64 0,.slice none 0 0,.slice none 0 0,.slice none 0 0] 58 ?_;intro bX hg gX hbox hb;have bD:=am (hbox);have bY:=dn hg;have b8:=eN hg b1;have b9:=eO hg b1;have bB:=eN hg b2;have bC:=eO hg b2;replace b3:=ga b3 hb;replace b4:=ga b4 hb;replace b5:=ga b5 hb;replace b1:=bj b1 hb;replace b2:=bj b2 hb;replace HB:=hB HB hb;clear hb hbox hg;have dO:=b9.out;have dP:=b8.out;have dQ:=bC.out;have dR:=bB.out;obtain⟨⟨_,_,_,_,_,_⟩,_,_,_,_,_,_⟩:=z6 bD;obtain⟨gH,gI,d5⟩:=Kd.aw b3.out;subst d5;obtain⟨gJ,gK,d6⟩:=Kd.aw b4.out;subst d6;obtain⟨gL,gM,d7⟩:=Kd.aw b5.out;subst d7;obtain⟨⟨_,_,_,_,_,_,_⟩,_,_,_,_,_,_,_⟩:=z7 b2))
  refine bodyPost_ret (dx rfl _ _ bG 65 #[.int .i64 0,.int .i64 0,.int .i64 0,.slice none 0 0,.slice none 0 0,.slice none 0 0,.string (⟨#[]⟩:ByteArray)] (0,0) _ rfl (oP b2) Tryz.underlying65 rfl (by kernel_rfl)) rfl ?_;exact⟨_,_,_,oE,by first|exact Kd.fD _ _ _ _ _|exact Kd.ig _ _ _ _ _|exact Kd.ij _ _ _ _ _|exact Kd.ic _ _ _ _ _|exact Kd.ie _ _ _ _ _,by first|exact Kd.fD _ _ _ _ _|exact Kd.ig _ _ _ _ _|exact Kd.ij _ _ _ _ _|exact Kd.ic _ _ _ _ _|exact Kd.ie _ _ _ _ _,by first|exact Kd.fD _ _ _ _ _|exact Kd.ig _ _ _ _ _|exact Kd.ij _ _ _ _ _|exact Kd.ic _ _ _ _ _|exact Kd.ie _ _ _ _ _,oB⟩
 rw[if_pos c5]at H;have d3:(bF==0)=true:=beq_iff_eq.mpr c5;have d4:(bF !=0)=false:=bne_eq_false_iff_eq.mpr c5;clear c5
 by_cases c6:bE=2
 ·rw[if_pos c6]at H;have d8:(bE==2)=true:=beq_iff_eq.mpr c6;have d9:(bE !=2)=false:=bne_eq_false_iff_eq.mpr c6;clear c6;simp only[Option.some.injEq,Prod.mk.injEq]at H;obtain⟨rfl,rfl,rfl,rfl,rfl,rfl,rfl,rfl⟩:=H
  go_enter Tryz.func48,Tryz.ntmps48
  go_wp2_with (first|((with_reducible refine aj (N:=2) rfl ?_);refine dp 2 #[.slice bl ag.length aW,.int .i64 ak] 28 ?_;intro bU hg w7 hbox hb;have b1:=am (hbox);have bV:=dn hg;replace HB:=hB HB hb;clear hb hbox hg)|((with_reducible refine aj (N:=4) rfl ?_);refine dp 4 #[.int .i64 0,.int .i64 0,.int .i64 0,.slice none 0 0,.slice none 0 0,.slice none 0 0,.string (⟨#[]⟩:ByteArray)] 65 ?_;intro bG hg w8 hbox hb;have b2:=am (hbox);have bW:=dn hg;have b6:=eN hg b1;have b7:=eO hg b1;replace b1:=bj b1 hb;replace HB:=hB HB hb;clear hb hbox hg)|((with_reducible refine ai (f:=92) rfl ?_);refine eL 13 Tryz.func92 (dh.calls k a1 bH bM bT _ A3.out) ?_;rintro e w9 ⟨rfl,hb⟩;refine⟨_,rfl,?_⟩;replace b1:=bj b1 hb;replace b2:=bj b2 hb;replace HB:=hB HB hb;have dS:=b6.out;have dT:=b7.out;obtain⟨⟨_,_⟩,_,_⟩:=z2 b1)|((with_reducible refine ai (f:=47) rfl ?_);refine eL 20 Tryz.func47 (gw.calls k _ _ ag ak bH bN bE bO bP bQ bR bF _ (kC bK) bL.out A4.out) ?_;rintro e gY ⟨bZ,d1,d2,rfl,bS,bI,bJ,hb⟩;refine⟨_,rfl,?_⟩;have b3:=am (Kd.ar bS (ah oB));have b4:=am (Kd.ar bI (ah oB));have b5:=am (Kd.ar bJ (ah oB));replace b1:=bj b1 hb;replace b2:=bj b2 hb;replace HB:=hB HB hb;(try clear bI);(try clear bJ))|((with_reducible refine aj (N:=9) rfl ?_);refine dp 9 #[.int .i64 0,.int .i64 0,.int .i64 0,.slice none 0 0,.slice none 0 0,.slice none 0 0] 58 ?_;intro bX hg gZ hbox hb;have bD:=am (hbox);have bY:=dn hg;have b8:=eN hg b1;have b9:=eO hg b1;have bB:=eN hg b2;have bC:=eO hg b2;replace b3:=ga b3 hb;replace b4:=ga b4 hb;replace b5:=ga b5 hb;replace b1:=bj b1 hb;replace b2:=bj b2 hb;replace HB:=hB HB hb;clear hb hbox hg;have dU:=b9.out;have dV:=b8.out;have dW:=bC.out;have dX:=bB.out;obtain⟨⟨_,_,_,_,_,_⟩,_,_,_,_,_,_⟩:=z6 bD;obtain⟨dA,dB,dC⟩:=Kd.aw b3.out;subst dC;obtain⟨dD,dE,dF⟩:=Kd.aw b4.out;subst dF;obtain⟨dG,dH,dI⟩:=Kd.aw b5.out;subst dI;obtain⟨⟨_,_,_,_,_,_,_⟩,_,_,_,_,_,_,_⟩:=z7 b2))
  refine bodyPost_ret (dx rfl _ _ bG 65 #[.int .i64 bN,.int .i64 bE,.int .i64 bO,.slice dA bP.length dB,.slice dD bQ.length dE,.slice dG bR.length dH,.string bM] (0,0) _ rfl (oP b2) Tryz.underlying65 rfl (by kernel_rfl)) rfl ?_;exact⟨_,_,_,oE,ux b3 bD b2,ux b4 bD b2,ux b5 bD b2,oB⟩
 rw[if_neg c6]at H;have d8:(bE==2)=false:=beq_eq_false_iff_ne.mpr c6;have d9:(bE !=2)=true:=bne_iff_ne.mpr c6;simp only[Option.some.injEq,Prod.mk.injEq]at H;obtain⟨rfl,rfl,rfl,rfl,rfl,rfl,rfl,rfl⟩:=H
 go_enter Tryz.func48,Tryz.ntmps48
 go_wp2_with (first|((with_reducible refine aj (N:=2) rfl ?_);refine dp 2 #[.slice bl ag.length aW,.int .i64 ak] 28 ?_;intro bU hg j1 hbox hb;have b1:=am (hbox);have bV:=dn hg;replace HB:=hB HB hb;clear hb hbox hg)|((with_reducible refine aj (N:=4) rfl ?_);refine dp 4 #[.int .i64 0,.int .i64 0,.int .i64 0,.slice none 0 0,.slice none 0 0,.slice none 0 0,.string (⟨#[]⟩:ByteArray)] 65 ?_;intro bG hg j2 hbox hb;have b2:=am (hbox);have bW:=dn hg;have b6:=eN hg b1;have b7:=eO hg b1;replace b1:=bj b1 hb;replace HB:=hB HB hb;clear hb hbox hg)|((with_reducible refine ai (f:=92) rfl ?_);refine eL 13 Tryz.func92 (dh.calls k a1 bH bM bT _ A3.out) ?_;rintro e j3 ⟨rfl,hb⟩;refine⟨_,rfl,?_⟩;replace b1:=bj b1 hb;replace b2:=bj b2 hb;replace HB:=hB HB hb;have dY:=b6.out;have dZ:=b7.out;obtain⟨⟨_,_⟩,_,_⟩:=z2 b1)|((with_reducible refine ai (f:=47) rfl ?_);refine eL 20 Tryz.func47 (gw.calls k _ _ ag ak bH bN bE bO bP bQ bR bF _ (kC bK) bL.out A4.out) ?_;rintro e j4 ⟨bZ,d1,d2,rfl,bS,bI,bJ,hb⟩;refine⟨_,rfl,?_⟩;have b3:=am (Kd.ar bS (ah oB));have b4:=am (Kd.ar bI (ah oB));have b5:=am (Kd.ar bJ (ah oB));replace b1:=bj b1 hb;replace b2:=bj b2 hb;replace HB:=hB HB hb;(try clear bI);(try clear bJ))|((with_reducible refine aj (N:=9) rfl ?_);refine dp 9 #[.int .i64 0,.int .i64 0,.int .i64 0,.slice none 0 0,.slice none 0 0,.slice none 0 0] 58 ?_;intro bX hg j5 hbox hb;have bD:=am (hbox);have bY:=dn hg;have b8:=eN hg b1;have b9:=eO hg b1;have bB:=eN hg b2;have bC:=eO hg b2;replace b3:=ga b3 hb;replace b4:=ga b4 hb;replace b5:=ga b5 hb;replace b1:=bj b1 hb;replace b2:=bj b2 hb;replace HB:=hB HB hb;clear hb hbox hg;have gA:=b9.out;have gB:=b8.out;have gC:=bC.out;have gD:=bB.out;obtain⟨⟨_,_,_,_,_,_⟩,_,_,_,_,_,_⟩:=z6 bD;obtain⟨gN,gO,dJ⟩:=Kd.aw b3.out;subst dJ;obtain⟨gP,gQ,dK⟩:=Kd.aw b4.out;subst dK;obtain⟨gR,gS,dL⟩:=Kd.aw b5.out;subst dL;obtain⟨⟨_,_,_,_,_,_,_⟩,_,_,_,_,_,_,_⟩:=z7 b2))
 refine bodyPost_ret (dx rfl _ _ bG 65 #[.int .i64 0,.int .i64 0,.int .i64 0,.slice none 0 0,.slice none 0 0,.slice none 0 0,.string (⟨#[]⟩:ByteArray)] (0,0) _ rfl (oP b2) Tryz.underlying65 rfl (by kernel_rfl)) rfl ?_;exact⟨_,_,_,oE,by first|exact Kd.fD _ _ _ _ _|exact Kd.ig _ _ _ _ _|exact Kd.ij _ _ _ _ _|exact Kd.ic _ _ _ _ _|exact Kd.ie _ _ _ _ _,by first|exact Kd.fD _ _ _ _ _|exact Kd.ig _ _ _ _ _|exact Kd.ij _ _ _ _ _|exact Kd.ic _ _ _ _ _|exact Kd.ie _ _ _ _ _,by first|exact Kd.fD _ _ _ _ _|exact Kd.ig _ _ _ _ _|exact Kd.ij _ _ _ _ _|exact Kd.ic _ _ _ _ _|exact Kd.ie _ _ _ _ _,oB⟩

def kn.f (k:Nat) (ag:List (aZ)) (ak:Int) (a1:ByteArray):Option ((List (aZ))×Int):=(gm.f k a1).bind fun b2=>((iB.f k ag ak b2.1).bind fun b1=>((eK.f k b1.2.2.2.2.1 b2.2.1).bind fun b4=>((bb.f k ag ak b1.1 b1.2.1 b1.2.2.1 b1.2.2.2.1 b4 b1.2.2.2.2.2.1).bind fun b3=>(some (b3.1,b3.2)))))
theorem kn.calls (k:Nat) (bl:Option Addr) (aW:Nat) (ag:List (aZ)) (ak:Int) (a1:ByteArray) (r1:List (aZ)) (r2:Int) (w:World) (cg:Kd.C fv w bl ag.length ag) (ch:ag.length≤aW) (h:kn.f k ag ak a1=some (r1,r2)):
  Calls Tryz.prog 44 #[.agg #[.slice bl ag.length aW,.int .i64 ak],.string a1] w fun e w'=>∃iY:Value,e= .returned (.agg #[iY,.int .i64 r2])∧Kd.N fv 58 w' w.heap.size (fun k_=>(w.heap.size≤k_)) iY r1∧Below w.heap.size w w':=by
 have dQ:=Tryz.underlying28;have dR:=Tryz.underlying58;have bW:=ae.mk cg;have bX:=ae.mk ch;clear cg ch;have HB:=am (Below.refl w.heap.size w);unfold kn.f at h;have H:=h;clear h;replace H:=bA H;obtain⟨⟨d1,d2,d8⟩,A3,H⟩:=H
 try dsimp only at H
 replace H:=bA H;obtain⟨⟨bC,bD,bE,b9,bR,bB,d9⟩,A4,H⟩:=H
 try dsimp only at H
 replace H:=bA H;obtain⟨bF,A5,H⟩:=H
 try dsimp only at H
 replace H:=bA H;obtain⟨⟨bS,bT⟩,A6,H⟩:=H
 try dsimp only at H
 simp only[Option.some.injEq,Prod.mk.injEq]at H;obtain⟨rfl,rfl⟩:=H
 go_enter Tryz.func44,Tryz.ntmps44
 go_wp2_with (first|((with_reducible refine aj (N:=2) rfl ?_);refine dp 2 #[.slice bl ag.length aW,.int .i64 ak] 28 ?_;intro d5 hg w7 hbox hb;have b2:=am (hbox);have dH:=dn hg;replace HB:=hB HB hb;clear hb hbox hg)|((with_reducible refine aj (N:=4) rfl ?_);refine dp 4 #[.slice none 0 0,.int .i64 0] 28 ?_;intro b8 hg w8 hbox hb;have b3:=am (hbox);have dI:=dn hg;have bL:=eN hg b2;have bM:=eO hg b2;replace b2:=bj b2 hb;replace HB:=hB HB hb;clear hb hbox hg)|((with_reducible refine ai (f:=39) rfl ?_);refine eL 12 Tryz.func39 (gm.calls k a1 d1 d2 d8 _ A3.out) ?_;rintro e w9 ⟨rfl,hb⟩;refine⟨_,rfl,?_⟩;replace b2:=bj b2 hb;replace b3:=bj b3 hb;replace HB:=hB HB hb;have dJ:=bL.out;have dK:=bM.out;obtain⟨⟨_,_⟩,_,_⟩:=z2 b2)|((with_reducible refine ai (f:=42) rfl ?_);refine eL 19 Tryz.func42 (iB.calls k _ _ ag ak d1 bC bD bE b9 bR bB d9 _ (kC bW) bX.out A4.out) ?_;rintro e dX ⟨dS,dT,dU,rfl,bG,d6,d7,hb⟩;refine⟨_,rfl,?_⟩;have b4:=am (Kd.ar (Kd.hI (M:=fun k_=>(w.heap.size≤k_)) bG (ah oB) (fun k_ h_=>h_)) (ah oB));have b6:=am (Kd.ar (Kd.hI (M:=fun k_=>(w.heap.size≤k_)) d6 (ah oB) (fun k_ h_=>h_)) (ah oB));have b5:=am (Kd.ar (Kd.hI (M:=fun k_=>(w.heap.size≤k_)) d7 (ah oB) (fun k_ h_=>h_)) (ah oB));replace b2:=bj b2 hb;replace b3:=bj b3 hb;replace HB:=hB HB hb;(try clear d6);(try clear d7))|((with_reducible refine aj (N:=8) rfl ?_);refine dp 8 #[.int .i64 0,.int .i64 0,.int .i64 0,.slice none 0 0,.slice none 0 0,.slice none 0 0] 58 ?_;intro bY hg dY hbox hb;have b1:=am (hbox);have dL:=dn hg;have bN:=eN hg b2;have bO:=eO hg b2;have bP:=eN hg b3;have bQ:=eO hg b3;replace b4:=ga b4 hb;replace b6:=ga b6 hb;replace b5:=ga b5 hb;replace b2:=bj b2 hb;replace b3:=bj b3 hb;replace HB:=hB HB hb;clear hb hbox hg;have dM:=bO.out;have dN:=bN.out;have dO:=bQ.out;have dP:=bP.out;obtain⟨⟨_,_,_,_,_,_⟩,_,_,_,_,_,_⟩:=z6 b1;obtain⟨bH,bI,dA⟩:=Kd.aw b4.out;subst dA;obtain⟨dB,dC,dD⟩:=Kd.aw b6.out;subst dD;obtain⟨bJ,bK,dE⟩:=Kd.aw b5.out;subst dE)|((with_reducible refine ai (f:=86) rfl ?_);refine eL 25 Tryz.func86 (eK.calls k _ _ bR d2 bF _ (rh b6 b1) (ko b6) A5.out) ?_;rintro e dZ ⟨dV,rfl,bG,hb⟩;refine⟨_,rfl,?_⟩;have b7:=am (Kd.ar (Kd.nc (Kd.hI (M:=fun k_=>(w.heap.size≤k_)) bG (ah oB) (fun k_ h_=>h_)) (nY b6 b1)) (ah oB));replace b4:=ky b4 b1 hb;replace b6:=abS b6 b1 (Kd.cM bG) hb;replace b5:=ky b5 b1 hb;replace b2:=bj b2 hb;replace b3:=bj b3 hb;replace b1:=rg #[.int .i64 bC,.int .i64 bD,.int .i64 bE,.slice bH b9.length bI,.slice dB bR.length dC,.slice bJ bB.length bK] b1 hb;replace HB:=hB HB hb;(try clear hk);obtain⟨bU,bV,dF⟩:=Kd.aw b7.out;subst dF;obtain⟨⟨_,_,_,_,_,_⟩,_,_,_,_,_,_⟩:=z6 b1;obtain⟨⟨_,_⟩,_,_⟩:=z2 b2)|((with_reducible refine ai (f:=55) rfl ?_);refine eL 29 Tryz.func55 (bb.calls k _ _ ag ak bC bD bE _ _ b9 _ _ bF _ _ bB bS bT _ ?eH bX.out (rh b4 b1) (ko b4) (rh b7 b1) (ko b7) (rh b5 b1) (ko b5) A6.out) ?_;(case eH=>exact Kd.da bW.out oB);rintro e gA ⟨dW,rfl,bG,hb⟩;refine⟨_,rfl,?_⟩;have bZ:=am (Kd.kL (Kd.cS (ok':=fun k_=>(w.heap.size≤k_)∧some k_≠(.slice bH b9.length bI:Value).ownBlock∧some k_≠(.slice bJ bB.length bK:Value).ownBlock∧some k_≠(.slice bU bF.length bV:Value).ownBlock∧k_≠d5∧k_≠b8∧k_≠bY) bG (fun k_ eY=>⟨(Nat.le_trans (ah oB) eY),(Kd.fresh' (nY b4 b1) k_ eY),(Kd.fresh' (nY b5 b1) k_ eY),(Kd.fresh' (nY b7 b1) k_ eY),(fB b2 eY),(fB b3 eY),(Kd.eP (g:=bY) (o:= .cells #[.int .i64 bC,.int .i64 bD,.int .i64 bE,.slice bH b9.length bI,.slice bU bF.length bV,.slice bJ bB.length bK] 58 (0,0)) (oP b1) k_ eY)⟩)) (ah oB));replace b4:=ky b4 b1 hb;replace b5:=ky b5 b1 hb;replace b7:=ky b7 b1 hb;replace b2:=bj b2 hb;replace b3:=bj b3 hb;replace b1:=rg #[.int .i64 bC,.int .i64 bD,.int .i64 bE,.slice bH b9.length bI,.slice bU bF.length bV,.slice bJ bB.length bK] b1 hb;replace HB:=hB HB hb;(try clear hk);obtain⟨d3,d4,dG⟩:=Kd.kr bZ.out;subst dG;obtain⟨⟨_,_⟩,_,_⟩:=z2 b3))
 refine bodyPost_ret (results_cell_row rfl _ _ b8 28 #[.slice d3 bS.length d4,.int .i64 bT] (0,0) _ rfl (oP b3) Tryz.underlying28 rfl (by kernel_rfl)) rfl ?_;exact⟨_,oE,by(with_reducible repeat(first|apply Kd.dk|apply Kd.dm|apply Kd.dw));exact Kd.cS (Kd.jx (p:=⟨b8,1,none⟩) (Kd.jx (p:=⟨b8,0,none⟩) (Kd.cS bZ.out (fun k_ hk=>(⟨hk,hk.2.2.2.2.2.1⟩:_∧k_≠b8))) (fun _ hk=>hk.2) (.slice d3 bS.length d4)) (fun _ hk=>hk.2) (.int .i64 bT)) (fun _ hk=>hk.1.1),oB⟩
end Go.Proofs.YtlecajlnjmbilaaGreatDoor.P
