-- Printed walks.
import Derived.Test.YtlecajlnjmbilaaGreatDoorPx6
import Derived.Test.YtlecajlnjmbilaaGreatDoorPx16
set_option linter.all false
set_option maxHeartbeats 8000000
set_option maxRecDepth 100000
namespace Go.Proofs.YtlecajlnjmbilaaGreatDoor.P
open Go.RowKit Go.Proofs.ab.ar Go.Proofs.ab.aV Go.Proofs.ab.aZ
attribute [local go_sem] fl fm gm gn eK eL fo fp

mutual
def cf.j0:Nat→ByteArray→Int→Bool→List (bg)→Int→Option ((List (bg))×Int×Int)
 |0,_,_,_,_,_=>none
 |k+1,x1,x2,b6,b2,b3=>if b6=true then((cr.f k b2 b3).bind fun b4=>(some (b4.1,b4.2,1)))else((iG.f k b2 b3 x1).bind fun b1=>(if b1.2.2.2.2.2.2=0 then(cf.l0 k x2 b2 b3 b1.1 b1.2.1 b1.2.2.1 b1.2.2.2.1 b1.2.2.2.2.1 b1.2.2.2.2.2.1)else((cr.f k b2 b3).bind fun b5=>(some (b5.1,b5.2,b1.2.2.2.2.2.2)))))
def cf.l0:Nat→Int→List (bg)→Int→Int→Int→Int→List Int→List (ed)→List (eg)→Option ((List (bg))×Int×Int)
 |0,_,_,_,_,_,_,_,_,_=>none
 |k+1,x2,b2,b3,b4,b5,b6,b1,b7,b8=>if(b1.length:Int)<x2 then(if b1.length<140737488355328 then(cf.l0 k x2 b2 b3 b4 b5 b6 (b1++[0]) b7 b8)else(none))else(if 0≤x2 then(if x2≤(b1.length:Int)then((aW.f k b2 b3 b4 b5 b6 (b1.take (x2:Int).toNat) b7 b8).bind fun b9=>(some (b9.1,b9.2,0)))else(none))else(none))
end
def cf.f (k:Nat) (ag:List (bg)) (ak:Int) (a1:ByteArray) (a2:Int):Option ((List (bg))×Int×Int):=(aY.f k a1).bind fun b1=>((aC.f k ag ak).bind fun b2=>(if b2=true then(if b1.2=true then((aN.f a2 0 100).bind fun b3=>(cf.j0 k a1 a2 (!b3) ag ak))else(cf.j0 k a1 a2 true ag ak))else(cf.j0 k a1 a2 true ag ak)))
theorem cf.calls (k:Nat) (bh:Option Addr) (aU:Nat) (ag:List (bg)) (ak:Int) (a1:ByteArray) (a2:Int) (r1:List (bg)) (r2:Int) (r3:Int) (w:World) (cg:Kd.C fy w bh ag.length ag) (cj:ag.length≤aU) (h:cf.f k ag ak a1 a2=some (r1,r2,r3)):
  Calls Tryz.prog 21 #[.agg #[.slice bh ag.length aU,.int .i64 ak],.string a1,.int .i64 a2] w fun e w'=>∃i_:Value,e= .returned (.tuple #[.agg #[i_,.int .i64 r2],.int .i64 r3])∧Kd.N fy 58 w' w.heap.size (fun k_=>(w.heap.size≤k_)) i_ r1∧Below w.heap.size w w':=by
 have mN:=Tryz.underlying28;have mO:=Tryz.underlying58;have bP:=ae.mk cg;have bQ:=ae.mk cj;clear cg cj;have HB:=am (Below.refl w.heap.size w);unfold cf.f at h;have H:=h;clear h;replace H:=bA H;obtain⟨⟨gX,gY⟩,A4,H⟩:=H
 try dsimp only at H
 have dZ:=ae.mk H;clear H
 go_enter Tryz.func21,Tryz.ntmps21
 go_upto_region 2 with(first|((with_reducible refine ai (N:=3) rfl ?_);refine dd 3 #[.slice bh ag.length aU,.int .i64 ak] 28 ?_;intro bZ hg w6 hbox hb;have b1:=am (hbox);have jM:=de hg;replace HB:=hB HB hb;clear hb hbox hg)|((with_reducible refine ai (N:=6) rfl ?_);refine dd 6 #[.slice none 0 0,.int .i64 0] 28 ?_;intro b7 hg w7 hbox hb;have b2:=am (hbox);have jN:=de hg;have bD:=eE hg b1;have bE:=eF hg b1;replace b1:=bl b1 hb;replace HB:=hB HB hb;clear hb hbox hg)|((with_reducible refine aj (f:=51) rfl ?_);refine eG 14 Tryz.func51 (aY.calls k a1 gX gY _ A4.out) ?_;rintro e w8 ⟨mP,rfl,bS,hb⟩;refine⟨_,rfl,?_⟩;have bX:=am (Kd.aw (Kd.jt (M:=fun k_=>(w.heap.size≤k_)) bS (ah oB) (fun k_ h_=>h_)) (ah oB));replace b1:=bl b1 hb;replace b2:=bl b2 hb;replace HB:=hB HB hb))
 (try simp only[Act.put,List.setIfInBounds_toArray,List.set_cons_zero,List.set_cons_succ])
 go_cut [28] (fun jH wc=>∃(kq:Nat) (d6:Bool),jH= .bool d6∧ae (cf.j0 kq a1 a2 d6 ag ak=some (r1,r2,r3))∧ae (kq≤k)∧ae (wc.heap[bZ]? =some (.cells #[(.slice bh ag.length aU),.int .i64 ak] 28 (0,0)))∧ae (wc.heap[b7]? =some (.cells #[(.slice none 0 0),.int .i64 0] 28 (0,0)))∧ae (Below w.heap.size w wc))
 case first=>
  have H:=dZ.out;clear dZ;replace H:=bA H;obtain⟨mQ,A9,H⟩:=H
  try dsimp only at H
  replace H:=kU H;rcases H with⟨rfl,H⟩|⟨rfl,H⟩;rotate_left
  ·have H':=ae.mk H;clear H;have jO:=bD.out;have jP:=bE.out;obtain⟨⟨_,_⟩,_,_⟩:=z2 b1
   go_wp2_with (first|((with_reducible refine aj (f:=40) rfl ?_);refine eG 18 Tryz.func40 (aC.calls k _ _ ag ak false _ (kC bP) bQ.out A9.out) ?_;rintro e mX ⟨rfl,hb⟩;refine⟨_,rfl,?_⟩;replace bX:=iD bX hb;replace b1:=bl b1 hb;replace b2:=bl b2 hb;replace HB:=hB HB hb))
   go_meet
   case rel=>exact⟨_,(true),oS,H',⟨by first|omega|exact Nat.le_refl _⟩,⟨oF b1⟩,⟨oF b2⟩,⟨oB⟩⟩
  replace H:=kU H;rcases H with⟨rfl,H⟩|⟨rfl,H⟩;rotate_left
  ·have H':=ae.mk H;clear H;have jQ:=bD.out;have jR:=bE.out;obtain⟨⟨_,_⟩,_,_⟩:=z2 b1
   go_wp2_with (first|((with_reducible refine aj (f:=40) rfl ?_);refine eG 18 Tryz.func40 (aC.calls k _ _ ag ak true _ (kC bP) bQ.out A9.out) ?_;rintro e mY ⟨rfl,hb⟩;refine⟨_,rfl,?_⟩;replace bX:=iD bX hb;replace b1:=bl b1 hb;replace b2:=bl b2 hb;replace HB:=hB HB hb))
   go_meet
   case rel=>exact⟨_,(true),oS,H',⟨by first|omega|exact Nat.le_refl _⟩,⟨oF b1⟩,⟨oF b2⟩,⟨oB⟩⟩
  replace H:=bA H;obtain⟨gA,jI,H⟩:=H
  try dsimp only at H
  have H':=ae.mk H;clear H;have jS:=bD.out;have jT:=bE.out;obtain⟨⟨_,_⟩,_,_⟩:=z2 b1
  go_wp2_with (first|((with_reducible refine aj (f:=40) rfl ?_);refine eG 18 Tryz.func40 (aC.calls k _ _ ag ak true _ (kC bP) bQ.out A9.out) ?_;rintro e mZ ⟨rfl,hb⟩;refine⟨_,rfl,?_⟩;replace bX:=iD bX hb;replace b1:=bl b1 hb;replace b2:=bl b2 hb;replace HB:=hB HB hb)|(go_at_call 60;(with_reducible refine(aN.calls a2 0 100 gA _ jI.out).mono ?_);rintro e w' ⟨rfl,⟨nd,rfl⟩⟩))
  go_meet
  case rel=>exact⟨_,(!gA),oS,H',⟨by first|omega|exact Nat.le_refl _⟩,⟨oF b1⟩,⟨oF b2⟩,⟨oB⟩⟩
 case rest=>
  clear dZ;obtain⟨kq,d6,rfl,HA,gT,b1,b2,HB⟩:=hcut
  cases kq with
  |zero=>exact absurd HA.out (by simp[cf.j0])
  |succ kj4=>
   have H:=HA.out;clear HA;simp only[cf.j0]at H;replace H:=kU H;rcases H with⟨rfl,H⟩|⟨rfl,H⟩
   ·replace H:=bA H;obtain⟨⟨dG,dH⟩,jJ,H⟩:=H
    try dsimp only at H
    simp only[Option.some.injEq,Prod.mk.injEq]at H;obtain⟨rfl,rfl,rfl⟩:=H;have jU:=bD.out;have jV:=bE.out;obtain⟨⟨_,_⟩,_,_⟩:=z2 b1
    go_wp2_with (first|((with_reducible refine aj (f:=41) rfl ?_);refine eG 30 Tryz.func41 (cr.calls kj4 _ _ ag ak dG dH _ (kC bP) bQ.out jJ.out) ?_;rintro e zA ⟨mS,rfl,bS,hb⟩;refine⟨_,rfl,?_⟩;have dS:=am (Kd.lM (Kd.dv (ok':=fun k_=>(w.heap.size≤k_)∧k_≠bZ∧k_≠b7) (Kd.S_N (Kd.kM bS)) (fun k_ fV=>⟨(Nat.le_trans (ah oB) fV.2.1),(fB b1 fV.2.1),(fB b2 fV.2.1)⟩)) (ah oB));replace b1:=bl b1 hb;replace b2:=bl b2 hb;replace HB:=hB HB hb;obtain⟨gB,gC,gZ⟩:=Kd.ll dS.out;subst gZ;obtain⟨⟨_,_⟩,_,_⟩:=z2 b2))
    refine bodyPost_ret (di rfl _ _ b7 28 #[.slice gB dG.length gC,.int .i64 dH] (0,0) _ rfl (oP b2) Tryz.underlying28 rfl (by kernel_rfl)) rfl ?_;exact⟨_,oE,by(with_reducible repeat(first|apply Kd.dw|apply Kd.dx|apply Kd.ee));exact Kd.dv (Kd.kB (p:=⟨b7,1,none⟩) (Kd.kB (p:=⟨b7,0,none⟩) (Kd.dv dS.out (fun k_ hk=>(⟨hk,hk.2.2⟩:_∧k_≠b7))) (fun _ hk=>hk.2) (.slice gB dG.length gC)) (fun _ hk=>hk.2) (.int .i64 dH)) (fun _ hk=>hk.1.1),oB⟩
   replace H:=bA H;obtain⟨⟨bF,bG,bH,bR,bB,bC,bY⟩,gU,H⟩:=H
   try dsimp only at H
   by_cases d5:bY=0
   rotate_left
   ·rw[if_neg d5]at H;have gM:(bY==0)=false:=beq_eq_false_iff_ne.mpr d5;have gN:(bY !=0)=true:=bne_iff_ne.mpr d5;replace H:=bA H;obtain⟨⟨dI,dJ⟩,jK,H⟩:=H
    try dsimp only at H
    simp only[Option.some.injEq,Prod.mk.injEq]at H;obtain⟨rfl,rfl,rfl⟩:=H;have jW:=bD.out;have jX:=bE.out;obtain⟨⟨_,_⟩,_,_⟩:=z2 b1
    go_wp2_with (first|((with_reducible refine aj (f:=52) rfl ?_);refine eG 34 Tryz.func52 (iG.calls kj4 _ _ ag ak a1 bF bG bH bR bB bC bY _ (kC bP) bQ.out gU.out) ?_;rintro e zB ⟨j1,j2,j3,rfl,bS,dE,dF,hb⟩;refine⟨_,rfl,?_⟩;have bI:=am (Kd.aw (Kd.jt (M:=fun k_=>(w.heap.size≤k_)) bS (ah oB) (fun k_ h_=>h_)) (ah oB));have bJ:=am (Kd.aw (Kd.jt (M:=fun k_=>(w.heap.size≤k_)) dE (ah oB) (fun k_ h_=>h_)) (ah oB));have bK:=am (Kd.aw (Kd.jt (M:=fun k_=>(w.heap.size≤k_)) dF (ah oB) (fun k_ h_=>h_)) (ah oB));replace b1:=bl b1 hb;replace b2:=bl b2 hb;replace HB:=hB HB hb;(try clear dE);(try clear dF))|((with_reducible refine ai (N:=10) rfl ?_);refine dd 10 #[.int .i64 0,.int .i64 0,.int .i64 0,.slice none 0 0,.slice none 0 0,.slice none 0 0] 58 ?_;intro b4 hg zC hbox hb;have b3:=am (hbox);have gO:=de hg;have bL:=eE hg b1;have bM:=eF hg b1;have bN:=eE hg b2;have bO:=eF hg b2;replace bI:=iD bI hb;replace bJ:=iD bJ hb;replace bK:=iD bK hb;replace b1:=bl b1 hb;replace b2:=bl b2 hb;replace HB:=hB HB hb;clear hb hbox hg;have jY:=bM.out;have jZ:=bL.out;have m1:=bO.out;have m2:=bN.out;obtain⟨⟨_,_,_,_,_,_⟩,_,_,_,_,_,_⟩:=z6 b3;obtain⟨dK,dL,j4⟩:=Kd.ax bI.out;subst j4;obtain⟨dM,dN,j5⟩:=Kd.ax bJ.out;subst j5;obtain⟨dO,dP,j6⟩:=Kd.ax bK.out;subst j6;obtain⟨⟨_,_⟩,_,_⟩:=z2 b1)|((with_reducible refine aj (f:=41) rfl ?_);refine eG 40 Tryz.func41 (cr.calls kj4 _ _ ag ak dI dJ _ ?eY bQ.out jK.out) ?_;(case eY=>exact Kd.dq bP.out oB);rintro e zD ⟨mT,rfl,bS,hb⟩;refine⟨_,rfl,?_⟩;have dT:=am (Kd.lM (Kd.dv (ok':=fun k_=>(w.heap.size≤k_)∧some k_≠(.slice dK bR.length dL:Value).ownBlock∧some k_≠(.slice dM bB.length dN:Value).ownBlock∧some k_≠(.slice dO bC.length dP:Value).ownBlock∧k_≠bZ∧k_≠b7∧k_≠b4) (Kd.S_N (Kd.kM bS)) (fun k_ fV=>⟨(Nat.le_trans (ah oB) fV.2.1),(Kd.fresh' (ux bI b3) k_ fV.2.1),(Kd.fresh' (ux bJ b3) k_ fV.2.1),(Kd.fresh' (ux bK b3) k_ fV.2.1),(fB b1 fV.2.1),(fB b2 fV.2.1),(Kd.ew (g:=b4) (o:= .cells #[.int .i64 bF,.int .i64 bG,.int .i64 bH,.slice dK bR.length dL,.slice dM bB.length dN,.slice dO bC.length dP] 58 (0,0)) (oP b3) k_ fV.2.1)⟩)) (ah oB));replace bI:=kV bI b3 hb;replace bJ:=kV bJ b3 hb;replace bK:=kV bK b3 hb;replace b1:=bl b1 hb;replace b2:=bl b2 hb;replace b3:=tt #[.int .i64 bF,.int .i64 bG,.int .i64 bH,.slice dK bR.length dL,.slice dM bB.length dN,.slice dO bC.length dP] b3 hb;replace HB:=hB HB hb;(try clear hk);obtain⟨gD,gE,j7⟩:=Kd.ll dT.out;subst j7;obtain⟨⟨_,_⟩,_,_⟩:=z2 b2))
    refine bodyPost_ret (di rfl _ _ b7 28 #[.slice gD dI.length gE,.int .i64 dJ] (0,0) _ rfl (oP b2) Tryz.underlying28 rfl (by kernel_rfl)) rfl ?_;exact⟨_,oE,by(with_reducible repeat(first|apply Kd.dw|apply Kd.dx|apply Kd.ee));exact Kd.dv (Kd.kB (p:=⟨b7,1,none⟩) (Kd.kB (p:=⟨b7,0,none⟩) (Kd.dv dT.out (fun k_ hk=>(⟨hk,hk.2.2.2.2.2.1⟩:_∧k_≠b7))) (fun _ hk=>hk.2) (.slice gD dI.length gE)) (fun _ hk=>hk.2) (.int .i64 dJ)) (fun _ hk=>hk.1.1),oB⟩
   rw[if_pos d5]at H;have gM:(bY==0)=true:=beq_iff_eq.mpr d5;have gN:(bY !=0)=false:=bne_eq_false_iff_eq.mpr d5;clear d5;have H':=ae.mk H;clear H;have m3:=bD.out;have m4:=bE.out;obtain⟨⟨_,_⟩,_,_⟩:=z2 b1
   go_wp2_with (first|((with_reducible refine aj (f:=52) rfl ?_);refine eG 34 Tryz.func52 (iG.calls kj4 _ _ ag ak a1 bF bG bH bR bB bC bY _ (kC bP) bQ.out gU.out) ?_;rintro e zE ⟨j1,j2,j3,rfl,bS,dE,dF,hb⟩;refine⟨_,rfl,?_⟩;have bI:=am (Kd.aw (Kd.jt (M:=fun k_=>(w.heap.size≤k_)) bS (ah oB) (fun k_ h_=>h_)) (ah oB));have bJ:=am (Kd.aw (Kd.jt (M:=fun k_=>(w.heap.size≤k_)) dE (ah oB) (fun k_ h_=>h_)) (ah oB));have bK:=am (Kd.aw (Kd.jt (M:=fun k_=>(w.heap.size≤k_)) dF (ah oB) (fun k_ h_=>h_)) (ah oB));replace b1:=bl b1 hb;replace b2:=bl b2 hb;replace HB:=hB HB hb;(try clear dE);(try clear dF))|((with_reducible refine ai (N:=10) rfl ?_);refine dd 10 #[.int .i64 0,.int .i64 0,.int .i64 0,.slice none 0 0,.slice none 0 0,.slice none 0 0] 58 ?_;intro b4 hg zF hbox hb;have b3:=am (hbox);have gO:=de hg;have bL:=eE hg b1;have bM:=eF hg b1;have bN:=eE hg b2;have bO:=eF hg b2;replace bI:=iD bI hb;replace bJ:=iD bJ hb;replace bK:=iD bK hb;replace b1:=bl b1 hb;replace b2:=bl b2 hb;replace HB:=hB HB hb;clear hb hbox hg;have m5:=bM.out;have m6:=bL.out;have m7:=bO.out;have m8:=bN.out;obtain⟨⟨_,_,_,_,_,_⟩,_,_,_,_,_,_⟩:=z6 b3;obtain⟨d7,d8,j8⟩:=Kd.ax bI.out;subst j8;obtain⟨bT,bU,j9⟩:=Kd.ax bJ.out;subst j9;obtain⟨bV,bW,jA⟩:=Kd.ax bK.out;subst jA))
   go_loopg [] kj4 (fun kq w'=>∃(b6:List Int) (d2:Value),ae (cf.l0 kq a2 ag ak bF bG bH b6 bB bC=some (r1,r2,r3))∧ae (kq≤kj4)∧ae (Kd.R (Kd.int .u8) 5 w' w.heap.size (fun k_=>(w.heap.size≤k_)) d2 b6)∧ae (Kd.R iY 75 w' w.heap.size (fun k_=>(w.heap.size≤k_)) (.slice bT bB.length bU) bB)∧ae (Kd.R iZ 82 w' w.heap.size (fun k_=>(w.heap.size≤k_)) (.slice bV bC.length bW) bC)∧ae (w'.heap[bZ]? =some (.cells #[(.slice bh ag.length aU),.int .i64 ak] 28 (0,0)))∧ae (w'.heap[b7]? =some (.cells #[(.slice none 0 0),.int .i64 0] 28 (0,0)))∧ae (w'.heap[b4]? =some (.cells #[.int .i64 bF,.int .i64 bG,.int .i64 bH,d2,(.slice bT bB.length bU),(.slice bV bC.length bW)] 58 (0,0)))∧ae (Below w.heap.size w w'))
   case atStart=>exact⟨(bR),(.slice d7 bR.length d8),H',⟨Nat.le_refl _⟩,⟨by(with_reducible repeat(first|apply Kd.cE|apply Kd.cF|apply Kd.cJ));exact Kd.bq (Kd.eH (p:=⟨b4,5,none⟩) (Kd.eH (p:=⟨b4,4,none⟩) (Kd.eH (p:=⟨b4,3,none⟩) (Kd.eH (p:=⟨b4,2,none⟩) (Kd.eH (p:=⟨b4,1,none⟩) (Kd.eH (p:=⟨b4,0,none⟩) (Kd.aK bI.out b3.out (by decide)) (fun _ hk=>hk.2) (.int .i64 bF)) (fun _ hk=>hk.2) (.int .i64 bG)) (fun _ hk=>hk.2) (.int .i64 bH)) (fun _ hk=>hk.2) (.slice d7 bR.length d8)) (fun _ hk=>hk.2) (.slice bT bB.length bU)) (fun _ hk=>hk.2) (.slice bV bC.length bW)) (fun _ hk=>hk.1.1)⟩,⟨by(with_reducible repeat(first|apply Kd.cE|apply Kd.cF|apply Kd.cJ));exact Kd.bq (Kd.eH (p:=⟨b4,5,none⟩) (Kd.eH (p:=⟨b4,4,none⟩) (Kd.eH (p:=⟨b4,3,none⟩) (Kd.eH (p:=⟨b4,2,none⟩) (Kd.eH (p:=⟨b4,1,none⟩) (Kd.eH (p:=⟨b4,0,none⟩) (Kd.aK bJ.out b3.out (by decide)) (fun _ hk=>hk.2) (.int .i64 bF)) (fun _ hk=>hk.2) (.int .i64 bG)) (fun _ hk=>hk.2) (.int .i64 bH)) (fun _ hk=>hk.2) (.slice d7 bR.length d8)) (fun _ hk=>hk.2) (.slice bT bB.length bU)) (fun _ hk=>hk.2) (.slice bV bC.length bW)) (fun _ hk=>hk.1.1)⟩,⟨by(with_reducible repeat(first|apply Kd.cE|apply Kd.cF|apply Kd.cJ));exact Kd.bq (Kd.eH (p:=⟨b4,5,none⟩) (Kd.eH (p:=⟨b4,4,none⟩) (Kd.eH (p:=⟨b4,3,none⟩) (Kd.eH (p:=⟨b4,2,none⟩) (Kd.eH (p:=⟨b4,1,none⟩) (Kd.eH (p:=⟨b4,0,none⟩) (Kd.aK bK.out b3.out (by decide)) (fun _ hk=>hk.2) (.int .i64 bF)) (fun _ hk=>hk.2) (.int .i64 bG)) (fun _ hk=>hk.2) (.int .i64 bH)) (fun _ hk=>hk.2) (.slice d7 bR.length d8)) (fun _ hk=>hk.2) (.slice bT bB.length bU)) (fun _ hk=>hk.2) (.slice bV bC.length bW)) (fun _ hk=>hk.1.1)⟩,⟨oF b1⟩,⟨oF b2⟩,⟨oP b3⟩,⟨oB⟩⟩
   case round=>
    clear H'
    try clear d5
    obtain⟨b6,d2,HA,gV,b5,b8,b9,b1,b2,b3,HB⟩:=hrel
    cases gk with
    |zero=>exact absurd HA.out (by simp[cf.l0])
    |succ k2=>
     have H:=HA.out;clear HA;simp only[cf.l0]at H;replace H:=iE H;rcases H with⟨gP,H⟩|⟨gP,H⟩
     ·obtain⟨gW,H⟩:=lg H;have gQ:=ae.mk gW;clear gW;obtain⟨d3,dh⟩:∃y_:List Int,y_=(b6++[0]):=⟨_,rfl⟩;replace H:(cf.l0 k2 a2 ag ak bF bG bH d3 bB bC)=some (r1,r2,r3):=oY;have gR:=ae.mk dh;clear dh;have H':=ae.mk H;clear H;have m9:=bM.out;have mA:=bL.out;have mB:=bO.out;have mC:=bN.out;obtain⟨⟨_,_,_,_,_,_⟩,_,_,_,_,_,_⟩:=z6 b3;obtain⟨jB,jC,jD⟩:=Kd.ax b5.out;subst jD
      go_wp2_with (first|((with_reducible refine dy (b:= .append) (xs:= #[.tmp 48,.tmp 49]) rfl ?_);at_builtin;refine Kd.l_ (Kd.int .u8) (w0:=w) w.heap.size rfl (.tmp 48) (.tmp 49) 39 5 (.int .u8 0) 1 rfl Tryz.underlying39 info5 rfl (by decide) (by omega) (.slice jB b6.length jC) b6 0 [.int .u8 0] (fun k_=>(w.heap.size≤k_)) (fun _=>False) rfl rfl ?aP (fun _ hk=>hk.elim) ?aF ?aO ?aB ?aS ?aL ?_;(case aP=>exact rfl);(case aB=>exact oB);(case aF=>exact(fun k_ hk=>(Nat.le_trans (ah oB) hk)));(case aO=>exact(oR b5));(case aS=>exact(ah oB));(case aL=>have:=gQ.out;omega);intro mU zG ho hb hg hat;rw[←gR.out]at ho;have dU:=am (ho);replace b8:=am (Kd.iO (oR b8) (Kd.fO (oR b5)) (by decide) hg);replace b9:=am (Kd.iO (oR b9) (Kd.fO (oR b5)) (by decide) hg);replace b1:=lh b1 hg (Kd.lJ b5.out b1.out (by decide));replace b2:=lh b2 hg (Kd.lJ b5.out b2.out (by decide));replace b3:=lh b3 hg (Kd.lJ b5.out b3.out (by decide));replace HB:=am (hb);clear b5;clear ho hb hg hat;obtain⟨d9,dA,jE⟩:=Kd.ax dU.out;subst jE;obtain⟨⟨_,_,_,_,_,_⟩,_,_,_,_,_,_⟩:=z6 b3))
      go_roundg k2
      case measure=>have:=gT.out;have:=gV.out;omega
      case rel=>exact⟨(d3),(.slice d9 d3.length dA),H',⟨by have:=gT.out;have:=gV.out;omega⟩,⟨by(with_reducible repeat(first|apply Kd.cE|apply Kd.cF|apply Kd.cJ));exact Kd.bq (Kd.eH (p:=⟨b4,3,none⟩) (Kd.aK dU.out b3.out (by decide)) (fun _ hk=>hk.2) (.slice d9 d3.length dA)) (fun _ hk=>hk.1)⟩,⟨by(with_reducible repeat(first|apply Kd.cE|apply Kd.cF|apply Kd.cJ));exact Kd.bq (Kd.eH (p:=⟨b4,3,none⟩) (Kd.aK b8.out b3.out (by decide)) (fun _ hk=>hk.2) (.slice d9 d3.length dA)) (fun _ hk=>hk.1)⟩,⟨by(with_reducible repeat(first|apply Kd.cE|apply Kd.cF|apply Kd.cJ));exact Kd.bq (Kd.eH (p:=⟨b4,3,none⟩) (Kd.aK b9.out b3.out (by decide)) (fun _ hk=>hk.2) (.slice d9 d3.length dA)) (fun _ hk=>hk.1)⟩,⟨oF b1⟩,⟨oF b2⟩,⟨oP b3⟩,⟨oB⟩⟩
     obtain⟨gF,H⟩:=lg H;have mD:=eq_true gF;have mE:decide (0≤a2)=true:=decide_eq_true gF;clear gF;obtain⟨gG,H⟩:=lg H;have mF:=eq_true gG;have mG:decide (a2≤(b6.length:Int))=true:=decide_eq_true gG;clear gG;obtain⟨d4,dh⟩:∃y_:List Int,y_=(b6.take (a2:Int).toNat):=⟨_,rfl⟩;replace H:((aW.f k2 ag ak bF bG bH d4 bB bC).bind fun dV=>(some (dV.1,dV.2,0)))=some (r1,r2,r3):=oY;have dW:=ae.mk dh;clear dh;replace H:=bA H;obtain⟨⟨dQ,dR⟩,jL,H⟩:=H
     try dsimp only at H
     simp only[Option.some.injEq,Prod.mk.injEq]at H;obtain⟨rfl,rfl,rfl⟩:=H;have mH:=bM.out;have mI:=bL.out;have mJ:=bO.out;have mK:=bN.out;obtain⟨⟨_,_,_,_,_,_⟩,_,_,_,_,_,_⟩:=z6 b3;obtain⟨dB,dC,jF⟩:=Kd.ax b5.out;subst jF;have gH:(a2:Int)≤((b6.length:Int):Int):=oa;obtain⟨mV,dX,_,gS,_⟩:=info_parts info5;have gI:=uy (P:=Tryz.prog) 39 5 .i64 Tryz.underlying39 dX dB b6.length dC a2 oa gH (Kd.bu b5.out).2.1;have dD:=Kd.acB (m:=(a2:Int).toNat) b5.out (by omega);have gJ:d4.length=(a2:Int).toNat:=(by rw[dW.out,List.length_take];omega);rw[←dW.out]at dD;rw[←gJ]at dD gI;clear gJ dX gS b5;have d1:=ae.mk dD;clear dD;replace gH:=eq_true gH;have mL:=bD.out;have mM:=bE.out;obtain⟨⟨_,_⟩,_,_⟩:=z2 b1
     go_wp2_with (first|((with_reducible refine aj (f:=55) rfl ?_);refine eG 59 Tryz.func55 (aW.calls k2 _ _ ag ak bF bG bH _ _ d4 _ _ bB _ _ bC dQ dR _ ?eY bQ.out (ry d1 b3) (ko d1) (ry b8 b3) (ko b8) (ry b9 b3) (ko b9) jL.out) ?_;(case eY=>exact Kd.dq bP.out oB);rintro e zH ⟨mW,rfl,bS,hb⟩;refine⟨_,rfl,?_⟩;have dY:=am (Kd.lM (Kd.dv (ok':=fun k_=>(w.heap.size≤k_)∧some k_≠(.slice dB d4.length dC:Value).ownBlock∧some k_≠(.slice bT bB.length bU:Value).ownBlock∧some k_≠(.slice bV bC.length bW:Value).ownBlock∧k_≠bZ∧k_≠b7∧k_≠b4) bS (fun k_ fV=>⟨(Nat.le_trans (ah oB) fV),(Kd.fresh' (ux d1 b3) k_ fV),(Kd.fresh' (ux b8 b3) k_ fV),(Kd.fresh' (ux b9 b3) k_ fV),(fB b1 fV),(fB b2 fV),(Kd.ew (g:=b4) (o:= .cells #[.int .i64 bF,.int .i64 bG,.int .i64 bH,.slice dB d4.length dC,.slice bT bB.length bU,.slice bV bC.length bW] 58 (0,0)) (oP b3) k_ fV)⟩)) (ah oB));replace d1:=kV d1 b3 hb;replace b8:=kV b8 b3 hb;replace b9:=kV b9 b3 hb;replace b1:=bl b1 hb;replace b2:=bl b2 hb;replace b3:=tt #[.int .i64 bF,.int .i64 bG,.int .i64 bH,.slice dB d4.length dC,.slice bT bB.length bU,.slice bV bC.length bW] b3 hb;replace HB:=hB HB hb;(try clear hk);obtain⟨gK,gL,jG⟩:=Kd.ll dY.out;subst jG;obtain⟨⟨_,_⟩,_,_⟩:=z2 b2))
     refine bodyPost_ret (di rfl _ _ b7 28 #[.slice gK dQ.length gL,.int .i64 dR] (0,0) _ rfl (oP b2) Tryz.underlying28 rfl (by kernel_rfl)) rfl ?_;exact⟨_,oE,by(with_reducible repeat(first|apply Kd.dw|apply Kd.dx|apply Kd.ee));exact Kd.dv (Kd.kB (p:=⟨b7,1,none⟩) (Kd.kB (p:=⟨b7,0,none⟩) (Kd.dv dY.out (fun k_ hk=>(⟨hk,hk.2.2.2.2.2.1⟩:_∧k_≠b7))) (fun _ hk=>hk.2) (.slice gK dQ.length gL)) (fun _ hk=>hk.2) (.int .i64 dR)) (fun _ hk=>hk.1.1),oB⟩

theorem ad1 (a b c:Int):bj.f a b c=some (decide (b≤a∧a≤c)):=by
 unfold bj.f
 by_cases h:a≥b
 ·rw[if_pos h];simp;omega
 rw[if_neg h];simp;omega
def gh.f (k:Nat) (ag:List bg) (ak:Int) (a1:ByteArray) (a2:Int):Option (List bg×Int×Int):=
 (ck.f k ag ak).bind fun t=>(er.f k t.1 t.2 [a1]).bind fun b=>if b=true∧decide (0≤a2∧a2≤100)=true then((jd.f k t.1 t.2 a1).bind fun x=>if x.2.2.2.2.2.2=0 then((kj.f (x.2.2.2.1.take (min a2.toNat x.2.2.2.1.length)) a2).bind fun d=>(ic.f k t.1 t.2 x.1 x.2.1 x.2.2.1 d x.2.2.2.2.1 x.2.2.2.2.2.1).bind fun s=>some (s.1,s.2,0))else some (t.1,t.2,x.2.2.2.2.2.2))else some (t.1,t.2,1)
theorem gh.calls (k:Nat) (bh:Option Addr) (aU:Nat) (ag:List bg) (ak:Int) (a1:ByteArray) (a2:Int) (r1:List bg) (r2 r3:Int) (w:World) (cg:Kd.C fy w bh ag.length ag) (cj:ag.length≤aU) (h:gh.f k ag ak a1 a2=some (r1,r2,r3)) (hG:GOk w:=by exact gk_ oB (by first|(with_reducible assumption)|assumption)):
  Calls Tryz.prog 22 #[.agg #[.slice bh ag.length aU,.int .i64 ak],.string a1,.int .i64 a2] w fun e w'=>∃i_:Value,e= .returned (.tuple #[.agg #[i_,.int .i64 r2],.int .i64 r3])∧Kd.S fy 58 w' w.heap.size (fun _=>True) i_ r1∧Below w.heap.size w w':=by
 have HG:=ae.mk hG;have bM:=ae.mk cg;have bN:=ae.mk cj;clear hG cg cj;unfold gh.f at h;replace h:=bA h;obtain⟨⟨t1,t2⟩,H1,h⟩:=h;dsimp only at h;replace h:=bA h;obtain⟨b,H2,h⟩:=h;have H:=ae.mk h;have HF:=am (ad1 a2 0 100);clear h;have HB:=am (Below.refl w.heap.size w)
 go_enter Tryz.func22,Tryz.ntmps22
 go_upto_region 2 with(first|((with_reducible refine ai (N:=3) rfl ?_);refine dd 3 #[.slice bh ag.length aU,.int .i64 ak] 28 ?_;intro b6 hg w1 hbox hb;have b1:=ae.mk hbox;have bY:=de hg;replace HB:=hB HB hb;clear hb hbox hg)|((with_reducible refine ai (N:=6) rfl ?_);refine dd 6 #[.slice none 0 0,.int .i64 0] 28 ?_;intro b9 hg w2 hbox hb;have b2:=ae.mk hbox;have bZ:=de hg;have bS:=eE hg b1;have bT:=eF hg b1;replace b1:=bl b1 hb;replace HB:=hB HB hb;clear hb hbox hg;obtain⟨⟨_,_⟩,_,_⟩:=z2 b1)|((with_reducible refine aj (f:=45) rfl ?_);refine eG 11 Tryz.func45 (ck.calls k _ _ ag ak t1 t2 _ (kC bM) bN.out H1.out) ?_;rintro e w3 ⟨v0,rfl,hs,hb⟩;refine⟨_,rfl,?_⟩;obtain⟨At,ct,rfl⟩:=Kd.il hs;have HS:=sq hs _ w.heap.size (Nat.le_refl _) (ah oB);have l3:=am (iw (oF b1));have l6:=am (iw (oF b2));replace b1:=bl b1 hb;replace b2:=bl b2 hb;replace HB:=hB HB hb;clear hs hb;obtain⟨⟨_,_⟩,_,_⟩:=z2 b1))
 have bC:ae (((w3.setCell ⟨b6,0,none⟩ (.slice At t1.length ct)).setCell ⟨b6,1,none⟩ (.int .i64 t2)).heap[b6]? =some (.cells #[.slice At t1.length ct,.int .i64 t2] 28 (0,0))):=⟨oP b1⟩;have bD:=am (Kd.eZ (ok':=fun k_=>k_≠b6∧k_≠b9) (Kd.fP (p:=⟨b6,1,none⟩) (Kd.fP (p:=⟨b6,0,none⟩) HS.out (fun k_ hk=>by have:=hk.1;have:=l3.out;dsimp only;omega) (.slice At t1.length ct)) (fun k_ hk=>by have:=hk.1;have:=l3.out;dsimp only;omega) (.int .i64 t2)) (fun k_ hk=>by have:=hk.1;have:=l3.out;have:=l6.out;exact⟨by omega,by omega⟩));generalize ix:(w3.setCell ⟨b6,0,none⟩ (.slice At t1.length ct)).setCell ⟨b6,1,none⟩ (.int .i64 t2)=w4 at bC bD⊢;replace b2:=sr ix b2;replace HB:=tu ix HB;clear b1 HS ix l3 l6;have b1:=bC;have HS:=bD;clear bC bD;obtain⟨⟨_,_⟩,_,_⟩:=z2 b1;rcases(by cases b<;>cases (decide (0≤a2∧a2≤100))<;>simp:b=false∨(b=true∧decide (0≤a2∧a2≤100)=false)∨(b=true∧decide (0≤a2∧a2≤100)=true))with rfl|⟨rfl,hd⟩|⟨rfl,hd⟩
 ·have h:=H.out;rw[if_neg (by simp)]at h;simp only[Option.some.injEq,Prod.mk.injEq]at h;obtain⟨rfl,rfl,rfl⟩:=h;clear H
  go_wp2_with (first|((with_reducible refine ai (N:=14) rfl ?_);refine Kd.js Kd.string _ 9 ?hg (N:=14) ?hd (xs:=([a1]:List ByteArray)) (inner:=[.string a1]) (ok:=fun _=>True) (fj:=fun _=>True) ?hr ?hp (fun _ hk=>hk) trivial (Below.refl _ _) (Nat.le_refl _) (by simp) ?_;(case hd=>rfl);(case hg=>rfl);(case hr=>first|(go_simp;done)|(go_simp;rfl));(case hp=>exact(cN.one (show Kd.M Kd.string _ _ _ a1 [.string a1]from rfl) (cN.none _ _)));intro bF w5 ho hb ky ej;clear ky ej;obtain⟨Aa,ca,rfl⟩:=Kd.ax ho;have b3:=ae.mk ho;replace HS:=am (Kd.gx HS.out hb);replace b1:=bl b1 hb;replace b2:=bl b2 hb;replace HB:=hB HB hb;clear hb ho)|((with_reducible refine aj (f:=46) rfl ?_);refine eG 15 Tryz.func46 (er.calls k _ _ t1 t2 _ _ [a1] false _ (rS HS) (rl HS) (kO b3) (ko b3) H2.out) ?_;rintro e w6 ⟨rfl,hb⟩;refine⟨_,rfl,?_⟩;replace HS:=am (Kd.gx HS.out hb);replace b1:=bl b1 hb;replace b2:=bl b2 hb;replace HB:=hB HB hb;clear hb b3;obtain⟨⟨_,_⟩,_,_⟩:=z2 b1;obtain⟨⟨_,_⟩,_,_⟩:=z2 b2))
  try simp only[Exit.inBlock,Exit.then]
  refine bodyPost_ret (di rfl _ _ b9 28 #[.slice At t1.length ct,.int .i64 t2] (0,0) _ rfl (oP b2) Tryz.underlying28 rfl (by kernel_rfl)) rfl ?_;exact⟨_,rfl,Kd.eZ (ok:=fun k_=>k_≠b6∧k_≠b9) (by repeat(first|exact HS.out|refine Kd.fP ?_ (fun _ hk=>hk.2) _|apply Kd.fQ|apply Kd.fX|apply Kd.gv)) (fun _ _=>trivial),oB⟩
 ·have h:=H.out;rw[if_neg (by simp[hd])]at h;simp only[Option.some.injEq,Prod.mk.injEq]at h;obtain⟨rfl,rfl,rfl⟩:=h;have HD:=ae.mk hd;clear H hd
  go_wp2_with (first|((with_reducible refine ai (N:=14) rfl ?_);refine Kd.js Kd.string _ 9 ?hg (N:=14) ?hd (xs:=([a1]:List ByteArray)) (inner:=[.string a1]) (ok:=fun _=>True) (fj:=fun _=>True) ?hr ?hp (fun _ hk=>hk) trivial (Below.refl _ _) (Nat.le_refl _) (by simp) ?_;(case hd=>rfl);(case hg=>rfl);(case hr=>first|(go_simp;done)|(go_simp;rfl));(case hp=>exact(cN.one (show Kd.M Kd.string _ _ _ a1 [.string a1]from rfl) (cN.none _ _)));intro bF w5 ho hb ky ej;clear ky ej;obtain⟨Aa,ca,rfl⟩:=Kd.ax ho;have b3:=ae.mk ho;replace HS:=am (Kd.gx HS.out hb);replace b1:=bl b1 hb;replace b2:=bl b2 hb;replace HB:=hB HB hb;clear hb ho)|((with_reducible refine aj (f:=46) rfl ?_);refine eG 15 Tryz.func46 (er.calls k _ _ t1 t2 _ _ [a1] true _ (rS HS) (rl HS) (kO b3) (ko b3) H2.out) ?_;rintro e w6 ⟨rfl,hb⟩;refine⟨_,rfl,?_⟩;replace HS:=am (Kd.gx HS.out hb);replace b1:=bl b1 hb;replace b2:=bl b2 hb;replace HB:=hB HB hb;clear hb b3;obtain⟨⟨_,_⟩,_,_⟩:=z2 b1;obtain⟨⟨_,_⟩,_,_⟩:=z2 b2)|(go_at_call 61;refine(bj.calls a2 0 100 _ _ HF.out).mono ?_;rintro e w' ⟨rfl,⟨nd,rfl⟩⟩;rw[HD.out]))
  try simp only[Exit.inBlock,Exit.then]
  refine bodyPost_ret (di rfl _ _ b9 28 #[.slice At t1.length ct,.int .i64 t2] (0,0) _ rfl (oP b2) Tryz.underlying28 rfl (by kernel_rfl)) rfl ?_;exact⟨_,rfl,Kd.eZ (ok:=fun k_=>k_≠b6∧k_≠b9) (by repeat(first|exact HS.out|refine Kd.fP ?_ (fun _ hk=>hk.2) _|apply Kd.fQ|apply Kd.fX|apply Kd.gv)) (fun _ _=>trivial),oB⟩
 ·have h:=H.out;rw[if_pos ⟨rfl,hd⟩]at h;have HD:=ae.mk hd;clear hd H;replace h:=bA h;obtain⟨⟨x1,x2,x3,x4,x5,x6,x7⟩,H3,h⟩:=h;dsimp only at h;have HH:=ae.mk h;clear h
  go_upto_if 30 with(first|((with_reducible refine ai (N:=14) rfl ?_);refine Kd.js Kd.string _ 9 ?hg (N:=14) ?hd (xs:=([a1]:List ByteArray)) (inner:=[.string a1]) (ok:=fun _=>True) (fj:=fun _=>True) ?hr ?hp (fun _ hk=>hk) trivial (Below.refl _ _) (Nat.le_refl _) (by simp) ?_;(case hd=>rfl);(case hg=>rfl);(case hr=>first|(go_simp;done)|(go_simp;rfl));(case hp=>exact(cN.one (show Kd.M Kd.string _ _ _ a1 [.string a1]from rfl) (cN.none _ _)));intro bF w5 ho hb ky ej;clear ky ej;obtain⟨Aa,ca,rfl⟩:=Kd.ax ho;have b3:=ae.mk ho;replace HS:=am (Kd.gx HS.out hb);replace b1:=bl b1 hb;replace b2:=bl b2 hb;replace HB:=hB HB hb;clear hb ho)|((with_reducible refine aj (f:=46) rfl ?_);refine eG 15 Tryz.func46 (er.calls k _ _ t1 t2 _ _ [a1] true _ (rS HS) (rl HS) (kO b3) (ko b3) H2.out) ?_;rintro e w6 ⟨rfl,hb⟩;refine⟨_,rfl,?_⟩;replace HS:=am (Kd.gx HS.out hb);replace b1:=bl b1 hb;replace b2:=bl b2 hb;replace HB:=hB HB hb;clear hb b3;obtain⟨⟨_,_⟩,_,_⟩:=z2 b1;obtain⟨⟨_,_⟩,_,_⟩:=z2 b2)|(go_at_call 61;refine(bj.calls a2 0 100 _ _ HF.out).mono ?_;rintro e w' ⟨rfl,⟨nd,rfl⟩⟩;rw[HD.out])|((with_reducible refine aj (f:=56) rfl ?_);refine eG 26 Tryz.func56 (jd.calls k _ _ t1 t2 a1 x1 x2 x3 x4 x5 x6 x7 _ (rS HS) (rl HS) H3.out) ?_;rintro e w7 ⟨v3,v4,v5,rfl,bG,bH,bI,hb⟩;refine⟨_,rfl,?_⟩;have bB:=am (Kd.aw (Kd.ou (Kd.ou bG (oF b1)) (oF b2)) (ah oB));have b7:=am (Kd.aw (Kd.ou (Kd.ou bH (oF b1)) (oF b2)) (ah oB));have b8:=am (Kd.aw (Kd.ou (Kd.ou bI (oF b1)) (oF b2)) (ah oB));replace HS:=ad2 HS hb;replace b1:=bl b1 hb;replace b2:=bl b2 hb;replace HB:=hB HB hb;clear hb bG bH bI)|((with_reducible refine ai (N:=8) rfl ?_);refine dd 8 #[.int .i64 0,.int .i64 0,.int .i64 0,.slice none 0 0,.slice none 0 0,.slice none 0 0] 58 ?_;intro b4 hg w8 hbox hb;have b5:=ae.mk hbox;have d1:=de hg;have bU:=eE hg b1;have bV:=eF hg b1;have bW:=eE hg b2;have bX:=eF hg b2;replace HS:=am (Kd.eZ (ok':=fun k_=>k_≠b6∧k_≠b9∧k_≠b4) (Kd.gx (Kd.kM HS.out) hb) (fun k_ hk=>⟨hk.1.1,hk.1.2,by rw[hg];have:=hk.2.2.1;omega⟩));replace bB:=iD bB hb;replace b7:=iD b7 hb;replace b8:=iD b8 hb;replace b1:=bl b1 hb;replace b2:=bl b2 hb;replace HB:=hB HB hb;clear hb hbox hg;obtain⟨A3,c3,rfl⟩:=Kd.ax bB.out;obtain⟨A4,c4,rfl⟩:=Kd.ax b7.out;obtain⟨A5,c5,rfl⟩:=Kd.ax b8.out;obtain⟨⟨_,_,_,_,_,_⟩,_,_,_,_,_,_⟩:=z6 b5))
  (try simp only[Act.put,List.setIfInBounds_toArray,List.set_cons_zero,List.set_cons_succ])
  obtain⟨p1,p2,_⟩:=adu b5.out (.int .i64 x1) (.int .i64 x2) (.int .i64 x3) (.slice A3 x4.length c3) (.slice A4 x5.length c4) (.slice A5 x6.length c5);generalize ix:((((((w8.setCell ⟨b4,0,none⟩ (.int .i64 x1)).setCell ⟨b4,1,none⟩ (.int .i64 x2)).setCell ⟨b4,2,none⟩ (.int .i64 x3)).setCell ⟨b4,3,none⟩ (.slice A3 x4.length c3)).setCell ⟨b4,4,none⟩ (.slice A4 x5.length c4)).setCell ⟨b4,5,none⟩ (.slice A5 x6.length c5))=w9 at p1 p2⊢;replace bB:=am (Kd.kH (Kd.aK bB.out b5.out (by decide)) (fun k_ hk _=>p2 k_ hk.2));replace b7:=am (Kd.kH (Kd.aK b7.out b5.out (by decide)) (fun k_ hk _=>p2 k_ hk.2));replace b8:=am (Kd.kH (Kd.aK b8.out b5.out (by decide)) (fun k_ hk _=>p2 k_ hk.2));replace HS:=am (Kd.py HS.out (fun k_ hk _=>p2 k_ hk.2.2));replace b1:=sr ix b1;replace b2:=sr ix b2;replace HB:=tu ix HB;replace b5:=ae.mk p1;clear p1 p2 ix;obtain⟨⟨_,_⟩,_,_⟩:=z2 b1;obtain⟨⟨_,_⟩,_,_⟩:=z2 b2;obtain⟨⟨_,_,_,_,_,_⟩,_,_,_,_,_,_⟩:=z6 b5
  by_cases c7:x7=0
  case neg=>
   have h:=HH.out;rw[if_neg c7]at h;simp only[Option.some.injEq,Prod.mk.injEq]at h;obtain⟨rfl,rfl,rfl⟩:=h
   have bE:(x7 !=0)=true:=by simpa using c7
   rw[bE];clear HH
   go_wp2
   try simp only[Exit.inBlock,Exit.then]
   refine bodyPost_ret (di rfl _ _ b9 28 #[.slice At t1.length ct,.int .i64 t2] (0,0) _ rfl (oP b2) Tryz.underlying28 rfl (by kernel_rfl)) rfl ?_;exact⟨_,rfl,Kd.eZ (ok:=fun k_=>k_≠b6∧k_≠b9∧k_≠b4) (by repeat(first|exact HS.out|refine Kd.fP ?_ (fun _ hk=>hk.2.1) _|apply Kd.fQ|apply Kd.fX|apply Kd.gv)) (fun _ _=>trivial),oB⟩
  case pos=>
   have bE:(x7 !=0)=false:=by simpa using c7
   rw[bE];have h:=HH.out;rw[if_pos c7]at h;replace h:=bA h;obtain⟨d,H4,h⟩:=h;replace h:=bA h;obtain⟨⟨s1,s2⟩,H5,h⟩:=h;dsimp only at h H4 H5;simp only[Option.some.injEq,Prod.mk.injEq]at h;obtain⟨rfl,rfl,rfl⟩:=h;clear HH;have bO:=of_decide_eq_true HD.out;obtain⟨ji,hji⟩:∃j_:Int,(if(x4.length:Int)<a2 then(x4.length:Int)else a2)=j_:=⟨_,rfl⟩;obtain⟨z,hz⟩:∃z_:List Int,z_=x4.take (min a2.toNat x4.length):=⟨_,rfl⟩;rw[←hz]at H4;have bP:x4.length≤c3:=ko bB;have j0:(0≤ji)=True:=eq_true (by rw[←hji];split<;>omega);have j1:(ji≤(x4.length:Int))=True:=eq_true (by rw[←hji];split<;>omega);have j2:(ji≤(c3:Int))=True:=eq_true (by rw[←hji];split<;>omega)
   have hmj:min a2.toNat x4.length=ji.toNat:=by rw[←hji];split<;>omega
   have HZ:=am (show ji.toNat=z.length by rw[hz,List.length_take,hmj];have:=of_eq_true j1;omega);have HCz:=am (show Kd.C (Kd.int .u8) w9 A3 z.length z by rw[hz,hmj];exact Kd.aab (kO bB) (by have:=of_eq_true j1;omega))
   have hzc:z.length≤c3:=by rw[←HZ.out];have:=of_eq_true j2;omega
   have HZc:=ae.mk hzc;clear bO hz bP hmj hzc
   go_upto_region 8 with((with_reducible refine aj (f:=62) rfl ?_);rw[HZ.out];refine eG 42 Tryz.func62 (kj.calls _ _ z a2 d _ HCz.out HZc.out H4.out) ?_;rintro e bJ ⟨vd,rfl,ho,hb⟩;refine⟨_,rfl,?_⟩;have HOd:=am (Kd.aw (Kd.ou ho (oF b5)) (ah oB));obtain⟨Ad,cd,rfl⟩:=Kd.ax ho;replace HS:=am (Kd.gx HS.out hb);replace b7:=iD b7 hb;replace b8:=iD b8 hb;replace b1:=bl b1 hb;replace b2:=bl b2 hb;replace b5:=bl b5 hb;replace HB:=hB HB hb;clear hb ho;obtain⟨⟨_,_,_,_,_,_⟩,_,_,_,_,_,_⟩:=z6 b5)
   have bK:ae ((bJ.setCell ⟨b4,3,none⟩ (.slice Ad d.length cd)).heap[b4]? =some (.cells #[.int .i64 x1,.int .i64 x2,.int .i64 x3,.slice Ad d.length cd,.slice A4 x5.length c4,.slice A5 x6.length c5] 58 (0,0))):=⟨oP b5⟩;replace HOd:=am (Kd.eH (p:=⟨b4,3,none⟩) HOd.out (fun _ hk=>hk.2) (.slice Ad d.length cd));replace b7:=am (Kd.eH (p:=⟨b4,3,none⟩) (Kd.aK b7.out b5.out (by decide)) (fun _ hk=>hk.2) (.slice Ad d.length cd));replace b8:=am (Kd.eH (p:=⟨b4,3,none⟩) (Kd.aK b8.out b5.out (by decide)) (fun _ hk=>hk.2) (.slice Ad d.length cd));replace HS:=am (Kd.fP (p:=⟨b4,3,none⟩) HS.out (fun _ hk=>hk.2.2) (.slice Ad d.length cd));generalize ix:bJ.setCell ⟨b4,3,none⟩ (.slice Ad d.length cd)=bQ at bK HOd b7 b8 HS⊢;replace b1:=sr ix b1;replace b2:=sr ix b2;replace HB:=tu ix HB;clear b5 ix;obtain⟨⟨_,_⟩,_,_⟩:=z2 b1;obtain⟨⟨_,_,_,_,_,_⟩,_,_,_,_,_,_⟩:=z6 bK
   go_wp2_with ((with_reducible refine aj (f:=58) rfl ?_);refine eG 46 Tryz.func58 (ic.calls k _ _ t1 t2 x1 x2 x3 _ _ d _ _ x5 _ _ x6 s1 s2 _ (rS HS) (rl HS) (kO HOd) (ko HOd) (kO b7) (ko b7) (kO b8) (ko b8) H5.out) ?_;rintro e d2 ⟨v0,rfl,hs,hb⟩;refine⟨_,rfl,?_⟩;obtain⟨A0,c0,rfl⟩:=Kd.il hs;have bR:=sq hs bQ.heap.size w.heap.size (Nat.le_refl _) (ah HB.out);have bL:=am (iw b2.out);replace b2:=bl b2 hb;replace HB:=hB HB hb;clear hs hb;obtain⟨⟨_,_⟩,_,_⟩:=z2 b2)
   try simp only[Exit.inBlock,Exit.then]
   refine bodyPost_ret (di rfl _ _ b9 28 #[.slice A0 s1.length c0,.int .i64 s2] (0,0) _ rfl (oP b2) Tryz.underlying28 rfl (by kernel_rfl)) rfl ?_;exact⟨_,rfl,Kd.eZ (Kd.fP (Kd.fP bR.out (fun k_ hk=>by have:=hk.1;have:=bL.out;dsimp only;omega) _) (fun k_ hk=>by have:=hk.1;have:=bL.out;dsimp only;omega) _) (fun _ _=>trivial),oB⟩
def cp.T12:Bool×List (List Nat×List Nat):=(true,[([],[]),([],[]),([1],[1]),([0,2,2],[0,2]),([3],[3])])
def cp.B12:List Nat:=[0,0,2,7,15]
theorem cp.vT:gj .any (opsOf Tryz.f6 12)=cp.T12:=by kernel_rfl
theorem cp.su:eI cp.T12.2 cp.B12=true:=by kernel_rfl
section
variable {α:Type}{d:Kd α}{e base n:Nat}{ok:Nat→Prop}{w w1:World}{A:Option Addr}{c:Nat}{v:Value}{xs:List α}
theorem nS (_:ae (Kd.N d e w base ok (.slice A n c) xs)) (hd:Kd.N d e w1 base ok (.slice A n c) xs:=by(with_reducible repeat(first|apply Kd.dw|apply Kd.dx|apply Kd.ee));exact ae.out (by first|(with_reducible assumption)|assumption)):Kd.C d w1 A xs.length xs:=(Kd.je hd).2.2
theorem nl (h:ae (Kd.N d e w base ok (.slice A n c) xs)):xs.length≤c:=by have:=(Kd.je h.out).1;have:=(Kd.je h.out).2.1;omega
theorem nb (h:ae (Kd.N d e w base ok v xs)) (hb:Below w.heap.size w w1):ae (Kd.N d e w1 base ok v xs):=⟨Kd.kN h.out hb⟩
theorem nk {S:Nat→Prop}(h:ae (Kd.N d e w base ok v xs)) (hk:Kept w w1 S) (hn:∀k,ok k→¬S k):ae (Kd.N d e w1 base ok v xs):=⟨Kd.acC h.out hk hn⟩
theorem adv (h:ae (Kd.N d e w base ok v xs)):ae (Kd.N d e w.drew base ok v xs):=⟨Kd.ee h.out⟩
theorem ad3 (h:Kd.N d e w base (fun k=>base≤k) v xs) (lo B:Nat) (hl:lo≤base) (hB:B≤base):ae (Kd.N d e w B (fun k=>lo≤k∧k<w.heap.size) v xs):=⟨Kd.lM (Kd.dv (Kd.nI h) (fun _ hk=>⟨Nat.le_trans hl hk.1,hk.2⟩)) hB⟩
theorem nbd (h:ae (Kd.N d e w base ok v xs)):ae (Kd.N d e w base (fun k=>ok k∧k<w.heap.size) v xs):=⟨Kd.nI h.out⟩
theorem sbd (h:ae (Kd.S d e w base ok v xs)):ae (Kd.S d e w base (fun k=>ok k∧k<w.heap.size) v xs):=⟨Kd.eZ (Kd.kM h.out) (fun _ hk=>⟨hk.1,hk.2.2.1⟩)⟩
theorem rbd (h:ae (Kd.R d e w base ok v xs)):ae (Kd.R d e w base (fun k=>ok k∧k<w.heap.size) v xs):=⟨Kd.bq (Kd.iP h.out) (fun _ hk=>⟨hk.1,hk.2.2.1⟩)⟩
theorem two_far_N {g:Nat}{a b:Value}(h:ae (Kd.N d e w base ok v xs)) (hn:∀k,ok k→k≠g):ae (Kd.N d e ((w.setCell ⟨g,0,none⟩ a).setCell ⟨g,1,none⟩ b) base ok v xs):=⟨Kd.pz h.out (fun k hk _=>by rw[Below.heap_setCell _ _ _ _ (hn k hk),Below.heap_setCell _ _ _ _ (hn k hk)])⟩
theorem two_far_S {g:Nat}{a b:Value}(h:ae (Kd.S d e w base ok v xs)) (hn:∀k,ok k→k≠g):ae (Kd.S d e ((w.setCell ⟨g,0,none⟩ a).setCell ⟨g,1,none⟩ b) base ok v xs):=⟨Kd.py h.out (fun k hk _=>by rw[Below.heap_setCell _ _ _ _ (hn k hk),Below.heap_setCell _ _ _ _ (hn k hk)])⟩
theorem two_far_R {g:Nat}{a b:Value}(h:ae (Kd.R d e w base ok v xs)) (hn:∀k,ok k→k≠g):ae (Kd.R d e ((w.setCell ⟨g,0,none⟩ a).setCell ⟨g,1,none⟩ b) base ok v xs):=⟨Kd.kH h.out (fun k hk _=>by rw[Below.heap_setCell _ _ _ _ (hn k hk),Below.heap_setCell _ _ _ _ (hn k hk)])⟩
theorem two_far_b {g g':Nat}{o:Obj}{a b:Value}(h:ae (w.heap[g']? =some o)) (hn:g'≠g):ae (((w.setCell ⟨g,0,none⟩ a).setCell ⟨g,1,none⟩ b).heap[g']? =some o):=⟨by rw[Below.heap_setCell _ _ _ _ hn,Below.heap_setCell _ _ _ _ hn];exact h.out⟩
theorem two_put {g:Nat}{t:TypeId}{a0 b0:Value}(h:ae (w.heap[g]? =some (.cells #[a0,b0] t (0,0)))) (a b:Value):ae (((w.setCell ⟨g,0,none⟩ a).setCell ⟨g,1,none⟩ b).heap[g]? =some (.cells #[a,b] t (0,0))):=⟨gp (cs:= #[a,b0]) (gp h.out 0 _ rfl) 1 _ rfl⟩
end
def cp.f (k:Nat) (ag:List ma) (ak:Int) (a1:ByteArray) (a2:Int):Option Bool:=
 if(a1.size:Int)>1048576 then some true else(jf.f k ag ak 1048576).bind fun R=>if R<0 then some true else
 (ie.f k ag ak).bind fun t=>(cf.f k t.1 t.2 a1 a2).bind fun p=>(gh.f k t.1 t.2 a1 a2).bind fun s=>
 (fu.f k s.1 s.2.1 p.1 p.2.1).bind fun e1=>(fu.f k t.1 t.2 t.1 t.2).bind fun e2=>(ei.f k t.1 1).bind fun mt=>
 (ei.f k s.1 1).bind fun m=>(eQ.f k m.2 s.2.1 1).bind fun q=>
 if s.2.2=p.2.2∧e1=true∧e2=true∧¬mt.1<0∧¬q<0∧q=m.1∧m.2.length=s.1.length then some true else none
theorem cp.calls (k:Nat) (bh:Option Addr) (aU:Nat) (ag:List ma) (ak:Int) (a1:ByteArray) (a2:Int) (r:Bool) (w:World) (cg:Kd.C k92 w bh ag.length ag) (cj:ag.length≤aU) (h:cp.f k ag ak a1 a2=some r) (hG:GOk w:=by exact gk_ oB (by first|(with_reducible assumption)|assumption)):
  Calls Tryz.prog 6 #[.agg #[.slice bh ag.length aU,.int .i64 ak],.string a1,.int .i64 a2] w fun e w'=>e= .returned (.bool r)∧Below w.heap.size w w':=by
 have HG:=ae.mk hG;clear hG;have rK:=ae.mk cg;have rL:=ae.mk cj;clear cg cj;have HB:=am (Below.refl w.heap.size w);unfold cp.f at h
 split at h
 case isTrue hg=>
  have cg0:decide ((a1.size:Int)>1048576)=true:=decide_eq_true hg;have dg0:decide (1048576<(a1.size:Int))=true:=decide_eq_true (by omega);obtain rfl:=Option.some.inj h;clear h hg
  go_enter Tryz.func6,Tryz.ntmps6
  go_wp2
  go_ret
  exact⟨rfl,oB⟩
 case isFalse hg=>
 have cg0:decide ((a1.size:Int)>1048576)=false:=decide_eq_false hg;have dg0:decide (1048576<(a1.size:Int))=false:=decide_eq_false (by omega);clear hg;replace h:=bA h;obtain⟨R,H1,h⟩:=h
 split at h
 case isTrue hR=>
  have cR:decide (R<0)=true:=decide_eq_true hR;obtain rfl:=Option.some.inj h;clear h hR
  go_enter Tryz.func6,Tryz.ntmps6
  go_wp2_with fail
  refine(jf.calls k _ _ ag ak 1048576 R _ (kC rK) rL.out H1.out).mono ?_;rintro e w1 ⟨rfl,hb⟩;replace HB:=hB HB hb
  go_wp2
  go_ret
  exact⟨rfl,oB⟩
 case isFalse hR=>
 have cR:decide (R<0)=false:=decide_eq_false hR;clear hR;replace h:=bA h;obtain⟨⟨tl,tn⟩,H2,h⟩:=h;replace h:=bA h;obtain⟨⟨p1,p2,p3⟩,H3,h⟩:=h;replace h:=bA h;obtain⟨⟨s1,s2,s3⟩,H4,h⟩:=h;replace h:=bA h;obtain⟨e1,H5,h⟩:=h;replace h:=bA h;obtain⟨e2,H6,h⟩:=h;replace h:=bA h;obtain⟨⟨mt,ml⟩,H7,h⟩:=h;replace h:=bA h;obtain⟨⟨mk,mg⟩,H8,h⟩:=h;replace h:=bA h;obtain⟨q,H9,h⟩:=h
 split at h
 case isFalse=>cases h
 case isTrue hh=>
 try dsimp only at hh
 obtain⟨rfl,rfl,rfl,hmt,hq,rfl,l4⟩:=hh;obtain rfl:=Option.some.inj h;clear h;have cm:decide (mt<0)=false:=decide_eq_false hmt;have cq:decide (q<0)=false:=decide_eq_false hq;clear hmt hq;have L4:=ae.mk l4;clear l4
 try dsimp only at H3 H4 H5 H6 H7 H8 H9 L4
 go_enter Tryz.func6,Tryz.ntmps6
 go_wp2_with fail
 refine(jf.calls k _ _ ag ak 1048576 R _ (kC rK) rL.out H1.out).mono ?_;rintro e w1 ⟨rfl,hb⟩
 have n1:w.heap.size+1≤w1.heap.size:=by have:=hb.size;simpa using this
 have eR:=aac hb;replace hb:=bold hb;replace HB:=hB HB hb;clear hb;have ov:=z2 eR;have ow:=lZ eR
 go_wp2_with fail
 refine(ie.calls k _ _ ag ak tl tn _ (kC rK) rL.out H2.out).mono ?_;rintro e w2 ⟨v_t0,rfl,acD,hb⟩;obtain⟨A_t0,c_t0,rfl⟩:=Kd.il acD;have aad:=sq acD (w1.heap.size) w.heap.size (by simp) (ah oB);clear acD
 have n2:w1.heap.size≤w2.heap.size:=by have:=hb.size;simpa using this
 replace eR:=fH eR hb;replace HB:=hB HB hb;clear hb;replace ov:=z2 eR;replace ow:=lZ eR
 go_wp2_with fail
 refine(cf.calls k _ _ tl tn a1 a2 p1 p2 s3 _ (rS aad) (rl aad) H3.out).mono ?_;rintro e w3 ⟨v_w0,rfl,acE,hb⟩;obtain⟨A_w0,c_w0,rfl⟩:=Kd.ll acE;have jg:=ad3 acE (w2.heap.size) w.heap.size (by simp) (ah oB);clear acE
 have n3:w2.heap.size≤w3.heap.size:=by have:=hb.size;simpa using this
 replace eR:=fH eR hb;replace aad:=sb aad hb;replace HB:=hB HB hb;clear hb;replace ov:=z2 eR;replace ow:=lZ eR;clear aad
 go_wp2_with fail
 refine(ie.calls k _ _ ag ak tl tn _ (kC rK) rL.out H2.out).mono ?_;rintro e w4 ⟨v_x0,rfl,aae,hb⟩;obtain⟨ad4,ad5,rfl⟩:=Kd.il aae;have nv:=sq aae (w3.heap.size+1) w.heap.size (by simp) (ah oB);clear aae
 have n4:w3.heap.size+1≤w4.heap.size:=by have:=hb.size;simpa using this
 have fT:=aac hb;replace hb:=bold hb;replace eR:=fH eR hb;replace jg:=nb jg hb;replace HB:=hB HB hb;clear hb;replace ov:=z2 eR;replace ow:=lZ eR;have qh:=z2 fT;have qi:=lZ fT
 go_wp2_with fail
 refine(gh.calls k _ _ tl tn a1 a2 s1 s2 s3 _ (rS nv) (rl nv) H4.out).mono ?_;rintro e w5 ⟨v_g0,rfl,wz,hb⟩;obtain⟨A_g0,c_g0,rfl⟩:=Kd.il wz;have ju:=sq wz (w4.heap.size+1) w.heap.size (by simp) (ah oB);clear wz
 have n5:w4.heap.size+1≤w5.heap.size:=by have:=hb.size;simpa using this
 have nV:=aac hb;replace hb:=bold hb;replace eR:=fH eR hb;replace fT:=fH fT hb;replace jg:=nb jg hb;replace nv:=sb nv hb;replace HB:=hB HB hb;clear hb;replace ov:=z2 eR;replace ow:=lZ eR;replace qh:=z2 fT;replace qi:=lZ fT;have abK:=z2 nV;have abL:=lZ nV
 go_wp2_with fail
 refine(fu.calls k _ _ s1 s2 _ _ p1 p2 true _ (rS ju) (rl ju) (nS jg) (nl jg) H5.out).mono ?_;rintro e w6 ⟨rfl,hb⟩
 have n6:w5.heap.size+1≤w6.heap.size:=by have:=hb.size;simpa using this
 have ig:=aac hb;replace hb:=bold hb;replace eR:=fH eR hb;replace fT:=fH fT hb;replace nV:=fH nV hb;replace jg:=nb jg hb;replace nv:=sb nv hb;replace ju:=sb ju hb;replace HB:=hB HB hb;clear hb;replace ov:=z2 eR;replace ow:=lZ eR;replace qh:=z2 fT;replace qi:=lZ fT;replace abK:=z2 nV;replace abL:=lZ nV;have rz:=z2 ig;have rA:=lZ ig
 go_wp2_with fail
 replace eR:=vU eR;replace fT:=vU fT;replace nV:=vU nV;replace ig:=vU ig;replace jg:=adv jg;replace nv:=aci nv;replace ju:=aci ju;replace HB:=am (aq HB.out);have n7:w6.heap.size≤w6.drew.heap.size:=Nat.le_refl _;clear ov ow qh qi abK abL rz rA;refine mb 5 (fun w'=>w'.cell? ⟨w4.heap.size,0,none⟩=some (.slice ad4 tl.length ad5)∧w'.cell? ⟨w4.heap.size,1,none⟩=some (.int .i64 tn)∧w'.cell? ⟨w.heap.size,0,none⟩=some (.slice bh ag.length aU)∧w'.cell? ⟨w.heap.size,1,none⟩=some (.int .i64 ak)) cp.vT cp.su oH (fun hHeld av eu=> ?_);generalize w6.drew=w7 at HB hHeld n7 eR fT nV ig jg nv ju⊢;refine fK 0 52 av eu hHeld ?_;refine fK 1 53 av eu hHeld ?_;refine kD 2 54 av (fun K hK=> ?_);refine lK 54 Tryz.func12 (ie.calls k _ _ ag ak tl tn _ (kC rK) rL.out H2.out) ?_;rintro e w8 ⟨v_y0,rfl,acF,hb⟩;obtain⟨A_y0,c_y0,rfl⟩:=Kd.il acF;have aaf:=sq acF (w7.heap.size) w.heap.size (by simp) (ah oB);clear acF;refine⟨_,rfl,?_⟩
 have n8:w7.heap.size≤w8.heap.size:=by have:=hb.size;simpa using this
 replace eR:=fH eR hb;replace fT:=fH fT hb;replace nV:=fH nV hb;replace ig:=fH ig hb;replace jg:=nb jg hb;replace nv:=sb nv hb;replace ju:=sb ju hb;replace HB:=hB HB hb;clear hb hHeld;refine fV hK 54 oH (fun hHeld=> ?_);clear hK K;refine kD 3 55 av (fun K hK=> ?_);refine lK 55 Tryz.func14 (fu.calls k _ _ tl tn _ _ tl tn true _ (rS nv) (rl nv) (rS aaf) (rl aaf) H6.out) ?_;rintro e w9 ⟨rfl,hb⟩;refine⟨_,rfl,?_⟩
 have n9:w8.heap.size≤w9.heap.size:=by have:=hb.size;simpa using this
 replace eR:=fH eR hb;replace fT:=fH fT hb;replace nV:=fH nV hb;replace ig:=fH ig hb;replace jg:=nb jg hb;replace nv:=sb nv hb;replace ju:=sb ju hb;replace aaf:=sb aaf hb;replace HB:=hB HB hb;clear hb hHeld;refine fV hK 55 oH (fun hHeld=> ?_);clear hK K;refine bz 4 56 av ?_;refine lT av ?_;clear hHeld av eu;have ov:=z2 eR;have ow:=lZ eR;have qh:=z2 fT;have qi:=lZ fT;have abK:=z2 nV;have abL:=lZ nV;have rz:=z2 ig;have rA:=lZ ig;clear aaf
 go_wp2_with fail
 refine(oO.calls k _ _ tl tn 1 mt ml w _ HB.out nv.out H7.out).mono ?_;rintro e w10 ⟨rfl,aae,hb,hk⟩;have n10:w9.heap.size≤w10.heap.size:=hk.1;replace jg:=nk jg hk (fun q h h'=>by omega);replace ju:=sk ju hk (fun q h h'=>by omega);replace eR:=rM eR hk (fun h=>by omega);replace fT:=rM fT hk (fun h=>by omega);clear nV abK abL;replace ig:=rM ig hk (fun h=>by omega);clear nv;clear aae;replace HB:=ae.mk hb;clear hb hk;replace ov:=z2 eR;replace ow:=lZ eR;replace qh:=z2 fT;replace qi:=lZ fT;replace rz:=z2 ig;replace rA:=lZ ig
 go_wp2_with fail
 refine(fu.calls k _ _ s1 s2 _ _ p1 p2 true _ (rS ju) (rl ju) (nS jg) (nl jg) H5.out).mono ?_;rintro e w11 ⟨rfl,hb⟩
 have n11:w10.heap.size≤w11.heap.size:=by have:=hb.size;simpa using this
 replace eR:=fH eR hb;replace fT:=fH fT hb;replace ig:=fH ig hb;replace jg:=nb jg hb;replace ju:=sb ju hb;replace HB:=hB HB hb;clear hb;replace ov:=z2 eR;replace ow:=lZ eR;replace qh:=z2 fT;replace qi:=lZ fT;replace rz:=z2 ig;replace rA:=lZ ig
 go_wp2_with fail
 refine(oO.calls k _ _ s1 s2 1 q mg w _ HB.out ju.out H8.out).mono ?_;rintro e w12 ⟨rfl,wz,hb,hk⟩;have n12:w11.heap.size≤w12.heap.size:=hk.1;replace jg:=nk jg hk (fun q h h'=>by omega);replace eR:=rM eR hk (fun h=>by omega);replace fT:=rM fT hk (fun h=>by omega);replace ig:=rM ig hk (fun h=>by omega);replace ju:=ae.mk wz;clear wz;replace HB:=ae.mk hb;clear hb hk;replace ov:=z2 eR;replace ow:=lZ eR;replace qh:=z2 fT;replace qi:=lZ fT;replace rz:=z2 ig;replace rA:=lZ ig
 go_wp2_with fail
 refine(eQ.calls' k _ _ _ mg s2 1 q _ L4.out (rS ju) (rl ju) H9.out).mono ?_;rintro e w13 ⟨rfl,hb⟩
 have n13:w12.heap.size≤w13.heap.size:=by have:=hb.size;simpa using this
 replace eR:=fH eR hb;replace fT:=fH fT hb;replace ig:=fH ig hb;replace jg:=nb jg hb;replace ju:=sb ju hb;replace HB:=hB HB hb;clear hb;replace ov:=z2 eR;replace ow:=lZ eR;replace qh:=z2 fT;replace qi:=lZ fT;replace rz:=z2 ig;replace rA:=lZ ig
 go_wp2_with fail
 refine(ie.calls k _ _ ag ak tl tn _ (kC rK) rL.out H2.out).mono ?_;rintro e w14 ⟨v_z0,rfl,acG,hb⟩;obtain⟨A_z0,c_z0,rfl⟩:=Kd.il acG;have tv:=sq acG (w13.heap.size) w.heap.size (by simp) (ah oB);clear acG
 have n14:w13.heap.size≤w14.heap.size:=by have:=hb.size;simpa using this
 replace eR:=fH eR hb;replace fT:=fH fT hb;replace ig:=fH ig hb;replace jg:=nb jg hb;replace ju:=sb ju hb;replace HB:=hB HB hb;clear hb;replace ov:=z2 eR;replace ow:=lZ eR;replace qh:=z2 fT;replace qi:=lZ fT;replace rz:=z2 ig;replace rA:=lZ ig
 go_wp2_with fail
 refine(gh.calls k _ _ tl tn a1 a2 s1 s2 s3 _ (rS tv) (rl tv) H4.out).mono ?_;rintro e w15 ⟨v_h0,rfl,acH,hb⟩;obtain⟨A_h0,c_h0,rfl⟩:=Kd.il acH;have wA:=sq acH (w14.heap.size) w.heap.size (by simp) (ah oB);clear acH
 have n15:w14.heap.size≤w15.heap.size:=by have:=hb.size;simpa using this
 replace eR:=fH eR hb;replace fT:=fH fT hb;replace ig:=fH ig hb;replace jg:=nb jg hb;replace ju:=sb ju hb;replace tv:=sb tv hb;replace HB:=hB HB hb;clear hb;replace ov:=z2 eR;replace ow:=lZ eR;replace qh:=z2 fT;replace qi:=lZ fT;replace rz:=z2 ig;replace rA:=lZ ig
 go_wp2_with fail
 refine(fu.calls k _ _ s1 s2 _ _ p1 p2 true _ (rS wA) (rl wA) (nS jg) (nl jg) H5.out).mono ?_;rintro e w16 ⟨rfl,hb⟩
 have n16:w15.heap.size+1≤w16.heap.size:=by have:=hb.size;simpa using this
 have wB:=aac hb;replace hb:=bold hb;replace eR:=fH eR hb;replace fT:=fH fT hb;replace ig:=fH ig hb;replace jg:=nb jg hb;replace ju:=sb ju hb;replace tv:=sb tv hb;replace wA:=sb wA hb;replace HB:=hB HB hb;clear hb;replace ov:=z2 eR;replace ow:=lZ eR;replace qh:=z2 fT;replace qi:=lZ fT;replace rz:=z2 ig;replace rA:=lZ ig;have ad6:=z2 wB;have ad7:=lZ wB
 go_wp2_with fail
 refine(eQ.calls' k _ _ _ mg s2 1 q _ L4.out (rS ju) (rl ju) H9.out).mono ?_;rintro e w17 ⟨rfl,hb⟩
 have n17:w16.heap.size≤w17.heap.size:=by have:=hb.size;simpa using this
 replace eR:=fH eR hb;replace fT:=fH fT hb;replace ig:=fH ig hb;replace wB:=fH wB hb;replace jg:=nb jg hb;replace ju:=sb ju hb;replace tv:=sb tv hb;replace wA:=sb wA hb;replace HB:=hB HB hb;clear hb;replace ov:=z2 eR;replace ow:=lZ eR;replace qh:=z2 fT;replace qi:=lZ fT;replace rz:=z2 ig;replace rA:=lZ ig;replace ad6:=z2 wB;replace ad7:=lZ wB
 go_wp2_with fail
 go_ret
 exact⟨rfl,oB⟩
end Go.Proofs.YtlecajlnjmbilaaGreatDoor.P
