-- Printed walks.
import Derived.Test.YtlecajlnjmbilaaGreatDoorPx11
set_option linter.all false
set_option maxHeartbeats 8000000
set_option maxRecDepth 100000
namespace Go.Proofs.YtlecajlnjmbilaaGreatDoor.P
open Go.RowKit Go.Proofs.ae.au Go.Proofs.ae.ba Go.Proofs.ae.bg
attribute [local go_sem] gh gi iR iS ft fu gj gl

mutual
def aE.j0:Nat→Bool→List (bh)→Int→Option (Bool)
 |0,_,_,_=>none
 |k+1,b3,b1,b2=>if b3=true then(some false)else(aE.l0 k 0 b1 b2)
def aE.l0:Nat→Int→List (bh)→Int→Option (Bool)
 |0,_,_,_=>none
 |k+1,x3,b1,b2=>if x3<(b1.length:Int)then(if 0≤x3 then((bd.f k b1 b2 ((af b1 x3).f0)).bind fun b3=>(if b3=((af b1 x3).f2)then(aE.l1 k x3 0 b1 b2 ((af b1 x3).f0) ((af b1 x3).f1) ((af b1 x3).f2) ((af b1 x3).f3) ((af b1 x3).f4) ((af b1 x3).f5))else(some false)))else(none))else(some true)
def aE.l1:Nat→Int→Int→List (bh)→Int→Int→Int→Int→List Int→List (eb)→List (eh)→Option (Bool)
 |0,_,_,_,_,_,_,_,_,_,_=>none
 |k+1,x3,x5,b1,b2,b4,b5,b6,b7,b3,b8=>if x5<(b3.length:Int)then(if 0≤x5 then((cF.f k b1 b2 ((al b3 x5).f1)).bind fun b9=>(if b9<0 then(some false)else(aE.l1 k x3 (wrap64 (x5+1)) b1 b2 b4 b5 b6 b7 b3 b8)))else(none))else(aE.l0 k (wrap64 (x3+1)) b1 b2)
end
def aE.f (k:Nat) (ag:List (bh)) (ak:Int):Option (Bool):=(bq.f k ag ak).bind fun b1=>(if b1=true then((dr.f k ag ak).bind fun b2=>(aE.j0 k ((b2.length:Int) !=(ag.length:Int)) ag ak))else(aE.j0 k true ag ak))
def aE.T1:Bool×List (List Nat×List Nat):=(true,[([],[]),([0],[0]),([1],[1]),([2,1],[2]),([3],[3]),([4,3,3],[3,4]),([5,3],[3,5]),([3],[3]),([7,3],[3,7]),([8,3],[3,8]),([6,9,3],[3,6,9]),([3,10],[3,10])])
def aE.B1:List Nat:=[0,1,3,7,15,31,63,15,143,399,1023,2047]
theorem aE.aa6:gf .any (opsOf Tryz.f40 1)=aE.T1:=by kernel_rfl
theorem aE.ue:eL aE.T1.2 aE.B1=true:=by kernel_rfl
def aE.T12:Bool×List (List Nat×List Nat):=(true,[([],[]),([],[]),([1],[1]),([],[]),([2,3],[2,3]),([4],[4]),([5],[5]),([0,6],[0,6]),([7],[7])])
def aE.B12:List Nat:=[0,0,2,0,14,30,62,127,255]
theorem aE.acz:gf .any (opsOf Tryz.f40 12)=aE.T12:=by kernel_rfl
theorem aE.aa9:eL aE.T12.2 aE.B12=true:=by kernel_rfl
theorem aE.calls (k:Nat) (bj:Option Addr) (aW:Nat) (ag:List (bh)) (ak:Int) (r:Bool) (w:World) (ch:Kd.C fD w bj ag.length ag) (ck:ag.length≤aW) (h:aE.f k ag ak=some r):
  Calls Tryz.prog 40 #[.agg #[.slice bj ag.length aW,.int .i64 ak]] w fun e w'=>e= .returned (.bool r)∧Below w.heap.size w w':=by
 have gJ:=Tryz.underlying28;have gK:=Tryz.underlying58;have bI:=ab.mk ch;have bK:=ab.mk ck;clear ch ck;have HB:=am (Below.refl w.heap.size w);unfold aE.f at h;have H:=h;clear h;have dA:=ab.mk H;clear H
 go_enter Tryz.func40,Tryz.ntmps40
 go_upto_region 1 with(first|((with_reducible refine ai (N:=1) rfl ?_);(try(refine bx (by rfl) ?_;dsimp only));refine di 1 #[.slice bj ag.length aW,.int .i64 ak] 28 ?_;intro b6 hg w3 hbox hb;have b2:=am (hbox);have dX:=dh hg;replace HB:=hB HB hb;clear hb hbox hg))
 (try simp only[Act.put,List.setIfInBounds_toArray,List.set_cons_zero,List.set_cons_succ])
 go_cut [17] (fun dR wc=>∃(kq:Nat) (bP:Bool),dR= .bool bP∧ab (aE.j0 kq bP ag ak=some r)∧ab (kq≤k)∧ab (wc.heap[b6]? =some (.cells #[(.slice bj ag.length aW),.int .i64 ak] 28 (0,0)))∧ab (Below w.heap.size w wc))
 case first=>
  have H:=dA.out;clear dA;replace H:=bA H;obtain⟨gL,A4,H⟩:=H
  try dsimp only at H
  replace H:=ll H;rcases H with⟨rfl,H⟩|⟨rfl,H⟩;rotate_left
  ·have H':=ab.mk H;clear H
   try go_wp2
   replace b2:=am (ao b2.out);replace HB:=am (ar HB.out);refine mq 12 (fun w'=>w'.cell? ⟨b6,0,none⟩=some (.slice bj ag.length aW)∧w'.cell? ⟨b6,1,none⟩=some (.int .i64 ak)) aE.aa6 aE.ue oH (fun hHeld av ey=> ?_);generalize w3.drew=gP at b2 HB hHeld⊢;refine fJ 0 6 av ey hHeld ?_;refine kF 1 7 av (fun K hK=> ?_);refine lU 7 Tryz.func79 (bq.calls k _ _ ag ak false _ (kC bI) bK.out A4.out) ?_;rintro e gQ ⟨rfl,hb⟩;refine⟨_,rfl,?_⟩;replace b2:=bn b2 hb;replace HB:=hB HB hb;refine fV hK 7 oH (fun hHeld=> ?_);clear hK K;refine b_ 2 8 av ?_;refine b_ 3 9 av ?_;refine fz 4 10 av ?_;refine fz 5 11 av ?_;refine fz 6 12 av ?_;refine fz 7 13 av ?_;refine fz 8 14 av ?_;refine fz 9 15 av ?_;refine fz 10 16 av ?_;refine b_ 11 17 av ?_;refine lX av ?_
   try go_wp2
   go_meet
   case rel=>exact⟨_,(true),oS,H',⟨by first|omega|exact Nat.le_refl _⟩,⟨oF b2⟩,⟨oB⟩⟩
  replace H:=bA H;obtain⟨dB,A6,H⟩:=H
  try dsimp only at H
  have H':=ab.mk H;clear H
  try go_wp2
  replace b2:=am (ao b2.out);replace HB:=am (ar HB.out);refine mq 12 (fun w'=>w'.cell? ⟨b6,0,none⟩=some (.slice bj ag.length aW)∧w'.cell? ⟨b6,1,none⟩=some (.int .i64 ak)) aE.aa6 aE.ue oH (fun hHeld av ey=> ?_);generalize w3.drew=w7 at b2 HB hHeld⊢;refine fJ 0 6 av ey hHeld ?_;refine kF 1 7 av (fun K hK=> ?_);refine lU 7 Tryz.func79 (bq.calls k _ _ ag ak true _ (kC bI) bK.out A4.out) ?_;rintro e w8 ⟨rfl,hb⟩;refine⟨_,rfl,?_⟩;replace b2:=bn b2 hb;replace HB:=hB HB hb;refine fV hK 7 oH (fun hHeld=> ?_);clear hK K;refine b_ 2 8 av ?_;refine b_ 3 9 av ?_;refine b_ 7 13 av ?_;refine fJ 4 10 av ey hHeld ?_;refine fJ 8 14 av ey hHeld ?_;refine b_ 9 15 av ?_;refine kF 5 11 av (fun K hK=> ?_);refine lU 11 Tryz.func80 (dr.calls k _ _ ag ak dB _ (kC bI) bK.out A6.out) ?_;rintro e w9 ⟨gM,rfl,dS,hb⟩;refine⟨_,rfl,?_⟩;have dE:=am (Kd.ay dS (ah oB));replace b2:=bn b2 hb;replace HB:=hB HB hb;obtain⟨gN,gO,dC⟩:=Kd.ax dE.out
  (first|subst dC|(injection dC with kH nF kI;have dT:=kH.symm;have dU:=kI.symm;clear kH nF kI;subst dT;subst dU))
  refine fV hK 11 oH (fun hHeld=> ?_);clear hK K;refine b_ 6 12 av ?_;refine b_ 10 16 av ?_;refine b_ 11 17 av ?_;refine lX av ?_
  try go_wp2
  go_meet
  case rel=>exact⟨_,(((dB.length:Int) !=(ag.length:Int))),oS,H',⟨by first|omega|exact Nat.le_refl _⟩,⟨oF b2⟩,⟨oB⟩⟩
 case rest=>
  clear dA;obtain⟨kq,bP,rfl,HA,bS,b2,HB⟩:=hcut
  cases kq with
  |zero=>exact absurd HA.out (by simp[aE.j0])
  |succ vy=>
   have H:=HA.out;clear HA;simp only[aE.j0]at H;replace H:=ll H;rcases H with⟨rfl,H⟩|⟨rfl,H⟩
   ·obtain rfl:=Option.some.inj H
    go_wp2
    go_ret
    exact⟨oE,oB⟩
   have H':=ab.mk H;clear H
   go_wp2
   go_loopg [3] vy (fun kq v3 w'=>∃(b1:Int),v3= .int .i64 b1∧ab (aE.l0 kq b1 ag ak=some r)∧ab (kq≤vy)∧ab (w'.heap[b6]? =some (.cells #[(.slice bj ag.length aW),.int .i64 ak] 28 (0,0)))∧ab (Below w.heap.size w w'))
   case atStart=>exact⟨(0),oS,H',⟨Nat.le_refl _⟩,⟨oF b2⟩,⟨oB⟩⟩
   case round=>
    clear H';obtain⟨b1,rfl,HA,bT,b2,HB⟩:=hrel
    cases gk with
    |zero=>exact absurd HA.out (by simp[aE.l0])
    |succ k2=>
     have H:=HA.out;clear HA;simp only[aE.l0]at H;replace H:=iH H;rcases H with⟨bU,H⟩|⟨bU,H⟩;rotate_left
     ·obtain rfl:=Option.some.inj H;obtain⟨⟨_,_⟩,_,_⟩:=z2 b2
      go_wp2
      go_ret
      exact⟨oE,oB⟩
     obtain⟨dF,H⟩:=cU H;replace H:=bA H;obtain⟨bM,dL,H⟩:=H
     try dsimp only at H
     by_cases bO:bM=((af ag b1).f2)
     rotate_left
     ·rw[if_neg bO]at H;have dG:(bM==((af ag b1).f2))=false:=beq_eq_false_iff_ne.mpr bO;have dH:(bM !=((af ag b1).f2))=true:=bne_iff_ne.mpr bO;obtain rfl:=Option.some.inj H;obtain⟨⟨_,_⟩,_,_⟩:=z2 b2;have dN:(0≤(b1:Int))=True:=oT;have dO:(b1<(ag.length:Int))=True:=oT;obtain⟨bL,b9,bB,bH,bC,bD,bE,bQ,bW,bX,bY,bZ,d1,d2,d3,d4,d5,bN,d6,d7⟩:=fc bI HB b1 oa oa
      cases bQ
      try go_wp2_with (first|((with_reducible refine ai (N:=4) rfl ?_);(try(refine bx (by rfl) ?_;dsimp only));refine di 4 #[.int .i64 0,.int .i64 0,.int .i64 0,.slice none 0 0,.slice none 0 0,.slice none 0 0] 58 ?_;intro b3 hg dV hbox hb;have b4:=am (hbox);have dI:=dh hg;have bF:=eJ hg b2;have bG:=eK hg b2;replace b2:=bn b2 hb;replace HB:=hB HB hb;clear hb hbox hg;have dY:=bG.out;have dZ:=bF.out;obtain⟨⟨_,_,_,_,_,_⟩,_,_,_,_,_,_⟩:=z6 b4))
      generalize iG:((((((dV.setCell ⟨b3,0,none⟩ (.int .i64 ((af ag b1).f0))).setCell ⟨b3,1,none⟩ (.int .i64 ((af ag b1).f1))).setCell ⟨b3,2,none⟩ (.int .i64 ((af ag b1).f2))).setCell ⟨b3,3,none⟩ (.slice b9 ((af ag b1).f3).length bB)).setCell ⟨b3,4,none⟩ (.slice bH ((af ag b1).f4).length bC)).setCell ⟨b3,5,none⟩ (.slice bD ((af ag b1).f5).length bE))=w43;replace b2:=sF iG b2;replace b4:=wi #[.int .i64 ((af ag b1).f0),.int .i64 ((af ag b1).f1),.int .i64 ((af ag b1).f2),.slice b9 ((af ag b1).f3).length bB,.slice bH ((af ag b1).f4).length bC,.slice bD ((af ag b1).f5).length bE] iG b4;replace HB:=tG iG HB;clear iG;replace b2:=am (ao b2.out);replace b4:=am (ao b4.out);replace HB:=am (ar HB.out);refine s0_ 7 (fun w'=>w'.cell? ⟨b6,0,none⟩=some (.slice (some bL) ag.length aW)∧w'.cell? ⟨b6,1,none⟩=some (.int .i64 ak)∧w'.cell? ⟨b3,0,none⟩=some (.int .i64 ((af ag b1).f0))∧w'.cell? ⟨b3,1,none⟩=some (.int .i64 ((af ag b1).f1))∧w'.cell? ⟨b3,2,none⟩=some (.int .i64 ((af ag b1).f2))∧w'.cell? ⟨b3,3,none⟩=some (.slice b9 ((af ag b1).f3).length bB)∧w'.cell? ⟨b3,4,none⟩=some (.slice bH ((af ag b1).f4).length bC)∧w'.cell? ⟨b3,5,none⟩=some (.slice bD ((af ag b1).f5).length bE)) oH (fun hHeld=> ?_);generalize w43.drew=gR at b2 b4 HB hHeld⊢;refine uN 1 31 ?_;refine uN 4 34 ?_;refine wj 0 30 hHeld ?_;refine wj 2 32 hHeld ?_;refine wj 5 35 hHeld ?_;refine o0_ 3 33 (fun K hK=> ?_);refine lU 33 Tryz.func81 (bd.calls k2 _ _ ag ak ((af ag b1).f0) bM _ (kC bI) bK.out dL.out) ?_;rintro e gS ⟨rfl,hb⟩;refine⟨_,rfl,?_⟩;replace b2:=bn b2 hb;replace b4:=bn b4 hb;replace HB:=hB HB hb;refine fV hK 33 oH (fun hHeld=> ?_);clear hK K;refine uN 6 36 ?_;refine sd (by kernel_rfl) ?_
      try go_wp2
      go_ret
      exact⟨oE,oB⟩
     rw[if_pos bO]at H;have dG:(bM==((af ag b1).f2))=true:=beq_iff_eq.mpr bO;have dH:(bM !=((af ag b1).f2))=false:=bne_eq_false_iff_eq.mpr bO;clear bO;have H':=ab.mk H;clear H;obtain⟨⟨_,_⟩,_,_⟩:=z2 b2;have dN:(0≤(b1:Int))=True:=oT;have dO:(b1<(ag.length:Int))=True:=oT;obtain⟨bL,b9,bB,bH,bC,bD,bE,bQ,bW,bX,bY,bZ,d1,d2,d3,d4,d5,bN,d6,d7⟩:=fc bI HB b1 oa oa
     cases bQ
     try go_wp2_with (first|((with_reducible refine ai (N:=4) rfl ?_);(try(refine bx (by rfl) ?_;dsimp only));refine di 4 #[.int .i64 0,.int .i64 0,.int .i64 0,.slice none 0 0,.slice none 0 0,.slice none 0 0] 58 ?_;intro b3 hg dW hbox hb;have b4:=am (hbox);have dI:=dh hg;have bF:=eJ hg b2;have bG:=eK hg b2;replace b2:=bn b2 hb;replace HB:=hB HB hb;clear hb hbox hg;have gA:=bG.out;have gB:=bF.out;obtain⟨⟨_,_,_,_,_,_⟩,_,_,_,_,_,_⟩:=z6 b4))
     generalize iG:((((((dW.setCell ⟨b3,0,none⟩ (.int .i64 ((af ag b1).f0))).setCell ⟨b3,1,none⟩ (.int .i64 ((af ag b1).f1))).setCell ⟨b3,2,none⟩ (.int .i64 ((af ag b1).f2))).setCell ⟨b3,3,none⟩ (.slice b9 ((af ag b1).f3).length bB)).setCell ⟨b3,4,none⟩ (.slice bH ((af ag b1).f4).length bC)).setCell ⟨b3,5,none⟩ (.slice bD ((af ag b1).f5).length bE))=w22;replace b2:=sF iG b2;replace b4:=wi #[.int .i64 ((af ag b1).f0),.int .i64 ((af ag b1).f1),.int .i64 ((af ag b1).f2),.slice b9 ((af ag b1).f3).length bB,.slice bH ((af ag b1).f4).length bC,.slice bD ((af ag b1).f5).length bE] iG b4;replace HB:=tG iG HB;clear iG;replace b2:=am (ao b2.out);replace b4:=am (ao b4.out);replace HB:=am (ar HB.out);refine s0_ 7 (fun w'=>w'.cell? ⟨b6,0,none⟩=some (.slice (some bL) ag.length aW)∧w'.cell? ⟨b6,1,none⟩=some (.int .i64 ak)∧w'.cell? ⟨b3,0,none⟩=some (.int .i64 ((af ag b1).f0))∧w'.cell? ⟨b3,1,none⟩=some (.int .i64 ((af ag b1).f1))∧w'.cell? ⟨b3,2,none⟩=some (.int .i64 ((af ag b1).f2))∧w'.cell? ⟨b3,3,none⟩=some (.slice b9 ((af ag b1).f3).length bB)∧w'.cell? ⟨b3,4,none⟩=some (.slice bH ((af ag b1).f4).length bC)∧w'.cell? ⟨b3,5,none⟩=some (.slice bD ((af ag b1).f5).length bE)) oH (fun hHeld=> ?_);generalize w22.drew=gT at b2 b4 HB hHeld⊢;refine uN 1 31 ?_;refine uN 4 34 ?_;refine wj 0 30 hHeld ?_;refine wj 2 32 hHeld ?_;refine wj 5 35 hHeld ?_;refine o0_ 3 33 (fun K hK=> ?_);refine lU 33 Tryz.func81 (bd.calls k2 _ _ ag ak ((af ag b1).f0) bM _ (kC bI) bK.out dL.out) ?_;rintro e gU ⟨rfl,hb⟩;refine⟨_,rfl,?_⟩;replace b2:=bn b2 hb;replace b4:=bn b4 hb;replace HB:=hB HB hb;refine fV hK 33 oH (fun hHeld=> ?_);clear hK K;refine uN 6 36 ?_;refine sd (by kernel_rfl) ?_
     try go_wp2
     go_loopg [5] k2 (fun kq v5 w'=>∃(b5:Int),v5= .int .i64 b5∧ab (aE.l1 kq b1 b5 ag ak ((af ag b1).f0) ((af ag b1).f1) ((af ag b1).f2) ((af ag b1).f3) ((af ag b1).f4) ((af ag b1).f5)=some r)∧ab (kq≤k2)∧ab (w'.heap[b6]? =some (.cells #[(.slice (some bL) ag.length aW),.int .i64 ak] 28 (0,0)))∧ab (w'.heap[b3]? =some (.cells #[.int .i64 ((af ag b1).f0),.int .i64 ((af ag b1).f1),.int .i64 ((af ag b1).f2),(.slice b9 ((af ag b1).f3).length bB),(.slice bH ((af ag b1).f4).length bC),(.slice bD ((af ag b1).f5).length bE)] 58 (0,0)))∧ab (Below w.heap.size w w'))
     case atStart=>exact⟨(0),oS,H',⟨Nat.le_refl _⟩,⟨oF b2⟩,⟨oF b4⟩,⟨oB⟩⟩
     case round=>
      clear H'
      try clear bU
      try clear dF
      try clear bO
      obtain⟨b5,rfl,HA,bV,b2,b4,HB⟩:=hrel
      cases gk with
      |zero=>exact absurd HA.out (by simp[aE.l1])
      |succ k3=>
       have H:=HA.out;clear HA;simp only[aE.l1]at H;replace H:=iH H;rcases H with⟨dJ,H⟩|⟨dJ,H⟩;rotate_left
       ·have H':=ab.mk H;clear H;have gC:=bG.out;have gD:=bF.out;obtain⟨⟨_,_,_,_,_,_⟩,_,_,_,_,_,_⟩:=z6 b4
        go_wp2
        go_roundg k3
        case measure=>have:=bS.out;have:=bT.out;have:=bV.out;omega
        case rel=>exact⟨(wrap64 (b1+1)),oS,H',⟨by have:=bS.out;have:=bT.out;have:=bV.out;omega⟩,⟨oF b2⟩,⟨oB⟩⟩
       obtain⟨gE,H⟩:=cU H;replace H:=bA H;obtain⟨dD,dM,H⟩:=H
       try dsimp only at H
       replace H:=iH H;rcases H with⟨dK,H⟩|⟨dK,H⟩
       ·obtain rfl:=Option.some.inj H;have gF:=bG.out;have gG:=bF.out;obtain⟨⟨_,_,_,_,_,_⟩,_,_,_,_,_,_⟩:=z6 b4
        try go_wp2
        replace b2:=am (ao b2.out);replace b4:=am (ao b4.out);replace HB:=am (ar HB.out);have dP:(0≤(b5:Int))=True:=oT;have dQ:(b5<(((af ag b1).f4).length:Int))=True:=oT;obtain⟨bJ,bR,b7,b8⟩:=cV bN.out b5 oa oa;have d8:=b8;have d9:=b7
        cases bR
        replace b7:=cB HB b7;replace b8:=cB HB b8;refine mq 9 (fun w'=>w'.cell? ⟨b6,0,none⟩=some (.slice (some bL) ag.length aW)∧w'.cell? ⟨b6,1,none⟩=some (.int .i64 ak)∧w'.cell? ⟨b3,0,none⟩=some (.int .i64 ((af ag b1).f0))∧w'.cell? ⟨b3,1,none⟩=some (.int .i64 ((af ag b1).f1))∧w'.cell? ⟨b3,2,none⟩=some (.int .i64 ((af ag b1).f2))∧w'.cell? ⟨b3,3,none⟩=some (.slice b9 ((af ag b1).f3).length bB)∧w'.cell? ⟨b3,4,none⟩=some (.slice (some bJ) ((af ag b1).f4).length bC)∧w'.cell? ⟨b3,5,none⟩=some (.slice bD ((af ag b1).f5).length bE)∧w'.cell? (bJ.add ((b5).toNat*2))=some (.string ((al ((af ag b1).f4) b5).f0))∧w'.cell? ⟨(bJ.add ((b5).toNat*2)).block,(bJ.add ((b5).toNat*2)).off+1,none⟩=some (.int .i64 ((al ((af ag b1).f4) b5).f1))) aE.acz aE.aa9 oH (fun hHeld av ey=> ?_);generalize wr.drew=gV at b2 b4 HB b7 b8 hHeld⊢;refine b_ 1 45 av ?_;refine b_ 3 47 av ?_;refine fJ 0 44 av ey hHeld ?_;refine fJ 2 46 av ey hHeld ?_;refine b_ 4 48 av ?_;refine b_ 5 49 av ?_;refine fJ 6 50 av ey hHeld ?_;refine kF 7 51 av (fun K hK=> ?_);refine lU 51 Tryz.func82 (cF.calls k3 _ _ ag ak ((al ((af ag b1).f4) b5).f1) dD _ (kC bI) bK.out dM.out) ?_;rintro e gW ⟨rfl,hb⟩;refine⟨_,rfl,?_⟩;replace b2:=bn b2 hb;replace b4:=bn b4 hb;replace HB:=hB HB hb;refine fV hK 51 oH (fun hHeld=> ?_);clear hK K;refine b_ 8 52 av ?_;refine lX av ?_
        try go_wp2
        go_ret
        exact⟨oE,oB⟩
       have H':=ab.mk H;clear H;have gH:=bG.out;have gI:=bF.out;obtain⟨⟨_,_,_,_,_,_⟩,_,_,_,_,_,_⟩:=z6 b4
       try go_wp2
       replace b2:=am (ao b2.out);replace b4:=am (ao b4.out);replace HB:=am (ar HB.out);have dP:(0≤(b5:Int))=True:=oT;have dQ:(b5<(((af ag b1).f4).length:Int))=True:=oT;obtain⟨bJ,bR,b7,b8⟩:=cV bN.out b5 oa oa;have d8:=b8;have d9:=b7
       cases bR
       replace b7:=cB HB b7;replace b8:=cB HB b8;refine mq 9 (fun w'=>w'.cell? ⟨b6,0,none⟩=some (.slice (some bL) ag.length aW)∧w'.cell? ⟨b6,1,none⟩=some (.int .i64 ak)∧w'.cell? ⟨b3,0,none⟩=some (.int .i64 ((af ag b1).f0))∧w'.cell? ⟨b3,1,none⟩=some (.int .i64 ((af ag b1).f1))∧w'.cell? ⟨b3,2,none⟩=some (.int .i64 ((af ag b1).f2))∧w'.cell? ⟨b3,3,none⟩=some (.slice b9 ((af ag b1).f3).length bB)∧w'.cell? ⟨b3,4,none⟩=some (.slice (some bJ) ((af ag b1).f4).length bC)∧w'.cell? ⟨b3,5,none⟩=some (.slice bD ((af ag b1).f5).length bE)∧w'.cell? (bJ.add ((b5).toNat*2))=some (.string ((al ((af ag b1).f4) b5).f0))∧w'.cell? ⟨(bJ.add ((b5).toNat*2)).block,(bJ.add ((b5).toNat*2)).off+1,none⟩=some (.int .i64 ((al ((af ag b1).f4) b5).f1))) aE.acz aE.aa9 oH (fun hHeld av ey=> ?_);generalize wr.drew=gX at b2 b4 HB b7 b8 hHeld⊢;refine b_ 1 45 av ?_;refine b_ 3 47 av ?_;refine fJ 0 44 av ey hHeld ?_;refine fJ 2 46 av ey hHeld ?_;refine b_ 4 48 av ?_;refine b_ 5 49 av ?_;refine fJ 6 50 av ey hHeld ?_;refine kF 7 51 av (fun K hK=> ?_);refine lU 51 Tryz.func82 (cF.calls k3 _ _ ag ak ((al ((af ag b1).f4) b5).f1) dD _ (kC bI) bK.out dM.out) ?_;rintro e gY ⟨rfl,hb⟩;refine⟨_,rfl,?_⟩;replace b2:=bn b2 hb;replace b4:=bn b4 hb;replace HB:=hB HB hb;refine fV hK 51 oH (fun hHeld=> ?_);clear hK K;refine b_ 8 52 av ?_;refine lX av ?_
       try go_wp2
       go_roundg k3
       case measure=>have:=bS.out;have:=bT.out;have:=bV.out;omega
       case rel=>exact⟨(wrap64 (b5+1)),oS,H',⟨by have:=bS.out;have:=bT.out;have:=bV.out;omega⟩,⟨oF b2⟩,⟨oF b4⟩,⟨oB⟩⟩

def eA.l0:Nat→List ByteArray→Int→Int→List (bh)→Int→Option (Bool)
 |0,_,_,_,_,_=>none
 |k+1,x9,b5,b3,b1,b2=>if b3<b5 then(if 0≤b3 then(if b3<(x9.length:Int)then((eH.f k (lq ByteArray.empty x9 b3)).bind fun b4=>(if b4.2=true then(eA.l0 k x9 b5 (wrap64 (b3+1)) b1 b2)else(some false)))else(none))else(none))else((bb.f k b1 b2).bind fun b6=>(some b6))
def eA.f (k:Nat) (ag:List (bh)) (ak:Int) (l1:List ByteArray):Option (Bool):=eA.l0 k l1 (l1.length:Int) 0 ag ak
theorem eA.calls (k:Nat) (bj:Option Addr) (aW:Nat) (ag:List (bh)) (ak:Int) (A1:Option Addr) (c1:Nat) (l1:List ByteArray) (r:Bool) (w:World) (ch:Kd.C fD w bj ag.length ag) (ck:ag.length≤aW) (hr1:Kd.C Kd.string w A1 l1.length l1) (hc1:l1.length≤c1) (h:eA.f k ag ak l1=some r) (hG:GOk w:=by exact gk_ oB (by first|(with_reducible assumption)|assumption)):
  Calls Tryz.prog 46 #[.agg #[.slice bj ag.length aW,.int .i64 ak],.slice A1 l1.length c1] w fun e w'=>e= .returned (.bool r)∧Below w.heap.size w w':=by
 have HG:=ab.mk hG;clear hG;have bN:=Tryz.underlying28;have b7:=ab.mk ch;have b8:=ab.mk ck;clear ch ck;have bD:=ab.mk hr1;have bR:=ab.mk hc1;clear hr1 hc1;have HB:=am (Below.refl w.heap.size w);unfold eA.f at h;have H:=h;clear h;have H':=ab.mk H;clear H
 go_enter Tryz.func46,Tryz.ntmps46
 go_wp2_with (first|((with_reducible refine ai (N:=2) rfl ?_);refine di 2 #[.slice bj ag.length aW,.int .i64 ak] 28 ?_;intro b9 hg w3 hbox hb;have b2:=am (hbox);have bM:=dh hg;replace HB:=hB HB hb;clear hb hbox hg))
 go_loopg [11] k (fun kq bK w'=>∃(b1:Int),bK= .int .i64 b1∧ab (eA.l0 kq l1 (l1.length:Int) b1 ag ak=some r)∧ab (kq≤k)∧ab (w'.heap[b9]? =some (.cells #[(.slice bj ag.length aW),.int .i64 ak] 28 (0,0)))∧ab (Below w.heap.size w w'))
 case atStart=>exact⟨(0),oS,H',⟨Nat.le_refl _⟩,⟨oF b2⟩,⟨oB⟩⟩
 case round=>
  clear H'
  try clear c1
  obtain⟨b1,rfl,HA,bE,b2,HB⟩:=hrel
  cases gk with
  |zero=>exact absurd HA.out (by simp[eA.l0])
  |succ k1=>
   have H:=HA.out;clear HA;simp only[eA.l0]at H;replace H:=iH H;rcases H with⟨bF,H⟩|⟨bF,H⟩;rotate_left
   ·replace H:=bA H;obtain⟨bG,bL,H⟩:=H
    try dsimp only at H
    obtain rfl:=Option.some.inj H;obtain⟨⟨_,_⟩,_,_⟩:=z2 b2
    go_wp2_with (first|((with_reducible refine aj (f:=89) rfl ?_);refine eI 24 Tryz.func89 (bb.calls k1 _ _ ag ak bG _ (kC b7) b8.out bL.out) ?_;rintro e bS ⟨rfl,hb⟩;refine⟨_,rfl,?_⟩;replace b2:=bn b2 hb;replace HB:=hB HB hb))
    go_ret
    exact⟨oE,oB⟩
   obtain⟨bO,H⟩:=cU H;obtain⟨bP,H⟩:=cU H;replace H:=bA H;obtain⟨⟨b5,bQ⟩,A7,H⟩:=H
   try dsimp only at H
   replace H:=ll H;rcases H with⟨rfl,H⟩|⟨rfl,H⟩;rotate_left
   ·obtain rfl:=Option.some.inj H;have bH:(0≤(b1:Int))=True:=oT;have bI:(b1<(l1.length:Int))=True:=oT;obtain⟨bB,b4,b3⟩:=Kd.gw bD.out b1 oa oa
    cases b4
    replace b3:=cB HB b3
    go_wp2_with (first|((with_reducible refine aj (f:=88) rfl ?_);refine eI 17 Tryz.func88 (eH.calls k1 (lq ByteArray.empty l1 b1) b5 false _ A7.out) ?_;rintro e bT ⟨bJ,rfl,b6,hb⟩;refine⟨_,rfl,?_⟩;have bC:=am (Kd.qG b6 (ah oB));replace b2:=bn b2 hb;replace HB:=hB HB hb))
    go_ret
    exact⟨oE,oB⟩
   have H':=ab.mk H;clear H;have bH:(0≤(b1:Int))=True:=oT;have bI:(b1<(l1.length:Int))=True:=oT;obtain⟨bB,b4,b3⟩:=Kd.gw bD.out b1 oa oa
   cases b4
   replace b3:=cB HB b3
   go_wp2_with (first|((with_reducible refine aj (f:=88) rfl ?_);refine eI 17 Tryz.func88 (eH.calls k1 (lq ByteArray.empty l1 b1) b5 true _ A7.out) ?_;rintro e w9 ⟨bJ,rfl,b6,hb⟩;refine⟨_,rfl,?_⟩;have bC:=am (Kd.qG b6 (ah oB));replace b2:=bn b2 hb;replace HB:=hB HB hb))
   go_roundg k1
   case measure=>have:=bE.out;omega
   case rel=>exact⟨(wrap64 (b1+1)),oS,H',⟨by have:=bE.out;omega⟩,⟨oF b2⟩,⟨oB⟩⟩

def js.f (k:Nat) (ag:List (bh)) (ak:Int) (a1:ByteArray):Option (Int×Int×Int×List Int×(List (eb))×(List (eh))×Int):=(jw.f k ag ak a1).bind fun b1=>(if b1.2.2.2.2.2.2=0 then(if b1.2.1=1 then(some (b1.1,b1.2.1,b1.2.2.1,b1.2.2.2.1,b1.2.2.2.2.1,b1.2.2.2.2.2.1,b1.2.2.2.2.2.2))else(some (b1.1,b1.2.1,b1.2.2.1,b1.2.2.2.1,b1.2.2.2.2.1,b1.2.2.2.2.2.1,3)))else(some (b1.1,b1.2.1,b1.2.2.1,b1.2.2.2.1,b1.2.2.2.2.1,b1.2.2.2.2.2.1,b1.2.2.2.2.2.2)))
theorem js.calls (k:Nat) (bj:Option Addr) (aW:Nat) (ag:List (bh)) (ak:Int) (a1:ByteArray) (r1:Int) (r2:Int) (r3:Int) (r4:List Int) (r5:List (eb)) (r6:List (eh)) (r7:Int) (w:World) (ch:Kd.C fD w bj ag.length ag) (ck:ag.length≤aW) (h:js.f k ag ak a1=some (r1,r2,r3,r4,r5,r6,r7)) (hG:GOk w:=by exact gk_ oB (by first|(with_reducible assumption)|assumption)):
  Calls Tryz.prog 56 #[.agg #[.slice bj ag.length aW,.int .i64 ak],.string a1] w fun e w'=>∃qd qe qf:Value,e= .returned (.tuple #[.agg #[.int .i64 r1,.int .i64 r2,.int .i64 r3,qd,qe,qf],.int .i64 r7])∧Kd.R (Kd.int .u8) 5 w' w.heap.size (fun _=>True) qd r4∧Kd.R iT 75 w' w.heap.size (fun _=>True) qe r5∧Kd.R iU 82 w' w.heap.size (fun _=>True) qf r6∧Below w.heap.size w w':=by
 have HG:=ab.mk hG;clear hG;have gL:=Tryz.underlying28;have gM:=Tryz.underlying58;have bO:=ab.mk ch;have bP:=ab.mk ck;clear ch ck;have HB:=am (Below.refl w.heap.size w);unfold js.f at h;have H:=h;clear h;replace H:=bA H;obtain⟨⟨bH,bE,bI,bJ,bK,bL,bF⟩,A3,H⟩:=H
 try dsimp only at H
 by_cases c4:bF=0
 rotate_left
 ·rw[if_neg c4]at H;have bZ:(bF==0)=false:=beq_eq_false_iff_ne.mpr c4;have d1:(bF !=0)=true:=bne_iff_ne.mpr c4;simp only[Option.some.injEq,Prod.mk.injEq]at H;obtain⟨rfl,rfl,rfl,rfl,rfl,rfl,rfl⟩:=H
  go_enter Tryz.func56,Tryz.ntmps56
  go_wp2_with (first|((with_reducible refine ai (N:=2) rfl ?_);refine di 2 #[.slice bj ag.length aW,.int .i64 ak] 28 ?_;intro bR hg gP hbox hb;have b1:=am (hbox);have bS:=dh hg;replace HB:=hB HB hb;clear hb hbox hg)|((with_reducible refine ai (N:=4) rfl ?_);refine di 4 #[.int .i64 0,.int .i64 0,.int .i64 0,.slice none 0 0,.slice none 0 0,.slice none 0 0] 58 ?_;intro bG hg gQ hbox hb;have b2:=am (hbox);have bT:=dh hg;have b7:=eJ hg b1;have b8:=eK hg b1;replace b1:=bn b1 hb;replace HB:=hB HB hb;clear hb hbox hg;have dV:=b7.out;have dW:=b8.out;obtain⟨⟨_,_⟩,_,_⟩:=z2 b1)|((with_reducible refine aj (f:=47) rfl ?_);refine eI 11 Tryz.func47 (jw.calls k _ _ ag ak a1 bH bE bI bJ bK bL bF _ (kC bO) bP.out A3.out) ?_;rintro e gR ⟨bW,bX,bY,rfl,bQ,bM,bN,hb⟩;refine⟨_,rfl,?_⟩;have b3:=am (Kd.ay bQ (ah oB));have b4:=am (Kd.ay bM (ah oB));have b5:=am (Kd.ay bN (ah oB));replace b1:=bn b1 hb;replace b2:=bn b2 hb;replace HB:=hB HB hb;(try clear bM);(try clear bN))|((with_reducible refine ai (N:=6) rfl ?_);refine di 6 #[.int .i64 0,.int .i64 0,.int .i64 0,.slice none 0 0,.slice none 0 0,.slice none 0 0] 58 ?_;intro bU hg gS hbox hb;have b6:=am (hbox);have bV:=dh hg;have b9:=eJ hg b1;have bB:=eK hg b1;have bC:=eJ hg b2;have bD:=eK hg b2;replace b3:=iI b3 hb;replace b4:=iI b4 hb;replace b5:=iI b5 hb;replace b1:=bn b1 hb;replace b2:=bn b2 hb;replace HB:=hB HB hb;clear hb hbox hg;have dX:=bB.out;have dY:=b9.out;have dZ:=bD.out;have gA:=bC.out;obtain⟨⟨_,_,_,_,_,_⟩,_,_,_,_,_,_⟩:=z6 b6;obtain⟨d2,d3,d4⟩:=Kd.ax b3.out;subst d4;obtain⟨d5,d6,d7⟩:=Kd.ax b4.out;subst d7;obtain⟨d8,d9,dA⟩:=Kd.ax b5.out;subst dA;obtain⟨⟨_,_,_,_,_,_⟩,_,_,_,_,_,_⟩:=z6 b2))
  refine bodyPost_ret (dd rfl _ _ bG 58 #[.int .i64 bH,.int .i64 bE,.int .i64 bI,.slice d2 bJ.length d3,.slice d5 bK.length d6,.slice d8 bL.length d9] (0,0) _ rfl (oP b2) Tryz.underlying58 rfl (by kernel_rfl)) rfl ?_;exact⟨_,_,_,oE,o_ b3 b6 b2,o_ b4 b6 b2,o_ b5 b6 b2,oB⟩
 rw[if_pos c4]at H;have bZ:(bF==0)=true:=beq_iff_eq.mpr c4;have d1:(bF !=0)=false:=bne_eq_false_iff_eq.mpr c4;clear c4
 by_cases c5:bE=1
 rotate_left
 ·rw[if_neg c5]at H;have dB:(bE==1)=false:=beq_eq_false_iff_ne.mpr c5;have dC:(bE !=1)=true:=bne_iff_ne.mpr c5;simp only[Option.some.injEq,Prod.mk.injEq]at H;obtain⟨rfl,rfl,rfl,rfl,rfl,rfl,rfl⟩:=H
  go_enter Tryz.func56,Tryz.ntmps56
  go_wp2_with (first|((with_reducible refine ai (N:=2) rfl ?_);refine di 2 #[.slice bj ag.length aW,.int .i64 ak] 28 ?_;intro bR hg gT hbox hb;have b1:=am (hbox);have bS:=dh hg;replace HB:=hB HB hb;clear hb hbox hg)|((with_reducible refine ai (N:=4) rfl ?_);refine di 4 #[.int .i64 0,.int .i64 0,.int .i64 0,.slice none 0 0,.slice none 0 0,.slice none 0 0] 58 ?_;intro bG hg gU hbox hb;have b2:=am (hbox);have bT:=dh hg;have b7:=eJ hg b1;have b8:=eK hg b1;replace b1:=bn b1 hb;replace HB:=hB HB hb;clear hb hbox hg;have gB:=b7.out;have gC:=b8.out;obtain⟨⟨_,_⟩,_,_⟩:=z2 b1)|((with_reducible refine aj (f:=47) rfl ?_);refine eI 11 Tryz.func47 (jw.calls k _ _ ag ak a1 bH bE bI bJ bK bL bF _ (kC bO) bP.out A3.out) ?_;rintro e gV ⟨bW,bX,bY,rfl,bQ,bM,bN,hb⟩;refine⟨_,rfl,?_⟩;have b3:=am (Kd.ay bQ (ah oB));have b4:=am (Kd.ay bM (ah oB));have b5:=am (Kd.ay bN (ah oB));replace b1:=bn b1 hb;replace b2:=bn b2 hb;replace HB:=hB HB hb;(try clear bM);(try clear bN))|((with_reducible refine ai (N:=6) rfl ?_);refine di 6 #[.int .i64 0,.int .i64 0,.int .i64 0,.slice none 0 0,.slice none 0 0,.slice none 0 0] 58 ?_;intro bU hg gW hbox hb;have b6:=am (hbox);have bV:=dh hg;have b9:=eJ hg b1;have bB:=eK hg b1;have bC:=eJ hg b2;have bD:=eK hg b2;replace b3:=iI b3 hb;replace b4:=iI b4 hb;replace b5:=iI b5 hb;replace b1:=bn b1 hb;replace b2:=bn b2 hb;replace HB:=hB HB hb;clear hb hbox hg;have gD:=bB.out;have gE:=b9.out;have gF:=bD.out;have gG:=bC.out;obtain⟨⟨_,_,_,_,_,_⟩,_,_,_,_,_,_⟩:=z6 b6;obtain⟨dD,dE,dF⟩:=Kd.ax b3.out;subst dF;obtain⟨dG,dH,dI⟩:=Kd.ax b4.out;subst dI;obtain⟨dJ,dK,dL⟩:=Kd.ax b5.out;subst dL;obtain⟨⟨_,_,_,_,_,_⟩,_,_,_,_,_,_⟩:=z6 b2))
  refine bodyPost_ret (dd rfl _ _ bG 58 #[.int .i64 bH,.int .i64 bE,.int .i64 bI,.slice dD bJ.length dE,.slice dG bK.length dH,.slice dJ bL.length dK] (0,0) _ rfl (oP b2) Tryz.underlying58 rfl (by kernel_rfl)) rfl ?_;exact⟨_,_,_,oE,o_ b3 b6 b2,o_ b4 b6 b2,o_ b5 b6 b2,oB⟩
 rw[if_pos c5]at H;have dB:(bE==1)=true:=beq_iff_eq.mpr c5;have dC:(bE !=1)=false:=bne_eq_false_iff_eq.mpr c5;clear c5;simp only[Option.some.injEq,Prod.mk.injEq]at H;obtain⟨rfl,rfl,rfl,rfl,rfl,rfl,rfl⟩:=H
 go_enter Tryz.func56,Tryz.ntmps56
 go_wp2_with (first|((with_reducible refine ai (N:=2) rfl ?_);refine di 2 #[.slice bj ag.length aW,.int .i64 ak] 28 ?_;intro bR hg w6 hbox hb;have b1:=am (hbox);have bS:=dh hg;replace HB:=hB HB hb;clear hb hbox hg)|((with_reducible refine ai (N:=4) rfl ?_);refine di 4 #[.int .i64 0,.int .i64 0,.int .i64 0,.slice none 0 0,.slice none 0 0,.slice none 0 0] 58 ?_;intro bG hg w7 hbox hb;have b2:=am (hbox);have bT:=dh hg;have b7:=eJ hg b1;have b8:=eK hg b1;replace b1:=bn b1 hb;replace HB:=hB HB hb;clear hb hbox hg;have gN:=b7.out;have gO:=b8.out;obtain⟨⟨_,_⟩,_,_⟩:=z2 b1)|((with_reducible refine aj (f:=47) rfl ?_);refine eI 11 Tryz.func47 (jw.calls k _ _ ag ak a1 bH bE bI bJ bK bL bF _ (kC bO) bP.out A3.out) ?_;rintro e gX ⟨bW,bX,bY,rfl,bQ,bM,bN,hb⟩;refine⟨_,rfl,?_⟩;have b3:=am (Kd.ay bQ (ah oB));have b4:=am (Kd.ay bM (ah oB));have b5:=am (Kd.ay bN (ah oB));replace b1:=bn b1 hb;replace b2:=bn b2 hb;replace HB:=hB HB hb;(try clear bM);(try clear bN))|((with_reducible refine ai (N:=6) rfl ?_);refine di 6 #[.int .i64 0,.int .i64 0,.int .i64 0,.slice none 0 0,.slice none 0 0,.slice none 0 0] 58 ?_;intro bU hg gY hbox hb;have b6:=am (hbox);have bV:=dh hg;have b9:=eJ hg b1;have bB:=eK hg b1;have bC:=eJ hg b2;have bD:=eK hg b2;replace b3:=iI b3 hb;replace b4:=iI b4 hb;replace b5:=iI b5 hb;replace b1:=bn b1 hb;replace b2:=bn b2 hb;replace HB:=hB HB hb;clear hb hbox hg;have gH:=bB.out;have gI:=b9.out;have gJ:=bD.out;have gK:=bC.out;obtain⟨⟨_,_,_,_,_,_⟩,_,_,_,_,_,_⟩:=z6 b6;obtain⟨dM,dN,dO⟩:=Kd.ax b3.out;subst dO;obtain⟨dP,dQ,dR⟩:=Kd.ax b4.out;subst dR;obtain⟨dS,dT,dU⟩:=Kd.ax b5.out;subst dU;obtain⟨⟨_,_,_,_,_,_⟩,_,_,_,_,_,_⟩:=z6 b2))
 refine bodyPost_ret (dd rfl _ _ bG 58 #[.int .i64 bH,.int .i64 bE,.int .i64 bI,.slice dM bJ.length dN,.slice dP bK.length dQ,.slice dS bL.length dT] (0,0) _ rfl (oP b2) Tryz.underlying58 rfl (by kernel_rfl)) rfl ?_;exact⟨_,_,_,oE,o_ b3 b6 b2,o_ b4 b6 b2,o_ b5 b6 b2,oB⟩

def jr.f (k:Nat) (ag:List (bh)) (ak:Int) (a1:ByteArray):Option (Int×Int×Int×List Int×(List (eb))×(List (eh))×Int):=(jx.f k ag ak a1).bind fun b1=>(if b1.2.2.2.2.2.2=0 then(if b1.2.1=1 then(some (b1.1,b1.2.1,b1.2.2.1,b1.2.2.2.1,b1.2.2.2.2.1,b1.2.2.2.2.2.1,b1.2.2.2.2.2.2))else(some (0,0,0,([]:List Int),([]:List (eb)),([]:List (eh)),3)))else(some (b1.1,b1.2.1,b1.2.2.1,b1.2.2.2.1,b1.2.2.2.2.1,b1.2.2.2.2.2.1,b1.2.2.2.2.2.2)))
theorem jr.calls (k:Nat) (bj:Option Addr) (aW:Nat) (ag:List (bh)) (ak:Int) (a1:ByteArray) (r1:Int) (r2:Int) (r3:Int) (r4:List Int) (r5:List (eb)) (r6:List (eh)) (r7:Int) (w:World) (ch:Kd.C fD w bj ag.length ag) (ck:ag.length≤aW) (h:jr.f k ag ak a1=some (r1,r2,r3,r4,r5,r6,r7)):
  Calls Tryz.prog 52 #[.agg #[.slice bj ag.length aW,.int .i64 ak],.string a1] w fun e w'=>∃qd qe qf:Value,e= .returned (.tuple #[.agg #[.int .i64 r1,.int .i64 r2,.int .i64 r3,qd,qe,qf],.int .i64 r7])∧Kd.R (Kd.int .u8) 5 w' w.heap.size (fun _=>True) qd r4∧Kd.R iT 75 w' w.heap.size (fun _=>True) qe r5∧Kd.R iU 82 w' w.heap.size (fun _=>True) qf r6∧Below w.heap.size w w':=by
 have gF:=Tryz.underlying28;have gG:=Tryz.underlying58;have bO:=ab.mk ch;have bP:=ab.mk ck;clear ch ck;have HB:=am (Below.refl w.heap.size w);unfold jr.f at h;have H:=h;clear h;replace H:=bA H;obtain⟨⟨bJ,bE,bK,bL,bM,bN,bF⟩,A3,H⟩:=H
 try dsimp only at H
 by_cases c4:bF=0
 rotate_left
 ·rw[if_neg c4]at H;have bZ:(bF==0)=false:=beq_eq_false_iff_ne.mpr c4;have d1:(bF !=0)=true:=bne_iff_ne.mpr c4;simp only[Option.some.injEq,Prod.mk.injEq]at H;obtain⟨rfl,rfl,rfl,rfl,rfl,rfl,rfl⟩:=H
  go_enter Tryz.func52,Tryz.ntmps52
  go_wp2_with (first|((with_reducible refine ai (N:=2) rfl ?_);refine di 2 #[.slice bj ag.length aW,.int .i64 ak] 28 ?_;intro bR hg gP hbox hb;have b1:=am (hbox);have bS:=dh hg;replace HB:=hB HB hb;clear hb hbox hg)|((with_reducible refine ai (N:=4) rfl ?_);refine di 4 #[.int .i64 0,.int .i64 0,.int .i64 0,.slice none 0 0,.slice none 0 0,.slice none 0 0] 58 ?_;intro bG hg gQ hbox hb;have b2:=am (hbox);have bT:=dh hg;have b7:=eJ hg b1;have b8:=eK hg b1;replace b1:=bn b1 hb;replace HB:=hB HB hb;clear hb hbox hg;have dP:=b7.out;have dQ:=b8.out;obtain⟨⟨_,_⟩,_,_⟩:=z2 b1)|((with_reducible refine aj (f:=42) rfl ?_);refine eI 11 Tryz.func42 (jx.calls k _ _ ag ak a1 bJ bE bK bL bM bN bF _ (kC bO) bP.out A3.out) ?_;rintro e gR ⟨bW,bX,bY,rfl,bQ,bH,bI,hb⟩;refine⟨_,rfl,?_⟩;have b3:=am (Kd.ay bQ (ah oB));have b4:=am (Kd.ay bH (ah oB));have b5:=am (Kd.ay bI (ah oB));replace b1:=bn b1 hb;replace b2:=bn b2 hb;replace HB:=hB HB hb;(try clear bH);(try clear bI))|((with_reducible refine ai (N:=6) rfl ?_);refine di 6 #[.int .i64 0,.int .i64 0,.int .i64 0,.slice none 0 0,.slice none 0 0,.slice none 0 0] 58 ?_;intro bU hg gS hbox hb;have b6:=am (hbox);have bV:=dh hg;have b9:=eJ hg b1;have bB:=eK hg b1;have bC:=eJ hg b2;have bD:=eK hg b2;replace b3:=iI b3 hb;replace b4:=iI b4 hb;replace b5:=iI b5 hb;replace b1:=bn b1 hb;replace b2:=bn b2 hb;replace HB:=hB HB hb;clear hb hbox hg;have dR:=bB.out;have dS:=b9.out;have dT:=bD.out;have dU:=bC.out;obtain⟨⟨_,_,_,_,_,_⟩,_,_,_,_,_,_⟩:=z6 b6;obtain⟨d2,d3,d4⟩:=Kd.ax b3.out;subst d4;obtain⟨d5,d6,d7⟩:=Kd.ax b4.out;subst d7;obtain⟨d8,d9,dA⟩:=Kd.ax b5.out;subst dA;obtain⟨⟨_,_,_,_,_,_⟩,_,_,_,_,_,_⟩:=z6 b2))
  refine bodyPost_ret (dd rfl _ _ bG 58 #[.int .i64 bJ,.int .i64 bE,.int .i64 bK,.slice d2 bL.length d3,.slice d5 bM.length d6,.slice d8 bN.length d9] (0,0) _ rfl (oP b2) Tryz.underlying58 rfl (by kernel_rfl)) rfl ?_;exact⟨_,_,_,oE,o_ b3 b6 b2,o_ b4 b6 b2,o_ b5 b6 b2,oB⟩
 rw[if_pos c4]at H;have bZ:(bF==0)=true:=beq_iff_eq.mpr c4;have d1:(bF !=0)=false:=bne_eq_false_iff_eq.mpr c4;clear c4
 by_cases c5:bE=1
 ·rw[if_pos c5]at H;have dB:(bE==1)=true:=beq_iff_eq.mpr c5;have dC:(bE !=1)=false:=bne_eq_false_iff_eq.mpr c5;clear c5;simp only[Option.some.injEq,Prod.mk.injEq]at H;obtain⟨rfl,rfl,rfl,rfl,rfl,rfl,rfl⟩:=H
  go_enter Tryz.func52,Tryz.ntmps52
  go_wp2_with (first|((with_reducible refine ai (N:=2) rfl ?_);refine di 2 #[.slice bj ag.length aW,.int .i64 ak] 28 ?_;intro bR hg w6 hbox hb;have b1:=am (hbox);have bS:=dh hg;replace HB:=hB HB hb;clear hb hbox hg)|((with_reducible refine ai (N:=4) rfl ?_);refine di 4 #[.int .i64 0,.int .i64 0,.int .i64 0,.slice none 0 0,.slice none 0 0,.slice none 0 0] 58 ?_;intro bG hg w7 hbox hb;have b2:=am (hbox);have bT:=dh hg;have b7:=eJ hg b1;have b8:=eK hg b1;replace b1:=bn b1 hb;replace HB:=hB HB hb;clear hb hbox hg;have gH:=b7.out;have gI:=b8.out;obtain⟨⟨_,_⟩,_,_⟩:=z2 b1)|((with_reducible refine aj (f:=42) rfl ?_);refine eI 11 Tryz.func42 (jx.calls k _ _ ag ak a1 bJ bE bK bL bM bN bF _ (kC bO) bP.out A3.out) ?_;rintro e gT ⟨bW,bX,bY,rfl,bQ,bH,bI,hb⟩;refine⟨_,rfl,?_⟩;have b3:=am (Kd.ay bQ (ah oB));have b4:=am (Kd.ay bH (ah oB));have b5:=am (Kd.ay bI (ah oB));replace b1:=bn b1 hb;replace b2:=bn b2 hb;replace HB:=hB HB hb;(try clear bH);(try clear bI))|((with_reducible refine ai (N:=6) rfl ?_);refine di 6 #[.int .i64 0,.int .i64 0,.int .i64 0,.slice none 0 0,.slice none 0 0,.slice none 0 0] 58 ?_;intro bU hg gU hbox hb;have b6:=am (hbox);have bV:=dh hg;have b9:=eJ hg b1;have bB:=eK hg b1;have bC:=eJ hg b2;have bD:=eK hg b2;replace b3:=iI b3 hb;replace b4:=iI b4 hb;replace b5:=iI b5 hb;replace b1:=bn b1 hb;replace b2:=bn b2 hb;replace HB:=hB HB hb;clear hb hbox hg;have dV:=bB.out;have dW:=b9.out;have dX:=bD.out;have dY:=bC.out;obtain⟨⟨_,_,_,_,_,_⟩,_,_,_,_,_,_⟩:=z6 b6;obtain⟨dD,dE,dF⟩:=Kd.ax b3.out;subst dF;obtain⟨dG,dH,dI⟩:=Kd.ax b4.out;subst dI;obtain⟨dJ,dK,dL⟩:=Kd.ax b5.out;subst dL;obtain⟨⟨_,_,_,_,_,_⟩,_,_,_,_,_,_⟩:=z6 b2))
  refine bodyPost_ret (dd rfl _ _ bG 58 #[.int .i64 bJ,.int .i64 bE,.int .i64 bK,.slice dD bL.length dE,.slice dG bM.length dH,.slice dJ bN.length dK] (0,0) _ rfl (oP b2) Tryz.underlying58 rfl (by kernel_rfl)) rfl ?_;exact⟨_,_,_,oE,o_ b3 b6 b2,o_ b4 b6 b2,o_ b5 b6 b2,oB⟩
 rw[if_neg c5]at H;have dB:(bE==1)=false:=beq_eq_false_iff_ne.mpr c5;have dC:(bE !=1)=true:=bne_iff_ne.mpr c5;simp only[Option.some.injEq,Prod.mk.injEq]at H;obtain⟨rfl,rfl,rfl,rfl,rfl,rfl,rfl⟩:=H
 go_enter Tryz.func52,Tryz.ntmps52
 go_wp2_with (first|((with_reducible refine ai (N:=2) rfl ?_);refine di 2 #[.slice bj ag.length aW,.int .i64 ak] 28 ?_;intro bR hg gV hbox hb;have b1:=am (hbox);have bS:=dh hg;replace HB:=hB HB hb;clear hb hbox hg)|((with_reducible refine ai (N:=4) rfl ?_);refine di 4 #[.int .i64 0,.int .i64 0,.int .i64 0,.slice none 0 0,.slice none 0 0,.slice none 0 0] 58 ?_;intro bG hg gW hbox hb;have b2:=am (hbox);have bT:=dh hg;have b7:=eJ hg b1;have b8:=eK hg b1;replace b1:=bn b1 hb;replace HB:=hB HB hb;clear hb hbox hg;have dZ:=b7.out;have gA:=b8.out;obtain⟨⟨_,_⟩,_,_⟩:=z2 b1)|((with_reducible refine aj (f:=42) rfl ?_);refine eI 11 Tryz.func42 (jx.calls k _ _ ag ak a1 bJ bE bK bL bM bN bF _ (kC bO) bP.out A3.out) ?_;rintro e gX ⟨bW,bX,bY,rfl,bQ,bH,bI,hb⟩;refine⟨_,rfl,?_⟩;have b3:=am (Kd.ay bQ (ah oB));have b4:=am (Kd.ay bH (ah oB));have b5:=am (Kd.ay bI (ah oB));replace b1:=bn b1 hb;replace b2:=bn b2 hb;replace HB:=hB HB hb;(try clear bH);(try clear bI))|((with_reducible refine ai (N:=6) rfl ?_);refine di 6 #[.int .i64 0,.int .i64 0,.int .i64 0,.slice none 0 0,.slice none 0 0,.slice none 0 0] 58 ?_;intro bU hg gY hbox hb;have b6:=am (hbox);have bV:=dh hg;have b9:=eJ hg b1;have bB:=eK hg b1;have bC:=eJ hg b2;have bD:=eK hg b2;replace b3:=iI b3 hb;replace b4:=iI b4 hb;replace b5:=iI b5 hb;replace b1:=bn b1 hb;replace b2:=bn b2 hb;replace HB:=hB HB hb;clear hb hbox hg;have gB:=bB.out;have gC:=b9.out;have gD:=bD.out;have gE:=bC.out;obtain⟨⟨_,_,_,_,_,_⟩,_,_,_,_,_,_⟩:=z6 b6;obtain⟨gJ,gK,dM⟩:=Kd.ax b3.out;subst dM;obtain⟨gL,gM,dN⟩:=Kd.ax b4.out;subst dN;obtain⟨gN,gO,dO⟩:=Kd.ax b5.out;subst dO;obtain⟨⟨_,_,_,_,_,_⟩,_,_,_,_,_,_⟩:=z6 b2))
 refine bodyPost_ret (dd rfl _ _ bG 58 #[.int .i64 0,.int .i64 0,.int .i64 0,.slice none 0 0,.slice none 0 0,.slice none 0 0] (0,0) _ rfl (oP b2) Tryz.underlying58 rfl (by kernel_rfl)) rfl ?_;exact⟨_,_,_,oE,by first|exact Kd.fy _ _ _ _ _|exact Kd.iD _ _ _ _ _|exact Kd.iE _ _ _ _ _|exact Kd.iB _ _ _ _ _|exact Kd.iC _ _ _ _ _,by first|exact Kd.fy _ _ _ _ _|exact Kd.iD _ _ _ _ _|exact Kd.iE _ _ _ _ _|exact Kd.iB _ _ _ _ _|exact Kd.iC _ _ _ _ _,by first|exact Kd.fy _ _ _ _ _|exact Kd.iD _ _ _ _ _|exact Kd.iE _ _ _ _ _|exact Kd.iB _ _ _ _ _|exact Kd.iC _ _ _ _ _,oB⟩
end Go.Proofs.YtlecajlnjmbilaaGreatDoor.P
