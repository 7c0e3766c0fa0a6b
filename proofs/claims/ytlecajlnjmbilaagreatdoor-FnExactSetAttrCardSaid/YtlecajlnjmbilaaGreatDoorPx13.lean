-- Printed walks.
import Derived.Test.YtlecajlnjmbilaaGreatDoorPx12
set_option linter.all false
set_option maxHeartbeats 8000000
set_option maxRecDepth 100000
namespace Go.Proofs.YtlecajlnjmbilaaGreatDoor.P
open Go.RowKit Go.Proofs.ab.aq Go.Proofs.ab.aM Go.Proofs.ab.aT Go.Proofs.Tryz
attribute [local go_sem] gn gp iF iG fC fD gq gr

mutual
def aE.j0:Nat→Bool→List (bm)→Int→Option (Bool)
 |0,_,_,_=>none
 |k+1,b3,b1,b2=>if b3=true then(some false)else(aE.l0 k 0 b1 b2)
def aE.l0:Nat→Int→List (bm)→Int→Option (Bool)
 |0,_,_,_=>none
 |k+1,x3,b1,b2=>if x3<(b1.length:Int)then(if 0≤x3 then((bj.f k b1 b2 ((af b1 x3).f0)).bind fun b3=>(if b3=((af b1 x3).f2)then(aE.l1 k x3 0 b1 b2 ((af b1 x3).f0) ((af b1 x3).f1) ((af b1 x3).f2) ((af b1 x3).f3) ((af b1 x3).f4) ((af b1 x3).f5))else(some false)))else(none))else(some true)
def aE.l1:Nat→Int→Int→List (bm)→Int→Int→Int→Int→List Int→List (ey)→List (ct)→Option (Bool)
 |0,_,_,_,_,_,_,_,_,_,_=>none
 |k+1,x3,x5,b1,b2,b4,b5,b6,b7,b3,b8=>if x5<(b3.length:Int)then(if 0≤x5 then((cG.f k b1 b2 ((al b3 x5).f1)).bind fun b9=>(if b9<0 then(some false)else(aE.l1 k x3 (wrap64 (x5+1)) b1 b2 b4 b5 b6 b7 b3 b8)))else(none))else(aE.l0 k (wrap64 (x3+1)) b1 b2)
end
def aE.f (k:Nat) (ag:List (bm)) (aj:Int):Option (Bool):=(bs.f k ag aj).bind fun b1=>(if b1=true then((ed.f k ag aj).bind fun b2=>(aE.j0 k ((b2.length:Int) !=(ag.length:Int)) ag aj))else(aE.j0 k true ag aj))
def aE.T1:Bool×List (List Nat×List Nat):=(true,[([],[]),([0],[0]),([1],[1]),([2,1],[2]),([3],[3]),([4,3,3],[3,4]),([5,3],[3,5]),([3],[3]),([7,3],[3,7]),([8,3],[3,8]),([6,9,3],[3,6,9]),([3,10],[3,10])])
def aE.B1:List Nat:=[0,1,3,7,15,31,63,15,143,399,1023,2047]
theorem aE.aa9:g_ .any (opsOf Tryz.f40 1)=aE.T1:=by kernel_rfl
theorem aE.uY:eX aE.T1.2 aE.B1=true:=by kernel_rfl
def aE.T12:Bool×List (List Nat×List Nat):=(true,[([],[]),([],[]),([1],[1]),([],[]),([2,3],[2,3]),([4],[4]),([5],[5]),([0,6],[0,6]),([7],[7])])
def aE.B12:List Nat:=[0,0,2,0,14,30,62,127,255]
theorem aE.acN:g_ .any (opsOf Tryz.f40 12)=aE.T12:=by kernel_rfl
theorem aE.abb:eX aE.T12.2 aE.B12=true:=by kernel_rfl
theorem aE.calls (k:Nat) (bo:Option Addr) (bg:Nat) (ag:List (bm)) (aj:Int) (r:Bool) (w:World) (cv:Kd.C fN w bo ag.length ag) (cA:ag.length≤bg) (h:aE.f k ag aj=some r):
  Calls Tryz.prog 40 #[.agg #[.slice bo ag.length bg,.int .i64 aj]] w fun e w'=>e= .returned (.bool r)∧Below w.heap.size w w':=by
 have gJ:=underlying28;have gK:=underlying58;have bI:=ae.mk cv;have bK:=ae.mk cA;clear cv cA;have HB:=am (Below.refl w.heap.size w);unfold aE.f at h;have H:=h;clear h;have dA:=ae.mk H;clear H
 go_enter func40,ntmps40
 go_upto_region 1 with(first|((with_reducible refine ai (N:=1) rfl ?_);(try(refine aW (by rfl) ?_;dsimp only));refine eh 1 #[.slice bo ag.length bg,.int .i64 aj] 28 ?_;intro b6 hg w3 hbox hb;have b2:=am (hbox);have dX:=eg hg;replace HB:=hB HB hb;clear hb hbox hg))
 (try simp only[Act.put,List.setIfInBounds_toArray,List.set_cons_zero,List.set_cons_succ])
 go_cut [17] (fun dR wc=>∃(kq:Nat) (bP:Bool),dR= .bool bP∧ae (aE.j0 kq bP ag aj=some r)∧ae (kq≤k)∧ae (wc.heap[b6]? =some (.cells #[(.slice bo ag.length bg),.int .i64 aj] 28 (0,0)))∧ae (Below w.heap.size w wc))
 case first=>
  have H:=dA.out;clear dA;replace H:=bA H;obtain⟨gL,A4,H⟩:=H
  try dsimp only at H
  replace H:=kN H;rcases H with⟨rfl,H⟩|⟨rfl,H⟩;rotate_left
  ·have H':=ae.mk H;clear H
   try go_wp2
   replace b2:=am (ar b2.out);replace HB:=am (au HB.out);refine mb 12 (fun w'=>w'.cell? ⟨b6,0,none⟩=some (.slice bo ag.length bg)∧w'.cell? ⟨b6,1,none⟩=some (.int .i64 aj)) aE.aa9 aE.uY oH (fun hHeld av eH=> ?_);generalize w3.drew=gP at b2 HB hHeld⊢;refine fO 0 6 av eH hHeld ?_;refine kQ 1 7 av (fun K hK=> ?_);refine l_ 7 func79 (bs.calls k _ _ ag aj false _ (kC bI) bK.out A4.out) ?_;rintro e gQ ⟨rfl,hb⟩;refine⟨_,rfl,?_⟩;replace b2:=aQ b2 hb;replace HB:=hB HB hb;refine eP hK 7 oH (fun hHeld=> ?_);clear hK K;refine bx 2 8 av ?_;refine bx 3 9 av ?_;refine fF 4 10 av ?_;refine fF 5 11 av ?_;refine fF 6 12 av ?_;refine fF 7 13 av ?_;refine fF 8 14 av ?_;refine fF 9 15 av ?_;refine fF 10 16 av ?_;refine bx 11 17 av ?_;refine lZ av ?_
   try go_wp2
   go_meet
   case rel=>exact⟨_,(true),oS,H',⟨by first|omega|exact Nat.le_refl _⟩,⟨oF b2⟩,⟨oB⟩⟩
  replace H:=bA H;obtain⟨dB,A6,H⟩:=H
  try dsimp only at H
  have H':=ae.mk H;clear H
  try go_wp2
  replace b2:=am (ar b2.out);replace HB:=am (au HB.out);refine mb 12 (fun w'=>w'.cell? ⟨b6,0,none⟩=some (.slice bo ag.length bg)∧w'.cell? ⟨b6,1,none⟩=some (.int .i64 aj)) aE.aa9 aE.uY oH (fun hHeld av eH=> ?_);generalize w3.drew=w7 at b2 HB hHeld⊢;refine fO 0 6 av eH hHeld ?_;refine kQ 1 7 av (fun K hK=> ?_);refine l_ 7 func79 (bs.calls k _ _ ag aj true _ (kC bI) bK.out A4.out) ?_;rintro e w8 ⟨rfl,hb⟩;refine⟨_,rfl,?_⟩;replace b2:=aQ b2 hb;replace HB:=hB HB hb;refine eP hK 7 oH (fun hHeld=> ?_);clear hK K;refine bx 2 8 av ?_;refine bx 3 9 av ?_;refine bx 7 13 av ?_;refine fO 4 10 av eH hHeld ?_;refine fO 8 14 av eH hHeld ?_;refine bx 9 15 av ?_;refine kQ 5 11 av (fun K hK=> ?_);refine l_ 11 func80 (ed.calls k _ _ ag aj dB _ (kC bI) bK.out A6.out) ?_;rintro e w9 ⟨gM,rfl,dS,hb⟩;refine⟨_,rfl,?_⟩;have dE:=am (Kd.aw dS (ah oB));replace b2:=aQ b2 hb;replace HB:=hB HB hb;obtain⟨gN,gO,dC⟩:=Kd.ax dE.out
  (first|subst dC|(injection dC with kL nA kM;have dT:=kL.symm;have dU:=kM.symm;clear kL nA kM;subst dT;subst dU))
  refine eP hK 11 oH (fun hHeld=> ?_);clear hK K;refine bx 6 12 av ?_;refine bx 10 16 av ?_;refine bx 11 17 av ?_;refine lZ av ?_
  try go_wp2
  go_meet
  case rel=>exact⟨_,(((dB.length:Int) !=(ag.length:Int))),oS,H',⟨by first|omega|exact Nat.le_refl _⟩,⟨oF b2⟩,⟨oB⟩⟩
 case rest=>
  clear dA;obtain⟨kq,bP,rfl,HA,bS,b2,HB⟩:=hcut
  cases kq with
  |zero=>exact absurd HA.out (by simp[aE.j0])
  |succ wm=>
   have H:=HA.out;clear HA;simp only[aE.j0]at H;replace H:=kN H;rcases H with⟨rfl,H⟩|⟨rfl,H⟩
   ·obtain rfl:=Option.some.inj H
    go_wp2
    go_ret
    exact⟨oE,oB⟩
   have H':=ae.mk H;clear H
   go_wp2
   go_loopg [3] wm (fun kq v3 w'=>∃(b1:Int),v3= .int .i64 b1∧ae (aE.l0 kq b1 ag aj=some r)∧ae (kq≤wm)∧ae (w'.heap[b6]? =some (.cells #[(.slice bo ag.length bg),.int .i64 aj] 28 (0,0)))∧ae (Below w.heap.size w w'))
   case atStart=>exact⟨(0),oS,H',⟨Nat.le_refl _⟩,⟨oF b2⟩,⟨oB⟩⟩
   case round=>
    clear H';obtain⟨b1,rfl,HA,bT,b2,HB⟩:=hrel
    cases gk with
    |zero=>exact absurd HA.out (by simp[aE.l0])
    |succ k2=>
     have H:=HA.out;clear HA;simp only[aE.l0]at H;replace H:=iM H;rcases H with⟨bU,H⟩|⟨bU,H⟩;rotate_left
     ·obtain rfl:=Option.some.inj H;obtain⟨⟨_,_⟩,_,_⟩:=z2 b2
      go_wp2
      go_ret
      exact⟨oE,oB⟩
     obtain⟨dF,H⟩:=cO H;replace H:=bA H;obtain⟨bM,dL,H⟩:=H
     try dsimp only at H
     by_cases bO:bM=((af ag b1).f2)
     rotate_left
     ·rw[if_neg bO]at H;have dG:(bM==((af ag b1).f2))=false:=beq_eq_false_iff_ne.mpr bO;have dH:(bM !=((af ag b1).f2))=true:=bne_iff_ne.mpr bO;obtain rfl:=Option.some.inj H;obtain⟨⟨_,_⟩,_,_⟩:=z2 b2;have dN:(0≤(b1:Int))=True:=oT;have dO:(b1<(ag.length:Int))=True:=oT;obtain⟨bL,b9,bB,bH,bC,bD,bE,bQ,bW,bX,bY,bZ,d1,d2,d3,d4,d5,bN,d6,d7⟩:=fw bI HB b1 oa oa
      cases bQ
      try go_wp2_with (first|((with_reducible refine ai (N:=4) rfl ?_);(try(refine aW (by rfl) ?_;dsimp only));refine eh 4 #[.int .i64 0,.int .i64 0,.int .i64 0,.slice none 0 0,.slice none 0 0,.slice none 0 0] 58 ?_;intro b3 hg dV hbox hb;have b4:=am (hbox);have dI:=eg hg;have bF:=eY hg b2;have bG:=eZ hg b2;replace b2:=aQ b2 hb;replace HB:=hB HB hb;clear hb hbox hg;have dY:=bG.out;have dZ:=bF.out;obtain⟨⟨_,_,_,_,_,_⟩,_,_,_,_,_,_⟩:=z6 b4))
      generalize jy:((((((dV.setCell ⟨b3,0,none⟩ (.int .i64 ((af ag b1).f0))).setCell ⟨b3,1,none⟩ (.int .i64 ((af ag b1).f1))).setCell ⟨b3,2,none⟩ (.int .i64 ((af ag b1).f2))).setCell ⟨b3,3,none⟩ (.slice b9 ((af ag b1).f3).length bB)).setCell ⟨b3,4,none⟩ (.slice bH ((af ag b1).f4).length bC)).setCell ⟨b3,5,none⟩ (.slice bD ((af ag b1).f5).length bE))=w43;replace b2:=w_ jy b2;replace b4:=xa #[.int .i64 ((af ag b1).f0),.int .i64 ((af ag b1).f1),.int .i64 ((af ag b1).f2),.slice b9 ((af ag b1).f3).length bB,.slice bH ((af ag b1).f4).length bC,.slice bD ((af ag b1).f5).length bE] jy b4;replace HB:=xb jy HB;clear jy;replace b2:=am (ar b2.out);replace b4:=am (ar b4.out);replace HB:=am (au HB.out);refine s0_ 7 (fun w'=>w'.cell? ⟨b6,0,none⟩=some (.slice (some bL) ag.length bg)∧w'.cell? ⟨b6,1,none⟩=some (.int .i64 aj)∧w'.cell? ⟨b3,0,none⟩=some (.int .i64 ((af ag b1).f0))∧w'.cell? ⟨b3,1,none⟩=some (.int .i64 ((af ag b1).f1))∧w'.cell? ⟨b3,2,none⟩=some (.int .i64 ((af ag b1).f2))∧w'.cell? ⟨b3,3,none⟩=some (.slice b9 ((af ag b1).f3).length bB)∧w'.cell? ⟨b3,4,none⟩=some (.slice bH ((af ag b1).f4).length bC)∧w'.cell? ⟨b3,5,none⟩=some (.slice bD ((af ag b1).f5).length bE)) oH (fun hHeld=> ?_);generalize w43.drew=gR at b2 b4 HB hHeld⊢;refine uu 1 31 ?_;refine uu 4 34 ?_;refine vI 0 30 hHeld ?_;refine vI 2 32 hHeld ?_;refine vI 5 35 hHeld ?_;refine o0_ 3 33 (fun K hK=> ?_);refine l_ 33 func81 (bj.calls k2 _ _ ag aj ((af ag b1).f0) bM _ (kC bI) bK.out dL.out) ?_;rintro e gS ⟨rfl,hb⟩;refine⟨_,rfl,?_⟩;replace b2:=aQ b2 hb;replace b4:=aQ b4 hb;replace HB:=hB HB hb;refine eP hK 33 oH (fun hHeld=> ?_);clear hK K;refine uu 6 36 ?_;refine ra (by kernel_rfl) ?_
      try go_wp2
      go_ret
      exact⟨oE,oB⟩
     rw[if_pos bO]at H;have dG:(bM==((af ag b1).f2))=true:=beq_iff_eq.mpr bO;have dH:(bM !=((af ag b1).f2))=false:=bne_eq_false_iff_eq.mpr bO;clear bO;have H':=ae.mk H;clear H;obtain⟨⟨_,_⟩,_,_⟩:=z2 b2;have dN:(0≤(b1:Int))=True:=oT;have dO:(b1<(ag.length:Int))=True:=oT;obtain⟨bL,b9,bB,bH,bC,bD,bE,bQ,bW,bX,bY,bZ,d1,d2,d3,d4,d5,bN,d6,d7⟩:=fw bI HB b1 oa oa
     cases bQ
     try go_wp2_with (first|((with_reducible refine ai (N:=4) rfl ?_);(try(refine aW (by rfl) ?_;dsimp only));refine eh 4 #[.int .i64 0,.int .i64 0,.int .i64 0,.slice none 0 0,.slice none 0 0,.slice none 0 0] 58 ?_;intro b3 hg dW hbox hb;have b4:=am (hbox);have dI:=eg hg;have bF:=eY hg b2;have bG:=eZ hg b2;replace b2:=aQ b2 hb;replace HB:=hB HB hb;clear hb hbox hg;have gA:=bG.out;have gB:=bF.out;obtain⟨⟨_,_,_,_,_,_⟩,_,_,_,_,_,_⟩:=z6 b4))
     generalize jy:((((((dW.setCell ⟨b3,0,none⟩ (.int .i64 ((af ag b1).f0))).setCell ⟨b3,1,none⟩ (.int .i64 ((af ag b1).f1))).setCell ⟨b3,2,none⟩ (.int .i64 ((af ag b1).f2))).setCell ⟨b3,3,none⟩ (.slice b9 ((af ag b1).f3).length bB)).setCell ⟨b3,4,none⟩ (.slice bH ((af ag b1).f4).length bC)).setCell ⟨b3,5,none⟩ (.slice bD ((af ag b1).f5).length bE))=w22;replace b2:=w_ jy b2;replace b4:=xa #[.int .i64 ((af ag b1).f0),.int .i64 ((af ag b1).f1),.int .i64 ((af ag b1).f2),.slice b9 ((af ag b1).f3).length bB,.slice bH ((af ag b1).f4).length bC,.slice bD ((af ag b1).f5).length bE] jy b4;replace HB:=xb jy HB;clear jy;replace b2:=am (ar b2.out);replace b4:=am (ar b4.out);replace HB:=am (au HB.out);refine s0_ 7 (fun w'=>w'.cell? ⟨b6,0,none⟩=some (.slice (some bL) ag.length bg)∧w'.cell? ⟨b6,1,none⟩=some (.int .i64 aj)∧w'.cell? ⟨b3,0,none⟩=some (.int .i64 ((af ag b1).f0))∧w'.cell? ⟨b3,1,none⟩=some (.int .i64 ((af ag b1).f1))∧w'.cell? ⟨b3,2,none⟩=some (.int .i64 ((af ag b1).f2))∧w'.cell? ⟨b3,3,none⟩=some (.slice b9 ((af ag b1).f3).length bB)∧w'.cell? ⟨b3,4,none⟩=some (.slice bH ((af ag b1).f4).length bC)∧w'.cell? ⟨b3,5,none⟩=some (.slice bD ((af ag b1).f5).length bE)) oH (fun hHeld=> ?_);generalize w22.drew=gT at b2 b4 HB hHeld⊢;refine uu 1 31 ?_;refine uu 4 34 ?_;refine vI 0 30 hHeld ?_;refine vI 2 32 hHeld ?_;refine vI 5 35 hHeld ?_;refine o0_ 3 33 (fun K hK=> ?_);refine l_ 33 func81 (bj.calls k2 _ _ ag aj ((af ag b1).f0) bM _ (kC bI) bK.out dL.out) ?_;rintro e gU ⟨rfl,hb⟩;refine⟨_,rfl,?_⟩;replace b2:=aQ b2 hb;replace b4:=aQ b4 hb;replace HB:=hB HB hb;refine eP hK 33 oH (fun hHeld=> ?_);clear hK K;refine uu 6 36 ?_;refine ra (by kernel_rfl) ?_
     try go_wp2
     go_loopg [5] k2 (fun kq v5 w'=>∃(b5:Int),v5= .int .i64 b5∧ae (aE.l1 kq b1 b5 ag aj ((af ag b1).f0) ((af ag b1).f1) ((af ag b1).f2) ((af ag b1).f3) ((af ag b1).f4) ((af ag b1).f5)=some r)∧ae (kq≤k2)∧ae (w'.heap[b6]? =some (.cells #[(.slice (some bL) ag.length bg),.int .i64 aj] 28 (0,0)))∧ae (w'.heap[b3]? =some (.cells #[.int .i64 ((af ag b1).f0),.int .i64 ((af ag b1).f1),.int .i64 ((af ag b1).f2),(.slice b9 ((af ag b1).f3).length bB),(.slice bH ((af ag b1).f4).length bC),(.slice bD ((af ag b1).f5).length bE)] 58 (0,0)))∧ae (Below w.heap.size w w'))
     case atStart=>exact⟨(0),oS,H',⟨Nat.le_refl _⟩,⟨oF b2⟩,⟨oF b4⟩,⟨oB⟩⟩
     case round=>
      clear H'
      try clear bU
      try clear dF
      try clear bO
      obtain⟨b5,rfl,HA,bV,b2,b4,HB⟩:=hrel
      cases gk with
      |zero=>exact absurd HA.out (by simp[aE.l1])
      |succ k3=>
       have H:=HA.out;clear HA;simp only[aE.l1]at H;replace H:=iM H;rcases H with⟨dJ,H⟩|⟨dJ,H⟩;rotate_left
       ·have H':=ae.mk H;clear H;have gC:=bG.out;have gD:=bF.out;obtain⟨⟨_,_,_,_,_,_⟩,_,_,_,_,_,_⟩:=z6 b4
        go_wp2
        go_roundg k3
        case measure=>have:=bS.out;have:=bT.out;have:=bV.out;omega
        case rel=>exact⟨(wrap64 (b1+1)),oS,H',⟨by have:=bS.out;have:=bT.out;have:=bV.out;omega⟩,⟨oF b2⟩,⟨oB⟩⟩
       obtain⟨gE,H⟩:=cO H;replace H:=bA H;obtain⟨dD,dM,H⟩:=H
       try dsimp only at H
       replace H:=iM H;rcases H with⟨dK,H⟩|⟨dK,H⟩
       ·obtain rfl:=Option.some.inj H;have gF:=bG.out;have gG:=bF.out;obtain⟨⟨_,_,_,_,_,_⟩,_,_,_,_,_,_⟩:=z6 b4
        try go_wp2
        replace b2:=am (ar b2.out);replace b4:=am (ar b4.out);replace HB:=am (au HB.out);have dP:(0≤(b5:Int))=True:=oT;have dQ:(b5<(((af ag b1).f4).length:Int))=True:=oT;obtain⟨bJ,bR,b7,b8⟩:=dd bN.out b5 oa oa;have d8:=b8;have d9:=b7
        cases bR
        replace b7:=cB HB b7;replace b8:=cB HB b8;refine mb 9 (fun w'=>w'.cell? ⟨b6,0,none⟩=some (.slice (some bL) ag.length bg)∧w'.cell? ⟨b6,1,none⟩=some (.int .i64 aj)∧w'.cell? ⟨b3,0,none⟩=some (.int .i64 ((af ag b1).f0))∧w'.cell? ⟨b3,1,none⟩=some (.int .i64 ((af ag b1).f1))∧w'.cell? ⟨b3,2,none⟩=some (.int .i64 ((af ag b1).f2))∧w'.cell? ⟨b3,3,none⟩=some (.slice b9 ((af ag b1).f3).length bB)∧w'.cell? ⟨b3,4,none⟩=some (.slice (some bJ) ((af ag b1).f4).length bC)∧w'.cell? ⟨b3,5,none⟩=some (.slice bD ((af ag b1).f5).length bE)∧w'.cell? (bJ.add ((b5).toNat*2))=some (.string ((al ((af ag b1).f4) b5).f0))∧w'.cell? ⟨(bJ.add ((b5).toNat*2)).block,(bJ.add ((b5).toNat*2)).off+1,none⟩=some (.int .i64 ((al ((af ag b1).f4) b5).f1))) aE.acN aE.abb oH (fun hHeld av eH=> ?_);generalize wr.drew=gV at b2 b4 HB b7 b8 hHeld⊢;refine bx 1 45 av ?_;refine bx 3 47 av ?_;refine fO 0 44 av eH hHeld ?_;refine fO 2 46 av eH hHeld ?_;refine bx 4 48 av ?_;refine bx 5 49 av ?_;refine fO 6 50 av eH hHeld ?_;refine kQ 7 51 av (fun K hK=> ?_);refine l_ 51 func82 (cG.calls k3 _ _ ag aj ((al ((af ag b1).f4) b5).f1) dD _ (kC bI) bK.out dM.out) ?_;rintro e gW ⟨rfl,hb⟩;refine⟨_,rfl,?_⟩;replace b2:=aQ b2 hb;replace b4:=aQ b4 hb;replace HB:=hB HB hb;refine eP hK 51 oH (fun hHeld=> ?_);clear hK K;refine bx 8 52 av ?_;refine lZ av ?_
        try go_wp2
        go_ret
        exact⟨oE,oB⟩
       have H':=ae.mk H;clear H;have gH:=bG.out;have gI:=bF.out;obtain⟨⟨_,_,_,_,_,_⟩,_,_,_,_,_,_⟩:=z6 b4
       try go_wp2
       replace b2:=am (ar b2.out);replace b4:=am (ar b4.out);replace HB:=am (au HB.out);have dP:(0≤(b5:Int))=True:=oT;have dQ:(b5<(((af ag b1).f4).length:Int))=True:=oT;obtain⟨bJ,bR,b7,b8⟩:=dd bN.out b5 oa oa;have d8:=b8;have d9:=b7
       cases bR
       replace b7:=cB HB b7;replace b8:=cB HB b8;refine mb 9 (fun w'=>w'.cell? ⟨b6,0,none⟩=some (.slice (some bL) ag.length bg)∧w'.cell? ⟨b6,1,none⟩=some (.int .i64 aj)∧w'.cell? ⟨b3,0,none⟩=some (.int .i64 ((af ag b1).f0))∧w'.cell? ⟨b3,1,none⟩=some (.int .i64 ((af ag b1).f1))∧w'.cell? ⟨b3,2,none⟩=some (.int .i64 ((af ag b1).f2))∧w'.cell? ⟨b3,3,none⟩=some (.slice b9 ((af ag b1).f3).length bB)∧w'.cell? ⟨b3,4,none⟩=some (.slice (some bJ) ((af ag b1).f4).length bC)∧w'.cell? ⟨b3,5,none⟩=some (.slice bD ((af ag b1).f5).length bE)∧w'.cell? (bJ.add ((b5).toNat*2))=some (.string ((al ((af ag b1).f4) b5).f0))∧w'.cell? ⟨(bJ.add ((b5).toNat*2)).block,(bJ.add ((b5).toNat*2)).off+1,none⟩=some (.int .i64 ((al ((af ag b1).f4) b5).f1))) aE.acN aE.abb oH (fun hHeld av eH=> ?_);generalize wr.drew=gX at b2 b4 HB b7 b8 hHeld⊢;refine bx 1 45 av ?_;refine bx 3 47 av ?_;refine fO 0 44 av eH hHeld ?_;refine fO 2 46 av eH hHeld ?_;refine bx 4 48 av ?_;refine bx 5 49 av ?_;refine fO 6 50 av eH hHeld ?_;refine kQ 7 51 av (fun K hK=> ?_);refine l_ 51 func82 (cG.calls k3 _ _ ag aj ((al ((af ag b1).f4) b5).f1) dD _ (kC bI) bK.out dM.out) ?_;rintro e gY ⟨rfl,hb⟩;refine⟨_,rfl,?_⟩;replace b2:=aQ b2 hb;replace b4:=aQ b4 hb;replace HB:=hB HB hb;refine eP hK 51 oH (fun hHeld=> ?_);clear hK K;refine bx 8 52 av ?_;refine lZ av ?_
       try go_wp2
       go_roundg k3
       case measure=>have:=bS.out;have:=bT.out;have:=bV.out;omega
       case rel=>exact⟨(wrap64 (b5+1)),oS,H',⟨by have:=bS.out;have:=bT.out;have:=bV.out;omega⟩,⟨oF b2⟩,⟨oF b4⟩,⟨oB⟩⟩

def dk.l0:Nat→List ByteArray→Int→Int→List (bm)→Int→Option (Bool)
 |0,_,_,_,_,_=>none
 |k+1,x9,b5,b3,b1,b2=>if b3<b5 then(if 0≤b3 then(if b3<(x9.length:Int)then((eV.f k (lx ByteArray.empty x9 b3)).bind fun b4=>(if b4.2=true then(dk.l0 k x9 b5 (wrap64 (b3+1)) b1 b2)else(some false)))else(none))else(none))else((bh.f k b1 b2).bind fun b6=>(some b6))
def dk.f (k:Nat) (ag:List (bm)) (aj:Int) (l1:List ByteArray):Option (Bool):=dk.l0 k l1 (l1.length:Int) 0 ag aj
theorem dk.calls (k:Nat) (bo:Option Addr) (bg:Nat) (ag:List (bm)) (aj:Int) (A1:Option Addr) (c1:Nat) (l1:List ByteArray) (r:Bool) (w:World) (cv:Kd.C fN w bo ag.length ag) (cA:ag.length≤bg) (hr1:Kd.C Kd.string w A1 l1.length l1) (hc1:l1.length≤c1) (h:dk.f k ag aj l1=some r) (hG:GOk w:=by exact gk_ oB (by first|(with_reducible assumption)|assumption)):
  Calls Tryz.prog 46 #[.agg #[.slice bo ag.length bg,.int .i64 aj],.slice A1 l1.length c1] w fun e w'=>e= .returned (.bool r)∧Below w.heap.size w w':=by
 have HG:=ae.mk hG;clear hG;have bN:=underlying28;have b7:=ae.mk cv;have b8:=ae.mk cA;clear cv cA;have bD:=ae.mk hr1;have bR:=ae.mk hc1;clear hr1 hc1;have HB:=am (Below.refl w.heap.size w);unfold dk.f at h;have H:=h;clear h;have H':=ae.mk H;clear H
 go_enter func46,ntmps46
 go_wp2_with (first|((with_reducible refine ai (N:=2) rfl ?_);refine eh 2 #[.slice bo ag.length bg,.int .i64 aj] 28 ?_;intro b9 hg w3 hbox hb;have b2:=am (hbox);have bM:=eg hg;replace HB:=hB HB hb;clear hb hbox hg))
 go_loopg [11] k (fun kq bK w'=>∃(b1:Int),bK= .int .i64 b1∧ae (dk.l0 kq l1 (l1.length:Int) b1 ag aj=some r)∧ae (kq≤k)∧ae (w'.heap[b9]? =some (.cells #[(.slice bo ag.length bg),.int .i64 aj] 28 (0,0)))∧ae (Below w.heap.size w w'))
 case atStart=>exact⟨(0),oS,H',⟨Nat.le_refl _⟩,⟨oF b2⟩,⟨oB⟩⟩
 case round=>
  clear H'
  try clear c1
  obtain⟨b1,rfl,HA,bE,b2,HB⟩:=hrel
  cases gk with
  |zero=>exact absurd HA.out (by simp[dk.l0])
  |succ k1=>
   have H:=HA.out;clear HA;simp only[dk.l0]at H;replace H:=iM H;rcases H with⟨bF,H⟩|⟨bF,H⟩;rotate_left
   ·replace H:=bA H;obtain⟨bG,bL,H⟩:=H
    try dsimp only at H
    obtain rfl:=Option.some.inj H;obtain⟨⟨_,_⟩,_,_⟩:=z2 b2
    go_wp2_with (first|((with_reducible refine ak (f:=89) rfl ?_);refine fe 24 func89 (bh.calls k1 _ _ ag aj bG _ (kC b7) b8.out bL.out) ?_;rintro e bS ⟨rfl,hb⟩;refine⟨_,rfl,?_⟩;replace b2:=aQ b2 hb;replace HB:=hB HB hb))
    go_ret
    exact⟨oE,oB⟩
   obtain⟨bO,H⟩:=cO H;obtain⟨bP,H⟩:=cO H;replace H:=bA H;obtain⟨⟨b5,bQ⟩,A7,H⟩:=H
   try dsimp only at H
   replace H:=kN H;rcases H with⟨rfl,H⟩|⟨rfl,H⟩;rotate_left
   ·obtain rfl:=Option.some.inj H;have bH:(0≤(b1:Int))=True:=oT;have bI:(b1<(l1.length:Int))=True:=oT;obtain⟨bB,b4,b3⟩:=Kd.ig bD.out b1 oa oa
    cases b4
    replace b3:=cB HB b3
    go_wp2_with (first|((with_reducible refine ak (f:=88) rfl ?_);refine fe 17 func88 (eV.calls k1 (lx ByteArray.empty l1 b1) b5 false _ A7.out) ?_;rintro e bT ⟨bJ,rfl,b6,hb⟩;refine⟨_,rfl,?_⟩;have bC:=am (Kd.qR b6 (ah oB));replace b2:=aQ b2 hb;replace HB:=hB HB hb))
    go_ret
    exact⟨oE,oB⟩
   have H':=ae.mk H;clear H;have bH:(0≤(b1:Int))=True:=oT;have bI:(b1<(l1.length:Int))=True:=oT;obtain⟨bB,b4,b3⟩:=Kd.ig bD.out b1 oa oa
   cases b4
   replace b3:=cB HB b3
   go_wp2_with (first|((with_reducible refine ak (f:=88) rfl ?_);refine fe 17 func88 (eV.calls k1 (lx ByteArray.empty l1 b1) b5 true _ A7.out) ?_;rintro e w9 ⟨bJ,rfl,b6,hb⟩;refine⟨_,rfl,?_⟩;have bC:=am (Kd.qR b6 (ah oB));replace b2:=aQ b2 hb;replace HB:=hB HB hb))
   go_roundg k1
   case measure=>have:=bE.out;omega
   case rel=>exact⟨(wrap64 (b1+1)),oS,H',⟨by have:=bE.out;omega⟩,⟨oF b2⟩,⟨oB⟩⟩
end Go.Proofs.YtlecajlnjmbilaaGreatDoor.P
