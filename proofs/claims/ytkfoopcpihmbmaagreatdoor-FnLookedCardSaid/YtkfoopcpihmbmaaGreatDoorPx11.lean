-- Printed walks.
import Derived.Test.YtkfoopcpihmbmaaGreatDoorPx1
import Derived.Test.YtkfoopcpihmbmaaGreatDoorPx10
set_option linter.all false
set_option maxHeartbeats 8000000
set_option maxRecDepth 100000
namespace Go.Proofs.YtkfoopcpihmbmaaGreatDoor.P
open Go.RowKit Go.Proofs.ab.av Go.Proofs.ab.aQ Go.Proofs.ab.aT Go.Proofs.Tryz
attribute [local go_sem] fP fQ hJ hO fm fo fR fS

mutual
def aE.j0:Nat→ByteArray→Int→List Int→Bool→List (aW)→Int→Option ((List (aW))×Int×Int)
 |0,_,_,_,_,_,_=>none
 |k+1,x1,x2,x3,b5,b2,b3=>if b5=true then((aG.f k b2 b3).bind fun b4=>(some (b4.1,b4.2,1)))else((ft.f k b2 b3 x1).bind fun b1=>(if b1.2.2.2.2.2.2=0 then(aE.j1 k x2 x3 b1.2.2.2.2.2.2 (decide ((x3.length:Int)>(wrap64 (100-x2)))) b2 b3 b1.1 b1.2.1 b1.2.2.1 b1.2.2.2.1 b1.2.2.2.2.1 b1.2.2.2.2.2.1)else(aE.j1 k x2 x3 b1.2.2.2.2.2.2 false b2 b3 b1.1 b1.2.1 b1.2.2.1 b1.2.2.2.1 b1.2.2.2.2.1 b1.2.2.2.2.2.1)))
def aE.j1:Nat→Int→List Int→Int→Bool→List (aW)→Int→Int→Int→Int→List Int→List (cD)→List (bj)→Option ((List (aW))×Int×Int)
 |0,_,_,_,_,_,_,_,_,_,_,_,_=>none
 |k+1,x2,x3,b9,bB,b1,b2,b3,b4,b5,b6,b7,b8=>if bB=true then(aE.j2 k x2 x3 5 b1 b2 b3 b4 b5 b6 b7 b8)else(aE.j2 k x2 x3 b9 b1 b2 b3 b4 b5 b6 b7 b8)
def aE.j2:Nat→Int→List Int→Int→List (aW)→Int→Int→Int→Int→List Int→List (cD)→List (bj)→Option ((List (aW))×Int×Int)
 |0,_,_,_,_,_,_,_,_,_,_,_=>none
 |k+1,x2,x3,bB,b1,b2,b4,b5,b6,b7,b8,b9=>if bB=0 then(aE.l0 k x2 x3 b1 b2 b4 b5 b6 b7 b8 b9)else((aG.f k b1 b2).bind fun b3=>(some (b3.1,b3.2,bB)))
def aE.l0:Nat→Int→List Int→List (aW)→Int→Int→Int→Int→List Int→List (cD)→List (bj)→Option ((List (aW))×Int×Int)
 |0,_,_,_,_,_,_,_,_,_,_=>none
 |k+1,x2,x3,b2,b3,b4,b5,b6,b1,b7,b8=>if(b1.length:Int)<(wrap64 (x2+(x3.length:Int)))then(if b1.length<140737488355328 then(aE.l0 k x2 x3 b2 b3 b4 b5 b6 (b1++[0]) b7 b8)else(none))else(aE.l1 k x2 x3 0 b2 b3 b4 b5 b6 b1 b7 b8)
def aE.l1:Nat→Int→List Int→Int→List (aW)→Int→Int→Int→Int→List Int→List (cD)→List (bj)→Option ((List (aW))×Int×Int)
 |0,_,_,_,_,_,_,_,_,_,_,_=>none
 |k+1,x2,x3,b2,b3,b4,b5,b6,b7,b1,b8,b9=>if b2<(x3.length:Int)then(if 0≤b2 then(if 0≤(wrap64 (x2+b2))then(if(wrap64 (x2+b2))<(b1.length:Int)then(aE.l1 k x2 x3 (wrap64 (b2+1)) b3 b4 b5 b6 b7 (b1.set ((wrap64 (x2+b2)):Int).toNat (rd x3 b2)) b8 b9)else(none))else(none))else(none))else((aD.f k b3 b4 b5 b6 b7 b1 b8 b9).bind fun bB=>(some (bB.1,bB.2,0)))
end
def aE.f (k:Nat) (ah:List (aW)) (al:Int) (a1:ByteArray) (a2:Int) (l3:List Int):Option ((List (aW))×Int×Int):=(aH.f k a1).bind fun b1=>((aw.f k ah al).bind fun b2=>(if b2=true then(if b1.2=true then((bg.f a2 0 100).bind fun b3=>(aE.j0 k a1 a2 l3 (!b3) ah al))else(aE.j0 k a1 a2 l3 true ah al))else(aE.j0 k a1 a2 l3 true ah al)))
def aE.T14:Bool×List (List Nat×List Nat):=(true,[([],[]),([0],[0]),([],[]),([],[]),([2,3],[2,3]),([],[]),([],[]),([5,6],[5,6]),([7],[7]),([1,4,0,1,2,3,4,5,6,7,8],[1,4]),([9,8,0,1,2,3,4,5,6,7,8],[8,9])])
def aE.B14:List Nat:=[0,1,0,0,12,0,0,96,224,511,1023]
theorem aE.aaR:fK .any (opsOf Tryz.f41 14)=aE.T14:=by kernel_rfl
theorem aE.vN:ep aE.T14.2 aE.B14=true:=by kernel_rfl
theorem aE.calls (k:Nat) (bs:Option Addr) (bo:Nat) (ah:List (aW)) (al:Int) (a1:ByteArray) (a2:Int) (A3:Option Addr) (c3:Nat) (l3:List Int) (r1:List (aW)) (r2:Int) (r3:Int) (w:World) (cy:Kd.C k32 w bs ah.length ah) (cA:ah.length≤bo) (hr3:Kd.C (Kd.int .u8) w A3 l3.length l3) (hc3:l3.length≤c3) (h:aE.f k ah al a1 a2 l3=some (r1,r2,r3)):
  Calls Tryz.prog 41 #[.agg #[.slice bs ah.length bo,.int .i64 al],.string a1,.int .i64 a2,.slice A3 l3.length c3] w fun e w'=>∃fy:Value,e= .returned (.tuple #[.agg #[fy,.int .i64 r2],.int .i64 r3])∧Kd.N k32 32 w' w.heap.size (fun k_=>(w.heap.size≤k_)) fy r1∧Below w.heap.size w w':=by
 have zL:=underlying26;have zM:=underlying32;have bZ:=ae.mk cy;have d1:=ae.mk cA;clear cy cA;have jX:=ae.mk hr3;have zZ:=ae.mk hc3;clear hr3 hc3;have HB:=am (Below.refl w.heap.size w);unfold aE.f at h;have H:=h;clear h;replace H:=bA H;obtain⟨⟨jB,jC⟩,A5,H⟩:=H
 try dsimp only at H
 have gD:=ae.mk H;clear H
 go_enter func41,ntmps41
 go_upto_region 2 with(first|((with_reducible refine au (N:=4) rfl ?_);(try(refine c_ (by rfl) ?_;dsimp only));refine fz 4 #[.slice bs ah.length bo,.int .i64 al] 26 ?_;intro bY hg w7 hbox hb;have b2:=am (hbox);have gW:=fO hg;replace HB:=hB HB hb;clear hb hbox hg)|((with_reducible refine au (N:=8) rfl ?_);(try(refine c_ (by rfl) ?_;dsimp only));refine fz 8 #[.slice none 0 0,.int .i64 0] 26 ?_;intro bC hg w8 hbox hb;have b3:=am (hbox);have gX:=fO hg;have bJ:=fX hg b2;have bK:=fY hg b2;replace b2:=ba b2 hb;replace HB:=hB HB hb;clear hb hbox hg)|((with_reducible refine ag (f:=84) rfl ?_);refine dk 17 func84 (aH.calls k a1 jB jC _ A5.out) ?_;rintro e w9 ⟨zN,rfl,d5,hb⟩;refine⟨_,rfl,?_⟩;have d3:=am (Kd.aq (Kd.cI (M:=fun k_=>(w.heap.size≤k_)) d5 (af oB) (fun k_ h_=>h_)) (af oB));replace b2:=ba b2 hb;replace b3:=ba b3 hb;replace HB:=hB HB hb))
 go_cut [31] (fun jY wc=>∃(kq:Nat) (dF:Bool),jY= .bool dF∧ae (aE.j0 kq a1 a2 l3 dF ah al=some (r1,r2,r3))∧ae (kq≤k)∧ae (wc.heap[bY]? =some (.cells #[(.slice bs ah.length bo),.int .i64 al] 26 (0,0)))∧ae (wc.heap[bC]? =some (.cells #[(.slice none 0 0),.int .i64 0] 26 (0,0)))∧ae (Below w.heap.size w wc))
 case first=>
  have H:=gD.out;clear gD;replace H:=bA H;obtain⟨zO,gE,H⟩:=H;replace H:=jl H;rcases H with⟨rfl,H⟩|⟨rfl,H⟩;rotate_left
  ·have H':=ae.mk H;clear H;have m9:=bJ.out;have mA:=bK.out;obtain⟨⟨_,_⟩,_,_⟩:=z2 b2
   go_wp2_with (((with_reducible refine ag (f:=65) rfl ?_);refine dk 21 func65 (aw.calls k _ _ ah al false _ (kC bZ) d1.out gE.out) ?_;rintro e w22 ⟨rfl,hb⟩;refine⟨_,rfl,?_⟩;replace d3:=dm d3 hb;replace b2:=ba b2 hb;replace b3:=ba b3 hb;replace HB:=hB HB hb))
   go_meet
   case rel=>exact⟨_,(true),oS,H',⟨by omega⟩,⟨oF b2⟩,⟨oF b3⟩,⟨oB⟩⟩
  replace H:=jl H;rcases H with⟨rfl,H⟩|⟨rfl,H⟩;rotate_left
  ·have H':=ae.mk H;clear H;have mB:=bJ.out;have mC:=bK.out;obtain⟨⟨_,_⟩,_,_⟩:=z2 b2
   go_wp2_with (((with_reducible refine ag (f:=65) rfl ?_);refine dk 21 func65 (aw.calls k _ _ ah al true _ (kC bZ) d1.out gE.out) ?_;rintro e w19 ⟨rfl,hb⟩;refine⟨_,rfl,?_⟩;replace d3:=dm d3 hb;replace b2:=ba b2 hb;replace b3:=ba b3 hb;replace HB:=hB HB hb))
   go_meet
   case rel=>exact⟨_,(true),oS,H',⟨by omega⟩,⟨oF b2⟩,⟨oF b3⟩,⟨oB⟩⟩
  replace H:=bA H;obtain⟨gF,jZ,H⟩:=H;have H':=ae.mk H;clear H;have mD:=bJ.out;have mE:=bK.out;obtain⟨⟨_,_⟩,_,_⟩:=z2 b2
  go_wp2_with (first|((with_reducible refine ag (f:=65) rfl ?_);refine dk 21 func65 (aw.calls k _ _ ah al true _ (kC bZ) d1.out gE.out) ?_;rintro e w16 ⟨rfl,hb⟩;refine⟨_,rfl,?_⟩;replace d3:=dm d3 hb;replace b2:=ba b2 hb;replace b3:=ba b3 hb;replace HB:=hB HB hb)|(go_at_call 73;(with_reducible refine(bg.calls a2 0 100 gF _ jZ.out).mono ?_);rintro e w' ⟨rfl,⟨nd,rfl⟩⟩))
  go_meet
  case rel=>exact⟨_,(!gF),oS,H',⟨by omega⟩,⟨oF b2⟩,⟨oF b3⟩,⟨oB⟩⟩
 case rest=>
  clear gD;obtain⟨kq,dF,rfl,HA,dC,b2,b3,HB⟩:=hcut
  cases kq with
  |zero=>exact absurd HA.out (by simp[aE.j0])
  |succ ng=>
   have H:=HA.out;clear HA;simp only[aE.j0]at H;replace H:=jl H;rcases H with⟨rfl,H⟩|⟨rfl,H⟩
   ·replace H:=bA H;obtain⟨⟨dN,dO⟩,m1,H⟩:=H
    try dsimp only at H
    simp only[Option.some.injEq,Prod.mk.injEq]at H;obtain⟨rfl,rfl,rfl⟩:=H;have mF:=bJ.out;have mG:=bK.out;obtain⟨⟨_,_⟩,_,_⟩:=z2 b2
    go_wp2_with (((with_reducible refine ag (f:=69) rfl ?_);refine dk 33 func69 (aG.calls ng _ _ ah al dN dO _ (kC bZ) d1.out m1.out) ?_;rintro e w27 ⟨zP,rfl,d5,hb⟩;refine⟨_,rfl,?_⟩;have dX:=am (Kd.cz (Kd.an (ok':=fun k_=>(w.heap.size≤k_)∧k_≠bY∧k_≠bC) (Kd.p_ (Kd.eD d5)) (fun k_ aZ=>⟨(Nat.le_trans (af oB) aZ.2.1),(fB b2 aZ.2.1),(fB b3 aZ.2.1)⟩)) (af oB));replace b2:=ba b2 hb;replace b3:=ba b3 hb;replace HB:=hB HB hb;obtain⟨gG,gH,jD⟩:=Kd.cl dX.out;subst jD;obtain⟨⟨_,_⟩,_,_⟩:=z2 b3))
    refine bodyPost_ret (bu rfl _ _ bC 26 #[.slice gG dN.length gH,.int .i64 dO] (0,0) _ rfl (oP b3) underlying26 rfl (by kernel_rfl)) rfl ?_;exact⟨_,oE,Kd.an (Kd.aN (p:=⟨bC,1,none⟩) (Kd.aN (p:=⟨bC,0,none⟩) (Kd.an dX.out (fun k_ hk=>(⟨hk,hk.2.2⟩:_∧k_≠bC))) (fun _ hk=>hk.2) (.slice gG dN.length gH)) (fun _ hk=>hk.2) (.int .i64 dO)) (fun _ hk=>hk.1.1),oB⟩
   replace H:=bA H;obtain⟨⟨bE,bF,bG,bI,b8,b9,d2⟩,m2,H⟩:=H
   try dsimp only at H
   have dP:=ae.mk H;clear H;have mH:=bJ.out;have mI:=bK.out;obtain⟨⟨_,_⟩,_,_⟩:=z2 b2
   go_upto_region 5 with(first|((with_reducible refine ag (f:=85) rfl ?_);refine dk 37 func85 (ft.calls ng _ _ ah al a1 bE bF bG bI b8 b9 d2 _ (kC bZ) d1.out m2.out) ?_;rintro e w34 ⟨zQ,zR,zS,rfl,d5,j7,j8,hb⟩;refine⟨_,rfl,?_⟩;have d6:=am (Kd.aq (Kd.cI (M:=fun k_=>(w.heap.size≤k_)) d5 (af oB) (fun k_ h_=>h_)) (af oB));have d7:=am (Kd.aq (Kd.cI (M:=fun k_=>(w.heap.size≤k_)) j7 (af oB) (fun k_ h_=>h_)) (af oB));have d8:=am (Kd.aq (Kd.cI (M:=fun k_=>(w.heap.size≤k_)) j8 (af oB) (fun k_ h_=>h_)) (af oB));replace b2:=ba b2 hb;replace b3:=ba b3 hb;replace HB:=hB HB hb;(try clear j7);(try clear j8))|((with_reducible refine au (N:=12) rfl ?_);(try(refine c_ (by rfl) ?_;dsimp only));refine fz 12 #[.int .i64 0,.int .i64 0,.int .i64 0,.slice none 0 0,.slice none 0 0,.slice none 0 0] 32 ?_;intro b4 hg w35 hbox hb;have b7:=am (hbox);have gY:=fO hg;have bQ:=fX hg b2;have bR:=fY hg b2;have bS:=fX hg b3;have bT:=fY hg b3;replace d6:=dm d6 hb;replace d7:=dm d7 hb;replace d8:=dm d8 hb;replace b2:=ba b2 hb;replace b3:=ba b3 hb;replace HB:=hB HB hb;clear hb hbox hg;have mJ:=bR.out;have mK:=bQ.out;have mL:=bT.out;have mM:=bS.out;obtain⟨⟨_,_,_,_,_,_⟩,_,_,_,_,_,_⟩:=z6 b7;obtain⟨bV,bW,jE⟩:=Kd.ao d6.out;subst jE;obtain⟨bL,bM,jF⟩:=Kd.ao d7.out;subst jF;obtain⟨bN,bO,jG⟩:=Kd.ao d8.out;subst jG))
   go_cut [48] (fun m3 wc=>∃(kq:Nat) (dD:Bool),m3= .bool dD∧ae (aE.j1 kq a2 l3 d2 dD ah al bE bF bG bI b8 b9=some (r1,r2,r3))∧ae (kq≤ng)∧ae (Kd.R (Kd.int .u8) 5 wc w.heap.size (fun k_=>(w.heap.size≤k_)) (.slice bV bI.length bW) bI)∧ae (Kd.R fL 74 wc w.heap.size (fun k_=>(w.heap.size≤k_)) (.slice bL b8.length bM) b8)∧ae (Kd.R dn 101 wc w.heap.size (fun k_=>(w.heap.size≤k_)) (.slice bN b9.length bO) b9)∧ae (wc.heap[bY]? =some (.cells #[(.slice bs ah.length bo),.int .i64 al] 26 (0,0)))∧ae (wc.heap[bC]? =some (.cells #[(.slice none 0 0),.int .i64 0] 26 (0,0)))∧ae (wc.heap[b4]? =some (.cells #[.int .i64 bE,.int .i64 bF,.int .i64 bG,(.slice bV bI.length bW),(.slice bL b8.length bM),(.slice bN b9.length bO)] 32 (0,0)))∧ae (Below w.heap.size w wc))
   case first=>
    have H:=dP.out;clear dP
    by_cases dE:d2=0
    rotate_left
    ·rw[if_neg dE]at H;have dG:(d2==0)=false:=beq_eq_false_iff_ne.mpr dE;have dH:(d2 !=0)=true:=bne_iff_ne.mpr dE
     (skip)
     have H':=ae.mk H;clear H
     go_wp2
     go_meet
     case rel=>exact⟨_,(false),oS,H',⟨by have:=dC.out;omega⟩,⟨Kd.aM (Kd.bn (p:=⟨b4,5,none⟩) (Kd.bn (p:=⟨b4,4,none⟩) (Kd.bn (p:=⟨b4,3,none⟩) (Kd.bn (p:=⟨b4,2,none⟩) (Kd.bn (p:=⟨b4,1,none⟩) (Kd.bn (p:=⟨b4,0,none⟩) (Kd.ay d6.out b7.out (by decide)) (fun _ hk=>hk.2) (.int .i64 bE)) (fun _ hk=>hk.2) (.int .i64 bF)) (fun _ hk=>hk.2) (.int .i64 bG)) (fun _ hk=>hk.2) (.slice bV bI.length bW)) (fun _ hk=>hk.2) (.slice bL b8.length bM)) (fun _ hk=>hk.2) (.slice bN b9.length bO)) (fun _ hk=>hk.1.1)⟩,⟨Kd.aM (Kd.bn (p:=⟨b4,5,none⟩) (Kd.bn (p:=⟨b4,4,none⟩) (Kd.bn (p:=⟨b4,3,none⟩) (Kd.bn (p:=⟨b4,2,none⟩) (Kd.bn (p:=⟨b4,1,none⟩) (Kd.bn (p:=⟨b4,0,none⟩) (Kd.ay d7.out b7.out (by decide)) (fun _ hk=>hk.2) (.int .i64 bE)) (fun _ hk=>hk.2) (.int .i64 bF)) (fun _ hk=>hk.2) (.int .i64 bG)) (fun _ hk=>hk.2) (.slice bV bI.length bW)) (fun _ hk=>hk.2) (.slice bL b8.length bM)) (fun _ hk=>hk.2) (.slice bN b9.length bO)) (fun _ hk=>hk.1.1)⟩,⟨Kd.aM (Kd.bn (p:=⟨b4,5,none⟩) (Kd.bn (p:=⟨b4,4,none⟩) (Kd.bn (p:=⟨b4,3,none⟩) (Kd.bn (p:=⟨b4,2,none⟩) (Kd.bn (p:=⟨b4,1,none⟩) (Kd.bn (p:=⟨b4,0,none⟩) (Kd.ay d8.out b7.out (by decide)) (fun _ hk=>hk.2) (.int .i64 bE)) (fun _ hk=>hk.2) (.int .i64 bF)) (fun _ hk=>hk.2) (.int .i64 bG)) (fun _ hk=>hk.2) (.slice bV bI.length bW)) (fun _ hk=>hk.2) (.slice bL b8.length bM)) (fun _ hk=>hk.2) (.slice bN b9.length bO)) (fun _ hk=>hk.1.1)⟩,⟨oF b2⟩,⟨oF b3⟩,⟨oP b7⟩,⟨oB⟩⟩
    rw[if_pos dE]at H;have dG:(d2==0)=true:=beq_iff_eq.mpr dE;have dH:(d2 !=0)=false:=bne_eq_false_iff_eq.mpr dE;clear dE
    (skip)
    have H':=ae.mk H;clear H
    go_wp2
    go_meet
    case rel=>exact⟨_,(decide ((l3.length:Int)>(wrap64 (100-a2)))),oS,H',⟨by have:=dC.out;omega⟩,⟨Kd.aM (Kd.bn (p:=⟨b4,5,none⟩) (Kd.bn (p:=⟨b4,4,none⟩) (Kd.bn (p:=⟨b4,3,none⟩) (Kd.bn (p:=⟨b4,2,none⟩) (Kd.bn (p:=⟨b4,1,none⟩) (Kd.bn (p:=⟨b4,0,none⟩) (Kd.ay d6.out b7.out (by decide)) (fun _ hk=>hk.2) (.int .i64 bE)) (fun _ hk=>hk.2) (.int .i64 bF)) (fun _ hk=>hk.2) (.int .i64 bG)) (fun _ hk=>hk.2) (.slice bV bI.length bW)) (fun _ hk=>hk.2) (.slice bL b8.length bM)) (fun _ hk=>hk.2) (.slice bN b9.length bO)) (fun _ hk=>hk.1.1)⟩,⟨Kd.aM (Kd.bn (p:=⟨b4,5,none⟩) (Kd.bn (p:=⟨b4,4,none⟩) (Kd.bn (p:=⟨b4,3,none⟩) (Kd.bn (p:=⟨b4,2,none⟩) (Kd.bn (p:=⟨b4,1,none⟩) (Kd.bn (p:=⟨b4,0,none⟩) (Kd.ay d7.out b7.out (by decide)) (fun _ hk=>hk.2) (.int .i64 bE)) (fun _ hk=>hk.2) (.int .i64 bF)) (fun _ hk=>hk.2) (.int .i64 bG)) (fun _ hk=>hk.2) (.slice bV bI.length bW)) (fun _ hk=>hk.2) (.slice bL b8.length bM)) (fun _ hk=>hk.2) (.slice bN b9.length bO)) (fun _ hk=>hk.1.1)⟩,⟨Kd.aM (Kd.bn (p:=⟨b4,5,none⟩) (Kd.bn (p:=⟨b4,4,none⟩) (Kd.bn (p:=⟨b4,3,none⟩) (Kd.bn (p:=⟨b4,2,none⟩) (Kd.bn (p:=⟨b4,1,none⟩) (Kd.bn (p:=⟨b4,0,none⟩) (Kd.ay d8.out b7.out (by decide)) (fun _ hk=>hk.2) (.int .i64 bE)) (fun _ hk=>hk.2) (.int .i64 bF)) (fun _ hk=>hk.2) (.int .i64 bG)) (fun _ hk=>hk.2) (.slice bV bI.length bW)) (fun _ hk=>hk.2) (.slice bL b8.length bM)) (fun _ hk=>hk.2) (.slice bN b9.length bO)) (fun _ hk=>hk.1.1)⟩,⟨oF b2⟩,⟨oF b3⟩,⟨oP b7⟩,⟨oB⟩⟩
   case rest=>
    clear dP;obtain⟨kq,dD,rfl,HA,dA,b1,b5,b6,b2,b3,b7,HB⟩:=hcut
    cases kq with
    |zero=>exact absurd HA.out (by simp[aE.j1])
    |succ adL=>
     have H:=HA.out;clear HA;simp only[aE.j1]at H;have dQ:=ae.mk H;clear H
     go_upto_if 48 with(fail)
     go_cut [13] (fun m4 wc=>∃(kq:Nat) (bU:Int),m4= .int .i64 bU∧ae (aE.j2 kq a2 l3 bU ah al bE bF bG bI b8 b9=some (r1,r2,r3))∧ae (kq≤adL)∧ae (Kd.R (Kd.int .u8) 5 wc w.heap.size (fun k_=>(w.heap.size≤k_)) (.slice bV bI.length bW) bI)∧ae (Kd.R fL 74 wc w.heap.size (fun k_=>(w.heap.size≤k_)) (.slice bL b8.length bM) b8)∧ae (Kd.R dn 101 wc w.heap.size (fun k_=>(w.heap.size≤k_)) (.slice bN b9.length bO) b9)∧ae (wc.heap[bY]? =some (.cells #[(.slice bs ah.length bo),.int .i64 al] 26 (0,0)))∧ae (wc.heap[bC]? =some (.cells #[(.slice none 0 0),.int .i64 0] 26 (0,0)))∧ae (wc.heap[b4]? =some (.cells #[.int .i64 bE,.int .i64 bF,.int .i64 bG,(.slice bV bI.length bW),(.slice bL b8.length bM),(.slice bN b9.length bO)] 32 (0,0)))∧ae (Below w.heap.size w wc))
     case first=>
      have H:=dQ.out;clear dQ;replace H:=jl H;rcases H with⟨rfl,H⟩|⟨rfl,H⟩
      ·have H':=ae.mk H;clear H
       go_wp2
       go_meet
       case rel=>exact⟨_,(5),oS,H',⟨by have:=dC.out;have:=dA.out;omega⟩,⟨oR b1⟩,⟨oR b5⟩,⟨oR b6⟩,⟨oF b2⟩,⟨oF b3⟩,⟨oF b7⟩,⟨oB⟩⟩
      have H':=ae.mk H;clear H
      go_wp2
      go_meet
      case rel=>exact⟨_,(d2),oS,H',⟨by have:=dC.out;have:=dA.out;omega⟩,⟨oR b1⟩,⟨oR b5⟩,⟨oR b6⟩,⟨oF b2⟩,⟨oF b3⟩,⟨oF b7⟩,⟨oB⟩⟩
     case rest=>
      clear dQ;obtain⟨kq,bU,rfl,HA,dI,b1,b5,b6,b2,b3,b7,HB⟩:=hcut
      cases kq with
      |zero=>exact absurd HA.out (by simp[aE.j2])
      |succ acP=>
       have H:=HA.out;clear HA;simp only[aE.j2]at H
       by_cases d9:bU=0
       rotate_left
       ·rw[if_neg d9]at H;have gZ:(bU==0)=false:=beq_eq_false_iff_ne.mpr d9;have j1:(bU !=0)=true:=bne_iff_ne.mpr d9;replace H:=bA H;obtain⟨⟨dR,dS⟩,m5,H⟩:=H
        try dsimp only at H
        simp only[Option.some.injEq,Prod.mk.injEq]at H;obtain⟨rfl,rfl,rfl⟩:=H;have mN:=bJ.out;have mO:=bK.out;have mP:=bQ.out;have mQ:=bR.out;obtain⟨⟨_,_⟩,_,_⟩:=z2 b2
        go_wp2_with (((with_reducible refine ag (f:=69) rfl ?_);refine dk 52 func69 (aG.calls acP _ _ ah al dR dS _ (kC bZ) d1.out m5.out) ?_;rintro e w81 ⟨zT,rfl,d5,hb⟩;refine⟨_,rfl,?_⟩;have dY:=am (Kd.cz (Kd.an (ok':=fun k_=>(w.heap.size≤k_)∧some k_≠(.slice bV bI.length bW:Value).ownBlock∧some k_≠(.slice bL b8.length bM:Value).ownBlock∧some k_≠(.slice bN b9.length bO:Value).ownBlock∧k_≠bY∧k_≠bC∧k_≠b4) (Kd.p_ (Kd.eD d5)) (fun k_ aZ=>⟨(Nat.le_trans (af oB) aZ.2.1),(Kd.fresh' (iO b1) k_ aZ.2.1),(Kd.fresh' (iO b5) k_ aZ.2.1),(Kd.fresh' (iO b6) k_ aZ.2.1),(fB b2 aZ.2.1),(fB b3 aZ.2.1),(fB b7 aZ.2.1)⟩)) (af oB));replace b1:=dm b1 hb;replace b5:=dm b5 hb;replace b6:=dm b6 hb;replace b2:=ba b2 hb;replace b3:=ba b3 hb;replace b7:=ba b7 hb;replace HB:=hB HB hb;obtain⟨gI,gJ,jH⟩:=Kd.cl dY.out;subst jH;have mS:=bS.out;have mT:=bT.out;obtain⟨⟨_,_⟩,_,_⟩:=z2 b3))
        refine bodyPost_ret (bu rfl _ _ bC 26 #[.slice gI dR.length gJ,.int .i64 dS] (0,0) _ rfl (oP b3) underlying26 rfl (by kernel_rfl)) rfl ?_;exact⟨_,oE,Kd.an (Kd.aN (p:=⟨bC,1,none⟩) (Kd.aN (p:=⟨bC,0,none⟩) (Kd.an dY.out (fun k_ hk=>(⟨hk,hk.2.2.2.2.2.1⟩:_∧k_≠bC))) (fun _ hk=>hk.2) (.slice gI dR.length gJ)) (fun _ hk=>hk.2) (.int .i64 dS)) (fun _ hk=>hk.1.1),oB⟩
       rw[if_pos d9]at H;have gZ:(bU==0)=true:=beq_iff_eq.mpr d9;have j1:(bU !=0)=false:=bne_eq_false_iff_eq.mpr d9;clear d9;have H':=ae.mk H;clear H
       go_wp2
       go_loopg [] acP (fun kq w'=>∃(bH:List Int) (bP:Value),ae (aE.l0 kq a2 l3 ah al bE bF bG bH b8 b9=some (r1,r2,r3))∧ae (kq≤acP)∧ae (Kd.R (Kd.int .u8) 5 w' w.heap.size (fun k_=>(w.heap.size≤k_)) bP bH)∧ae (Kd.R fL 74 w' w.heap.size (fun k_=>(w.heap.size≤k_)) (.slice bL b8.length bM) b8)∧ae (Kd.R dn 101 w' w.heap.size (fun k_=>(w.heap.size≤k_)) (.slice bN b9.length bO) b9)∧ae (w'.heap[bY]? =some (.cells #[(.slice bs ah.length bo),.int .i64 al] 26 (0,0)))∧ae (w'.heap[bC]? =some (.cells #[(.slice none 0 0),.int .i64 0] 26 (0,0)))∧ae (w'.heap[b4]? =some (.cells #[.int .i64 bE,.int .i64 bF,.int .i64 bG,bP,(.slice bL b8.length bM),(.slice bN b9.length bO)] 32 (0,0)))∧ae (Below w.heap.size w w'))
       case atStart=>exact⟨(bI),(.slice bV bI.length bW),H',⟨Nat.le_refl _⟩,⟨oR b1⟩,⟨oR b5⟩,⟨oR b6⟩,⟨oF b2⟩,⟨oF b3⟩,⟨oF b7⟩,⟨oB⟩⟩
       case round=>
        clear H';obtain⟨bH,bP,HA,dZ,b1,b5,b6,b2,b3,b7,HB⟩:=hrel
        cases gk with
        |zero=>exact absurd HA.out (by simp[aE.l0])
        |succ k4=>
         have H:=HA.out;clear HA;simp only[aE.l0]at H;replace H:=kU H;rcases H with⟨gA,H⟩|⟨gA,H⟩
         ·obtain⟨j9,H⟩:=jm H;have j2:=ae.mk j9;clear j9;obtain⟨dB,cx⟩:∃y_:List Int,y_=(bH++[0]):=⟨_,rfl⟩;replace H:(aE.l0 k4 a2 l3 ah al bE bF bG dB b8 b9)=some (r1,r2,r3):=oY;have j3:=ae.mk cx;clear cx;have H':=ae.mk H;clear H;have mU:=bR.out;have mV:=bQ.out;have mW:=bT.out;have mX:=bS.out;obtain⟨⟨_,_,_,_,_,_⟩,_,_,_,_,_,_⟩:=z6 b7;obtain⟨jI,jJ,jK⟩:=Kd.ao b1.out;subst jK
          go_wp2_with (((with_reducible refine cX (b:= .append) (xs:= #[.tmp 63,.tmp 64]) rfl ?_);(try(refine c_ (by rfl) ?_;dsimp only));at_builtin;refine Kd.iN (Kd.int .u8) (w0:=w) w.heap.size rfl (.tmp 63) (.tmp 64) 22 5 (.int .u8 0) 1 rfl underlying22 info5 rfl (by decide) (by omega) (.slice jI bH.length jJ) bH 0 [.int .u8 0] (fun k_=>(w.heap.size≤k_)) (fun _=>False) rfl rfl ?aP (fun _ hk=>hk.elim) ?aF ?aO ?aB ?aS ?aL ?_;(case aP=>exact rfl);(case aB=>exact oB);(case aF=>exact(fun k_ hk=>(Nat.le_trans (af oB) hk)));(case aO=>exact(oR b1));(case aS=>exact(af oB));(case aL=>have:=j2.out;omega);intro zU w52 ho hb hg hat;rw[←j3.out]at ho;have gB:=am (ho);replace b5:=am (Kd.ev (oR b5) (Kd.ee (oR b1)) (by decide) hg);replace b6:=am (Kd.ev (oR b6) (Kd.ee (oR b1)) (by decide) hg);replace b2:=iF b2 hg (Kd.ig b1.out b2.out (by decide));replace b3:=iF b3 hg (Kd.ig b1.out b3.out (by decide));replace b7:=iF b7 hg (Kd.ig b1.out b7.out (by decide));replace HB:=am (hb);clear b1;clear ho hb hg hat;obtain⟨dJ,dK,jL⟩:=Kd.ao gB.out;subst jL;obtain⟨⟨_,_,_,_,_,_⟩,_,_,_,_,_,_⟩:=z6 b7))
          go_roundg k4
          case measure=>have:=dC.out;have:=dA.out;have:=dI.out;have:=dZ.out;omega
          case rel=>exact⟨(dB),(.slice dJ dB.length dK),H',⟨by have:=dC.out;have:=dA.out;have:=dI.out;have:=dZ.out;omega⟩,⟨Kd.aM (Kd.bn (p:=⟨b4,3,none⟩) (Kd.ay gB.out b7.out (by decide)) (fun _ hk=>hk.2) (.slice dJ dB.length dK)) (fun _ hk=>hk.1)⟩,⟨Kd.aM (Kd.bn (p:=⟨b4,3,none⟩) (Kd.ay b5.out b7.out (by decide)) (fun _ hk=>hk.2) (.slice dJ dB.length dK)) (fun _ hk=>hk.1)⟩,⟨Kd.aM (Kd.bn (p:=⟨b4,3,none⟩) (Kd.ay b6.out b7.out (by decide)) (fun _ hk=>hk.2) (.slice dJ dB.length dK)) (fun _ hk=>hk.1)⟩,⟨oF b2⟩,⟨oF b3⟩,⟨oP b7⟩,⟨oB⟩⟩
         have H':=ae.mk H;clear H;have mY:=bR.out;have mZ:=bQ.out;have zA:=bT.out;have zB:=bS.out;obtain⟨⟨_,_,_,_,_,_⟩,_,_,_,_,_,_⟩:=z6 b7;obtain⟨jM,jN,jO⟩:=Kd.ao b1.out;subst jO
         go_wp2
         go_loopg [14] k4 (fun kq m6 w'=>∃(bD:Int) (bB:List Int) (bP:Value),m6= .int .i64 bD∧ae (aE.l1 kq a2 l3 bD ah al bE bF bG bB b8 b9=some (r1,r2,r3))∧ae (kq≤k4)∧ae (Kd.R (Kd.int .u8) 5 w' w.heap.size (fun k_=>(w.heap.size≤k_)) bP bB)∧ae (Kd.R fL 74 w' w.heap.size (fun k_=>(w.heap.size≤k_)) (.slice bL b8.length bM) b8)∧ae (Kd.R dn 101 w' w.heap.size (fun k_=>(w.heap.size≤k_)) (.slice bN b9.length bO) b9)∧ae (w'.heap[bY]? =some (.cells #[(.slice bs ah.length bo),.int .i64 al] 26 (0,0)))∧ae (w'.heap[bC]? =some (.cells #[(.slice none 0 0),.int .i64 0] 26 (0,0)))∧ae (w'.heap[b4]? =some (.cells #[.int .i64 bE,.int .i64 bF,.int .i64 bG,bP,(.slice bL b8.length bM),(.slice bN b9.length bO)] 32 (0,0)))∧ae (Below w.heap.size w w'))
         case atStart=>exact⟨(0),(bH),(.slice jM bH.length jN),oS,H',⟨Nat.le_refl _⟩,⟨oR b1⟩,⟨oR b5⟩,⟨oR b6⟩,⟨oF b2⟩,⟨oF b3⟩,⟨oF b7⟩,⟨oB⟩⟩
         case round=>
          clear H'
          try clear gA
          obtain⟨bD,bB,bP,rfl,HA,jA,b1,b5,b6,b2,b3,b7,HB⟩:=hrel
          cases gk with
          |zero=>exact absurd HA.out (by simp[aE.l1])
          |succ k5=>
           have H:=HA.out;clear HA;simp only[aE.l1]at H;replace H:=kU H;rcases H with⟨j4,H⟩|⟨j4,H⟩;rotate_left
           ·replace H:=bA H;obtain⟨⟨dT,dU⟩,m7,H⟩:=H
            try dsimp only at H
            simp only[Option.some.injEq,Prod.mk.injEq]at H;obtain⟨rfl,rfl,rfl⟩:=H;have zC:=bJ.out;have zD:=bK.out;have zE:=bQ.out;have zF:=bR.out;obtain⟨⟨_,_⟩,_,_⟩:=z2 b2;have zG:=bT.out;have zH:=bS.out;obtain⟨⟨_,_,_,_,_,_⟩,_,_,_,_,_,_⟩:=z6 b7;obtain⟨jP,jQ,jR⟩:=Kd.ao b1.out;subst jR
            go_wp2_with (((with_reducible refine ag (f:=86) rfl ?_);refine dk 85 func86 (aD.calls k5 _ _ ah al bE bF bG _ _ bB _ _ b8 _ _ b9 dT dU _ (kC bZ) d1.out (kO b1) (ko b1) (kO b5) (ko b5) (kO b6) (ko b6) m7.out) ?_;rintro e w74 ⟨zV,rfl,d5,hb⟩;refine⟨_,rfl,?_⟩;have gC:=am (Kd.cz (Kd.an (ok':=fun k_=>(w.heap.size≤k_)∧some k_≠(.slice jP bB.length jQ:Value).ownBlock∧some k_≠(.slice bL b8.length bM:Value).ownBlock∧some k_≠(.slice bN b9.length bO:Value).ownBlock∧k_≠bY∧k_≠bC∧k_≠b4) d5 (fun k_ aZ=>⟨(Nat.le_trans (af oB) aZ),(Kd.fresh' (iO b1) k_ aZ),(Kd.fresh' (iO b5) k_ aZ),(Kd.fresh' (iO b6) k_ aZ),(fB b2 aZ),(fB b3 aZ),(fB b7 aZ)⟩)) (af oB));replace b1:=dm b1 hb;replace b5:=dm b5 hb;replace b6:=dm b6 hb;replace b2:=ba b2 hb;replace b3:=ba b3 hb;replace b7:=ba b7 hb;replace HB:=hB HB hb;obtain⟨gK,gL,jS⟩:=Kd.cl gC.out;subst jS;obtain⟨⟨_,_⟩,_,_⟩:=z2 b3))
            refine bodyPost_ret (bu rfl _ _ bC 26 #[.slice gK dT.length gL,.int .i64 dU] (0,0) _ rfl (oP b3) underlying26 rfl (by kernel_rfl)) rfl ?_;exact⟨_,oE,Kd.an (Kd.aN (p:=⟨bC,1,none⟩) (Kd.aN (p:=⟨bC,0,none⟩) (Kd.an gC.out (fun k_ hk=>(⟨hk,hk.2.2.2.2.2.1⟩:_∧k_≠bC))) (fun _ hk=>hk.2) (.slice gK dT.length gL)) (fun _ hk=>hk.2) (.int .i64 dU)) (fun _ hk=>hk.1.1),oB⟩
           obtain⟨zI,H⟩:=dw H;obtain⟨bX,dL⟩:∃j_:Int,(wrap64 (a2+bD))=j_:=⟨_,rfl⟩
           replace H:(if 0≤(bX)then(if(bX)<(bB.length:Int)then(aE.l1 k5 a2 l3 (wrap64 (bD+1)) ah al bE bF bG (bB.set ((bX):Int).toNat (rd l3 bD)) b8 b9)else(none))else(none))=some (r1,r2,r3):=by(rw[dL]at H;exact H)
           have m8:(IntKind.i64.wrap (a2+bD))=bX:=(kn _).trans dL;obtain⟨zJ,H⟩:=dw H;obtain⟨zK,H⟩:=dw H;obtain⟨gM,cx⟩:∃y_:List Int,y_=(bB.set ((bX):Int).toNat (rd l3 bD)):=⟨_,rfl⟩;replace H:(aE.l1 k5 a2 l3 (wrap64 (bD+1)) ah al bE bF bG gM b8 b9)=some (r1,r2,r3):=oY;have j5:=ae.mk cx;clear cx;have H':=ae.mk H;clear H
           try go_wp2
           replace b1:=am (Kd.b_ b1.out);replace b5:=am (Kd.b_ b5.out);replace b6:=am (Kd.b_ b6.out);replace b2:=am (ar b2.out);replace b3:=am (ar b3.out);replace b7:=am (ar b7.out);replace HB:=am (bl HB.out);have zW:(0≤(bD:Int))=True:=oT;have zX:(bD<(l3.length:Int))=True:=oT;obtain⟨j6,jT,d4⟩:=Kd.me jX.out bD oa oa;have jW:=d4
           cases jT
           replace d4:=cB HB d4;have gN:0≤((bX):Int):=oa;have gO:((bX):Int)<((bB.length:Int):Int):=oa;obtain⟨dM,gP,gQ,gR,jU,zY,gS⟩:=Kd.jt b1.out (by omega)
           (cases gQ)
           have jV:=ae.mk gR;have dV:=ae.mk gS;clear gR jU gS;obtain⟨gT,gU⟩:=Kd.np 0 b1.out ((bX):Int) gN gO;replace gN:=eq_true gN;replace gO:=eq_true gO;have dW:=Kd.acq b1.out ((bX):Int) (rd l3 bD);rw[←j5.out]at dW;have gV:=ae.mk dW;clear dW;refine iY (n:=11) (S:=fun w'=>w'.cell? ⟨b4,0,none⟩=some (.int .i64 bE)∧w'.cell? ⟨b4,1,none⟩=some (.int .i64 bF)∧w'.cell? ⟨b4,2,none⟩=some (.int .i64 bG)∧w'.cell? ⟨b4,3,none⟩=some (.slice (some ⟨dM,0,none⟩) bB.length gP)∧w'.cell? ⟨b4,4,none⟩=some (.slice bL b8.length bM)∧w'.cell? ⟨b4,5,none⟩=some (.slice bN b9.length bO)∧w'.cell? (j6.add (bD).toNat)=some (.int .u8 (rd l3 bD))) (ds:=[10]) (lb 11 0) (by kernel_rfl) rfl rfl oH (fun hHeld=> ?_);refine fW aE.aaR aE.vN (fun aV fA=> ?_);generalize wr.drew=w65 at b1 b5 b6 b2 b3 b7 HB dV gV gU d4 gT hHeld⊢;refine cG 0 73 aV ?_;refine cG 2 75 aV ?_;refine cG 3 76 aV ?_;refine cG 4 77 aV ?_;refine cG 5 78 aV ?_;refine cG 6 79 aV ?_;refine cG 7 80 aV ?_;refine iA 1 74 aV fA hHeld ?_;refine iA 8 81 aV fA hHeld ?_;refine cG 9 82 aV ?_;refine kJ (i:=10) (N:=none) (lb 11 2047) rfl rfl (iE aV.out (by kernel_rfl)) (by decide) (fun K hK=> ?_);refine kp (w1:= ?_) (by rfl) rfl ?_ ?_;rotate_left
           ·go_simp
            rfl
           refine hK.out _ _ ?_;clear hK K;refine nF aV ?_
           try go_wp2
           go_roundg k5
           case measure=>have:=dC.out;have:=dA.out;have:=dI.out;have:=dZ.out;have:=jA.out;omega
           case rel=>exact⟨(wrap64 (bD+1)),(gM),(.slice (some ⟨dM,0,none⟩) bB.length gP),oS,H',⟨by have:=dC.out;have:=dA.out;have:=dI.out;have:=dZ.out;have:=jA.out;omega⟩,⟨oR gV⟩,⟨Kd.aM (Kd.bn (p:=⟨dM,((bX):Int).toNat,none⟩) (Kd.ay b5.out dV.out (by decide)) (fun _ hk=>hk.2) (.int .u8 (rd l3 bD))) (fun _ hk=>hk.1)⟩,⟨Kd.aM (Kd.bn (p:=⟨dM,((bX):Int).toNat,none⟩) (Kd.ay b6.out dV.out (by decide)) (fun _ hk=>hk.2) (.int .u8 (rd l3 bD))) (fun _ hk=>hk.1)⟩,⟨by(with_reducible repeat(first|refine bm ?_ _|refine ar ?_|refine ax ?_ _));refine cF ?_ (by have h_:=Kd.ig b1.out b2.out (by decide);intro e_;exact h_ (by rw[e_];rfl)) _;(with_reducible repeat(first|refine bm ?_ _|refine ar ?_|refine ax ?_ _));exact b2.out⟩,⟨by(with_reducible repeat(first|refine bm ?_ _|refine ar ?_|refine ax ?_ _));refine cF ?_ (by have h_:=Kd.ig b1.out b3.out (by decide);intro e_;exact h_ (by rw[e_];rfl)) _;(with_reducible repeat(first|refine bm ?_ _|refine ar ?_|refine ax ?_ _));exact b3.out⟩,⟨by(with_reducible repeat(first|refine bm ?_ _|refine ar ?_|refine ax ?_ _));refine cF ?_ (by have h_:=Kd.ig b1.out b7.out (by decide);intro e_;exact h_ (by rw[e_];rfl)) _;(with_reducible repeat(first|refine bm ?_ _|refine ar ?_|refine ax ?_ _));exact b7.out⟩,⟨by repeat((with_reducible first|exact HB.out|refine a_ ?_ jV.out))⟩⟩

mutual
def bw.j0:Nat→Int→ByteArray→Int→Bool→List (aW)→Int→Int→Int→Int→List Int→List (cD)→List (bj)→Option ((List (aW))×Int×Int)
 |0,_,_,_,_,_,_,_,_,_,_,_,_=>none
 |k+1,x2,x9,b9,bB,b1,b2,b3,b4,b5,b6,b7,b8=>if bB=true then(bw.j1 k x2 x9 5 b1 b2 b3 b4 b5 b6 b7 b8)else(bw.j1 k x2 x9 b9 b1 b2 b3 b4 b5 b6 b7 b8)
def bw.j1:Nat→Int→ByteArray→Int→List (aW)→Int→Int→Int→Int→List Int→List (cD)→List (bj)→Option ((List (aW))×Int×Int)
 |0,_,_,_,_,_,_,_,_,_,_,_=>none
 |k+1,x2,x9,bE,b2,b1,b6,b7,b8,b9,bB,bC=>if bE=0 then((aG.f k b2 b1).bind fun b3=>((cf.f k bB x9 b1).bind fun bF=>((aD.f k b3.1 b3.2 b6 b7 b8 b9 bF bC).bind fun b4=>((aD.f k b4.1 b4.2 b1 x2 1 ([]:List Int) ([]:List (cD)) ([]:List (bj))).bind fun bD=>(some (bD.1,wrap64 (b1+1),0))))))else((aG.f k b2 b1).bind fun b5=>(some (b5.1,b5.2,bE)))
end
def bw.f (k:Nat) (ah:List (aW)) (al:Int) (a1:ByteArray) (a2:Int):Option ((List (aW))×Int×Int):=(aw.f k ah al).bind fun b3=>(if b3=true then((fU.f k ah al a1 0).bind fun b1=>(if b1.2.2.2.2.2.2.2=0 then(if(ah.length:Int)≥30 then(bw.j0 k a2 b1.2.2.2.2.2.2.1 b1.2.2.2.2.2.2.2 true ah al b1.1 b1.2.1 b1.2.2.1 b1.2.2.2.1 b1.2.2.2.2.1 b1.2.2.2.2.2.1)else(bw.j0 k a2 b1.2.2.2.2.2.2.1 b1.2.2.2.2.2.2.2 (decide (al≥1000)) ah al b1.1 b1.2.1 b1.2.2.1 b1.2.2.2.1 b1.2.2.2.2.1 b1.2.2.2.2.2.1))else(bw.j0 k a2 b1.2.2.2.2.2.2.1 b1.2.2.2.2.2.2.2 false ah al b1.1 b1.2.1 b1.2.2.1 b1.2.2.2.1 b1.2.2.2.2.1 b1.2.2.2.2.2.1)))else((aG.f k ah al).bind fun b2=>(some (b2.1,b2.2,1))))
def bw.T10:Bool×List (List Nat×List Nat):=(true,[([],[]),([],[]),([0,1],[0,1]),([],[]),([3],[3]),([],[]),([4,5],[4,5]),([2,6,2],[2,6]),([7,7,0,1,2,3,4,5,6,7],[7])])
def bw.B10:List Nat:=[0,0,3,0,8,0,56,127,255]
theorem bw.rD:fK .any (opsOf Tryz.f160 10)=bw.T10:=by kernel_rfl
theorem bw.pk:ep bw.T10.2 bw.B10=true:=by kernel_rfl
theorem bw.calls (k:Nat) (bs:Option Addr) (bo:Nat) (ah:List (aW)) (al:Int) (a1:ByteArray) (a2:Int) (r1:List (aW)) (r2:Int) (r3:Int) (w:World) (cy:Kd.C k32 w bs ah.length ah) (cA:ah.length≤bo) (h:bw.f k ah al a1 a2=some (r1,r2,r3)):
  Calls Tryz.prog 160 #[.agg #[.slice bs ah.length bo,.int .i64 al],.string a1,.int .i64 a2] w fun e w'=>∃fy:Value,e= .returned (.tuple #[.agg #[fy,.int .i64 r2],.int .i64 r3])∧Kd.N k32 32 w' w.heap.size (fun k_=>(w.heap.size≤k_)) fy r1∧Below w.heap.size w w':=by
 have zK:=underlying26;have zL:=underlying32;have zM:=underlying74;have dF:=ae.mk cy;have dG:=ae.mk cA;clear cy cA;have HB:=am (Below.refl w.heap.size w);unfold bw.f at h;have H:=h;clear h;replace H:=bA H;obtain⟨zN,A4,H⟩:=H;replace H:=jl H;rcases H with⟨rfl,H⟩|⟨rfl,H⟩;rotate_left
 ·replace H:=bA H;obtain⟨⟨dX,dY⟩,jX,H⟩:=H
  try dsimp only at H
  simp only[Option.some.injEq,Prod.mk.injEq]at H;obtain⟨rfl,rfl,rfl⟩:=H
  go_enter func160,ntmps160
  go_wp2_with (first|((with_reducible refine au (N:=3) rfl ?_);(try(refine c_ (by rfl) ?_;dsimp only));refine fz 3 #[.slice bs ah.length bo,.int .i64 al] 26 ?_;intro bV hg w73 hbox hb;have b2:=am (hbox);have j4:=fO hg;replace HB:=hB HB hb;clear hb hbox hg)|((with_reducible refine au (N:=6) rfl ?_);(try(refine c_ (by rfl) ?_;dsimp only));refine fz 6 #[.slice none 0 0,.int .i64 0] 26 ?_;intro bD hg w74 hbox hb;have b4:=am (hbox);have j5:=fO hg;have bQ:=fX hg b2;have bR:=fY hg b2;replace b2:=ba b2 hb;replace HB:=hB HB hb;clear hb hbox hg;have m7:=bQ.out;have m8:=bR.out;obtain⟨⟨_,_⟩,_,_⟩:=z2 b2)|((with_reducible refine ag (f:=65) rfl ?_);refine dk 13 func65 (aw.calls k _ _ ah al false _ (kC dF) dG.out A4.out) ?_;rintro e w77 ⟨rfl,hb⟩;refine⟨_,rfl,?_⟩;replace b2:=ba b2 hb;replace b4:=ba b4 hb;replace HB:=hB HB hb;obtain⟨⟨_,_⟩,_,_⟩:=z2 b2)|((with_reducible refine ag (f:=69) rfl ?_);refine dk 16 func69 (aG.calls k _ _ ah al dX dY _ (kC dF) dG.out jX.out) ?_;rintro e w79 ⟨zO,rfl,bW,hb⟩;refine⟨_,rfl,?_⟩;have gD:=am (Kd.cz (Kd.an (ok':=fun k_=>(w.heap.size≤k_)∧k_≠bV∧k_≠bD) (Kd.p_ (Kd.eD bW)) (fun k_ aZ=>⟨(Nat.le_trans (af oB) aZ.2.1),(fB b2 aZ.2.1),(fB b4 aZ.2.1)⟩)) (af oB));replace b2:=ba b2 hb;replace b4:=ba b4 hb;replace HB:=hB HB hb;obtain⟨gH,gI,jD⟩:=Kd.cl gD.out;subst jD;obtain⟨⟨_,_⟩,_,_⟩:=z2 b4))
  refine bodyPost_ret (bu rfl _ _ bD 26 #[.slice gH dX.length gI,.int .i64 dY] (0,0) _ rfl (oP b4) underlying26 rfl (by kernel_rfl)) rfl ?_;exact⟨_,oE,Kd.an (Kd.aN (p:=⟨bD,1,none⟩) (Kd.aN (p:=⟨bD,0,none⟩) (Kd.an gD.out (fun k_ hk=>(⟨hk,hk.2.2⟩:_∧k_≠bD))) (fun _ hk=>hk.2) (.slice gH dX.length gI)) (fun _ hk=>hk.2) (.int .i64 dY)) (fun _ hk=>hk.1.1),oB⟩
 replace H:=bA H;obtain⟨⟨bS,bT,bU,bB,bE,bC,dS,d2⟩,A6,H⟩:=H
 try dsimp only at H
 have gJ:=ae.mk H;clear H
 go_enter func160,ntmps160
 go_upto_region 4 with(first|((with_reducible refine au (N:=3) rfl ?_);(try(refine c_ (by rfl) ?_;dsimp only));refine fz 3 #[.slice bs ah.length bo,.int .i64 al] 26 ?_;intro bV hg w8 hbox hb;have b2:=am (hbox);have j4:=fO hg;replace HB:=hB HB hb;clear hb hbox hg)|((with_reducible refine au (N:=6) rfl ?_);(try(refine c_ (by rfl) ?_;dsimp only));refine fz 6 #[.slice none 0 0,.int .i64 0] 26 ?_;intro bD hg w9 hbox hb;have b4:=am (hbox);have j5:=fO hg;have bQ:=fX hg b2;have bR:=fY hg b2;replace b2:=ba b2 hb;replace HB:=hB HB hb;clear hb hbox hg;have m9:=bQ.out;have mA:=bR.out;obtain⟨⟨_,_⟩,_,_⟩:=z2 b2)|((with_reducible refine ag (f:=65) rfl ?_);refine dk 13 func65 (aw.calls k _ _ ah al true _ (kC dF) dG.out A4.out) ?_;rintro e w12 ⟨rfl,hb⟩;refine⟨_,rfl,?_⟩;replace b2:=ba b2 hb;replace b4:=ba b4 hb;replace HB:=hB HB hb;obtain⟨⟨_,_⟩,_,_⟩:=z2 b2)|((with_reducible refine ag (f:=164) rfl ?_);refine dk 20 func164 (fU.calls k _ _ ah al a1 0 bS bT bU bB bE bC dS d2 _ (kC dF) dG.out A6.out) ?_;rintro e w14 ⟨zP,zQ,zR,rfl,bW,jA,jB,hb⟩;refine⟨_,rfl,?_⟩;have dH:=am (Kd.aq (Kd.cI (M:=fun k_=>(w.heap.size≤k_)) bW (af oB) (fun k_ h_=>h_)) (af oB));have dI:=am (Kd.aq (Kd.cI (M:=fun k_=>(w.heap.size≤k_)) jA (af oB) (fun k_ h_=>h_)) (af oB));have dJ:=am (Kd.aq (Kd.cI (M:=fun k_=>(w.heap.size≤k_)) jB (af oB) (fun k_ h_=>h_)) (af oB));replace b2:=ba b2 hb;replace b4:=ba b4 hb;replace HB:=hB HB hb;(try clear jA);(try clear jB))|((with_reducible refine au (N:=8) rfl ?_);(try(refine c_ (by rfl) ?_;dsimp only));refine fz 8 #[.int .i64 0,.int .i64 0,.int .i64 0,.slice none 0 0,.slice none 0 0,.slice none 0 0] 32 ?_;intro b1 hg w15 hbox hb;have b7:=am (hbox);have mB:=fO hg;have bX:=fX hg b2;have bY:=fY hg b2;have d3:=fX hg b4;have d4:=fY hg b4;replace dH:=dm dH hb;replace dI:=dm dI hb;replace dJ:=dm dJ hb;replace b2:=ba b2 hb;replace b4:=ba b4 hb;replace HB:=hB HB hb;clear hb hbox hg;have mC:=bY.out;have mD:=bX.out;have mE:=d4.out;have mF:=d3.out;obtain⟨⟨_,_,_,_,_,_⟩,_,_,_,_,_,_⟩:=z6 b7;obtain⟨bJ,bK,jE⟩:=Kd.ao dH.out;subst jE;obtain⟨bN,bO,jF⟩:=Kd.ao dI.out;subst jF;obtain⟨bL,bM,jG⟩:=Kd.ao dJ.out;subst jG))
 go_cut [36] (fun jY wc=>∃(kq:Nat) (dT:Bool),jY= .bool dT∧ae (bw.j0 kq a2 dS d2 dT ah al bS bT bU bB bE bC=some (r1,r2,r3))∧ae (kq≤k)∧ae (Kd.R (Kd.int .u8) 5 wc w.heap.size (fun k_=>(w.heap.size≤k_)) (.slice bJ bB.length bK) bB)∧ae (Kd.R fL 74 wc w.heap.size (fun k_=>(w.heap.size≤k_)) (.slice bN bE.length bO) bE)∧ae (Kd.R dn 101 wc w.heap.size (fun k_=>(w.heap.size≤k_)) (.slice bL bC.length bM) bC)∧ae (wc.heap[bV]? =some (.cells #[(.slice bs ah.length bo),.int .i64 al] 26 (0,0)))∧ae (wc.heap[bD]? =some (.cells #[(.slice none 0 0),.int .i64 0] 26 (0,0)))∧ae (wc.heap[b1]? =some (.cells #[.int .i64 bS,.int .i64 bT,.int .i64 bU,(.slice bJ bB.length bK),(.slice bN bE.length bO),(.slice bL bC.length bM)] 32 (0,0)))∧ae (Below w.heap.size w wc))
 case first=>
  have H:=gJ.out;clear gJ
  by_cases dO:d2=0
  rotate_left
  ·rw[if_neg dO]at H;have dU:(d2==0)=false:=beq_eq_false_iff_ne.mpr dO;have dV:(d2 !=0)=true:=bne_iff_ne.mpr dO
   (skip)
   have H':=ae.mk H;clear H
   go_wp2
   go_meet
   case rel=>exact⟨_,(false),oS,H',⟨by omega⟩,⟨Kd.aM (Kd.bn (p:=⟨b1,5,none⟩) (Kd.bn (p:=⟨b1,4,none⟩) (Kd.bn (p:=⟨b1,3,none⟩) (Kd.bn (p:=⟨b1,2,none⟩) (Kd.bn (p:=⟨b1,1,none⟩) (Kd.bn (p:=⟨b1,0,none⟩) (Kd.ay dH.out b7.out (by decide)) (fun _ hk=>hk.2) (.int .i64 bS)) (fun _ hk=>hk.2) (.int .i64 bT)) (fun _ hk=>hk.2) (.int .i64 bU)) (fun _ hk=>hk.2) (.slice bJ bB.length bK)) (fun _ hk=>hk.2) (.slice bN bE.length bO)) (fun _ hk=>hk.2) (.slice bL bC.length bM)) (fun _ hk=>hk.1.1)⟩,⟨Kd.aM (Kd.bn (p:=⟨b1,5,none⟩) (Kd.bn (p:=⟨b1,4,none⟩) (Kd.bn (p:=⟨b1,3,none⟩) (Kd.bn (p:=⟨b1,2,none⟩) (Kd.bn (p:=⟨b1,1,none⟩) (Kd.bn (p:=⟨b1,0,none⟩) (Kd.ay dI.out b7.out (by decide)) (fun _ hk=>hk.2) (.int .i64 bS)) (fun _ hk=>hk.2) (.int .i64 bT)) (fun _ hk=>hk.2) (.int .i64 bU)) (fun _ hk=>hk.2) (.slice bJ bB.length bK)) (fun _ hk=>hk.2) (.slice bN bE.length bO)) (fun _ hk=>hk.2) (.slice bL bC.length bM)) (fun _ hk=>hk.1.1)⟩,⟨Kd.aM (Kd.bn (p:=⟨b1,5,none⟩) (Kd.bn (p:=⟨b1,4,none⟩) (Kd.bn (p:=⟨b1,3,none⟩) (Kd.bn (p:=⟨b1,2,none⟩) (Kd.bn (p:=⟨b1,1,none⟩) (Kd.bn (p:=⟨b1,0,none⟩) (Kd.ay dJ.out b7.out (by decide)) (fun _ hk=>hk.2) (.int .i64 bS)) (fun _ hk=>hk.2) (.int .i64 bT)) (fun _ hk=>hk.2) (.int .i64 bU)) (fun _ hk=>hk.2) (.slice bJ bB.length bK)) (fun _ hk=>hk.2) (.slice bN bE.length bO)) (fun _ hk=>hk.2) (.slice bL bC.length bM)) (fun _ hk=>hk.1.1)⟩,⟨oF b2⟩,⟨oF b4⟩,⟨oP b7⟩,⟨oB⟩⟩
  rw[if_pos dO]at H;have dU:(d2==0)=true:=beq_iff_eq.mpr dO;have dV:(d2 !=0)=false:=bne_eq_false_iff_eq.mpr dO;clear dO
  (skip)
  by_cases dR:(ah.length:Int)≥30
  ·rw[if_pos dR]at H;have j6:decide (30≤(ah.length:Int))=true:=decide_eq_true dR;have j7:decide (30≤ah.length)=true:=decide_eq_true (by omega);clear dR;have H':=ae.mk H;clear H;have mG:=bQ.out;have mH:=bR.out;have mI:=bX.out;have mJ:=bY.out;obtain⟨⟨_,_⟩,_,_⟩:=z2 b2
   go_wp2
   go_meet
   case rel=>exact⟨_,(true),oS,H',⟨by omega⟩,⟨Kd.aM (Kd.bn (p:=⟨b1,5,none⟩) (Kd.bn (p:=⟨b1,4,none⟩) (Kd.bn (p:=⟨b1,3,none⟩) (Kd.bn (p:=⟨b1,2,none⟩) (Kd.bn (p:=⟨b1,1,none⟩) (Kd.bn (p:=⟨b1,0,none⟩) (Kd.ay dH.out b7.out (by decide)) (fun _ hk=>hk.2) (.int .i64 bS)) (fun _ hk=>hk.2) (.int .i64 bT)) (fun _ hk=>hk.2) (.int .i64 bU)) (fun _ hk=>hk.2) (.slice bJ bB.length bK)) (fun _ hk=>hk.2) (.slice bN bE.length bO)) (fun _ hk=>hk.2) (.slice bL bC.length bM)) (fun _ hk=>hk.1.1)⟩,⟨Kd.aM (Kd.bn (p:=⟨b1,5,none⟩) (Kd.bn (p:=⟨b1,4,none⟩) (Kd.bn (p:=⟨b1,3,none⟩) (Kd.bn (p:=⟨b1,2,none⟩) (Kd.bn (p:=⟨b1,1,none⟩) (Kd.bn (p:=⟨b1,0,none⟩) (Kd.ay dI.out b7.out (by decide)) (fun _ hk=>hk.2) (.int .i64 bS)) (fun _ hk=>hk.2) (.int .i64 bT)) (fun _ hk=>hk.2) (.int .i64 bU)) (fun _ hk=>hk.2) (.slice bJ bB.length bK)) (fun _ hk=>hk.2) (.slice bN bE.length bO)) (fun _ hk=>hk.2) (.slice bL bC.length bM)) (fun _ hk=>hk.1.1)⟩,⟨Kd.aM (Kd.bn (p:=⟨b1,5,none⟩) (Kd.bn (p:=⟨b1,4,none⟩) (Kd.bn (p:=⟨b1,3,none⟩) (Kd.bn (p:=⟨b1,2,none⟩) (Kd.bn (p:=⟨b1,1,none⟩) (Kd.bn (p:=⟨b1,0,none⟩) (Kd.ay dJ.out b7.out (by decide)) (fun _ hk=>hk.2) (.int .i64 bS)) (fun _ hk=>hk.2) (.int .i64 bT)) (fun _ hk=>hk.2) (.int .i64 bU)) (fun _ hk=>hk.2) (.slice bJ bB.length bK)) (fun _ hk=>hk.2) (.slice bN bE.length bO)) (fun _ hk=>hk.2) (.slice bL bC.length bM)) (fun _ hk=>hk.1.1)⟩,⟨oF b2⟩,⟨oF b4⟩,⟨oP b7⟩,⟨oB⟩⟩
  rw[if_neg dR]at H;have j6:decide (30≤(ah.length:Int))=false:=decide_eq_false dR;have j7:decide (30≤ah.length)=false:=decide_eq_false (by omega);clear dR;have H':=ae.mk H;clear H;have mK:=bQ.out;have mL:=bR.out;have mM:=bX.out;have mN:=bY.out;obtain⟨⟨_,_⟩,_,_⟩:=z2 b2
  go_wp2
  go_meet
  case rel=>exact⟨_,(decide (al≥1000)),oS,H',⟨by omega⟩,⟨Kd.aM (Kd.bn (p:=⟨b1,5,none⟩) (Kd.bn (p:=⟨b1,4,none⟩) (Kd.bn (p:=⟨b1,3,none⟩) (Kd.bn (p:=⟨b1,2,none⟩) (Kd.bn (p:=⟨b1,1,none⟩) (Kd.bn (p:=⟨b1,0,none⟩) (Kd.ay dH.out b7.out (by decide)) (fun _ hk=>hk.2) (.int .i64 bS)) (fun _ hk=>hk.2) (.int .i64 bT)) (fun _ hk=>hk.2) (.int .i64 bU)) (fun _ hk=>hk.2) (.slice bJ bB.length bK)) (fun _ hk=>hk.2) (.slice bN bE.length bO)) (fun _ hk=>hk.2) (.slice bL bC.length bM)) (fun _ hk=>hk.1.1)⟩,⟨Kd.aM (Kd.bn (p:=⟨b1,5,none⟩) (Kd.bn (p:=⟨b1,4,none⟩) (Kd.bn (p:=⟨b1,3,none⟩) (Kd.bn (p:=⟨b1,2,none⟩) (Kd.bn (p:=⟨b1,1,none⟩) (Kd.bn (p:=⟨b1,0,none⟩) (Kd.ay dI.out b7.out (by decide)) (fun _ hk=>hk.2) (.int .i64 bS)) (fun _ hk=>hk.2) (.int .i64 bT)) (fun _ hk=>hk.2) (.int .i64 bU)) (fun _ hk=>hk.2) (.slice bJ bB.length bK)) (fun _ hk=>hk.2) (.slice bN bE.length bO)) (fun _ hk=>hk.2) (.slice bL bC.length bM)) (fun _ hk=>hk.1.1)⟩,⟨Kd.aM (Kd.bn (p:=⟨b1,5,none⟩) (Kd.bn (p:=⟨b1,4,none⟩) (Kd.bn (p:=⟨b1,3,none⟩) (Kd.bn (p:=⟨b1,2,none⟩) (Kd.bn (p:=⟨b1,1,none⟩) (Kd.bn (p:=⟨b1,0,none⟩) (Kd.ay dJ.out b7.out (by decide)) (fun _ hk=>hk.2) (.int .i64 bS)) (fun _ hk=>hk.2) (.int .i64 bT)) (fun _ hk=>hk.2) (.int .i64 bU)) (fun _ hk=>hk.2) (.slice bJ bB.length bK)) (fun _ hk=>hk.2) (.slice bN bE.length bO)) (fun _ hk=>hk.2) (.slice bL bC.length bM)) (fun _ hk=>hk.1.1)⟩,⟨oF b2⟩,⟨oF b4⟩,⟨oP b7⟩,⟨oB⟩⟩
 case rest=>
  clear gJ;obtain⟨kq,dT,rfl,HA,jC,b5,b3,b6,b2,b4,b7,HB⟩:=hcut
  cases kq with
  |zero=>exact absurd HA.out (by simp[bw.j0])
  |succ kj6=>
   have H:=HA.out;clear HA;simp only[bw.j0]at H;have dZ:=ae.mk H;clear H
   go_upto_if 36 with(fail)
   go_cut [10] (fun jZ wc=>∃(kq:Nat) (bZ:Int),jZ= .int .i64 bZ∧ae (bw.j1 kq a2 dS bZ ah al bS bT bU bB bE bC=some (r1,r2,r3))∧ae (kq≤kj6)∧ae (Kd.R (Kd.int .u8) 5 wc w.heap.size (fun k_=>(w.heap.size≤k_)) (.slice bJ bB.length bK) bB)∧ae (Kd.R fL 74 wc w.heap.size (fun k_=>(w.heap.size≤k_)) (.slice bN bE.length bO) bE)∧ae (Kd.R dn 101 wc w.heap.size (fun k_=>(w.heap.size≤k_)) (.slice bL bC.length bM) bC)∧ae (wc.heap[bV]? =some (.cells #[(.slice bs ah.length bo),.int .i64 al] 26 (0,0)))∧ae (wc.heap[bD]? =some (.cells #[(.slice none 0 0),.int .i64 0] 26 (0,0)))∧ae (wc.heap[b1]? =some (.cells #[.int .i64 bS,.int .i64 bT,.int .i64 bU,(.slice bJ bB.length bK),(.slice bN bE.length bO),(.slice bL bC.length bM)] 32 (0,0)))∧ae (Below w.heap.size w wc))
   case first=>
    have H:=dZ.out;clear dZ;replace H:=jl H;rcases H with⟨rfl,H⟩|⟨rfl,H⟩
    ·have H':=ae.mk H;clear H
     go_wp2
     go_meet
     case rel=>exact⟨_,(5),oS,H',⟨by have:=jC.out;omega⟩,⟨oR b5⟩,⟨oR b3⟩,⟨oR b6⟩,⟨oF b2⟩,⟨oF b4⟩,⟨oF b7⟩,⟨oB⟩⟩
    have H':=ae.mk H;clear H
    go_wp2
    go_meet
    case rel=>exact⟨_,(d2),oS,H',⟨by have:=jC.out;omega⟩,⟨oR b5⟩,⟨oR b3⟩,⟨oR b6⟩,⟨oF b2⟩,⟨oF b4⟩,⟨oF b7⟩,⟨oB⟩⟩
   case rest=>
    clear dZ;obtain⟨kq,bZ,rfl,HA,zS,b5,b3,b6,b2,b4,b7,HB⟩:=hcut
    cases kq with
    |zero=>exact absurd HA.out (by simp[bw.j1])
    |succ aaS=>
     have H:=HA.out;clear HA;simp only[bw.j1]at H
     by_cases dP:bZ=0
     rotate_left
     ·rw[if_neg dP]at H;have j8:(bZ==0)=false:=beq_eq_false_iff_ne.mpr dP;have j9:(bZ !=0)=true:=bne_iff_ne.mpr dP;replace H:=bA H;obtain⟨⟨gA,gB⟩,m1,H⟩:=H
      try dsimp only at H
      simp only[Option.some.injEq,Prod.mk.injEq]at H;obtain⟨rfl,rfl,rfl⟩:=H;have mO:=bQ.out;have mP:=bR.out;have mQ:=bX.out;have mS:=bY.out;obtain⟨⟨_,_⟩,_,_⟩:=z2 b2
      go_wp2_with (((with_reducible refine ag (f:=69) rfl ?_);refine dk 40 func69 (aG.calls aaS _ _ ah al gA gB _ (kC dF) dG.out m1.out) ?_;rintro e w68 ⟨zT,rfl,bW,hb⟩;refine⟨_,rfl,?_⟩;have gE:=am (Kd.cz (Kd.an (ok':=fun k_=>(w.heap.size≤k_)∧some k_≠(.slice bJ bB.length bK:Value).ownBlock∧some k_≠(.slice bN bE.length bO:Value).ownBlock∧some k_≠(.slice bL bC.length bM:Value).ownBlock∧k_≠bV∧k_≠bD∧k_≠b1) (Kd.p_ (Kd.eD bW)) (fun k_ aZ=>⟨(Nat.le_trans (af oB) aZ.2.1),(Kd.fresh' (iO b5) k_ aZ.2.1),(Kd.fresh' (iO b3) k_ aZ.2.1),(Kd.fresh' (iO b6) k_ aZ.2.1),(fB b2 aZ.2.1),(fB b4 aZ.2.1),(fB b7 aZ.2.1)⟩)) (af oB));replace b5:=dm b5 hb;replace b3:=dm b3 hb;replace b6:=dm b6 hb;replace b2:=ba b2 hb;replace b4:=ba b4 hb;replace b7:=ba b7 hb;replace HB:=hB HB hb;obtain⟨gK,gL,jH⟩:=Kd.cl gE.out;subst jH;have mT:=d3.out;have mU:=d4.out;obtain⟨⟨_,_⟩,_,_⟩:=z2 b4))
      refine bodyPost_ret (bu rfl _ _ bD 26 #[.slice gK gA.length gL,.int .i64 gB] (0,0) _ rfl (oP b4) underlying26 rfl (by kernel_rfl)) rfl ?_;exact⟨_,oE,Kd.an (Kd.aN (p:=⟨bD,1,none⟩) (Kd.aN (p:=⟨bD,0,none⟩) (Kd.an gE.out (fun k_ hk=>(⟨hk,hk.2.2.2.2.2.1⟩:_∧k_≠bD))) (fun _ hk=>hk.2) (.slice gK gA.length gL)) (fun _ hk=>hk.2) (.int .i64 gB)) (fun _ hk=>hk.1.1),oB⟩
     rw[if_pos dP]at H;have j8:(bZ==0)=true:=beq_iff_eq.mpr dP;have j9:(bZ !=0)=false:=bne_eq_false_iff_eq.mpr dP;clear dP;replace H:=bA H;obtain⟨⟨d1,dL⟩,m2,H⟩:=H
     try dsimp only at H
     replace H:=bA H;obtain⟨bF,m3,H⟩:=H;replace H:=bA H;obtain⟨⟨dW,gC⟩,m4,H⟩:=H
     try dsimp only at H
     replace H:=bA H;obtain⟨⟨d5,dQ⟩,m5,H⟩:=H
     try dsimp only at H
     simp only[Option.some.injEq,Prod.mk.injEq]at H;obtain⟨rfl,rfl,rfl⟩:=H;have mV:=bQ.out;have mW:=bR.out;have mX:=bX.out;have mY:=bY.out;obtain⟨⟨_,_⟩,_,_⟩:=z2 b2
     try go_wp2_with (first|((with_reducible refine ag (f:=69) rfl ?_);refine dk 43 func69 (aG.calls aaS _ _ ah al d1 dL _ (kC dF) dG.out m2.out) ?_;rintro e w40 ⟨zU,rfl,bW,hb⟩;refine⟨_,rfl,?_⟩;have bG:=am (Kd.cz (Kd.an (ok':=fun k_=>(w.heap.size≤k_)∧some k_≠(.slice bJ bB.length bK:Value).ownBlock∧some k_≠(.slice bN bE.length bO:Value).ownBlock∧some k_≠(.slice bL bC.length bM:Value).ownBlock∧k_≠bV∧k_≠bD∧k_≠b1) (Kd.p_ (Kd.eD bW)) (fun k_ aZ=>⟨(Nat.le_trans (af oB) aZ.2.1),(Kd.fresh' (iO b5) k_ aZ.2.1),(Kd.fresh' (iO b3) k_ aZ.2.1),(Kd.fresh' (iO b6) k_ aZ.2.1),(fB b2 aZ.2.1),(fB b4 aZ.2.1),(fB b7 aZ.2.1)⟩)) (af oB));replace b5:=dm b5 hb;replace b3:=dm b3 hb;replace b6:=dm b6 hb;replace b2:=ba b2 hb;replace b4:=ba b4 hb;replace b7:=ba b7 hb;replace HB:=hB HB hb)|((with_reducible refine au (N:=11) rfl ?_);(try(refine c_ (by rfl) ?_;dsimp only));refine fz 11 #[.slice none 0 0,.int .i64 0] 26 ?_;intro b9 hg w41 hbox hb;have b8:=am (hbox);have mZ:=fO hg;have d6:=fX hg b2;have d7:=fY hg b2;have d8:=fX hg b4;have d9:=fY hg b4;have dA:=fX hg b7;have dB:=fY hg b7;replace b5:=dm b5 hb;replace b3:=dm b3 hb;replace b6:=dm b6 hb;replace bG:=am (Kd.hY (Kd.iX (bG.out) b9 (Nat.le_of_eq hg.symm)) hb);replace b2:=ba b2 hb;replace b4:=ba b4 hb;replace b7:=ba b7 hb;replace HB:=hB HB hb;clear hb hbox hg;obtain⟨dC,dD,jI⟩:=Kd.cl bG.out;subst jI;have zA:=d7.out;have zB:=d6.out;have zC:=d9.out;have zD:=d8.out;have zE:=dB.out;have zF:=dA.out;obtain⟨⟨_,_⟩,_,_⟩:=z2 b8;have zG:=d4.out;have zH:=d3.out;obtain⟨⟨_,_,_,_,_,_⟩,_,_,_,_,_,_⟩:=z6 b7;obtain⟨⟨_,_⟩,_,_⟩:=z2 b2)|((with_reducible refine ag (f:=165) rfl ?_);refine dk 50 func165 (cf.calls aaS _ _ bE dS al bF _ (lg b3 b8) (ko b3) m3.out) ?_;rintro e dE ⟨zV,rfl,bW,hb⟩;refine⟨_,rfl,?_⟩;have bP:=am (Kd.aq (Kd.eS (Kd.cI (M:=fun k_=>(w.heap.size≤k_)) bW (af oB) (fun k_ h_=>h_)) (eN b3 b8)) (af oB));replace b5:=du b5 b8 hb;replace b3:=qZ b3 b8 (Kd.cL bW) hb;replace b6:=du b6 b8 hb;replace bG:=am (Kd.gq ((Kd.an (Kd.aN (p:=⟨b9,1,none⟩) (Kd.aN (p:=⟨b9,0,none⟩) (Kd.an bG.out (fun k_ hk=>(⟨hk,hk.2⟩:_∧k_≠b9))) (fun _ hk=>hk.2) (.slice dC d1.length dD)) (fun _ hk=>hk.2) (.int .i64 dL)) (fun _ h_=>h_.1))) (Kd.cL bW) hb);replace b2:=ba b2 hb;replace b4:=ba b4 hb;replace b7:=ba b7 hb;replace b8:=mc #[.slice dC d1.length dD,.int .i64 dL] b8 hb;replace HB:=hB HB hb;obtain⟨bH,bI,jJ⟩:=Kd.ao bP.out;subst jJ;obtain⟨⟨_,_,_,_,_,_⟩,_,_,_,_,_,_⟩:=z6 b7))
     have gM:ae (Kd.R (Kd.int .u8) 5 (dE.setCell ⟨b1,4,none⟩ (.slice bH bF.length bI)) w.heap.size (fun k_=>(w.heap.size≤k_)) (.slice bJ bB.length bK) bB):=⟨Kd.aM (Kd.bn (p:=⟨b1,4,none⟩) (Kd.ay b5.out b7.out (by decide)) (fun _ hk=>hk.2) (.slice bH bF.length bI)) (fun _ hk=>hk.1)⟩;have gN:ae (Kd.R fL 74 (dE.setCell ⟨b1,4,none⟩ (.slice bH bF.length bI)) w.heap.size (fun k_=>(w.heap.size≤k_)∧some k_≠(.slice bH bF.length bI:Value).ownBlock) (.slice bN bE.length bO) bE):=⟨Kd.aM (Kd.bn (p:=⟨b1,4,none⟩) (Kd.ay b3.out b7.out (by decide)) (fun _ hk=>hk.2) (.slice bH bF.length bI)) (fun _ hk=>⟨hk.1.1,hk.1.2⟩)⟩;have gO:ae (Kd.R dn 101 (dE.setCell ⟨b1,4,none⟩ (.slice bH bF.length bI)) w.heap.size (fun k_=>(w.heap.size≤k_)) (.slice bL bC.length bM) bC):=⟨Kd.aM (Kd.bn (p:=⟨b1,4,none⟩) (Kd.ay b6.out b7.out (by decide)) (fun _ hk=>hk.2) (.slice bH bF.length bI)) (fun _ hk=>hk.1)⟩;have gP:ae (Kd.N k32 32 (dE.setCell ⟨b1,4,none⟩ (.slice bH bF.length bI)) w.heap.size (fun k_=>(w.heap.size≤k_)∧some k_≠(.slice bJ bB.length bK:Value).ownBlock∧some k_≠(.slice bN bE.length bO:Value).ownBlock∧some k_≠(.slice bL bC.length bM:Value).ownBlock∧some k_≠(.slice bH bF.length bI:Value).ownBlock∧k_≠bV∧k_≠bD∧k_≠b1∧k_≠b9) (.slice dC d1.length dD) d1):=⟨Kd.an (Kd.aN (p:=⟨b1,4,none⟩) (Kd.an bG.out (fun k_ hk=>(⟨hk,hk.1.1.2.2.2.2.2.2⟩:_∧k_≠b1))) (fun _ hk=>hk.2) (.slice bH bF.length bI)) (fun _ hk=>⟨hk.1.1.1.1,⟨hk.1.1.1.2.1,⟨hk.1.1.1.2.2.1,⟨hk.1.1.1.2.2.2.1,⟨hk.1.2,⟨hk.1.1.1.2.2.2.2.1,⟨hk.1.1.1.2.2.2.2.2.1,⟨hk.1.1.1.2.2.2.2.2.2,hk.1.1.2⟩⟩⟩⟩⟩⟩⟩⟩)⟩;have gQ:ae (Kd.R fL 74 (dE.setCell ⟨b1,4,none⟩ (.slice bH bF.length bI)) w.heap.size (fun k_=>(w.heap.size≤k_)∧some k_≠(.slice bN bE.length bO:Value).ownBlock) (.slice bH bF.length bI) bF):=⟨Kd.aM (Kd.bn (p:=⟨b1,4,none⟩) (Kd.ay bP.out b7.out (by decide)) (fun _ hk=>hk.2) (.slice bH bF.length bI)) (fun _ hk=>⟨hk.1.1.1,hk.1.2⟩)⟩;have gR:ae ((dE.setCell ⟨b1,4,none⟩ (.slice bH bF.length bI)).heap[bV]? =some (.cells #[.slice bs ah.length bo,.int .i64 al] 26 (0,0))):=⟨oF b2⟩;have gS:ae ((dE.setCell ⟨b1,4,none⟩ (.slice bH bF.length bI)).heap[bD]? =some (.cells #[.slice none 0 0,.int .i64 0] 26 (0,0))):=⟨oF b4⟩;have gT:ae ((dE.setCell ⟨b1,4,none⟩ (.slice bH bF.length bI)).heap[b1]? =some (.cells #[.int .i64 bS,.int .i64 bT,.int .i64 bU,.slice bJ bB.length bK,.slice bH bF.length bI,.slice bL bC.length bM] 32 (0,0))):=⟨oP b7⟩;have gU:ae ((dE.setCell ⟨b1,4,none⟩ (.slice bH bF.length bI)).heap[b9]? =some (.cells #[.slice dC d1.length dD,.int .i64 dL] 26 (0,0))):=⟨oF b8⟩;have gV:ae (Below w.heap.size w (dE.setCell ⟨b1,4,none⟩ (.slice bH bF.length bI))):=⟨oB⟩
     (try clear b5)
     (try clear b3)
     (try clear b6)
     (try clear bG)
     (try clear bP)
     (try clear b2)
     (try clear b4)
     (try clear b7)
     (try clear b8)
     (try clear HB)
     generalize (dE.setCell ⟨b1,4,none⟩ (.slice bH bF.length bI))=m6 at gM gN gO gP gQ gR gS gT gU gV⊢;have b5:=gM;have b3:=gN;have b6:=gO;have bG:=gP;have bP:=gQ;have b2:=gR;have b4:=gS;have b7:=gT;have b8:=gU;have HB:=gV;clear gM gN gO gP gQ gR gS gT gU gV;replace b5:=am (Kd.b_ b5.out);replace b3:=am (Kd.b_ b3.out);replace b6:=am (Kd.b_ b6.out);replace bG:=am (Kd.mi bG.out);replace bP:=am (Kd.b_ bP.out);replace b2:=am (ar b2.out);replace b4:=am (ar b4.out);replace b7:=am (ar b7.out);replace b8:=am (ar b8.out);replace HB:=am (bl HB.out);refine iY (n:=9) (S:=fun w'=>w'.cell? ⟨b9,0,none⟩=some (.slice dC d1.length dD)∧w'.cell? ⟨b9,1,none⟩=some (.int .i64 dL)∧w'.cell? ⟨b1,0,none⟩=some (.int .i64 bS)∧w'.cell? ⟨b1,1,none⟩=some (.int .i64 bT)∧w'.cell? ⟨b1,2,none⟩=some (.int .i64 bU)∧w'.cell? ⟨b1,3,none⟩=some (.slice bJ bB.length bK)∧w'.cell? ⟨b1,4,none⟩=some (.slice bH bF.length bI)∧w'.cell? ⟨b1,5,none⟩=some (.slice bL bC.length bM)∧w'.cell? ⟨bV,0,none⟩=some (.slice bs ah.length bo)∧w'.cell? ⟨bV,1,none⟩=some (.int .i64 al)) (ds:=[8]) (lb 9 0) (by kernel_rfl) rfl rfl oH (fun hHeld=> ?_);refine fW bw.rD bw.pk (fun aV fA=> ?_);generalize m6.drew=w54 at b5 b3 b6 bG bP b2 b4 b7 b8 HB hHeld⊢;refine cG 3 55 aV ?_;refine cG 5 57 aV ?_;refine iA 0 52 aV fA hHeld ?_;refine iA 1 53 aV fA hHeld ?_;refine iA 4 56 aV fA hHeld ?_;refine cG 6 58 aV ?_;refine jg 2 54 aV (fun K hK=> ?_);refine mo 54 func86 (aD.calls aaS _ _ d1 dL bS bT bU _ _ bB _ _ bF _ _ bC dW gC _ ?aC ?bh (kO b5) (ko b5) (kO bP) (ko bP) (kO b6) (ko b6) m4.out) ?_
     (case aC=>repeat(exact(Kd.dq bG.out).2.2))
     (case bh=>exact(Kd.dq bG.out).2.1)
     rintro e w55 ⟨zW,rfl,bW,hb⟩;refine⟨_,rfl,?_⟩;have dK:=am (Kd.cz (Kd.an (ok':=fun k_=>(w.heap.size≤k_)∧some k_≠(.slice bJ bB.length bK:Value).ownBlock∧some k_≠(.slice bN bE.length bO:Value).ownBlock∧some k_≠(.slice bL bC.length bM:Value).ownBlock∧some k_≠(.slice dC d1.length dD:Value).ownBlock∧some k_≠(.slice bH bF.length bI:Value).ownBlock∧k_≠bV∧k_≠bD∧k_≠b1∧k_≠b9) bW (fun k_ aZ=>⟨(Nat.le_trans (af oB) aZ),(Kd.fresh' (iO b5) k_ aZ),(Kd.fresh' (iO b3) k_ aZ),(Kd.fresh' (iO b6) k_ aZ),(Kd.fresh' (Kd.qP (bG.out)) k_ aZ),(Kd.fresh' (iO bP) k_ aZ),(fB b2 aZ),(fB b4 aZ),(fB b7 aZ),(fB b8 aZ)⟩)) (af oB));replace b5:=dm b5 hb;replace b3:=dm b3 hb;replace b6:=dm b6 hb;replace bG:=am (Kd.gq (bG.out) (Kd.lB bW) hb);replace bP:=dm bP hb;replace b2:=ba b2 hb;replace b4:=ba b4 hb;replace b7:=ba b7 hb;replace b8:=ba b8 hb;replace HB:=hB HB hb;obtain⟨gW,gX,gY⟩:=Kd.cl dK.out
     (subst gY)
     refine aZ hK 54 oH (fun hHeld=> ?_);clear hK K;refine jg 7 59 aV (fun K hK=> ?_);refine sn func86 (by kernel_rfl) rfl #[.agg #[.slice gW dW.length gX,.int .i64 gC],.agg #[.int .i64 al,.int .i64 a2,.int .i64 1,.slice none 0 0,.slice none 0 0,.slice none 0 0]] (by rfl) rfl rfl oL ?_;refine(aD.calls aaS _ _ dW gC al a2 1 _ _ ([]:List Int) _ _ ([]:List (cD)) _ _ ([]:List (bj)) d5 dQ _ ?aC ?bh ?uw ?aaQ ?ga ?adn ?ado ?adp m5.out).mono ?_
     (case aC=>repeat(exact(Kd.dq dK.out).2.2))
     (case bh=>exact(Kd.dq dK.out).2.1)
     (case uw=>exact Kd.wQ _ _)
     (case aaQ=>exact Nat.le_refl _)
     (case ga=>exact Kd.wQ _ _)
     (case adn=>exact Nat.le_refl _)
     (case ado=>exact Kd.wQ _ _)
     (case adp=>exact Nat.le_refl _)
     rintro e gF ⟨zX,rfl,bW,hb⟩;refine⟨_,rfl,?_⟩;have gG:=am (Kd.cz (Kd.an (ok':=fun k_=>(w.heap.size≤k_)∧some k_≠(.slice bJ bB.length bK:Value).ownBlock∧some k_≠(.slice bN bE.length bO:Value).ownBlock∧some k_≠(.slice bL bC.length bM:Value).ownBlock∧some k_≠(.slice dC d1.length dD:Value).ownBlock∧some k_≠(.slice bH bF.length bI:Value).ownBlock∧some k_≠(.slice gW dW.length gX:Value).ownBlock∧k_≠bV∧k_≠bD∧k_≠b1∧k_≠b9) bW (fun k_ aZ=>⟨(Nat.le_trans (af oB) aZ),(Kd.fresh' (iO b5) k_ aZ),(Kd.fresh' (iO b3) k_ aZ),(Kd.fresh' (iO b6) k_ aZ),(Kd.fresh' (Kd.qP (bG.out)) k_ aZ),(Kd.fresh' (iO bP) k_ aZ),(Kd.fresh' (Kd.qP (dK.out)) k_ aZ),(fB b2 aZ),(fB b4 aZ),(fB b7 aZ),(fB b8 aZ)⟩)) (af oB));replace b5:=dm b5 hb;replace b3:=dm b3 hb;replace b6:=dm b6 hb;replace bG:=am (Kd.gq (bG.out) (Kd.lB bW) hb);replace bP:=dm bP hb;replace dK:=am (Kd.gq (dK.out) (Kd.lB bW) hb);replace b2:=ba b2 hb;replace b4:=ba b4 hb;replace b7:=ba b7 hb;replace b8:=ba b8 hb;replace HB:=hB HB hb;obtain⟨dM,dN,j2⟩:=Kd.cl gG.out
     (subst j2)
     refine aZ hK 59 oH (fun hHeld=> ?_);clear hK K;refine kJ (i:=8) (N:=none) (lb 9 511) rfl rfl (iE aV.out (by kernel_rfl)) (by decide) (fun K hK=> ?_);have zY:gF.cell? ⟨b9,0,none⟩=some (.slice dC d1.length dD):=(aj b8.out 0).trans rfl;have zI:=aK b8.out 0;have jL:=d6.out;have jM:=d8.out;have jN:=dA.out;have jO:=d7.out;have jP:=d9.out;have jQ:=dB.out;have zZ:gF.cell? ⟨b9,1,none⟩=some (.int .i64 dL):=(aj b8.out 1).trans rfl;have zJ:=aK b8.out 1;have jR:=d6.out;have jS:=d8.out;have jT:=dA.out;have jU:=d7.out;have jV:=d9.out;have jW:=dB.out;refine kp (w1:= ?_) (by rfl) rfl ?_ ?_;rotate_left
     ·go_simp
      rfl
     refine hK.out _ _ ?_;clear hK K;refine nF aV ?_;obtain⟨⟨_,_⟩,_,_⟩:=z2 b2;have j3:ae (((gF.setCell ⟨b9,0,none⟩ (.slice dM d5.length dN)).setCell ⟨b9,1,none⟩ (.int .i64 dQ)).heap[b9]? =some (.cells #[.slice dM d5.length dN,.int .i64 dQ] 26 (0,0))):=⟨oP b8⟩;obtain⟨⟨_,_⟩,_,_⟩:=z2 j3;have jK:ae ((((gF.setCell ⟨b9,0,none⟩ (.slice dM d5.length dN)).setCell ⟨b9,1,none⟩ (.int .i64 dQ)).setCell ⟨b9,1,none⟩ (.int .i64 (wrap64 (al+1)))).heap[b9]? =some (.cells #[.slice dM d5.length dN,.int .i64 (wrap64 (al+1))] 26 (0,0))):=⟨oP j3⟩;obtain⟨⟨_,_⟩,_,_⟩:=z2 jK;obtain⟨⟨_,_⟩,_,_⟩:=z2 b4
     try go_wp2
     refine bodyPost_ret (bu rfl _ _ bD 26 #[.slice dM d5.length dN,.int .i64 (wrap64 (al+1))] (0,0) _ rfl (oP b4) underlying26 rfl (by kernel_rfl)) rfl ?_;exact⟨_,oE,Kd.an (Kd.aN (p:=⟨bD,1,none⟩) (Kd.aN (p:=⟨bD,0,none⟩) (Kd.aN (p:=⟨b9,1,none⟩) (Kd.aN (p:=⟨b9,1,none⟩) (Kd.aN (p:=⟨b9,0,none⟩) (Kd.an (Kd.an gG.out (fun k_ hk=>(⟨hk,hk.2.2.2.2.2.2.2.2.2.2⟩:_∧k_≠b9))) (fun k_ hk=>(⟨hk,hk.1.2.2.2.2.2.2.2.2.1⟩:_∧k_≠bD))) (fun _ hk=>hk.1.2) (.slice dM d5.length dN)) (fun _ hk=>hk.1.2) (.int .i64 dQ)) (fun _ hk=>hk.1.2) (.int .i64 (wrap64 (al+1)))) (fun _ hk=>hk.2) (.slice dM d5.length dN)) (fun _ hk=>hk.2) (.int .i64 (wrap64 (al+1)))) (fun _ hk=>hk.1.1.1),oB⟩
end Go.Proofs.YtkfoopcpihmbmaaGreatDoor.P
