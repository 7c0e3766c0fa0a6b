-- Printed walks.
import Derived.Test.YtlecajlnjmbilaaGreatDoorPx12
set_option linter.all false
set_option maxHeartbeats 8000000
set_option maxRecDepth 100000
namespace Go.Proofs.YtlecajlnjmbilaaGreatDoor.P
open Go.RowKit Go.Proofs.ae.au Go.Proofs.ae.ba Go.Proofs.ae.bg
attribute [local go_sem] gh gi iR iS ft fu gj gl

mutual
def aw.j0:Nat→ByteArray→Int→List Int→Bool→List (bh)→Int→Option ((List (bh))×Int×Int)
 |0,_,_,_,_,_,_=>none
 |k+1,x1,x2,x3,b5,b2,b3=>if b5=true then((cr.f k b2 b3).bind fun b4=>(some (b4.1,b4.2,1)))else((jr.f k b2 b3 x1).bind fun b1=>(if b1.2.2.2.2.2.2=0 then(aw.j1 k x2 x3 b1.2.2.2.2.2.2 (decide ((x3.length:Int)>(wrap64 (100-x2)))) b2 b3 b1.1 b1.2.1 b1.2.2.1 b1.2.2.2.1 b1.2.2.2.2.1 b1.2.2.2.2.2.1)else(aw.j1 k x2 x3 b1.2.2.2.2.2.2 false b2 b3 b1.1 b1.2.1 b1.2.2.1 b1.2.2.2.1 b1.2.2.2.2.1 b1.2.2.2.2.2.1)))
def aw.j1:Nat→Int→List Int→Int→Bool→List (bh)→Int→Int→Int→Int→List Int→List (eb)→List (eh)→Option ((List (bh))×Int×Int)
 |0,_,_,_,_,_,_,_,_,_,_,_,_=>none
 |k+1,x2,x3,b9,bB,b1,b2,b3,b4,b5,b6,b7,b8=>if bB=true then(aw.j2 k x2 x3 5 b1 b2 b3 b4 b5 b6 b7 b8)else(aw.j2 k x2 x3 b9 b1 b2 b3 b4 b5 b6 b7 b8)
def aw.j2:Nat→Int→List Int→Int→List (bh)→Int→Int→Int→Int→List Int→List (eb)→List (eh)→Option ((List (bh))×Int×Int)
 |0,_,_,_,_,_,_,_,_,_,_,_=>none
 |k+1,x2,x3,bB,b1,b2,b4,b5,b6,b7,b8,b9=>if bB=0 then(aw.l0 k x2 x3 b1 b2 b4 b5 b6 b7 b8 b9)else((cr.f k b1 b2).bind fun b3=>(some (b3.1,b3.2,bB)))
def aw.l0:Nat→Int→List Int→List (bh)→Int→Int→Int→Int→List Int→List (eb)→List (eh)→Option ((List (bh))×Int×Int)
 |0,_,_,_,_,_,_,_,_,_,_=>none
 |k+1,x2,x3,b2,b3,b4,b5,b6,b1,b7,b8=>if(b1.length:Int)<(wrap64 (x2+(x3.length:Int)))then(if b1.length<140737488355328 then(aw.l0 k x2 x3 b2 b3 b4 b5 b6 (b1++[0]) b7 b8)else(none))else(aw.l1 k x2 x3 0 b2 b3 b4 b5 b6 b1 b7 b8)
def aw.l1:Nat→Int→List Int→Int→List (bh)→Int→Int→Int→Int→List Int→List (eb)→List (eh)→Option ((List (bh))×Int×Int)
 |0,_,_,_,_,_,_,_,_,_,_,_=>none
 |k+1,x2,x3,b2,b3,b4,b5,b6,b7,b1,b8,b9=>if b2<(x3.length:Int)then(if 0≤b2 then(if 0≤(wrap64 (x2+b2))then(if(wrap64 (x2+b2))<(b1.length:Int)then(aw.l1 k x2 x3 (wrap64 (b2+1)) b3 b4 b5 b6 b7 (b1.set ((wrap64 (x2+b2)):Int).toNat (rd x3 b2)) b8 b9)else(none))else(none))else(none))else((aZ.f k b3 b4 b5 b6 b7 b1 b8 b9).bind fun bB=>(some (bB.1,bB.2,0)))
end
def aw.f (k:Nat) (ag:List (bh)) (ak:Int) (a1:ByteArray) (a2:Int) (l3:List Int):Option ((List (bh))×Int×Int):=(aX.f k a1).bind fun b1=>((aE.f k ag ak).bind fun b2=>(if b2=true then(if b1.2=true then((aT.f a2 0 100).bind fun b3=>(aw.j0 k a1 a2 l3 (!b3) ag ak))else(aw.j0 k a1 a2 l3 true ag ak))else(aw.j0 k a1 a2 l3 true ag ak)))
def aw.T14:Bool×List (List Nat×List Nat):=(true,[([],[]),([0],[0]),([],[]),([],[]),([2,3],[2,3]),([],[]),([],[]),([5,6],[5,6]),([7],[7]),([1,4,0,1,2,3,4,5,6,7,8],[1,4]),([9,8,0,1,2,3,4,5,6,7,8],[8,9])])
def aw.B14:List Nat:=[0,1,0,0,12,0,0,96,224,511,1023]
theorem aw.ad2:gf .any (opsOf Tryz.f23 14)=aw.T14:=by kernel_rfl
theorem aw.adu:eL aw.T14.2 aw.B14=true:=by kernel_rfl
theorem aw.calls (k:Nat) (bj:Option Addr) (aW:Nat) (ag:List (bh)) (ak:Int) (a1:ByteArray) (a2:Int) (A3:Option Addr) (c3:Nat) (l3:List Int) (r1:List (bh)) (r2:Int) (r3:Int) (w:World) (ch:Kd.C fD w bj ag.length ag) (ck:ag.length≤aW) (hr3:Kd.C (Kd.int .u8) w A3 l3.length l3) (hc3:l3.length≤c3) (h:aw.f k ag ak a1 a2 l3=some (r1,r2,r3)):
  Calls Tryz.prog 23 #[.agg #[.slice bj ag.length aW,.int .i64 ak],.string a1,.int .i64 a2,.slice A3 l3.length c3] w fun e w'=>∃jd:Value,e= .returned (.tuple #[.agg #[jd,.int .i64 r2],.int .i64 r3])∧Kd.N fD 58 w' w.heap.size (fun k_=>(w.heap.size≤k_)) jd r1∧Below w.heap.size w w':=by
 have zL:=Tryz.underlying28;have zM:=Tryz.underlying58;have bZ:=ab.mk ch;have d1:=ab.mk ck;clear ch ck;have jX:=ab.mk hr3;have zZ:=ab.mk hc3;clear hr3 hc3;have HB:=am (Below.refl w.heap.size w);unfold aw.f at h;have H:=h;clear h;replace H:=bA H;obtain⟨⟨jB,jC⟩,A5,H⟩:=H
 try dsimp only at H
 have gC:=ab.mk H;clear H
 go_enter Tryz.func23,Tryz.ntmps23
 go_upto_region 2 with(first|((with_reducible refine ai (N:=4) rfl ?_);(try(refine bx (by rfl) ?_;dsimp only));refine di 4 #[.slice bj ag.length aW,.int .i64 ak] 28 ?_;intro bY hg w7 hbox hb;have b2:=am (hbox);have gV:=dh hg;replace HB:=hB HB hb;clear hb hbox hg)|((with_reducible refine ai (N:=8) rfl ?_);(try(refine bx (by rfl) ?_;dsimp only));refine di 8 #[.slice none 0 0,.int .i64 0] 28 ?_;intro bC hg w8 hbox hb;have b3:=am (hbox);have gW:=dh hg;have bJ:=eJ hg b2;have bK:=eK hg b2;replace b2:=bn b2 hb;replace HB:=hB HB hb;clear hb hbox hg)|((with_reducible refine aj (f:=51) rfl ?_);refine eI 17 Tryz.func51 (aX.calls k a1 jB jC _ A5.out) ?_;rintro e w9 ⟨zN,rfl,d5,hb⟩;refine⟨_,rfl,?_⟩;have d3:=am (Kd.ay (Kd.kR (M:=fun k_=>(w.heap.size≤k_)) d5 (ah oB) (fun k_ h_=>h_)) (ah oB));replace b2:=bn b2 hb;replace b3:=bn b3 hb;replace HB:=hB HB hb))
 (try simp only[Act.put,List.setIfInBounds_toArray,List.set_cons_zero,List.set_cons_succ])
 go_cut [31] (fun jY wc=>∃(kq:Nat) (dG:Bool),jY= .bool dG∧ab (aw.j0 kq a1 a2 l3 dG ag ak=some (r1,r2,r3))∧ab (kq≤k)∧ab (wc.heap[bY]? =some (.cells #[(.slice bj ag.length aW),.int .i64 ak] 28 (0,0)))∧ab (wc.heap[bC]? =some (.cells #[(.slice none 0 0),.int .i64 0] 28 (0,0)))∧ab (Below w.heap.size w wc))
 case first=>
  have H:=gC.out;clear gC;replace H:=bA H;obtain⟨zO,gD,H⟩:=H
  try dsimp only at H
  replace H:=ll H;rcases H with⟨rfl,H⟩|⟨rfl,H⟩;rotate_left
  ·have H':=ab.mk H;clear H;have m9:=bJ.out;have mA:=bK.out;obtain⟨⟨_,_⟩,_,_⟩:=z2 b2
   go_wp2_with (first|((with_reducible refine aj (f:=40) rfl ?_);refine eI 21 Tryz.func40 (aE.calls k _ _ ag ak false _ (kC bZ) d1.out gD.out) ?_;rintro e w22 ⟨rfl,hb⟩;refine⟨_,rfl,?_⟩;replace d3:=iI d3 hb;replace b2:=bn b2 hb;replace b3:=bn b3 hb;replace HB:=hB HB hb))
   go_meet
   case rel=>exact⟨_,(true),oS,H',⟨by first|omega|exact Nat.le_refl _⟩,⟨oF b2⟩,⟨oF b3⟩,⟨oB⟩⟩
  replace H:=ll H;rcases H with⟨rfl,H⟩|⟨rfl,H⟩;rotate_left
  ·have H':=ab.mk H;clear H;have mB:=bJ.out;have mC:=bK.out;obtain⟨⟨_,_⟩,_,_⟩:=z2 b2
   go_wp2_with (first|((with_reducible refine aj (f:=40) rfl ?_);refine eI 21 Tryz.func40 (aE.calls k _ _ ag ak true _ (kC bZ) d1.out gD.out) ?_;rintro e w19 ⟨rfl,hb⟩;refine⟨_,rfl,?_⟩;replace d3:=iI d3 hb;replace b2:=bn b2 hb;replace b3:=bn b3 hb;replace HB:=hB HB hb))
   go_meet
   case rel=>exact⟨_,(true),oS,H',⟨by first|omega|exact Nat.le_refl _⟩,⟨oF b2⟩,⟨oF b3⟩,⟨oB⟩⟩
  replace H:=bA H;obtain⟨gE,jZ,H⟩:=H
  try dsimp only at H
  have H':=ab.mk H;clear H;have mD:=bJ.out;have mE:=bK.out;obtain⟨⟨_,_⟩,_,_⟩:=z2 b2
  go_wp2_with (first|((with_reducible refine aj (f:=40) rfl ?_);refine eI 21 Tryz.func40 (aE.calls k _ _ ag ak true _ (kC bZ) d1.out gD.out) ?_;rintro e w16 ⟨rfl,hb⟩;refine⟨_,rfl,?_⟩;replace d3:=iI d3 hb;replace b2:=bn b2 hb;replace b3:=bn b3 hb;replace HB:=hB HB hb)|(go_at_call 60;(with_reducible refine(aT.calls a2 0 100 gE _ jZ.out).mono ?_);rintro e w' ⟨rfl,⟨nd,rfl⟩⟩))
  go_meet
  case rel=>exact⟨_,(!gE),oS,H',⟨by first|omega|exact Nat.le_refl _⟩,⟨oF b2⟩,⟨oF b3⟩,⟨oB⟩⟩
 case rest=>
  clear gC
  try clear c3
  obtain⟨kq,dG,rfl,HA,dD,b2,b3,HB⟩:=hcut
  cases kq with
  |zero=>exact absurd HA.out (by simp[aw.j0])
  |succ kj5=>
   have H:=HA.out;clear HA;simp only[aw.j0]at H;replace H:=ll H;rcases H with⟨rfl,H⟩|⟨rfl,H⟩
   ·replace H:=bA H;obtain⟨⟨dM,dN⟩,m1,H⟩:=H
    try dsimp only at H
    simp only[Option.some.injEq,Prod.mk.injEq]at H;obtain⟨rfl,rfl,rfl⟩:=H;have mF:=bJ.out;have mG:=bK.out;obtain⟨⟨_,_⟩,_,_⟩:=z2 b2
    go_wp2_with (first|((with_reducible refine aj (f:=41) rfl ?_);refine eI 33 Tryz.func41 (cr.calls kj5 _ _ ag ak dM dN _ (kC bZ) d1.out m1.out) ?_;rintro e w27 ⟨zP,rfl,d5,hb⟩;refine⟨_,rfl,?_⟩;have dW:=am (Kd.lW (Kd.d_ (ok':=fun k_=>(w.heap.size≤k_)∧k_≠bY∧k_≠bC) (Kd.S_N (Kd.kV d5)) (fun k_ fV=>⟨(Nat.le_trans (ah oB) fV.2.1),(fB b2 fV.2.1),(fB b3 fV.2.1)⟩)) (ah oB));replace b2:=bn b2 hb;replace b3:=bn b3 hb;replace HB:=hB HB hb;obtain⟨gF,gG,jD⟩:=Kd.lB dW.out;subst jD;obtain⟨⟨_,_⟩,_,_⟩:=z2 b3))
    refine bodyPost_ret (dd rfl _ _ bC 28 #[.slice gF dM.length gG,.int .i64 dN] (0,0) _ rfl (oP b3) Tryz.underlying28 rfl (by kernel_rfl)) rfl ?_;exact⟨_,oE,by(with_reducible repeat(first|apply Kd.dy|apply Kd.dz|apply Kd.ei));exact Kd.d_ (Kd.kG (p:=⟨bC,1,none⟩) (Kd.kG (p:=⟨bC,0,none⟩) (Kd.d_ dW.out (fun k_ hk=>(⟨hk,hk.2.2⟩:_∧k_≠bC))) (fun _ hk=>hk.2) (.slice gF dM.length gG)) (fun _ hk=>hk.2) (.int .i64 dN)) (fun _ hk=>hk.1.1),oB⟩
   replace H:=bA H;obtain⟨⟨bE,bF,bG,bI,b8,b9,d2⟩,m2,H⟩:=H
   try dsimp only at H
   have dO:=ab.mk H;clear H;have mH:=bJ.out;have mI:=bK.out;obtain⟨⟨_,_⟩,_,_⟩:=z2 b2
   go_upto_region 5 with(first|((with_reducible refine aj (f:=52) rfl ?_);refine eI 37 Tryz.func52 (jr.calls kj5 _ _ ag ak a1 bE bF bG bI b8 b9 d2 _ (kC bZ) d1.out m2.out) ?_;rintro e w34 ⟨zQ,zR,zS,rfl,d5,j7,j8,hb⟩;refine⟨_,rfl,?_⟩;have d6:=am (Kd.ay (Kd.kR (M:=fun k_=>(w.heap.size≤k_)) d5 (ah oB) (fun k_ h_=>h_)) (ah oB));have d7:=am (Kd.ay (Kd.kR (M:=fun k_=>(w.heap.size≤k_)) j7 (ah oB) (fun k_ h_=>h_)) (ah oB));have d8:=am (Kd.ay (Kd.kR (M:=fun k_=>(w.heap.size≤k_)) j8 (ah oB) (fun k_ h_=>h_)) (ah oB));replace b2:=bn b2 hb;replace b3:=bn b3 hb;replace HB:=hB HB hb;(try clear j7);(try clear j8))|((with_reducible refine ai (N:=12) rfl ?_);(try(refine bx (by rfl) ?_;dsimp only));refine di 12 #[.int .i64 0,.int .i64 0,.int .i64 0,.slice none 0 0,.slice none 0 0,.slice none 0 0] 58 ?_;intro b4 hg w35 hbox hb;have b7:=am (hbox);have gX:=dh hg;have bQ:=eJ hg b2;have bR:=eK hg b2;have bS:=eJ hg b3;have bT:=eK hg b3;replace d6:=iI d6 hb;replace d7:=iI d7 hb;replace d8:=iI d8 hb;replace b2:=bn b2 hb;replace b3:=bn b3 hb;replace HB:=hB HB hb;clear hb hbox hg;have mJ:=bR.out;have mK:=bQ.out;have mL:=bT.out;have mM:=bS.out;obtain⟨⟨_,_,_,_,_,_⟩,_,_,_,_,_,_⟩:=z6 b7;obtain⟨bV,bW,jE⟩:=Kd.ax d6.out;subst jE;obtain⟨bL,bM,jF⟩:=Kd.ax d7.out;subst jF;obtain⟨bN,bO,jG⟩:=Kd.ax d8.out;subst jG))
   (try simp only[Act.put,List.setIfInBounds_toArray,List.set_cons_zero,List.set_cons_succ])
   go_cut [48] (fun m3 wc=>∃(kq:Nat) (dE:Bool),m3= .bool dE∧ab (aw.j1 kq a2 l3 d2 dE ag ak bE bF bG bI b8 b9=some (r1,r2,r3))∧ab (kq≤kj5)∧ab (Kd.R (Kd.int .u8) 5 wc w.heap.size (fun k_=>(w.heap.size≤k_)) (.slice bV bI.length bW) bI)∧ab (Kd.R iT 75 wc w.heap.size (fun k_=>(w.heap.size≤k_)) (.slice bL b8.length bM) b8)∧ab (Kd.R iU 82 wc w.heap.size (fun k_=>(w.heap.size≤k_)) (.slice bN b9.length bO) b9)∧ab (wc.heap[bY]? =some (.cells #[(.slice bj ag.length aW),.int .i64 ak] 28 (0,0)))∧ab (wc.heap[bC]? =some (.cells #[(.slice none 0 0),.int .i64 0] 28 (0,0)))∧ab (wc.heap[b4]? =some (.cells #[.int .i64 bE,.int .i64 bF,.int .i64 bG,(.slice bV bI.length bW),(.slice bL b8.length bM),(.slice bN b9.length bO)] 58 (0,0)))∧ab (Below w.heap.size w wc))
   case first=>
    have H:=dO.out;clear dO
    by_cases dF:d2=0
    rotate_left
    ·rw[if_neg dF]at H;have d9:(d2==0)=false:=beq_eq_false_iff_ne.mpr dF;have gY:(d2 !=0)=true:=bne_iff_ne.mpr dF
     (first|rw[d9]|rw[ad3]|(simp only[fo,gy];rw[d9])|skip)
     have H':=ab.mk H;clear H
     go_wp2
     go_meet
     case rel=>exact⟨_,(false),oS,H',⟨by have:=dD.out;first|omega|exact Nat.le_refl _⟩,⟨by(with_reducible repeat(first|apply Kd.cu|apply Kd.cv|apply Kd.cz));exact Kd.bm (Kd.dm (p:=⟨b4,5,none⟩) (Kd.dm (p:=⟨b4,4,none⟩) (Kd.dm (p:=⟨b4,3,none⟩) (Kd.dm (p:=⟨b4,2,none⟩) (Kd.dm (p:=⟨b4,1,none⟩) (Kd.dm (p:=⟨b4,0,none⟩) (Kd.aI d6.out b7.out (by decide)) (fun _ hk=>hk.2) (.int .i64 bE)) (fun _ hk=>hk.2) (.int .i64 bF)) (fun _ hk=>hk.2) (.int .i64 bG)) (fun _ hk=>hk.2) (.slice bV bI.length bW)) (fun _ hk=>hk.2) (.slice bL b8.length bM)) (fun _ hk=>hk.2) (.slice bN b9.length bO)) (fun _ hk=>hk.1.1)⟩,⟨by(with_reducible repeat(first|apply Kd.cu|apply Kd.cv|apply Kd.cz));exact Kd.bm (Kd.dm (p:=⟨b4,5,none⟩) (Kd.dm (p:=⟨b4,4,none⟩) (Kd.dm (p:=⟨b4,3,none⟩) (Kd.dm (p:=⟨b4,2,none⟩) (Kd.dm (p:=⟨b4,1,none⟩) (Kd.dm (p:=⟨b4,0,none⟩) (Kd.aI d7.out b7.out (by decide)) (fun _ hk=>hk.2) (.int .i64 bE)) (fun _ hk=>hk.2) (.int .i64 bF)) (fun _ hk=>hk.2) (.int .i64 bG)) (fun _ hk=>hk.2) (.slice bV bI.length bW)) (fun _ hk=>hk.2) (.slice bL b8.length bM)) (fun _ hk=>hk.2) (.slice bN b9.length bO)) (fun _ hk=>hk.1.1)⟩,⟨by(with_reducible repeat(first|apply Kd.cu|apply Kd.cv|apply Kd.cz));exact Kd.bm (Kd.dm (p:=⟨b4,5,none⟩) (Kd.dm (p:=⟨b4,4,none⟩) (Kd.dm (p:=⟨b4,3,none⟩) (Kd.dm (p:=⟨b4,2,none⟩) (Kd.dm (p:=⟨b4,1,none⟩) (Kd.dm (p:=⟨b4,0,none⟩) (Kd.aI d8.out b7.out (by decide)) (fun _ hk=>hk.2) (.int .i64 bE)) (fun _ hk=>hk.2) (.int .i64 bF)) (fun _ hk=>hk.2) (.int .i64 bG)) (fun _ hk=>hk.2) (.slice bV bI.length bW)) (fun _ hk=>hk.2) (.slice bL b8.length bM)) (fun _ hk=>hk.2) (.slice bN b9.length bO)) (fun _ hk=>hk.1.1)⟩,⟨oF b2⟩,⟨oF b3⟩,⟨oP b7⟩,⟨oB⟩⟩
    rw[if_pos dF]at H;have d9:(d2==0)=true:=beq_iff_eq.mpr dF;have gY:(d2 !=0)=false:=bne_eq_false_iff_eq.mpr dF;clear dF
    (first|rw[d9]|rw[ad3]|(simp only[fo,gy];rw[d9])|skip)
    have H':=ab.mk H;clear H
    go_wp2
    go_meet
    case rel=>exact⟨_,(decide ((l3.length:Int)>(wrap64 (100-a2)))),oS,H',⟨by have:=dD.out;first|omega|exact Nat.le_refl _⟩,⟨by(with_reducible repeat(first|apply Kd.cu|apply Kd.cv|apply Kd.cz));exact Kd.bm (Kd.dm (p:=⟨b4,5,none⟩) (Kd.dm (p:=⟨b4,4,none⟩) (Kd.dm (p:=⟨b4,3,none⟩) (Kd.dm (p:=⟨b4,2,none⟩) (Kd.dm (p:=⟨b4,1,none⟩) (Kd.dm (p:=⟨b4,0,none⟩) (Kd.aI d6.out b7.out (by decide)) (fun _ hk=>hk.2) (.int .i64 bE)) (fun _ hk=>hk.2) (.int .i64 bF)) (fun _ hk=>hk.2) (.int .i64 bG)) (fun _ hk=>hk.2) (.slice bV bI.length bW)) (fun _ hk=>hk.2) (.slice bL b8.length bM)) (fun _ hk=>hk.2) (.slice bN b9.length bO)) (fun _ hk=>hk.1.1)⟩,⟨by(with_reducible repeat(first|apply Kd.cu|apply Kd.cv|apply Kd.cz));exact Kd.bm (Kd.dm (p:=⟨b4,5,none⟩) (Kd.dm (p:=⟨b4,4,none⟩) (Kd.dm (p:=⟨b4,3,none⟩) (Kd.dm (p:=⟨b4,2,none⟩) (Kd.dm (p:=⟨b4,1,none⟩) (Kd.dm (p:=⟨b4,0,none⟩) (Kd.aI d7.out b7.out (by decide)) (fun _ hk=>hk.2) (.int .i64 bE)) (fun _ hk=>hk.2) (.int .i64 bF)) (fun _ hk=>hk.2) (.int .i64 bG)) (fun _ hk=>hk.2) (.slice bV bI.length bW)) (fun _ hk=>hk.2) (.slice bL b8.length bM)) (fun _ hk=>hk.2) (.slice bN b9.length bO)) (fun _ hk=>hk.1.1)⟩,⟨by(with_reducible repeat(first|apply Kd.cu|apply Kd.cv|apply Kd.cz));exact Kd.bm (Kd.dm (p:=⟨b4,5,none⟩) (Kd.dm (p:=⟨b4,4,none⟩) (Kd.dm (p:=⟨b4,3,none⟩) (Kd.dm (p:=⟨b4,2,none⟩) (Kd.dm (p:=⟨b4,1,none⟩) (Kd.dm (p:=⟨b4,0,none⟩) (Kd.aI d8.out b7.out (by decide)) (fun _ hk=>hk.2) (.int .i64 bE)) (fun _ hk=>hk.2) (.int .i64 bF)) (fun _ hk=>hk.2) (.int .i64 bG)) (fun _ hk=>hk.2) (.slice bV bI.length bW)) (fun _ hk=>hk.2) (.slice bL b8.length bM)) (fun _ hk=>hk.2) (.slice bN b9.length bO)) (fun _ hk=>hk.1.1)⟩,⟨oF b2⟩,⟨oF b3⟩,⟨oP b7⟩,⟨oB⟩⟩
   case rest=>
    clear dO
    try clear c3
    obtain⟨kq,dE,rfl,HA,dB,b1,b5,b6,b2,b3,b7,HB⟩:=hcut
    cases kq with
    |zero=>exact absurd HA.out (by simp[aw.j1])
    |succ aet=>
     have H:=HA.out;clear HA;simp only[aw.j1]at H;have dP:=ab.mk H;clear H
     go_upto_if 48 with(fail)
     go_cut [13] (fun m4 wc=>∃(kq:Nat) (bU:Int),m4= .int .i64 bU∧ab (aw.j2 kq a2 l3 bU ag ak bE bF bG bI b8 b9=some (r1,r2,r3))∧ab (kq≤aet)∧ab (Kd.R (Kd.int .u8) 5 wc w.heap.size (fun k_=>(w.heap.size≤k_)) (.slice bV bI.length bW) bI)∧ab (Kd.R iT 75 wc w.heap.size (fun k_=>(w.heap.size≤k_)) (.slice bL b8.length bM) b8)∧ab (Kd.R iU 82 wc w.heap.size (fun k_=>(w.heap.size≤k_)) (.slice bN b9.length bO) b9)∧ab (wc.heap[bY]? =some (.cells #[(.slice bj ag.length aW),.int .i64 ak] 28 (0,0)))∧ab (wc.heap[bC]? =some (.cells #[(.slice none 0 0),.int .i64 0] 28 (0,0)))∧ab (wc.heap[b4]? =some (.cells #[.int .i64 bE,.int .i64 bF,.int .i64 bG,(.slice bV bI.length bW),(.slice bL b8.length bM),(.slice bN b9.length bO)] 58 (0,0)))∧ab (Below w.heap.size w wc))
     case first=>
      have H:=dP.out;clear dP;replace H:=ll H;rcases H with⟨rfl,H⟩|⟨rfl,H⟩
      ·have H':=ab.mk H;clear H
       go_wp2
       go_meet
       case rel=>exact⟨_,(5),oS,H',⟨by have:=dD.out;have:=dB.out;first|omega|exact Nat.le_refl _⟩,⟨oR b1⟩,⟨oR b5⟩,⟨oR b6⟩,⟨oF b2⟩,⟨oF b3⟩,⟨oF b7⟩,⟨oB⟩⟩
      have H':=ab.mk H;clear H
      go_wp2
      go_meet
      case rel=>exact⟨_,(d2),oS,H',⟨by have:=dD.out;have:=dB.out;first|omega|exact Nat.le_refl _⟩,⟨oR b1⟩,⟨oR b5⟩,⟨oR b6⟩,⟨oF b2⟩,⟨oF b3⟩,⟨oF b7⟩,⟨oB⟩⟩
     case rest=>
      clear dP
      try clear c3
      obtain⟨kq,bU,rfl,HA,dH,b1,b5,b6,b2,b3,b7,HB⟩:=hcut
      cases kq with
      |zero=>exact absurd HA.out (by simp[aw.j2])
      |succ adv=>
       have H:=HA.out;clear HA;simp only[aw.j2]at H
       by_cases dA:bU=0
       rotate_left
       ·rw[if_neg dA]at H;have gZ:(bU==0)=false:=beq_eq_false_iff_ne.mpr dA;have j1:(bU !=0)=true:=bne_iff_ne.mpr dA;replace H:=bA H;obtain⟨⟨dQ,dR⟩,m5,H⟩:=H
        try dsimp only at H
        simp only[Option.some.injEq,Prod.mk.injEq]at H;obtain⟨rfl,rfl,rfl⟩:=H;have mN:=bJ.out;have mO:=bK.out;have mP:=bQ.out;have mQ:=bR.out;obtain⟨⟨_,_⟩,_,_⟩:=z2 b2
        go_wp2_with (first|((with_reducible refine aj (f:=41) rfl ?_);refine eI 52 Tryz.func41 (cr.calls adv _ _ ag ak dQ dR _ (kC bZ) d1.out m5.out) ?_;rintro e w81 ⟨zT,rfl,d5,hb⟩;refine⟨_,rfl,?_⟩;have dX:=am (Kd.lW (Kd.d_ (ok':=fun k_=>(w.heap.size≤k_)∧some k_≠(.slice bV bI.length bW:Value).ownBlock∧some k_≠(.slice bL b8.length bM:Value).ownBlock∧some k_≠(.slice bN b9.length bO:Value).ownBlock∧k_≠bY∧k_≠bC∧k_≠b4) (Kd.S_N (Kd.kV d5)) (fun k_ fV=>⟨(Nat.le_trans (ah oB) fV.2.1),(Kd.fresh' (kl_ b1) k_ fV.2.1),(Kd.fresh' (kl_ b5) k_ fV.2.1),(Kd.fresh' (kl_ b6) k_ fV.2.1),(fB b2 fV.2.1),(fB b3 fV.2.1),(fB b7 fV.2.1)⟩)) (ah oB));replace b1:=iI b1 hb;replace b5:=iI b5 hb;replace b6:=iI b6 hb;replace b2:=bn b2 hb;replace b3:=bn b3 hb;replace b7:=bn b7 hb;replace HB:=hB HB hb;obtain⟨gH,gI,jH⟩:=Kd.lB dX.out;subst jH;have mS:=bS.out;have mT:=bT.out;obtain⟨⟨_,_⟩,_,_⟩:=z2 b3))
        refine bodyPost_ret (dd rfl _ _ bC 28 #[.slice gH dQ.length gI,.int .i64 dR] (0,0) _ rfl (oP b3) Tryz.underlying28 rfl (by kernel_rfl)) rfl ?_;exact⟨_,oE,by(with_reducible repeat(first|apply Kd.dy|apply Kd.dz|apply Kd.ei));exact Kd.d_ (Kd.kG (p:=⟨bC,1,none⟩) (Kd.kG (p:=⟨bC,0,none⟩) (Kd.d_ dX.out (fun k_ hk=>(⟨hk,hk.2.2.2.2.2.1⟩:_∧k_≠bC))) (fun _ hk=>hk.2) (.slice gH dQ.length gI)) (fun _ hk=>hk.2) (.int .i64 dR)) (fun _ hk=>hk.1.1),oB⟩
       rw[if_pos dA]at H;have gZ:(bU==0)=true:=beq_iff_eq.mpr dA;have j1:(bU !=0)=false:=bne_eq_false_iff_eq.mpr dA;clear dA;have H':=ab.mk H;clear H
       go_wp2
       go_loopg [] adv (fun kq w'=>∃(bH:List Int) (bP:Value),ab (aw.l0 kq a2 l3 ag ak bE bF bG bH b8 b9=some (r1,r2,r3))∧ab (kq≤adv)∧ab (Kd.R (Kd.int .u8) 5 w' w.heap.size (fun k_=>(w.heap.size≤k_)) bP bH)∧ab (Kd.R iT 75 w' w.heap.size (fun k_=>(w.heap.size≤k_)) (.slice bL b8.length bM) b8)∧ab (Kd.R iU 82 w' w.heap.size (fun k_=>(w.heap.size≤k_)) (.slice bN b9.length bO) b9)∧ab (w'.heap[bY]? =some (.cells #[(.slice bj ag.length aW),.int .i64 ak] 28 (0,0)))∧ab (w'.heap[bC]? =some (.cells #[(.slice none 0 0),.int .i64 0] 28 (0,0)))∧ab (w'.heap[b4]? =some (.cells #[.int .i64 bE,.int .i64 bF,.int .i64 bG,bP,(.slice bL b8.length bM),(.slice bN b9.length bO)] 58 (0,0)))∧ab (Below w.heap.size w w'))
       case atStart=>exact⟨(bI),(.slice bV bI.length bW),H',⟨Nat.le_refl _⟩,⟨oR b1⟩,⟨oR b5⟩,⟨oR b6⟩,⟨oF b2⟩,⟨oF b3⟩,⟨oF b7⟩,⟨oB⟩⟩
       case round=>
        clear H'
        try clear c3
        try clear dA
        obtain⟨bH,bP,HA,dY,b1,b5,b6,b2,b3,b7,HB⟩:=hrel
        cases gk with
        |zero=>exact absurd HA.out (by simp[aw.l0])
        |succ k4=>
         have H:=HA.out;clear HA;simp only[aw.l0]at H;replace H:=iH H;rcases H with⟨dZ,H⟩|⟨dZ,H⟩
         ·obtain⟨j9,H⟩:=lH H;have j2:=ab.mk j9;clear j9;obtain⟨dC,dn⟩:∃y_:List Int,y_=(bH++[0]):=⟨_,rfl⟩;replace H:(aw.l0 k4 a2 l3 ag ak bE bF bG dC b8 b9)=some (r1,r2,r3):=oY;have j3:=ab.mk dn;clear dn;have H':=ab.mk H;clear H;have mU:=bR.out;have mV:=bQ.out;have mW:=bT.out;have mX:=bS.out;obtain⟨⟨_,_,_,_,_,_⟩,_,_,_,_,_,_⟩:=z6 b7;obtain⟨jI,jJ,jK⟩:=Kd.ax b1.out;subst jK
          go_wp2_with (first|((with_reducible refine dp (b:= .append) (xs:= #[.tmp 63,.tmp 64]) rfl ?_);(try(refine bx (by rfl) ?_;dsimp only));at_builtin;refine Kd.mr (Kd.int .u8) (w0:=w) w.heap.size rfl (.tmp 63) (.tmp 64) 39 5 (.int .u8 0) 1 rfl Tryz.underlying39 info5 rfl (by decide) (by omega) (.slice jI bH.length jJ) bH 0 [.int .u8 0] (fun k_=>(w.heap.size≤k_)) (fun _=>False) rfl rfl ?aP (fun _ hk=>hk.elim) ?aF ?aO ?aB ?aS ?aL ?_;(case aP=>exact rfl);(case aB=>exact oB);(case aF=>exact(fun k_ hk=>(Nat.le_trans (ah oB) hk)));(case aO=>exact(oR b1));(case aS=>exact(ah oB));(case aL=>have:=j2.out;omega);intro zU w52 ho hb hg hat;rw[←j3.out]at ho;have gA:=am (ho);replace b5:=am (Kd.iX (oR b5) (Kd.fT (oR b1)) (by decide) hg);replace b6:=am (Kd.iX (oR b6) (Kd.fT (oR b1)) (by decide) hg);replace b2:=lA b2 hg (Kd.lr b1.out b2.out (by decide));replace b3:=lA b3 hg (Kd.lr b1.out b3.out (by decide));replace b7:=lA b7 hg (Kd.lr b1.out b7.out (by decide));replace HB:=am (hb);clear b1;clear ho hb hg hat;obtain⟨dI,dJ,jL⟩:=Kd.ax gA.out;subst jL;obtain⟨⟨_,_,_,_,_,_⟩,_,_,_,_,_,_⟩:=z6 b7))
          go_roundg k4
          case measure=>have:=dD.out;have:=dB.out;have:=dH.out;have:=dY.out;omega
          case rel=>exact⟨(dC),(.slice dI dC.length dJ),H',⟨by have:=dD.out;have:=dB.out;have:=dH.out;have:=dY.out;omega⟩,⟨by(with_reducible repeat(first|apply Kd.cu|apply Kd.cv|apply Kd.cz));exact Kd.bm (Kd.dm (p:=⟨b4,3,none⟩) (Kd.aI gA.out b7.out (by decide)) (fun _ hk=>hk.2) (.slice dI dC.length dJ)) (fun _ hk=>hk.1)⟩,⟨by(with_reducible repeat(first|apply Kd.cu|apply Kd.cv|apply Kd.cz));exact Kd.bm (Kd.dm (p:=⟨b4,3,none⟩) (Kd.aI b5.out b7.out (by decide)) (fun _ hk=>hk.2) (.slice dI dC.length dJ)) (fun _ hk=>hk.1)⟩,⟨by(with_reducible repeat(first|apply Kd.cu|apply Kd.cv|apply Kd.cz));exact Kd.bm (Kd.dm (p:=⟨b4,3,none⟩) (Kd.aI b6.out b7.out (by decide)) (fun _ hk=>hk.2) (.slice dI dC.length dJ)) (fun _ hk=>hk.1)⟩,⟨oF b2⟩,⟨oF b3⟩,⟨oP b7⟩,⟨oB⟩⟩
         have H':=ab.mk H;clear H;have mY:=bR.out;have mZ:=bQ.out;have zA:=bT.out;have zB:=bS.out;obtain⟨⟨_,_,_,_,_,_⟩,_,_,_,_,_,_⟩:=z6 b7;obtain⟨jM,jN,jO⟩:=Kd.ax b1.out;subst jO
         go_wp2
         go_loopg [14] k4 (fun kq m6 w'=>∃(bD:Int) (bB:List Int) (bP:Value),m6= .int .i64 bD∧ab (aw.l1 kq a2 l3 bD ag ak bE bF bG bB b8 b9=some (r1,r2,r3))∧ab (kq≤k4)∧ab (Kd.R (Kd.int .u8) 5 w' w.heap.size (fun k_=>(w.heap.size≤k_)) bP bB)∧ab (Kd.R iT 75 w' w.heap.size (fun k_=>(w.heap.size≤k_)) (.slice bL b8.length bM) b8)∧ab (Kd.R iU 82 w' w.heap.size (fun k_=>(w.heap.size≤k_)) (.slice bN b9.length bO) b9)∧ab (w'.heap[bY]? =some (.cells #[(.slice bj ag.length aW),.int .i64 ak] 28 (0,0)))∧ab (w'.heap[bC]? =some (.cells #[(.slice none 0 0),.int .i64 0] 28 (0,0)))∧ab (w'.heap[b4]? =some (.cells #[.int .i64 bE,.int .i64 bF,.int .i64 bG,bP,(.slice bL b8.length bM),(.slice bN b9.length bO)] 58 (0,0)))∧ab (Below w.heap.size w w'))
         case atStart=>exact⟨(0),(bH),(.slice jM bH.length jN),oS,H',⟨Nat.le_refl _⟩,⟨oR b1⟩,⟨oR b5⟩,⟨oR b6⟩,⟨oF b2⟩,⟨oF b3⟩,⟨oF b7⟩,⟨oB⟩⟩
         case round=>
          clear H'
          try clear c3
          try clear dA
          try clear dZ
          obtain⟨bD,bB,bP,rfl,HA,jA,b1,b5,b6,b2,b3,b7,HB⟩:=hrel
          cases gk with
          |zero=>exact absurd HA.out (by simp[aw.l1])
          |succ k5=>
           have H:=HA.out;clear HA;simp only[aw.l1]at H;replace H:=iH H;rcases H with⟨j4,H⟩|⟨j4,H⟩;rotate_left
           ·replace H:=bA H;obtain⟨⟨dS,dT⟩,m7,H⟩:=H
            try dsimp only at H
            simp only[Option.some.injEq,Prod.mk.injEq]at H;obtain⟨rfl,rfl,rfl⟩:=H;have zC:=bJ.out;have zD:=bK.out;have zE:=bQ.out;have zF:=bR.out;obtain⟨⟨_,_⟩,_,_⟩:=z2 b2;have zG:=bT.out;have zH:=bS.out;obtain⟨⟨_,_,_,_,_,_⟩,_,_,_,_,_,_⟩:=z6 b7;obtain⟨jP,jQ,jR⟩:=Kd.ax b1.out;subst jR
            go_wp2_with (first|((with_reducible refine aj (f:=55) rfl ?_);refine eI 85 Tryz.func55 (aZ.calls k5 _ _ ag ak bE bF bG _ _ bB _ _ b8 _ _ b9 dS dT _ (kC bZ) d1.out (kO b1) (ko b1) (kO b5) (ko b5) (kO b6) (ko b6) m7.out) ?_;rintro e w74 ⟨zV,rfl,d5,hb⟩;refine⟨_,rfl,?_⟩;have gB:=am (Kd.lW (Kd.d_ (ok':=fun k_=>(w.heap.size≤k_)∧some k_≠(.slice jP bB.length jQ:Value).ownBlock∧some k_≠(.slice bL b8.length bM:Value).ownBlock∧some k_≠(.slice bN b9.length bO:Value).ownBlock∧k_≠bY∧k_≠bC∧k_≠b4) d5 (fun k_ fV=>⟨(Nat.le_trans (ah oB) fV),(Kd.fresh' (kl_ b1) k_ fV),(Kd.fresh' (kl_ b5) k_ fV),(Kd.fresh' (kl_ b6) k_ fV),(fB b2 fV),(fB b3 fV),(fB b7 fV)⟩)) (ah oB));replace b1:=iI b1 hb;replace b5:=iI b5 hb;replace b6:=iI b6 hb;replace b2:=bn b2 hb;replace b3:=bn b3 hb;replace b7:=bn b7 hb;replace HB:=hB HB hb;obtain⟨gJ,gK,jS⟩:=Kd.lB gB.out;subst jS;obtain⟨⟨_,_⟩,_,_⟩:=z2 b3))
            refine bodyPost_ret (dd rfl _ _ bC 28 #[.slice gJ dS.length gK,.int .i64 dT] (0,0) _ rfl (oP b3) Tryz.underlying28 rfl (by kernel_rfl)) rfl ?_;exact⟨_,oE,by(with_reducible repeat(first|apply Kd.dy|apply Kd.dz|apply Kd.ei));exact Kd.d_ (Kd.kG (p:=⟨bC,1,none⟩) (Kd.kG (p:=⟨bC,0,none⟩) (Kd.d_ gB.out (fun k_ hk=>(⟨hk,hk.2.2.2.2.2.1⟩:_∧k_≠bC))) (fun _ hk=>hk.2) (.slice gJ dS.length gK)) (fun _ hk=>hk.2) (.int .i64 dT)) (fun _ hk=>hk.1.1),oB⟩
           obtain⟨zI,H⟩:=cU H;obtain⟨bX,dK⟩:∃j_:Int,(wrap64 (a2+bD))=j_:=⟨_,rfl⟩
           replace H:(if 0≤(bX)then(if(bX)<(bB.length:Int)then(aw.l1 k5 a2 l3 (wrap64 (bD+1)) ag ak bE bF bG (bB.set ((bX):Int).toNat (rd l3 bD)) b8 b9)else(none))else(none))=some (r1,r2,r3):=by first|(rw[dK]at H;exact H)|(simp only[dK]at H⊢;exact H)
           have m8:(IntKind.i64.wrap (a2+bD))=bX:=(fo _).trans dK;obtain⟨zJ,H⟩:=cU H;obtain⟨zK,H⟩:=cU H;obtain⟨gL,dn⟩:∃y_:List Int,y_=(bB.set ((bX):Int).toNat (rd l3 bD)):=⟨_,rfl⟩;replace H:(aw.l1 k5 a2 l3 (wrap64 (bD+1)) ag ak bE bF bG gL b8 b9)=some (r1,r2,r3):=oY;have j5:=ab.mk dn;clear dn;have H':=ab.mk H;clear H
           try go_wp2
           replace b1:=am (Kd.cz b1.out);replace b5:=am (Kd.cz b5.out);replace b6:=am (Kd.cz b6.out);replace b2:=am (ao b2.out);replace b3:=am (ao b3.out);replace b7:=am (ao b7.out);replace HB:=am (ar HB.out);have zW:(0≤(bD:Int))=True:=oT;have zX:(bD<(l3.length:Int))=True:=oT;obtain⟨j6,jT,d4⟩:=Kd.jm jX.out bD oa oa;have jW:=d4
           cases jT
           replace d4:=cB HB d4;have gM:0≤((bX):Int):=oa;have gN:((bX):Int)<((bB.length:Int):Int):=oa;obtain⟨dL,gO,gP,gQ,jU,zY,gR⟩:=Kd.lu b1.out (by omega)
           (first|cases gP|(injection gP with iF nP nQ;(first|subst iF|(injection iF with iF;subst iF));subst nQ;clear nP))
           have jV:=ab.mk gQ;have dU:=ab.mk gR;clear gQ jU gR;obtain⟨gS,gT⟩:=Kd.ob 0 b1.out ((bX):Int) gM gN;replace gM:=eq_true gM;replace gN:=eq_true gN;have dV:=Kd.ac3 b1.out ((bX):Int) (rd l3 bD);rw[←j5.out]at dV;have gU:=ab.mk dV;clear dV;refine pJ (n:=11) (S:=fun w'=>w'.cell? ⟨b4,0,none⟩=some (.int .i64 bE)∧w'.cell? ⟨b4,1,none⟩=some (.int .i64 bF)∧w'.cell? ⟨b4,2,none⟩=some (.int .i64 bG)∧w'.cell? ⟨b4,3,none⟩=some (.slice (some ⟨dL,0,none⟩) bB.length gO)∧w'.cell? ⟨b4,4,none⟩=some (.slice bL b8.length bM)∧w'.cell? ⟨b4,5,none⟩=some (.slice bN b9.length bO)∧w'.cell? (j6.add (bD).toNat)=some (.int .u8 (rd l3 bD))) (ds:=[10]) (lb 11 0) (by kernel_rfl) rfl rfl oH (fun hHeld=> ?_);refine pO aw.ad2 aw.adu (fun av ey=> ?_);generalize wr.drew=w65 at b1 b5 b6 b2 b3 b7 HB dU gU gT d4 gS hHeld⊢;refine b_ 0 73 av ?_;refine b_ 2 75 av ?_;refine b_ 3 76 av ?_;refine b_ 4 77 av ?_;refine b_ 5 78 av ?_;refine b_ 6 79 av ?_;refine b_ 7 80 av ?_;refine fJ 1 74 av ey hHeld ?_;refine fJ 8 81 av ey hHeld ?_;refine b_ 9 82 av ?_;refine wy (i:=10) (N:=none) (lb 11 2047) rfl rfl (qN av.out (by kernel_rfl)) (by decide) (fun K hK=> ?_);refine tO (w1:= ?_) (by rfl) rfl ?_ ?_;rotate_left
           ·go_simp
            rfl
           refine hK.out _ _ ?_;clear hK K;refine lX av ?_
           try go_wp2
           go_roundg k5
           case measure=>have:=dD.out;have:=dB.out;have:=dH.out;have:=dY.out;have:=jA.out;omega
           case rel=>exact⟨(wrap64 (bD+1)),(gL),(.slice (some ⟨dL,0,none⟩) bB.length gO),oS,H',⟨by have:=dD.out;have:=dB.out;have:=dH.out;have:=dY.out;have:=jA.out;omega⟩,⟨oR gU⟩,⟨by(with_reducible repeat(first|apply Kd.cu|apply Kd.cv|apply Kd.cz));exact Kd.bm (Kd.dm (p:=⟨dL,((bX):Int).toNat,none⟩) (Kd.aI b5.out dU.out (by decide)) (fun _ hk=>hk.2) (.int .u8 (rd l3 bD))) (fun _ hk=>hk.1)⟩,⟨by(with_reducible repeat(first|apply Kd.cu|apply Kd.cv|apply Kd.cz));exact Kd.bm (Kd.dm (p:=⟨dL,((bX):Int).toNat,none⟩) (Kd.aI b6.out dU.out (by decide)) (fun _ hk=>hk.2) (.int .u8 (rd l3 bD))) (fun _ hk=>hk.1)⟩,⟨by(with_reducible repeat(first|refine cg ?_ _|refine ao ?_|refine aD ?_ _));refine dk ?_ (by have h_:=Kd.lr b1.out b2.out (by decide);intro e_;exact h_ (by rw[e_];rfl)) _;(with_reducible repeat(first|refine cg ?_ _|refine ao ?_|refine aD ?_ _));exact b2.out⟩,⟨by(with_reducible repeat(first|refine cg ?_ _|refine ao ?_|refine aD ?_ _));refine dk ?_ (by have h_:=Kd.lr b1.out b3.out (by decide);intro e_;exact h_ (by rw[e_];rfl)) _;(with_reducible repeat(first|refine cg ?_ _|refine ao ?_|refine aD ?_ _));exact b3.out⟩,⟨by(with_reducible repeat(first|refine cg ?_ _|refine ao ?_|refine aD ?_ _));refine dk ?_ (by have h_:=Kd.lr b1.out b7.out (by decide);intro e_;exact h_ (by rw[e_];rfl)) _;(with_reducible repeat(first|refine cg ?_ _|refine ao ?_|refine aD ?_ _));exact b7.out⟩,⟨by repeat(first|(with_reducible first|exact HB.out|apply aN|apply aJ|apply ar|refine aG ?_ jV.out|refine aG ?_ gV.out|refine aG ?_ gW.out|refine aG ?_ gX.out)|exact HB.out)⟩⟩

theorem take3 {α:Type}(L M:List α) (i n:Nat) (h:i+M.length≤n) (hn:n≤L.length):(L.take i++M++L.drop (i+M.length)).take n=(L.take n).take i++M++(L.take n).drop (i+M.length):=by
 rw[List.take_append,List.take_of_length_le (by simp only[List.length_append,List.length_take];omega),List.drop_take,List.take_take,Nat.min_eq_left (by omega:i≤n)]
 congr 2
 simp only[List.length_append,List.length_take]
 omega
/-- copy(v[i:], ys), v a row of bytes of one's own that has room for them. -/
theorem ad4 {P:Program}{ops:Array Oper}{rest:List Oper}{o:Oper}{a:Act}{Q:Exit→Act→World→Prop}{w0 W:World}(base:Nat) (hgd:o.guard=none) (s x:Operand) (t t' e:TypeId)
  (ho:o.op= .call {callee:= .builtin .copy,args:= #[s,x],argTypes:= #[t,t']}) (ht:P.underlying t=some (.slice e)) (hinfo:(P.info? e).map (·.size)=some 1)
  (A:Option Addr) (c i:Nat) (xs ys:List Int) (B:Option Addr) (cB:Nat) (ok:Nat→Prop) (hs:a.eval s= .slice (if c=i then A else Option.map (fun p=>p.add i) A) (xs.length-i) (c-i)) (hx:a.eval x= .slice B ys.length cB)
  (HO:(Kd.int .u8).R e W base ok (.slice A xs.length c) xs) (HR:(Kd.int .u8).C W B ys.length ys) (hle:i+ys.length≤xs.length) (HB:Below base w0 W) (hbase:base≤W.heap.size)
  (h:∀w1,(Kd.int .u8).R e w1 base ok (.slice A xs.length c) (xs.take i++ys++xs.drop (i+ys.length))→Below base w0 w1→W.grownBy w1 (Value.slice A xs.length c).ownBlock→wpList P ops Q rest (a.put o.dst (.int .i64 ((ys.length:Nat):Int))) w1):
  wpList P ops Q (o::rest) a W:=by
 have hR:=Kd.ng (enc:=fun n=>Value.int .u8 n) (d:=(0:Int)) (h1:=fun _=>rfl) HR;have hown:=Kd.nO HO
 have fin:∀w1,(Builtin.copy_ #[t,t'] o.type #[.slice (if c=i then A else Option.map (fun p=>p.add i) A) (xs.length-i) (c-i),.slice B ys.length cB]).run P W= .ok (goInt ((ys.length:Nat):Int)) w1→(Kd.int .u8).R e w1 base ok (.slice A xs.length c) (xs.take i++ys++xs.drop (i+ys.length))→W.grownBy w1 (Value.slice A xs.length c).ownBlock→wpList P ops Q (o::rest) a W:=by
  intro w1 hr hrow hg
  refine wpList_plain hgd fun K hK=> ?_
  unfold Oper.wp execOp;simp only[ho,resolve,invoke,builtin,Sem.run_bind,Sem.run_pure,Result.andThen_ok,List.map_toArray,List.map_cons,List.map_nil,hs,hx,hr];exact hK _ _ (h w1 hrow (HB.grown hg hbase (own_base hown)) hg)
 rcases Nat.eq_zero_or_pos ys.length with h0|hp
 ·obtain rfl:=List.eq_nil_of_length_eq_zero h0;refine fin W ?_ (by simpa using HO) (World.grownBy.refl W _);have:=run_copy_none (P:=P) W t t' o.type e (if c=i then A else Option.map (fun p=>p.add i) A) B (xs.length-i) (c-i) 0 cB ht hinfo (Nat.zero_min _)
  simpa using this
 ·obtain⟨ad,hA,hc⟩:=hR.2.2 hp;rcases hown.2 with⟨_,hx0⟩|⟨g,cap,cur,hv,hb,hh,hnc,hcm,hcs,htake⟩
  ·omega
  injection hv with hA2 _ hcc;subst hA2;subst hcc
  have hci:¬c=i:=by omega
  have hcs1:cur.size=c:=by omega
  have hl:(ys.map fun n=>Value.int .u8 n).length=ys.length:=List.length_map ..
  have hsrc:∀j u,(ys.map fun n=>Value.int .u8 n)[j]? =some u→W.cell? (ad.add j)=some u:=by
   intro j u hu;rw[List.getElem?_map]at hu;obtain⟨y,hy,rfl⟩:=Option.map_eq_some_iff.1 hu;have hj:=(List.getElem?_eq_some_iff.1 hy).1;rw[hc j hj];simp[List.getD_eq_getElem?_getD,hy]
  have hr:=run_copy_cells (P:=P) W t t' o.type e g i (xs.length-i) (c-i) ad ys.length cB (ys.map fun n=>Value.int .u8 n) ht hinfo (by rw[hl];exact(Nat.min_eq_left (by omega:ys.length≤xs.length-i)).symm) hsrc
   (fun j hj=>by rw[cell_of_row W g _ cur e (0,0) hh];simp;omega) (fun j _=>aH hh _) (by intro u hu;simp only[List.mem_map]at hu;obtain⟨q,_,rfl⟩:=hu;rfl)
  obtain⟨cur',h3,h4,h5⟩:=fe (ys.map fun n=>Value.int .u8 n) i W cur hh (by rw[hl];omega);obtain⟨s1,s2,s3,s4⟩:=fC g (ys.map fun n=>Value.int .u8 n) i W;refine fin _ (by rw[hA,if_neg hci];rw[hl]at hr;rw[show Option.map (fun p=>Addr.add p i) (some (⟨g,0,none⟩:Addr))=some ⟨g,i,none⟩from by simp[Addr.add];omega];exact hr) (Kd.pk (enc:=fun n=>Value.int .u8 n) (h1:=fun _=>rfl) ?_ HO.1) ⟨s1,s2,s3,by rw[s4];exact Nat.le_refl _,fun k _ hk=>eT _ _ k (fun he=>hk (by rw[he];simp[Value.ownBlock]))⟩
  have hln:(xs.take i++ys++xs.drop (i+ys.length)).length=xs.length:=by
   simp only[List.length_append,List.length_take,List.length_drop]
   omega
  rw[hln];refine⟨by simp only[encs,List.length_map,hln,Nat.mul_one],.inr ⟨g,c,cur',rfl,hb,h3,hnc,hcm,by rw[h4,hcs],?_⟩⟩
  have htk:cur.toList.take xs.length=xs.map fun n=>Value.int .u8 n:=by have:=htake;simpa [encs]using this
  rw[h5,hl,Nat.mul_one];simp only[encs,List.map_append,List.map_take,List.map_drop,←htk];have hm:(ys.map fun n=>Value.int .u8 n).length=ys.length:=List.length_map ..;have:=take3 cur.toList (ys.map fun n=>Value.int .u8 n) i xs.length (by rw[hm];exact hle) (by have e_:cur.toList.length=cur.size:=Array.length_toList;omega);rw[hm]at this;exact this
theorem ad5 (a b c:Int):bl.f a b c=some (decide (b≤a∧a≤c)):=by
 unfold bl.f
 by_cases h:a≥b
 ·rw[if_pos h];simp;omega
 rw[if_neg h];simp;omega
def gx.f (k:Nat) (ag:List bh) (ak:Int) (a1:ByteArray) (a2:Int) (ld:List Int):Option (List bh×Int×Int):=
 (cl.f k ag ak).bind fun t=>(eA.f k t.1 t.2 [a1]).bind fun b=>if b=true∧decide (0≤a2∧a2≤100)=true then((js.f k t.1 t.2 a1).bind fun x=>if x.2.2.2.2.2.2=0 then(if ld.length≤4611686018427387904 then(if a2+(ld.length:Int)>100 then some (t.1,t.2,5)else((jq.f x.2.2.2.1 (max (x.2.2.2.1.length:Int) (a2+(ld.length:Int)))).bind fun d=>(ik.f k t.1 t.2 x.1 x.2.1 x.2.2.1 (d.take a2.toNat++ld++d.drop (a2.toNat+ld.length)) x.2.2.2.2.1 x.2.2.2.2.2.1).bind fun s=>some (s.1,s.2,0)))else none)else some (t.1,t.2,x.2.2.2.2.2.2))else some (t.1,t.2,1)
theorem gx.calls (k:Nat) (bj:Option Addr) (aW:Nat) (ag:List bh) (ak:Int) (a1:ByteArray) (a2:Int) (AD:Option Addr) (cD:Nat) (ld:List Int) (r1:List bh) (r2 r3:Int) (w:World) (ch:Kd.C fD w bj ag.length ag) (ck:ag.length≤aW) (hrD:Kd.C (Kd.int .u8) w AD ld.length ld) (hcD:ld.length≤cD) (h:gx.f k ag ak a1 a2 ld=some (r1,r2,r3)) (hG:GOk w:=by exact gk_ oB (by first|(with_reducible assumption)|assumption)):
  Calls Tryz.prog 25 #[.agg #[.slice bj ag.length aW,.int .i64 ak],.string a1,.int .i64 a2,.slice AD ld.length cD] w fun e w'=>∃jd:Value,e= .returned (.tuple #[.agg #[jd,.int .i64 r2],.int .i64 r3])∧Kd.S fD 58 w' w.heap.size (fun _=>True) jd r1∧Below w.heap.size w w':=by
 have HG:=ab.mk hG;have bN:=ab.mk ch;have bO:=ab.mk ck;have HRD:=ab.mk hrD;have HCD:=ab.mk hcD;clear hrD hcD;clear hG ch ck;unfold gx.f at h;replace h:=bA h;obtain⟨⟨t1,t2⟩,H1,h⟩:=h;dsimp only at h;replace h:=bA h;obtain⟨b,H2,h⟩:=h;have H:=ab.mk h;have HF:=am (ad5 a2 0 100);clear h;have HB:=am (Below.refl w.heap.size w)
 go_enter Tryz.func25,Tryz.ntmps25
 go_upto_region 2 with(first|((with_reducible refine ai (N:=4) rfl ?_);refine di 4 #[.slice bj ag.length aW,.int .i64 ak] 28 ?_;intro b6 hg w1 hbox hb;have b1:=ab.mk hbox;have bX:=dh hg;replace HB:=hB HB hb;clear hb hbox hg)|((with_reducible refine ai (N:=8) rfl ?_);refine di 8 #[.slice none 0 0,.int .i64 0] 28 ?_;intro b9 hg w2 hbox hb;have b2:=ab.mk hbox;have bY:=dh hg;have bR:=eJ hg b1;have bS:=eK hg b1;replace b1:=bn b1 hb;replace HB:=hB HB hb;clear hb hbox hg;obtain⟨⟨_,_⟩,_,_⟩:=z2 b1)|((with_reducible refine aj (f:=45) rfl ?_);refine eI 13 Tryz.func45 (cl.calls k _ _ ag ak t1 t2 _ (kC bN) bO.out H1.out) ?_;rintro e w3 ⟨v0,rfl,hs,hb⟩;refine⟨_,rfl,?_⟩;obtain⟨At,ct,rfl⟩:=Kd.im hs;have HS:=sD hs _ w.heap.size (Nat.le_refl _) (ah oB);have l3:=am (iA (oF b1));have l6:=am (iA (oF b2));replace b1:=bn b1 hb;replace b2:=bn b2 hb;replace HB:=hB HB hb;clear hs hb;obtain⟨⟨_,_⟩,_,_⟩:=z2 b1))
 have bE:ab (((w3.setCell ⟨b6,0,none⟩ (.slice At t1.length ct)).setCell ⟨b6,1,none⟩ (.int .i64 t2)).heap[b6]? =some (.cells #[.slice At t1.length ct,.int .i64 t2] 28 (0,0))):=⟨oP b1⟩;have bF:=am (Kd.eY (ok':=fun k_=>k_≠b6∧k_≠b9) (Kd.fK (p:=⟨b6,1,none⟩) (Kd.fK (p:=⟨b6,0,none⟩) HS.out (fun k_ hk=>by have:=hk.1;have:=l3.out;dsimp only;omega) (.slice At t1.length ct)) (fun k_ hk=>by have:=hk.1;have:=l3.out;dsimp only;omega) (.int .i64 t2)) (fun k_ hk=>by have:=hk.1;have:=l3.out;have:=l6.out;exact⟨by omega,by omega⟩));generalize iG:(w3.setCell ⟨b6,0,none⟩ (.slice At t1.length ct)).setCell ⟨b6,1,none⟩ (.int .i64 t2)=w4 at bE bF⊢;replace b2:=sF iG b2;replace HB:=tG iG HB;clear b1 HS iG l3 l6;have b1:=bE;have HS:=bF;clear bE bF;obtain⟨⟨_,_⟩,_,_⟩:=z2 b1;rcases(by cases b<;>cases (decide (0≤a2∧a2≤100))<;>simp:b=false∨(b=true∧decide (0≤a2∧a2≤100)=false)∨(b=true∧decide (0≤a2∧a2≤100)=true))with rfl|⟨rfl,hd⟩|⟨rfl,hd⟩
 ·have h:=H.out;rw[if_neg (by simp)]at h;simp only[Option.some.injEq,Prod.mk.injEq]at h;obtain⟨rfl,rfl,rfl⟩:=h;clear H
  go_wp2_with (first|((with_reducible refine ai (N:=16) rfl ?_);refine Kd.jy Kd.string _ 9 ?hg (N:=16) ?hd (xs:=([a1]:List ByteArray)) (inner:=[.string a1]) (ok:=fun _=>True) (fm:=fun _=>True) ?hr ?hp (fun _ hk=>hk) trivial (Below.refl _ _) (Nat.le_refl _) (by simp) ?_;(case hd=>rfl);(case hg=>rfl);(case hr=>first|(go_simp;done)|(go_simp;rfl));(case hp=>exact(cS.one (show Kd.M Kd.string _ _ _ a1 [.string a1]from rfl) (cS.none _ _)));intro bH w5 ho hb kB ep;clear kB ep;obtain⟨Aa,ca,rfl⟩:=Kd.ax ho;have b4:=ab.mk ho;replace HS:=am (Kd.gz HS.out hb);replace b1:=bn b1 hb;replace b2:=bn b2 hb;replace HB:=hB HB hb;clear hb ho)|((with_reducible refine aj (f:=46) rfl ?_);refine eI 17 Tryz.func46 (eA.calls k _ _ t1 t2 _ _ [a1] false _ (rS HS) (rl HS) (kO b4) (ko b4) H2.out) ?_;rintro e w6 ⟨rfl,hb⟩;refine⟨_,rfl,?_⟩;replace HS:=am (Kd.gz HS.out hb);replace b1:=bn b1 hb;replace b2:=bn b2 hb;replace HB:=hB HB hb;clear hb b4;obtain⟨⟨_,_⟩,_,_⟩:=z2 b1;obtain⟨⟨_,_⟩,_,_⟩:=z2 b2))
  try simp only[Exit.inBlock,Exit.then]
  refine bodyPost_ret (dd rfl _ _ b9 28 #[.slice At t1.length ct,.int .i64 t2] (0,0) _ rfl (oP b2) Tryz.underlying28 rfl (by kernel_rfl)) rfl ?_;exact⟨_,rfl,Kd.eY (ok:=fun k_=>k_≠b6∧k_≠b9) (by repeat(first|exact HS.out|refine Kd.fK ?_ (fun _ hk=>hk.2) _|apply Kd.fA|apply Kd.fR|apply Kd.gm)) (fun _ _=>trivial),oB⟩
 ·have h:=H.out;rw[if_neg (by simp[hd])]at h;simp only[Option.some.injEq,Prod.mk.injEq]at h;obtain⟨rfl,rfl,rfl⟩:=h;have HD:=ab.mk hd;clear H hd
  go_wp2_with (first|((with_reducible refine ai (N:=16) rfl ?_);refine Kd.jy Kd.string _ 9 ?hg (N:=16) ?hd (xs:=([a1]:List ByteArray)) (inner:=[.string a1]) (ok:=fun _=>True) (fm:=fun _=>True) ?hr ?hp (fun _ hk=>hk) trivial (Below.refl _ _) (Nat.le_refl _) (by simp) ?_;(case hd=>rfl);(case hg=>rfl);(case hr=>first|(go_simp;done)|(go_simp;rfl));(case hp=>exact(cS.one (show Kd.M Kd.string _ _ _ a1 [.string a1]from rfl) (cS.none _ _)));intro bH w5 ho hb kB ep;clear kB ep;obtain⟨Aa,ca,rfl⟩:=Kd.ax ho;have b4:=ab.mk ho;replace HS:=am (Kd.gz HS.out hb);replace b1:=bn b1 hb;replace b2:=bn b2 hb;replace HB:=hB HB hb;clear hb ho)|((with_reducible refine aj (f:=46) rfl ?_);refine eI 17 Tryz.func46 (eA.calls k _ _ t1 t2 _ _ [a1] true _ (rS HS) (rl HS) (kO b4) (ko b4) H2.out) ?_;rintro e w6 ⟨rfl,hb⟩;refine⟨_,rfl,?_⟩;replace HS:=am (Kd.gz HS.out hb);replace b1:=bn b1 hb;replace b2:=bn b2 hb;replace HB:=hB HB hb;clear hb b4;obtain⟨⟨_,_⟩,_,_⟩:=z2 b1;obtain⟨⟨_,_⟩,_,_⟩:=z2 b2)|(go_at_call 61;refine(bl.calls a2 0 100 _ _ HF.out).mono ?_;rintro e w' ⟨rfl,⟨nd,rfl⟩⟩;rw[HD.out]))
  try simp only[Exit.inBlock,Exit.then]
  refine bodyPost_ret (dd rfl _ _ b9 28 #[.slice At t1.length ct,.int .i64 t2] (0,0) _ rfl (oP b2) Tryz.underlying28 rfl (by kernel_rfl)) rfl ?_;exact⟨_,rfl,Kd.eY (ok:=fun k_=>k_≠b6∧k_≠b9) (by repeat(first|exact HS.out|refine Kd.fK ?_ (fun _ hk=>hk.2) _|apply Kd.fA|apply Kd.fR|apply Kd.gm)) (fun _ _=>trivial),oB⟩
 ·have h:=H.out;rw[if_pos ⟨rfl,hd⟩]at h;have HD:=ab.mk hd;clear hd H;replace h:=bA h;obtain⟨⟨x1,x2,x3,x4,x5,x6,x7⟩,H3,h⟩:=h;dsimp only at h;have HH:=ab.mk h;clear h
  go_upto_if 32 with(first|((with_reducible refine ai (N:=16) rfl ?_);refine Kd.jy Kd.string _ 9 ?hg (N:=16) ?hd (xs:=([a1]:List ByteArray)) (inner:=[.string a1]) (ok:=fun _=>True) (fm:=fun _=>True) ?hr ?hp (fun _ hk=>hk) trivial (Below.refl _ _) (Nat.le_refl _) (by simp) ?_;(case hd=>rfl);(case hg=>rfl);(case hr=>first|(go_simp;done)|(go_simp;rfl));(case hp=>exact(cS.one (show Kd.M Kd.string _ _ _ a1 [.string a1]from rfl) (cS.none _ _)));intro bH w5 ho hb kB ep;clear kB ep;obtain⟨Aa,ca,rfl⟩:=Kd.ax ho;have b4:=ab.mk ho;replace HS:=am (Kd.gz HS.out hb);replace b1:=bn b1 hb;replace b2:=bn b2 hb;replace HB:=hB HB hb;clear hb ho)|((with_reducible refine aj (f:=46) rfl ?_);refine eI 17 Tryz.func46 (eA.calls k _ _ t1 t2 _ _ [a1] true _ (rS HS) (rl HS) (kO b4) (ko b4) H2.out) ?_;rintro e w6 ⟨rfl,hb⟩;refine⟨_,rfl,?_⟩;replace HS:=am (Kd.gz HS.out hb);replace b1:=bn b1 hb;replace b2:=bn b2 hb;replace HB:=hB HB hb;clear hb b4;obtain⟨⟨_,_⟩,_,_⟩:=z2 b1;obtain⟨⟨_,_⟩,_,_⟩:=z2 b2)|(go_at_call 61;refine(bl.calls a2 0 100 _ _ HF.out).mono ?_;rintro e w' ⟨rfl,⟨nd,rfl⟩⟩;rw[HD.out])|((with_reducible refine aj (f:=56) rfl ?_);refine eI 28 Tryz.func56 (js.calls k _ _ t1 t2 a1 x1 x2 x3 x4 x5 x6 x7 _ (rS HS) (rl HS) H3.out) ?_;rintro e w7 ⟨v3,v4,v5,rfl,bI,bJ,bK,hb⟩;refine⟨_,rfl,?_⟩;have bB:=am (Kd.ay (Kd.nh (Kd.nh bI (oF b1)) (oF b2)) (ah oB));have b7:=am (Kd.ay (Kd.nh (Kd.nh bJ (oF b1)) (oF b2)) (ah oB));have b8:=am (Kd.ay (Kd.nh (Kd.nh bK (oF b1)) (oF b2)) (ah oB));replace HS:=aej HS hb;replace b1:=bn b1 hb;replace b2:=bn b2 hb;replace HB:=hB HB hb;clear hb bI bJ bK)|((with_reducible refine ai (N:=10) rfl ?_);refine di 10 #[.int .i64 0,.int .i64 0,.int .i64 0,.slice none 0 0,.slice none 0 0,.slice none 0 0] 58 ?_;intro b3 hg w8 hbox hb;have b5:=ab.mk hbox;have bZ:=dh hg;have bT:=eJ hg b1;have bU:=eK hg b1;have bV:=eJ hg b2;have bW:=eK hg b2;replace HS:=am (Kd.eY (ok':=fun k_=>k_≠b6∧k_≠b9∧k_≠b3) (Kd.gz (Kd.kV HS.out) hb) (fun k_ hk=>⟨hk.1.1,hk.1.2,by rw[hg];have:=hk.2.2.1;omega⟩));replace bB:=iI bB hb;replace b7:=iI b7 hb;replace b8:=iI b8 hb;replace b1:=bn b1 hb;replace b2:=bn b2 hb;replace HB:=hB HB hb;clear hb hbox hg;obtain⟨A3,c3,rfl⟩:=Kd.ax bB.out;obtain⟨A4,c4,rfl⟩:=Kd.ax b7.out;obtain⟨A5,c5,rfl⟩:=Kd.ax b8.out;obtain⟨⟨_,_,_,_,_,_⟩,_,_,_,_,_,_⟩:=z6 b5))
  (try simp only[Act.put,List.setIfInBounds_toArray,List.set_cons_zero,List.set_cons_succ])
  obtain⟨p1,p2,_⟩:=ad1 b5.out (.int .i64 x1) (.int .i64 x2) (.int .i64 x3) (.slice A3 x4.length c3) (.slice A4 x5.length c4) (.slice A5 x6.length c5);generalize iG:((((((w8.setCell ⟨b3,0,none⟩ (.int .i64 x1)).setCell ⟨b3,1,none⟩ (.int .i64 x2)).setCell ⟨b3,2,none⟩ (.int .i64 x3)).setCell ⟨b3,3,none⟩ (.slice A3 x4.length c3)).setCell ⟨b3,4,none⟩ (.slice A4 x5.length c4)).setCell ⟨b3,5,none⟩ (.slice A5 x6.length c5))=w9 at p1 p2⊢;replace bB:=am (Kd.kP (Kd.aI bB.out b5.out (by decide)) (fun k_ hk _=>p2 k_ hk.2));replace b7:=am (Kd.kP (Kd.aI b7.out b5.out (by decide)) (fun k_ hk _=>p2 k_ hk.2));replace b8:=am (Kd.kP (Kd.aI b8.out b5.out (by decide)) (fun k_ hk _=>p2 k_ hk.2));replace HS:=am (Kd.pP HS.out (fun k_ hk _=>p2 k_ hk.2.2));replace b1:=sF iG b1;replace b2:=sF iG b2;replace HB:=tG iG HB;replace b5:=ab.mk p1;clear p1 p2 iG;obtain⟨⟨_,_⟩,_,_⟩:=z2 b1;obtain⟨⟨_,_⟩,_,_⟩:=z2 b2;obtain⟨⟨_,_,_,_,_,_⟩,_,_,_,_,_,_⟩:=z6 b5
  by_cases c7:x7=0
  case neg=>
   have h:=HH.out;rw[if_neg c7]at h;simp only[Option.some.injEq,Prod.mk.injEq]at h;obtain⟨rfl,rfl,rfl⟩:=h
   have bG:(x7 !=0)=true:=by simpa using c7
   rw[bG];clear HH
   go_wp2
   try simp only[Exit.inBlock,Exit.then]
   refine bodyPost_ret (dd rfl _ _ b9 28 #[.slice At t1.length ct,.int .i64 t2] (0,0) _ rfl (oP b2) Tryz.underlying28 rfl (by kernel_rfl)) rfl ?_;exact⟨_,rfl,Kd.eY (ok:=fun k_=>k_≠b6∧k_≠b9∧k_≠b3) (by repeat(first|exact HS.out|refine Kd.fK ?_ (fun _ hk=>hk.2.1) _|apply Kd.fA|apply Kd.fR|apply Kd.gm)) (fun _ _=>trivial),oB⟩
  case pos=>
   have bG:(x7 !=0)=false:=by simpa using c7
   rw[bG];have h:=HH.out;rw[if_pos c7]at h
   split at h
   case isFalse=>cases h
   case isTrue hll=>
   have HLL:=ab.mk hll;clear HH;have bD:=of_decide_eq_true HD.out
   have hw:wrap64 (a2+(ld.length:Int))=a2+(ld.length:Int):=by unfold wrap64;omega
   split at h
   case isTrue hf=>
    simp only[Option.some.injEq,Prod.mk.injEq]at h;obtain⟨rfl,rfl,rfl⟩:=h;have hfb:decide ((100:Int)<a2+(ld.length:Int))=true:=decide_eq_true (by omega);clear hf bD
    go_upto_if 39 with(fail)
    (try rw[hw])
    (try rw[hfb])
    go_wp2
    try simp only[Exit.inBlock,Exit.then]
    refine bodyPost_ret (dd rfl _ _ b9 28 #[.slice At t1.length ct,.int .i64 t2] (0,0) _ rfl (oP b2) Tryz.underlying28 rfl (by kernel_rfl)) rfl ?_;exact⟨_,rfl,Kd.eY (ok:=fun k_=>k_≠b6∧k_≠b9∧k_≠b3) (by repeat(first|exact HS.out|refine Kd.fK ?_ (fun _ hk=>hk.2.1) _|apply Kd.fA|apply Kd.fR|apply Kd.gm)) (fun _ _=>trivial),oB⟩
   case isFalse hf=>
   have hfb:decide ((100:Int)<a2+(ld.length:Int))=false:=decide_eq_false (by omega);replace h:=bA h;obtain⟨d,H4,h⟩:=h;replace h:=bA h;obtain⟨⟨s1,s2⟩,H5,h⟩:=h;dsimp only at h H4 H5;simp only[Option.some.injEq,Prod.mk.injEq]at h;obtain⟨rfl,rfl,rfl⟩:=h;obtain⟨Y,hY⟩:∃Y_:List Int,Y_=d.take a2.toNat++ld++d.drop (a2.toNat+ld.length):=⟨_,rfl⟩;rw[←hY]at H5;have HY:=ab.mk hY;obtain⟨ji,hji⟩:∃j_:Int,(if(x4.length:Int)<a2+(ld.length:Int)then a2+(ld.length:Int)else(x4.length:Int))=j_:=⟨_,rfl⟩
   have hjm:max (x4.length:Int) (a2+(ld.length:Int))=ji:=by rw[←hji];split<;>omega
   rw[hjm]at H4
   have hdl:d.length=ji.toNat:=by
    have h4:=H4.out;unfold jq.f at h4
    split at h4
    case isFalse=>cases h4
    case isTrue hq=>
     obtain rfl:=Option.some.inj h4;simp only[List.length_append,List.length_take,List.length_drop,List.length_replicate]
     omega
   have HDL:=am (show a2.toNat+ld.length≤d.length by rw[hdl,←hji];split<;>omega);clear hdl hjm hY bD
   go_upto_if 39 with(fail)
   (try rw[hw])
   (try rw[hfb])
   go_upto_region 10 with((with_reducible refine aj (f:=62) rfl ?_);refine eI 51 Tryz.func62 (jq.calls _ _ x4 ji d _ (kO bB) (ko bB) H4.out) ?_;rintro e bL ⟨vd,rfl,ho,hb⟩;refine⟨_,rfl,?_⟩;have HOd:=am (Kd.ay (Kd.nh (Kd.nh (Kd.nh ho (oF b1)) (oF b2)) (oF b5)) (ah oB));obtain⟨Ad,cd,rfl⟩:=Kd.ax ho;replace HS:=am (Kd.eY (ok':=fun k_=>(k_≠b6∧k_≠b9∧k_≠b3)∧some k_≠(Value.slice Ad d.length cd).ownBlock) (Kd.gz (Kd.kV HS.out) hb) (fun k_ hk=>⟨hk.1,fun he=>by have:=Kd.eB ho k_ he.symm;have:=hk.2.2.1;omega⟩));replace b7:=ke_ b7 ho hb;replace b8:=ke_ b8 ho hb;replace b1:=bn b1 hb;replace b2:=bn b2 hb;replace b5:=bn b5 hb;replace HB:=hB HB hb;clear hb ho;obtain⟨⟨_,_,_,_,_,_⟩,_,_,_,_,_,_⟩:=z6 b5)
   have bC:ab ((bL.setCell ⟨b3,3,none⟩ (.slice Ad d.length cd)).heap[b3]? =some (.cells #[.int .i64 x1,.int .i64 x2,.int .i64 x3,.slice Ad d.length cd,.slice A4 x5.length c4,.slice A5 x6.length c5] 58 (0,0))):=⟨oP b5⟩;replace HOd:=am (Kd.dm (p:=⟨b3,3,none⟩) HOd.out (fun _ hk=>hk.2) (.slice Ad d.length cd));replace b7:=am (Kd.dm (p:=⟨b3,3,none⟩) (Kd.aI b7.out b5.out (by decide)) (fun _ hk=>hk.2) (.slice Ad d.length cd));replace b8:=am (Kd.dm (p:=⟨b3,3,none⟩) (Kd.aI b8.out b5.out (by decide)) (fun _ hk=>hk.2) (.slice Ad d.length cd));replace HS:=am (Kd.fK (p:=⟨b3,3,none⟩) HS.out (fun _ hk=>hk.1.2.2) (.slice Ad d.length cd));generalize iG:bL.setCell ⟨b3,3,none⟩ (.slice Ad d.length cd)=d1 at bC HOd b7 b8 HS⊢;replace b1:=sF iG b1;replace b2:=sF iG b2;replace HB:=tG iG HB;clear b5 iG;obtain⟨⟨_,_,_,_,_,_⟩,_,_,_,_,_,_⟩:=z6 bC;have bD:=of_decide_eq_true HD.out;have k0:(0≤a2)=True:=eq_true bD.1;have k1:(a2≤(d.length:Int))=True:=eq_true (by have:=HDL.out;omega)
   go_upto_region 11 with((with_reducible refine dp (b:= .copy) rfl ?_);refine ad4 (w0:=w) w.heap.size rfl (.tmp 56) (.tmp 57) 39 39 5 rfl Tryz.underlying39 (by kernel_rfl) Ad cd a2.toNat d ld AD cD _ rfl rfl (oR HOd) (kC HRD) HDL.out oB (ah oB) ?_;intro bP ho hb hg;rw[←HY.out]at ho;have hYl:=am ((Kd.bu ho).1);have hne:=am (Kd.bu ho).2.1;replace b1:=am (kL b1.out hg (Kd.sN HOd.out (fun _ hk=>hk.1.1.2)));replace b2:=am (kL b2.out hg (Kd.sN HOd.out (fun _ hk=>hk.1.2)));replace bC:=am (kL bC.out hg (Kd.sN HOd.out (fun _ hk=>hk.2)));replace b7:=am (Kd.wo b7.out hg (fun _ hk=>hk.1.2));replace b8:=am (Kd.wo b8.out hg (fun _ hk=>hk.1.2));replace HS:=am (Kd.pP HS.out (fun k_ hk hlt=>hg.block k_ hlt hk.2));replace HB:=ab.mk hb;replace HOd:=ab.mk ho;clear ho hb hg)
   have hYd:d.length=Y.length:=by rw[HY.out];have:=HDL.out;simp only[List.length_append,List.length_take,List.length_drop];omega
   rw[hYd]at bC HOd;clear hYd;obtain⟨⟨_,_⟩,_,_⟩:=z2 b1;obtain⟨⟨_,_,_,_,_,_⟩,_,_,_,_,_,_⟩:=z6 bC;clear hw hfb hji k0 k1 bD;generalize (if cd=a2.toNat then Ad else Option.map (fun p=>p.add a2.toNat) Ad)=AX_
   go_wp2_with ((with_reducible refine aj (f:=58) rfl ?_);refine eI 61 Tryz.func58 (ik.calls k _ _ t1 t2 x1 x2 x3 _ _ Y _ _ x5 _ _ x6 s1 s2 _ (rS HS) (rl HS) (kO HOd) (ko HOd) (kO b7) (ko b7) (kO b8) (ko b8) H5.out) ?_;rintro e d2 ⟨v0,rfl,hs,hb⟩;refine⟨_,rfl,?_⟩;obtain⟨A0,c0,rfl⟩:=Kd.im hs;have bQ:=sD hs bP.heap.size w.heap.size (Nat.le_refl _) (ah HB.out);have bM:=am (iA b2.out);replace b2:=bn b2 hb;replace HB:=hB HB hb;clear hs hb;obtain⟨⟨_,_⟩,_,_⟩:=z2 b2)
   try simp only[Exit.inBlock,Exit.then]
   refine bodyPost_ret (dd rfl _ _ b9 28 #[.slice A0 s1.length c0,.int .i64 s2] (0,0) _ rfl (oP b2) Tryz.underlying28 rfl (by kernel_rfl)) rfl ?_;exact⟨_,rfl,Kd.eY (Kd.fK (Kd.fK bQ.out (fun k_ hk=>by have:=hk.1;have:=bM.out;dsimp only;omega) _) (fun k_ hk=>by have:=hk.1;have:=bM.out;dsimp only;omega) _) (fun _ _=>trivial),oB⟩
end Go.Proofs.YtlecajlnjmbilaaGreatDoor.P
