-- Printed walks.
import Derived.Test.YtlecajlnjmbilaaGreatDoorPx1
import Derived.Test.YtlecajlnjmbilaaGreatDoorPx2
set_option linter.all false
set_option maxHeartbeats 8000000
set_option maxRecDepth 100000
namespace Go.Proofs.YtlecajlnjmbilaaGreatDoor.P
open Go.RowKit Go.Proofs.ae.au Go.Proofs.ae.ba Go.Proofs.ae.bg
attribute [local go_sem] gh gi iR iS ft fu gj gl

def cp.l0:Nat→List (eh)→List (eh)→Int→Option (Bool)
 |0,_,_,_=>none
 |k+1,x0,x1,x5=>if x5<(x0.length:Int)then(if 0≤x5 then(if x5<(x1.length:Int)then((jn.f ((an x0 x5).f0) ((an x0 x5).f1) ((an x1 x5).f0) ((an x1 x5).f1)).bind fun b1=>(if b1=true then(cp.l0 k x0 x1 (wrap64 (x5+1)))else(some false)))else(none))else(none))else(some true)
def cp.f (k:Nat) (l0:List (eh)) (l1:List (eh)):Option (Bool):=if(l0.length:Int)=(l1.length:Int)then(cp.l0 k l0 l1 0)else(some false)
def cp.T6:Bool×List (List Nat×List Nat):=(true,[([],[]),([],[]),([0,1],[0,1]),([2],[2]),([],[]),([],[]),([4,5],[4,5]),([6],[6]),([3,7],[3,7]),([8],[8])])
def cp.B6:List Nat:=[0,0,3,7,0,0,48,112,255,511]
theorem cp.tab6:gf .any (opsOf Tryz.f114 6)=cp.T6:=by kernel_rfl
theorem cp.ma:eL cp.T6.2 cp.B6=true:=by kernel_rfl
theorem cp.calls (k:Nat) (A0:Option Addr) (c0:Nat) (l0:List (eh)) (A1:Option Addr) (c1:Nat) (l1:List (eh)) (r:Bool) (w:World) (hr0:Kd.C iU w A0 l0.length l0) (hc0:l0.length≤c0) (hr1:Kd.C iU w A1 l1.length l1) (hc1:l1.length≤c1) (h:cp.f k l0 l1=some r):
  Calls Tryz.prog 114 #[.slice A0 l0.length c0,.slice A1 l1.length c1] w fun e w'=>e= .returned (.bool r)∧Below w.heap.size w w':=by
 have bQ:=Tryz.underlying82;have bF:=ab.mk hr0;have bU:=ab.mk hc0;clear hr0 hc0;have bG:=ab.mk hr1;have bV:=ab.mk hc1;clear hr1 hc1;have HB:=am (Below.refl w.heap.size w);unfold cp.f at h;have H:=h;clear h
 by_cases c3:(l0.length:Int)=(l1.length:Int)
 rotate_left
 ·rw[if_neg c3]at H;have bI:((l0.length:Int)==(l1.length:Int))=false:=beq_eq_false_iff_ne.mpr c3;have bJ:((l0.length:Int) !=(l1.length:Int))=true:=bne_iff_ne.mpr c3
  have bK:(l0.length==l1.length)=false:=by first|simpa using c3|(simp at c3⊢;omega)
  obtain rfl:=Option.some.inj H
  go_enter Tryz.func114,Tryz.ntmps114
  go_wp2
  go_ret
  exact⟨oE,oB⟩
 rw[if_pos c3]at H;have bI:((l0.length:Int)==(l1.length:Int))=true:=beq_iff_eq.mpr c3;have bJ:((l0.length:Int) !=(l1.length:Int))=false:=bne_eq_false_iff_eq.mpr c3
 have bK:(l0.length==l1.length)=true:=by first|simpa using c3|(simp at c3⊢;omega)
 clear c3;have H':=ab.mk H;clear H
 go_enter Tryz.func114,Tryz.ntmps114
 go_wp2
 go_loopg [5] k (fun kq v5 w'=>∃(b1:Int),v5= .int .i64 b1∧ab (cp.l0 kq l0 l1 b1=some r)∧ab (kq≤k)∧ab (Below w.heap.size w w'))
 case atStart=>exact⟨(0),oS,H',⟨Nat.le_refl _⟩,⟨oB⟩⟩
 case round=>
  clear H'
  try clear c1
  try clear c3
  obtain⟨b1,rfl,HA,bH,HB⟩:=hrel
  cases gk with
  |zero=>exact absurd HA.out (by simp[cp.l0])
  |succ k1=>
   have H:=HA.out;clear HA;simp only[cp.l0]at H;replace H:=iH H;rcases H with⟨bL,H⟩|⟨bL,H⟩;rotate_left
   ·obtain rfl:=Option.some.inj H
    go_wp2
    go_ret
    exact⟨oE,oB⟩
   obtain⟨bR,H⟩:=cU H;obtain⟨bS,H⟩:=cU H;replace H:=bA H;obtain⟨bT,A7,H⟩:=H
   try dsimp only at H
   replace H:=ll H;rcases H with⟨rfl,H⟩|⟨rfl,H⟩;rotate_left
   ·obtain rfl:=Option.some.inj H
    try go_wp2
    replace HB:=am (ar HB.out);have bM:(0≤(b1:Int))=True:=oT;have bN:(b1<(l0.length:Int))=True:=oT;obtain⟨b6,b8,b2,b3⟩:=dw bF.out b1 oa oa;have bB:=b3;have bC:=b2
    cases b8
    replace b2:=cB HB b2;replace b3:=cB HB b3;have bO:(0≤(b1:Int))=True:=oT;have bP:(b1<(l1.length:Int))=True:=oT;obtain⟨b7,b9,b4,b5⟩:=dw bG.out b1 oa oa;have bD:=b5;have bE:=b4
    cases b9
    replace b4:=cB HB b4;replace b5:=cB HB b5;refine mq 10 (fun w'=>w'.cell? (b6.add ((b1).toNat*2))=some (.string ((an l0 b1).f0))∧w'.cell? ⟨(b6.add ((b1).toNat*2)).block,(b6.add ((b1).toNat*2)).off+1,none⟩=some (.string ((an l0 b1).f1))∧w'.cell? (b7.add ((b1).toNat*2))=some (.string ((an l1 b1).f0))∧w'.cell? ⟨(b7.add ((b1).toNat*2)).block,(b7.add ((b1).toNat*2)).off+1,none⟩=some (.string ((an l1 b1).f1))) cp.tab6 cp.ma oH (fun hHeld av ey=> ?_);generalize wr.drew=bW at HB b2 b3 b4 b5 hHeld⊢;refine b_ 0 17 av ?_;refine b_ 1 18 av ?_;refine b_ 2 19 av ?_;refine b_ 4 21 av ?_;refine b_ 5 22 av ?_;refine b_ 6 23 av ?_;refine fJ 3 20 av ey hHeld ?_;refine fJ 7 24 av ey hHeld ?_;refine kF 8 25 av (fun K hK=> ?_);refine lU 25 Tryz.func138 (jn.calls ((an l0 b1).f0) ((an l0 b1).f1) ((an l1 b1).f0) ((an l1 b1).f1) false _ A7.out) ?_;rintro e bX ⟨rfl,hb⟩;refine⟨_,rfl,?_⟩;replace HB:=hB HB hb;refine fV hK 25 oH (fun hHeld=> ?_);clear hK K;refine b_ 9 26 av ?_;refine lX av ?_
    try go_wp2
    go_ret
    exact⟨oE,oB⟩
   have H':=ab.mk H;clear H
   try go_wp2
   replace HB:=am (ar HB.out);have bM:(0≤(b1:Int))=True:=oT;have bN:(b1<(l0.length:Int))=True:=oT;obtain⟨b6,b8,b2,b3⟩:=dw bF.out b1 oa oa;have bB:=b3;have bC:=b2
   cases b8
   replace b2:=cB HB b2;replace b3:=cB HB b3;have bO:(0≤(b1:Int))=True:=oT;have bP:(b1<(l1.length:Int))=True:=oT;obtain⟨b7,b9,b4,b5⟩:=dw bG.out b1 oa oa;have bD:=b5;have bE:=b4
   cases b9
   replace b4:=cB HB b4;replace b5:=cB HB b5;refine mq 10 (fun w'=>w'.cell? (b6.add ((b1).toNat*2))=some (.string ((an l0 b1).f0))∧w'.cell? ⟨(b6.add ((b1).toNat*2)).block,(b6.add ((b1).toNat*2)).off+1,none⟩=some (.string ((an l0 b1).f1))∧w'.cell? (b7.add ((b1).toNat*2))=some (.string ((an l1 b1).f0))∧w'.cell? ⟨(b7.add ((b1).toNat*2)).block,(b7.add ((b1).toNat*2)).off+1,none⟩=some (.string ((an l1 b1).f1))) cp.tab6 cp.ma oH (fun hHeld av ey=> ?_);generalize wr.drew=w9 at HB b2 b3 b4 b5 hHeld⊢;refine b_ 0 17 av ?_;refine b_ 1 18 av ?_;refine b_ 2 19 av ?_;refine b_ 4 21 av ?_;refine b_ 5 22 av ?_;refine b_ 6 23 av ?_;refine fJ 3 20 av ey hHeld ?_;refine fJ 7 24 av ey hHeld ?_;refine kF 8 25 av (fun K hK=> ?_);refine lU 25 Tryz.func138 (jn.calls ((an l0 b1).f0) ((an l0 b1).f1) ((an l1 b1).f0) ((an l1 b1).f1) true _ A7.out) ?_;rintro e bY ⟨rfl,hb⟩;refine⟨_,rfl,?_⟩;replace HB:=hB HB hb;refine fV hK 25 oH (fun hHeld=> ?_);clear hK K;refine b_ 9 26 av ?_;refine lX av ?_
   try go_wp2
   go_roundg k1
   case measure=>have:=bH.out;omega
   case rel=>exact⟨(wrap64 (b1+1)),oS,H',⟨by have:=bH.out;omega⟩,⟨oB⟩⟩

def cr.l0:Nat→Int→List (bh)→Int→List (bh)→Int→Option ((List (bh))×Int)
 |0,_,_,_,_,_=>none
 |k+1,x4,b1,b5,b3,b4=>if x4<(b1.length:Int)then(if 0≤x4 then((dg.f ((af b1 x4).f0) ((af b1 x4).f1) ((af b1 x4).f2) ((af b1 x4).f3) ((af b1 x4).f4) ((af b1 x4).f5)).bind fun b2=>(if b3.length<1466015503701 then(cr.l0 k (wrap64 (x4+1)) b1 b5 (b3++[(⟨b2.1,b2.2.1,b2.2.2.1,b2.2.2.2.1,b2.2.2.2.2.1,b2.2.2.2.2.2⟩:bh)]) b4)else(none)))else(none))else(some (b3,b4))
def cr.f (k:Nat) (ag:List (bh)) (ak:Int):Option ((List (bh))×Int):=cr.l0 k 0 ag ak ([]:List (bh)) ak
def cr.T5:Bool×List (List Nat×List Nat):=(true,[([],[]),([0],[0]),([],[]),([2],[2]),([],[]),([3,4],[3,4]),([5],[5]),([6],[6]),([7],[7]),([1,8,7],[1,8]),([0,1,2,3,4,5,6,7,8,9],[]),([10,9,9,0,1,2,3,4,5,6,7,8,9],[9,10])])
def cr.B5:List Nat:=[0,1,0,4,0,28,60,124,252,511,1023,2047]
theorem cr.aaS:gf .any (opsOf Tryz.f41 5)=cr.T5:=by kernel_rfl
theorem cr.t_:eL cr.T5.2 cr.B5=true:=by kernel_rfl
theorem cr.calls (k:Nat) (bj:Option Addr) (aW:Nat) (ag:List (bh)) (ak:Int) (r1:List (bh)) (r2:Int) (w:World) (ch:Kd.C fD w bj ag.length ag) (ck:ag.length≤aW) (h:cr.f k ag ak=some (r1,r2)):
  Calls Tryz.prog 41 #[.agg #[.slice bj ag.length aW,.int .i64 ak]] w fun e w'=>∃jd:Value,e= .returned (.agg #[jd,.int .i64 r2])∧Kd.S fD 58 w' w.heap.size (fun _=>True) jd r1∧Below w.heap.size w w':=by
 have jD:=Tryz.underlying28;have jE:=Tryz.underlying58;have gH:=ab.mk ch;have gW:=ab.mk ck;clear ch ck;have HB:=am (Below.refl w.heap.size w);unfold cr.f at h;have H:=h;clear h;have H':=ab.mk H;clear H
 go_enter Tryz.func41,Tryz.ntmps41
 go_wp2_with (first|((with_reducible refine ai (N:=1) rfl ?_);refine di 1 #[.slice bj ag.length aW,.int .i64 ak] 28 ?_;intro dF hg w2 hbox hb;have b3:=am (hbox);have gX:=dh hg;replace HB:=hB HB hb;clear hb hbox hg)|((with_reducible refine ai (N:=2) rfl ?_);refine di 2 #[.slice none 0 0,.int .i64 0] 28 ?_;intro bQ hg w3 hbox hb;have b4:=am (hbox);have gY:=dh hg;have bC:=eJ hg b3;have bD:=eK hg b3;replace b3:=bn b3 hb;replace HB:=hB HB hb;clear hb hbox hg;have jF:=bC.out;have jG:=bD.out;obtain⟨⟨_,_⟩,_,_⟩:=z2 b3)|((with_reducible refine ai (N:=3) rfl ?_);refine di 3 #[.slice none 0 0,.int .i64 0] 28 ?_;intro bM hg w6 hbox hb;have b5:=am (hbox);have gZ:=dh hg;have b9:=eJ hg b3;have bB:=eK hg b3;have bE:=eJ hg b4;have bF:=eK hg b4;replace b3:=bn b3 hb;replace b4:=bn b4 hb;replace HB:=hB HB hb;clear hb hbox hg;have jH:=bB.out;have jI:=b9.out;have jJ:=bF.out;have jK:=bE.out;obtain⟨⟨_,_⟩,_,_⟩:=z2 b5))
 go_loopg [4] k (fun kq v4 w'=>∃(b2:Int) (b7:List (bh)) (b6:Value),v4= .int .i64 b2∧ab (cr.l0 kq b2 ag ak b7 ak=some (r1,r2))∧ab (kq≤k)∧ab (Kd.S fD 58 w' w.heap.size (fun _=>True) b6 b7)∧ab (w'.heap[dF]? =some (.cells #[(.slice bj ag.length aW),.int .i64 ak] 28 (0,0)))∧ab (w'.heap[bQ]? =some (.cells #[(.slice none 0 0),.int .i64 0] 28 (0,0)))∧ab (w'.heap[bM]? =some (.cells #[b6,.int .i64 ak] 28 (0,0)))∧ab (Below w.heap.size w w'))
 case atStart=>exact⟨(0),(([]:List (bh))),(.slice none 0 0),oS,H',⟨Nat.le_refl _⟩,⟨by first|exact Kd.iC _ _ _ _ _|exact Kd.iD _ _ _ _ _|exact Kd.iE _ _ _ _ _|exact Kd.iB _ _ _ _ _|exact Kd.fy _ _ _ _ _⟩,⟨oF b3⟩,⟨oF b4⟩,⟨oP b5⟩,⟨oB⟩⟩
 case round=>
  clear H';obtain⟨b2,b7,b6,rfl,HA,gL,b1,b3,b4,b5,HB⟩:=hrel
  cases gk with
  |zero=>exact absurd HA.out (by simp[cr.l0])
  |succ k1=>
   have H:=HA.out;clear HA;simp only[cr.l0]at H;replace H:=iH H;rcases H with⟨gI,H⟩|⟨gI,H⟩;rotate_left
   ·simp only[Option.some.injEq,Prod.mk.injEq]at H;obtain⟨rfl,rfl⟩:=H;have j1:=bC.out;have j2:=bD.out;have j3:=b9.out;have j4:=bB.out;obtain⟨⟨_,_⟩,_,_⟩:=z2 b3;have j5:=bF.out;have j6:=bE.out;obtain⟨⟨_,_⟩,_,_⟩:=z2 b5;obtain⟨dL,dM,gO⟩:=Kd.im b1.out;subst gO;obtain⟨⟨_,_⟩,_,_⟩:=z2 b4
    go_wp2
    refine bodyPost_ret (results_cell_row rfl _ _ bQ 28 #[.slice dL b7.length dM,.int .i64 ak] (0,0) _ rfl (oP b4) Tryz.underlying28 rfl (by kernel_rfl)) rfl ?_;exact⟨_,oE,by(with_reducible repeat(first|apply Kd.fA|apply Kd.fR|apply Kd.gm));exact Kd.eY (Kd.fK (p:=⟨bQ,1,none⟩) (Kd.fK (p:=⟨bQ,0,none⟩) (Kd.og b1.out b4.out (by decide)) (fun _ hk=>hk.2) (.slice dL b7.length dM)) (fun _ hk=>hk.2) (.int .i64 ak)) (fun _ hk=>trivial),oB⟩
   obtain⟨j7,H⟩:=cU H;replace H:=bA H;obtain⟨⟨bU,bV,bW,bN,bO,bP⟩,gU,H⟩:=H
   try dsimp only at H
   obtain⟨gM,H⟩:=lH H;have gJ:=ab.mk gM;clear gM;obtain⟨dG,dn⟩:∃y_:List (bh),y_=(b7++[(⟨bU,bV,bW,bN,bO,bP⟩:bh)]):=⟨_,rfl⟩;replace H:(cr.l0 k1 (wrap64 (b2+1)) ag ak dG ak)=some (r1,r2):=oY;have gK:=ab.mk dn;clear dn;have H':=ab.mk H;clear H;have j8:=bC.out;have j9:=bD.out;have jA:=b9.out;have jB:=bB.out;obtain⟨⟨_,_⟩,_,_⟩:=z2 b3
   try go_wp2
   replace b1:=am (Kd.gm b1.out);replace b3:=am (ao b3.out);replace b4:=am (ao b4.out);replace b5:=am (ao b5.out);replace HB:=am (ar HB.out);have jL:(0≤(b2:Int))=True:=oT;have jM:(b2<(ag.length:Int))=True:=oT;obtain⟨b8,dN,dO,dP,dQ,dR,dS,gP,bG,bH,bI,bJ,bK,bL,bZ,d1,d2,d3,d4,d5⟩:=fl gH.out b2 oa oa;have d6:=bL;have d7:=bK;have d8:=bJ;have d9:=bI;have dA:=bH;have dB:=bG
   cases gP
   replace bG:=cB HB bG;replace bH:=cB HB bH;replace bI:=cB HB bI;replace bJ:=cB HB bJ;replace bK:=cB HB bK;replace bL:=cB HB bL;have dC:=ab.mk d1;have dI:=ab.mk bZ;clear d1 bZ;have dD:=ab.mk d3;have dJ:=ab.mk d2;clear d3 d2;have dE:=ab.mk d5;have dK:=ab.mk d4;clear d5 d4;refine pJ (n:=12) (S:=fun w'=>w'.cell? ⟨bM,0,none⟩=some (b6)∧w'.cell? ⟨bM,1,none⟩=some (.int .i64 ak)∧w'.cell? ⟨dF,0,none⟩=some (.slice (some b8) ag.length aW)∧w'.cell? ⟨dF,1,none⟩=some (.int .i64 ak)∧w'.cell? (b8.add ((b2).toNat*6))=some (.int .i64 ((af ag b2).f0))∧w'.cell? ⟨(b8.add ((b2).toNat*6)).block,(b8.add ((b2).toNat*6)).off+1,none⟩=some (.int .i64 ((af ag b2).f1))∧w'.cell? ⟨(b8.add ((b2).toNat*6)).block,(b8.add ((b2).toNat*6)).off+2,none⟩=some (.int .i64 ((af ag b2).f2))∧w'.cell? ⟨(b8.add ((b2).toNat*6)).block,(b8.add ((b2).toNat*6)).off+3,none⟩=some (.slice dN ((af ag b2).f3).length dO)∧w'.cell? ⟨(b8.add ((b2).toNat*6)).block,(b8.add ((b2).toNat*6)).off+4,none⟩=some (.slice dP ((af ag b2).f4).length dQ)∧w'.cell? ⟨(b8.add ((b2).toNat*6)).block,(b8.add ((b2).toNat*6)).off+5,none⟩=some (.slice dR ((af ag b2).f5).length dS)) (ds:=[11]) (lb 12 0) (by kernel_rfl) rfl rfl oH (fun hHeld=> ?_);refine pO cr.aaS cr.t_ (fun av ey=> ?_);generalize wr.drew=jS at b1 b3 b4 b5 HB dC dD dE bG bH bI bJ bK bL hHeld⊢;refine b_ 0 15 av ?_;refine b_ 2 17 av ?_;refine b_ 4 19 av ?_;refine fJ 1 16 av ey hHeld ?_;refine fJ 3 18 av ey hHeld ?_;refine b_ 5 20 av ?_;refine fJ 6 21 av ey hHeld ?_;refine kF 7 22 av (fun K hK=> ?_);refine lU 22 Tryz.func83 (dg.calls ((af ag b2).f0) ((af ag b2).f1) ((af ag b2).f2) _ _ ((af ag b2).f3) _ _ ((af ag b2).f4) _ _ ((af ag b2).f5) bU bV bW bN bO bP _ (kC dC) dI.out (kC dD) dJ.out (kC dE) dK.out gU.out) ?_;rintro e jT ⟨jN,jO,jP,rfl,gN,dT,dU,hb⟩;refine⟨_,rfl,?_⟩;have bR:=am (Kd.ay gN (ah oB));have bS:=am (Kd.ay dT (ah oB));have bT:=am (Kd.ay dU (ah oB));replace b1:=acN (acM b1 hb) (Kd.eB gN) (Kd.eB dT) (Kd.eB dU);replace b3:=bn b3 hb;replace b4:=bn b4 hb;replace b5:=bn b5 hb;replace HB:=hB HB hb
   (try clear dT)
   (try clear dU)
   obtain⟨dV,dW,dX⟩:=Kd.ax bR.out
   (first|subst dX|(injection dX with kH nF kI;have bX:=kH.symm;have bY:=kI.symm;clear kH nF kI;subst bX;subst bY))
   obtain⟨dY,dZ,gA⟩:=Kd.ax bS.out
   (first|subst gA|(injection gA with kH nF kI;have bX:=kH.symm;have bY:=kI.symm;clear kH nF kI;subst bX;subst bY))
   obtain⟨gB,gC,gD⟩:=Kd.ax bT.out
   (first|subst gD|(injection gD with kH nF kI;have bX:=kH.symm;have bY:=kI.symm;clear kH nF kI;subst bX;subst bY))
   refine fV hK 22 oH (fun hHeld=> ?_);clear hK K;refine kF 8 23 av (fun K hK=> ?_);refine sR (w1:= ?_) (v:= ?_) (by rfl) rfl ?_ ?_;rotate_left 2
   ·go_simp
    constructor
    ·rfl
    ·rfl
   refine fV hK 23 ⟨(aq (aD b5.out _) 0).trans rfl,(aq (aD b5.out _) 1).trans rfl,(aq (aD b3.out _) 0).trans rfl,(aq (aD b3.out _) 1).trans rfl,(World.cell?_alloc_lt _ _ _ (World.block_lt_of_cell? _ _ ((cB HB dB)))).trans ((cB HB dB)),(World.cell?_alloc_lt _ _ _ (World.block_lt_of_cell? _ _ ((cB HB dA)))).trans ((cB HB dA)),(World.cell?_alloc_lt _ _ _ (World.block_lt_of_cell? _ _ ((cB HB d9)))).trans ((cB HB d9)),(World.cell?_alloc_lt _ _ _ (World.block_lt_of_cell? _ _ ((cB HB d8)))).trans ((cB HB d8)),(World.cell?_alloc_lt _ _ _ (World.block_lt_of_cell? _ _ ((cB HB d7)))).trans ((cB HB d7)),(World.cell?_alloc_lt _ _ _ (World.block_lt_of_cell? _ _ ((cB HB d6)))).trans ((cB HB d6))⟩ (fun hHeld=> ?_);clear hK K;refine kF 9 24 av (fun K hK=> ?_);refine Kd.ox fD (w0:=w) w.heap.size (by rfl) (.tmp 16) (.tmp 23) 26 58 (.agg #[(.int .i64 0),(.int .i64 0),(.int .i64 0),(.slice none 0 0),(.slice none 0 0),(.slice none 0 0)]) 96 rfl Tryz.underlying26 kM rfl (by decide) (by omega) b6 b7 (⟨bU,bV,bW,bN,bO,bP⟩:bh) [.int .i64 bU,.int .i64 bV,.int .i64 bW,.slice dV bN.length dW,.slice dY bO.length dZ,.slice gB bP.length gC] (fun _=>True) (fun k_=>some k_=(.slice dV bN.length dW:Value).ownBlock∨some k_=(.slice dY bO.length dZ:Value).ownBlock∨some k_=(.slice gB bP.length gC:Value).ownBlock) rfl rfl ?aP (fun k_ fV=>fV.elim (fun h_=>((Kd.bm (ok':=fun k_=>((fun _=>True)) k_∧some k_≠(b6:Value).ownBlock) (Kd.cG (bR.out) (Kd.gq b1.out) (by decide)) (fun k_ hk=>⟨trivial,hk.2⟩))).1 k_ h_.symm) (fun h_=>h_.elim (fun h_=>((Kd.bm (ok':=fun k_=>((fun _=>True)) k_∧some k_≠(b6:Value).ownBlock) (Kd.cG (bS.out) (Kd.gq b1.out) (by decide)) (fun k_ hk=>⟨trivial,hk.2⟩))).1 k_ h_.symm) (fun h_=>((Kd.bm (ok':=fun k_=>((fun _=>True)) k_∧some k_≠(b6:Value).ownBlock) (Kd.cG (bT.out) (Kd.gq b1.out) (by decide)) (fun k_ hk=>⟨trivial,hk.2⟩))).1 k_ h_.symm))) ?aF ?aO ?aB ?aS ?aL ?_
   (case aP=>exact nY _ _ _ (⟨bU,bV,bW,bN,bO,bP⟩:bh) (Kd.bm (Kd.jc rfl (Kd.bm (ok':=fun k_=>((fun _=>True)) k_∧some k_≠(b6:Value).ownBlock) (Kd.cG (bR.out) (Kd.gq b1.out) (by decide)) (fun k_ hk=>⟨trivial,hk.2⟩))) (fun _ h_=>Or.inl h_)) (Kd.bm (Kd.jc rfl (Kd.bm (ok':=fun k_=>((fun _=>True)) k_∧some k_≠(b6:Value).ownBlock) (Kd.cG (bS.out) (Kd.gq b1.out) (by decide)) (fun k_ hk=>⟨trivial,hk.2⟩))) (fun _ h_=>Or.inr (Or.inl h_))) (Kd.bm (Kd.jc rfl (Kd.bm (ok':=fun k_=>((fun _=>True)) k_∧some k_≠(b6:Value).ownBlock) (Kd.cG (bT.out) (Kd.gq b1.out) (by decide)) (fun k_ hk=>⟨trivial,hk.2⟩))) (fun _ h_=>Or.inr (Or.inr (h_)))))
   (case aB=>exact oB)
   (case aF=>exact(fun _ _=>trivial))
   (case aO=>exact(by(with_reducible repeat(first|apply Kd.fA|apply Kd.fR|apply Kd.gm));exact Kd.eY b1.out (fun k_ hk=>⟨trivial,fun e_=>e_.elim (fun h_=>hk.1.1.2 h_) (fun h_=>h_.elim (fun h_=>hk.1.2 h_) (fun h_=>hk.2 h_))⟩)))
   (case aS=>exact(ah oB))
   (case aL=>have:=gJ.out;omega)
   intro jQ gV ho hb hg hat;rw[←gK.out]at ho;have dH:=am (ho);replace b3:=lA b3 hg (Kd.xe b1.out b3.out (by decide));replace b4:=lA b4 hg (Kd.xe b1.out b4.out (by decide));replace b5:=lA b5 hg (Kd.xe b1.out b5.out (by decide));replace HB:=am (hb);clear b1;clear bR;clear bS;clear bT;clear ho hb hg hat;obtain⟨gE,gF,gG⟩:=Kd.im dH.out
   (first|subst gG|(injection gG with kH nF kI;have bX:=kH.symm;have bY:=kI.symm;clear kH nF kI;subst bX;subst bY))
   refine fV hK 24 oH (fun hHeld=> ?_);clear hK K;refine b_ 10 25 av ?_;refine wy (i:=11) (N:=none) (lb 12 4095) rfl rfl (qN av.out (by kernel_rfl)) (by decide) (fun K hK=> ?_);have jR:gV.cell? ⟨bM,0,none⟩=some (b6):=(aq b5.out 0).trans rfl;have jC:=aH b5.out 0;have gQ:=b9.out;have gR:=bE.out;have gS:=bB.out;have gT:=bF.out;refine tO (w1:= ?_) (by rfl) rfl ?_ ?_;rotate_left
   ·go_simp
    rfl
   refine hK.out _ _ ?_;clear hK K;refine lX av ?_
   try go_wp2
   go_roundg k1
   case measure=>have:=gL.out;omega
   case rel=>exact⟨(wrap64 (b2+1)),(dG),(.slice gE dG.length gF),oS,H',⟨by have:=gL.out;omega⟩,⟨by(with_reducible repeat(first|apply Kd.fA|apply Kd.fR|apply Kd.gm));exact Kd.eY (Kd.fK (p:=⟨bM,0,none⟩) (Kd.og dH.out b5.out (by decide)) (fun _ hk=>hk.2) (.slice gE dG.length gF)) (fun _ hk=>trivial)⟩,⟨oF b3⟩,⟨oF b4⟩,⟨oP b5⟩,⟨oB⟩⟩

def da.l0:Nat→Int→List Int→Int→Option (List Int)
 |0,_,_,_=>none
 |k+1,x1,x5,x6=>if x6>0 then(if 0≤(wrap64 (x6-1))then(if(wrap64 (x6-1))<(x5.length:Int)then(if(rd x5 (wrap64 (x6-1)))>x1 then(if 0≤x6 then(if x6<(x5.length:Int)then(da.l0 k x1 (x5.set (x6:Int).toNat (rd x5 (wrap64 (x6-1)))) (wrap64 (x6-1)))else(none))else(none))else(if 0≤x6 then(if x6<(x5.length:Int)then(some (x5.set (x6:Int).toNat x1))else(none))else(none)))else(none))else(none))else(if 0≤x6 then(if x6<(x5.length:Int)then(some (x5.set (x6:Int).toNat x1))else(none))else(none))
def da.f (k:Nat) (l0:List Int) (a1:Int):Option (List Int):=(ez.f k l0 a1).bind fun b4=>(if b4=true then(some l0)else((some (([]:List Int):List Int)).bind fun b1=>(if b1.length+l0.length<17592186044416 then((some (b1++l0:List Int)).bind fun b2=>(if b2.length<17592186044416 then((some (b2++[a1]:List Int)).bind fun b3=>(da.l0 k a1 b3 (wrap64 ((b3.length:Int)-1))))else(none)))else(none))))
theorem da.calls (k:Nat) (A0:Option Addr) (c0:Nat) (l0:List Int) (a1:Int) (r:List Int) (b0:Nat) (w:World) (hb0:b0≤w.heap.size) (ho0:Kd.R (Kd.int .i64) 3 w b0 (fun _=>True) (.slice A0 l0.length c0) l0) (h:da.f k l0 a1=some r):
  Calls Tryz.prog 141 #[.slice A0 l0.length c0,.int .i64 a1] w fun e w'=>∃jd:Value,e= .returned (jd)∧Kd.R (Kd.int .i64) 3 w' b0 (fun _=>True) jd r∧Below w.heap.size w w':=by
 have d2:=am (Kd.bu ho0).2.2;have dV:=am (Kd.bu ho0).2.1;have gH:=ab.mk ho0;have dW:=ab.mk hb0;clear ho0 hb0;have HB:=am (Below.refl w.heap.size w);have H:((ez.f k l0 a1).bind fun bJ=>(if bJ=true then(some l0)else((some (([]:List Int):List Int)).bind fun b7=>(if b7.length+l0.length<17592186044416 then((some (b7++l0:List Int)).bind fun b6=>(if b6.length<17592186044416 then((some (b6++[a1]:List Int)).bind fun b5=>(da.l0 k a1 b5 (wrap64 ((b5.length:Int)-1))))else(none)))else(none)))))=some r:=h;clear h;replace H:=Option.bind_eq_some_iff.mp H;obtain⟨bJ,dX,H⟩:=H;replace H:(if bJ=true then(some l0)else((some (([]:List Int):List Int)).bind fun b7=>(if b7.length+l0.length<17592186044416 then((some (b7++l0:List Int)).bind fun b6=>(if b6.length<17592186044416 then((some (b6++[a1]:List Int)).bind fun b5=>(da.l0 k a1 b5 (wrap64 ((b5.length:Int)-1))))else(none)))else(none))))=some r:=H;have A3:=ab.mk dX;clear dX
 by_cases c4:bJ=true
 ·subst c4
  have H1:(some l0)=some r:=by rw[if_pos rfl]at H;exact H
  clear H;obtain rfl:=Option.some.inj H1
  go_enter Tryz.func141,Tryz.ntmps141
  go_wp2_with (first|((with_reducible refine aj (f:=152) rfl ?_);refine sE (some 9) rfl rfl Tryz.func152 (by kernel_rfl) rfl #[.slice A0 l0.length c0,.int .i64 a1] rfl oL ?_;(with_reducible refine(ez.calls k _ _ l0 a1 true _ ?fL ?mx A3.out).mono ?_);(case fL=>repeat(first|exact d2.out|(with_reducible refine Kd.fY ?_ _)|(with_reducible refine Kd.fZ ?_ _)|(with_reducible refine Kd.iW ?_)));(case mx=>exact dV.out);rintro e w' ⟨rfl,⟨nd,rfl⟩⟩;refine⟨_,rfl,?_⟩))
  go_ret
  exact⟨_,oE,(uO gH),oB⟩
 replace c4:=Bool.eq_false_iff.mpr c4;subst c4
 have H1:((some (([]:List Int):List Int)).bind fun b7=>(if b7.length+l0.length<17592186044416 then((some (b7++l0:List Int)).bind fun b6=>(if b6.length<17592186044416 then((some (b6++[a1]:List Int)).bind fun b5=>(da.l0 k a1 b5 (wrap64 ((b5.length:Int)-1))))else(none)))else(none)))=some r:=by rw[if_neg (show¬(false=true) by decide)]at H;exact H
 clear H;have H:=H1;clear H1;obtain⟨b7,dn⟩:∃y_:List Int,y_=(([]:List Int)):=⟨_,rfl⟩;replace H:(if b7.length+l0.length<17592186044416 then((some (b7++l0:List Int)).bind fun b6=>(if b6.length<17592186044416 then((some (b6++[a1]:List Int)).bind fun b5=>(da.l0 k a1 b5 (wrap64 ((b5.length:Int)-1))))else(none)))else(none))=some r:=oY;have bV:=ab.mk dn;clear dn;obtain⟨c7,H⟩:=lH H;have gI:=ab.mk c7;clear c7;obtain⟨b6,dn⟩:∃y_:List Int,y_=(b7++l0):=⟨_,rfl⟩;replace H:(if b6.length<17592186044416 then((some (b6++[a1]:List Int)).bind fun b5=>(da.l0 k a1 b5 (wrap64 ((b5.length:Int)-1))))else(none))=some r:=oY;have dN:=ab.mk dn;clear dn;obtain⟨c8,H⟩:=lH H;have gJ:=ab.mk c8;clear c8;obtain⟨b5,dn⟩:∃y_:List Int,y_=(b6++[a1]):=⟨_,rfl⟩;replace H:(da.l0 k a1 b5 (wrap64 ((b5.length:Int)-1)))=some r:=oY;have dO:=ab.mk dn;clear dn;have H':=ab.mk H;clear H
 go_enter Tryz.func141,Tryz.ntmps141
 go_wp2_with (first|((with_reducible refine aj (f:=152) rfl ?_);refine sE (some 9) rfl rfl Tryz.func152 (by kernel_rfl) rfl #[.slice A0 l0.length c0,.int .i64 a1] rfl oL ?_;(with_reducible refine(ez.calls k _ _ l0 a1 false _ ?fL ?mx A3.out).mono ?_);(case fL=>repeat(first|exact d2.out|(with_reducible refine Kd.fY ?_ _)|(with_reducible refine Kd.fZ ?_ _)|(with_reducible refine Kd.iW ?_)));(case mx=>exact dV.out);rintro e w' ⟨rfl,⟨nd,rfl⟩⟩;refine⟨_,rfl,?_⟩)|((with_reducible refine ai (N:=11) rfl ?_);refine Kd.jy (Kd.int .i64) _ 3 ?hg (N:=11) ?hd (xs:=([]:List Int)) (inner:=[]) (ok:=fun _=>True) (fm:=fun _=>True) ?hr ?hp (fun _ hk=>hk) trivial (Below.refl _ _) (Nat.le_refl _) (by simp) ?_;(case hd=>rfl);(case hg=>rfl);(case hr=>first|(go_simp;done)|(go_simp;rfl));(case hp=>exact(cS.none _ _));intro gK w9 bG hb kB ep;clear kB ep;(first|rw[←bV.out]at bG|(simp only[Int.reduceToNat]at bG;rw[←bV.out]at bG));have b8:=am (Kd.ay bG (ah oB));have b9:=hB HB hb;clear HB;have bW:=b8;have HB:=b9;clear b8 b9;clear hb bG)|((with_reducible refine dp (b:= .append) (xs:= #[.tmp 11,.tmp 12]) rfl ?_);at_builtin;refine Kd.fa (Kd.int .i64) (w0:=w) w.heap.size rfl (.tmp 11) (.tmp 12) 98 3 (.int .i64 0) 8 rfl Tryz.underlying98 info3 rfl (by decide) (by omega) gK b7 l0 _ _ _ (fun _=>True) (fun _=>False) rfl rfl ?aO ?aR (fun _ _ h=>h) (fun _ h=>h.elim) ?aF ?aB ?aS ?aL ?_;(case aR=>repeat(first|exact(Kd.eg d2.out HB.out)|(with_reducible refine Kd.fY ?_ _)|(with_reducible refine Kd.fZ ?_ _)|(with_reducible refine Kd.iW ?_)));(case aB=>exact oB);(case aF=>exact(fun _ _=>trivial));(case aO=>exact(uO bW));(case aS=>exact(ah oB));(case aL=>have:=gI.out;omega);intro gL jL ho hb hg hat;rw[←dN.out]at ho;have b8:=am (hb);have b9:=am (ho);clear HB;clear bW;have HB:=b8;have bX:=b9;clear b8 b9;clear ho hb hg hat)|((with_reducible refine dp (b:= .append) (xs:= #[.tmp 13,.tmp 15]) rfl ?_);at_builtin;refine Kd.mr (Kd.int .i64) (w0:=w) w.heap.size rfl (.tmp 13) (.tmp 15) 98 3 (.int .i64 0) 8 rfl Tryz.underlying98 info3 rfl (by decide) (by omega) gL b6 a1 [.int .i64 a1] (fun _=>True) (fun _=>False) rfl rfl ?aP (fun _ hk=>hk.elim) ?aF ?aO ?aB ?aS ?aL ?_;(case aP=>exact rfl);(case aB=>exact oB);(case aF=>exact(fun _ _=>trivial));(case aO=>exact(uO bX));(case aS=>exact(ah oB));(case aL=>have:=gJ.out;omega);intro jB jM ho hb hg hat;rw[←dO.out]at ho;have b8:=am (hb);have b9:=am (ho);clear HB;clear bX;have HB:=b8;have bY:=b9;clear b8 b9;clear ho hb hg hat;obtain⟨gM,bK,gN⟩:=Kd.ax bY.out;subst gN))
 go_loopg [6] k (fun kq v6 w'=>∃(b2:List Int) (b1:Int),v6= .int .i64 b1∧ab (da.l0 kq a1 b2 b1=some r)∧ab (kq≤k)∧ab (Kd.R (Kd.int .i64) 3 w' w.heap.size (fun _=>True) (.slice gM b5.length bK) b2)∧ab (Below w.heap.size w w'))
 case atStart=>exact⟨(b5),(wrap64 ((b5.length:Int)-1)),oS,H',⟨Nat.le_refl _⟩,⟨by(with_reducible repeat(first|apply Kd.cu|apply Kd.cv|apply Kd.cz));exact bY.out⟩,⟨oB⟩⟩
 case round=>
  clear H'
  try clear c1
  try clear p2
  try clear c4
  try clear p6
  try clear c7
  try clear c8
  obtain⟨b2,b1,rfl,HA,dY,b4,HB⟩:=hrel;have bF:=(Kd.bu b4.out).1;rw[bF]at b4
  (try simp only[bF])
  cases gk with
  |zero=>exact absurd HA.out (by simp[da.l0])
  |succ k1=>
   have H:=HA.out;clear HA;simp only[da.l0]at H
   by_cases bH:b1>0
   rotate_left
   ·rw[if_neg bH]at H;have dP:decide (0<b1)=false:=decide_eq_false bH;clear bH;obtain⟨dZ,H⟩:=lH H;have j3:decide (0≤b1)=true:=decide_eq_true dZ;clear dZ;obtain⟨gA,H⟩:=lH H;have j4:decide (b1<(b2.length:Int))=true:=decide_eq_true gA;clear gA;obtain⟨d3,dn⟩:∃y_:List Int,y_=(b2.set (b1:Int).toNat a1):=⟨_,rfl⟩;replace H:(some d3)=some r:=oY;have dQ:=ab.mk dn;clear dn;obtain rfl:=Option.some.inj H;have d4:0≤(b1:Int):=oa;have d5:(b1:Int)<((b2.length:Int):Int):=oa;obtain⟨bL,jC,d6,d7,gO,jD,d8⟩:=Kd.lu b4.out (by omega)
    (first|cases d6|(injection d6 with iF nP nQ;(first|subst iF|(injection iF with iF;subst iF));subst nQ;clear nP))
    have gP:=ab.mk d7;have jE:=ab.mk d8;clear d7 gO d8;obtain⟨gV,gW⟩:=Kd.ob 0 b4.out (b1:Int) d4 d5;replace d4:=eq_true d4;replace d5:=eq_true d5;have bM:=Kd.qV b4.out (b1:Int) a1
    go_wp2_with (first|((with_reducible refine fx (t:=3) (p:=44) rfl ?_);refine fk (t:=3) (p:=44) (v:= ?vo_w33) (w1:=(wr.setCell ⟨bL,(b1:Int).toNat,none⟩ (.int .i64 a1))) ?hg ?ho ?hn ?hr ?_;(case ho=>rfl);(case hg=>rfl);(case hn=>rfl);(case hr=>first|(go_simp;done)|(go_simp;rfl));intro d9 hw;have hg:wr.grownBy d9 (some bL):=(by rw[hw];exact bM.2);have nR:Kd.R (Kd.int .i64) 3 d9 w.heap.size (fun _=>True) (.slice (some ⟨bL,0,none⟩) b2.length bK) d3:=(by rw[hw,dQ.out];exact bM.1);clear bM;have b8:=am (nR);have b9:=am ((by rw[hw];exact aG (HB.out) gP.out:Below w.heap.size w d9));clear b4;clear HB;have b4:=b8;have HB:=b9;clear b8 b9;clear hg hw nR))
    go_ret
    exact⟨_,oE,Kd.ay (uO b4) dW.out,oB⟩
   rw[if_pos bH]at H;have dP:decide (0<b1)=true:=decide_eq_true bH;clear bH;obtain⟨b3,bD⟩:∃j_:Int,(wrap64 (b1-1))=j_:=⟨_,rfl⟩
   replace H:(if 0≤(b3)then(if(b3)<(b2.length:Int)then(if(rd b2 (b3))>a1 then(if 0≤b1 then(if b1<(b2.length:Int)then(da.l0 k1 a1 (b2.set (b1:Int).toNat (rd b2 (b3))) b3)else(none))else(none))else(if 0≤b1 then(if b1<(b2.length:Int)then(some (b2.set (b1:Int).toNat a1))else(none))else(none)))else(none))else(none))=some r:=by first|(rw[bD]at H;exact H)|(simp only[bD]at H⊢;exact H)
   have gX:(IntKind.i64.wrap (b1-1))=b3:=(fo _).trans bD;obtain⟨gB,H⟩:=lH H;have j5:decide (0≤(b3))=true:=decide_eq_true gB;clear gB;obtain⟨gC,H⟩:=lH H;have j6:decide ((b3)<(b2.length:Int))=true:=decide_eq_true gC;clear gC
   by_cases bI:(rd b2 (b3))>a1
   rotate_left
   ·rw[if_neg bI]at H;have dR:decide (a1<(rd b2 (b3)))=false:=decide_eq_false bI;clear bI;obtain⟨gD,H⟩:=lH H;have j7:decide (0≤b1)=true:=decide_eq_true gD;clear gD;obtain⟨gE,H⟩:=lH H;have j8:decide (b1<(b2.length:Int))=true:=decide_eq_true gE;clear gE;obtain⟨dA,dn⟩:∃y_:List Int,y_=(b2.set (b1:Int).toNat a1):=⟨_,rfl⟩;replace H:(some dA)=some r:=oY;have dS:=ab.mk dn;clear dn;obtain rfl:=Option.some.inj H;have bB:0≤((b3):Int):=oa;have bC:(b3)<(b2.length:Int):=oa;obtain⟨bZ,bN,bE⟩:=Kd.jm (Kd.bu b4.out).2.2 (b3) bB bC
    cases bN
    replace bB:=eq_true bB;replace bC:=eq_true bC;have dB:0≤(b1:Int):=oa;have dC:(b1:Int)<((b2.length:Int):Int):=oa;obtain⟨bO,jF,dD,dE,gQ,jG,dF⟩:=Kd.lu b4.out (by omega)
    (first|cases dD|(injection dD with iF nP nQ;(first|subst iF|(injection iF with iF;subst iF));subst nQ;clear nP))
    have gR:=ab.mk dE;have jH:=ab.mk dF;clear dE gQ dF
    (first|simp only[add_plain]at bE|skip)
    obtain⟨gY,gZ⟩:=Kd.ob 0 b4.out (b1:Int) dB dC;replace dB:=eq_true dB;replace dC:=eq_true dC;have bP:=Kd.qV b4.out (b1:Int) a1
    go_wp2_with (first|((with_reducible refine fx (t:=3) (p:=44) rfl ?_);refine fk (t:=3) (p:=44) (v:= ?vo_w28) (w1:=(wr.setCell ⟨bO,(b1:Int).toNat,none⟩ (.int .i64 a1))) ?hg ?ho ?hn ?hr ?_;(case ho=>rfl);(case hg=>rfl);(case hn=>rfl);(case hr=>first|(go_simp;done)|(go_simp;rfl));intro dG hw;have hg:wr.grownBy dG (some bO):=(by rw[hw];exact bP.2);have nR:Kd.R (Kd.int .i64) 3 dG w.heap.size (fun _=>True) (.slice (some ⟨bO,0,none⟩) b2.length bK) dA:=(by rw[hw,dS.out];exact bP.1);clear bP;have b8:=am (nR);have b9:=am ((by rw[hw];exact aG (HB.out) gR.out:Below w.heap.size w dG));clear b4;clear HB;have b4:=b8;have HB:=b9;clear b8 b9;clear hg hw nR))
    go_ret
    exact⟨_,by first|rfl|(simp[eU,eV]<;>rfl)|(simp only[←bD];first|rfl|(simp[eU,eV]<;>rfl))|(simp[*,eU,eV]<;>rfl),Kd.ay (uO b4) dW.out,oB⟩
   rw[if_pos bI]at H;have dR:decide (a1<(rd b2 (b3)))=true:=decide_eq_true bI;clear bI;obtain⟨gF,H⟩:=lH H;have j9:decide (0≤b1)=true:=decide_eq_true gF;clear gF;obtain⟨gG,H⟩:=lH H;have jA:decide (b1<(b2.length:Int))=true:=decide_eq_true gG;clear gG;obtain⟨bQ,dn⟩:∃y_:List Int,y_=(b2.set (b1:Int).toNat (rd b2 (b3))):=⟨_,rfl⟩;replace H:(da.l0 k1 a1 bQ b3)=some r:=oY;have dT:=ab.mk dn;clear dn;have H':=ab.mk H;clear H;have bB:0≤((b3):Int):=oa;have bC:(b3)<(b2.length:Int):=oa;obtain⟨bZ,bN,bE⟩:=Kd.jm (Kd.bu b4.out).2.2 (b3) bB bC
   cases bN
   replace bB:=eq_true bB;replace bC:=eq_true bC;have bR:0≤((b3):Int):=oa;have bS:(b3)<(b2.length:Int):=oa;obtain⟨dU,gS,d1⟩:=Kd.jm (Kd.bu b4.out).2.2 (b3) bR bS;obtain rfl:bZ=dU:=(by injection gS);replace bR:=eq_true bR;replace bS:=eq_true bS;have dH:0≤(b1:Int):=oa;have dI:(b1:Int)<((b2.length:Int):Int):=oa;obtain⟨bT,jI,dJ,dK,gT,jJ,dL⟩:=Kd.lu b4.out (by omega)
   (first|cases dJ|(injection dJ with iF nP nQ;(first|subst iF|(injection iF with iF;subst iF));subst nQ;clear nP))
   have gU:=ab.mk dK;have jK:=ab.mk dL;clear dK gT dL
   (first|simp only[add_plain]at bE|skip)
   (first|simp only[add_plain]at d1|skip)
   obtain⟨j1,j2⟩:=Kd.ob 0 b4.out (b1:Int) dH dI;replace dH:=eq_true dH;replace dI:=eq_true dI;have bU:=Kd.qV b4.out (b1:Int) (rd b2 (b3))
   go_wp2_with (first|((with_reducible refine fx (t:=3) (p:=38) rfl ?_);refine fk (t:=3) (p:=38) (v:= ?vo_w23) (w1:=(wr.setCell ⟨bT,(b1:Int).toNat,none⟩ (.int .i64 (rd b2 (b3))))) ?hg ?ho ?hn ?hr ?_;(case ho=>rfl);(case hg=>rfl);(case hn=>rfl);(case hr=>first|(go_simp;done)|(go_simp;rfl));intro dM hw;have hg:wr.grownBy dM (some bT):=(by rw[hw];exact bU.2);have nR:Kd.R (Kd.int .i64) 3 dM w.heap.size (fun _=>True) (.slice (some ⟨bT,0,none⟩) b2.length bK) bQ:=(by rw[hw,dT.out];exact bU.1);clear bU;have b8:=am (nR);have b9:=am ((by rw[hw];exact aG (HB.out) gU.out:Below w.heap.size w dM));clear b4;clear HB;have b4:=b8;have HB:=b9;clear b8 b9;clear hg hw nR))
   (try simp only[←bF])
   go_roundg k1
   case measure=>have:=dY.out;omega
   case rel=>exact⟨(bQ),(b3),(by first|rfl|(simp;done)|(simp only[←bD]<;>(first|rfl|simp))|(simp[*];done)),H',⟨by have:=dY.out;omega⟩,⟨by(try simp only[bF]);(with_reducible repeat(first|apply Kd.cu|apply Kd.cv|apply Kd.cz));exact b4.out⟩,⟨oB⟩⟩

def aQ.l0:Nat→ByteArray→Int→Option (Bool)
 |0,_,_=>none
 |k+1,x0,x3=>if x3<(x0.size:Int)then(if 0≤x3 then((aT.f (wrap64 (bt x0 x3)) 97 122).bind fun b1=>(if b1=true then(aQ.l0 k x0 (wrap64 (x3+1)))else((aT.f (wrap64 (bt x0 x3)) 48 57).bind fun b2=>(if b2=true then(aQ.l0 k x0 (wrap64 (x3+1)))else(if(wrap64 (bt x0 x3))=95 then(aQ.l0 k x0 (wrap64 (x3+1)))else(if(wrap64 (bt x0 x3))=45 then(aQ.l0 k x0 (wrap64 (x3+1)))else(if(wrap64 (bt x0 x3))=46 then(aQ.l0 k x0 (wrap64 (x3+1)))else(some false))))))))else(none))else((aT.f (x0.size:Int) 1 14).bind fun b3=>(if b3=true then(if x0.toList=([46]:List UInt8)then(some false)else(some (x0.toList !=([46,46]:List UInt8))))else(some false)))
def aQ.f (k:Nat) (a0:ByteArray):Option (Bool):=aQ.l0 k a0 0
theorem aQ.calls (k:Nat) (a0:ByteArray) (r:Bool) (w:World) (h:aQ.f k a0=some r):
  Calls Tryz.prog 63 #[.string a0] w fun e w'=>e= .returned (.bool r)∧eX w w':=by
 unfold aQ.f at h;have H:=h;clear h;have H':=ab.mk H;clear H
 go_enter Tryz.func63,Tryz.ntmps63
 go_wp2
 go_loopg [3] k (fun kq v3 w'=>∃(b1:Int),v3= .int .i64 b1∧ab (aQ.l0 kq a0 b1=some r)∧ab (kq≤k)∧eX w w')
 case atStart=>exact⟨(0),oS,H',⟨Nat.le_refl _⟩,oD⟩
 case round=>
  clear H';obtain⟨b1,rfl,HA,b2,⟨m1,rfl⟩⟩:=hrel
  cases gk with
  |zero=>exact absurd HA.out (by simp[aQ.l0])
  |succ k1=>
   have H:=HA.out;clear HA;simp only[aQ.l0]at H;replace H:=iH H;rcases H with⟨bE,H⟩|⟨bE,H⟩;rotate_left
   ·replace H:=bA H;obtain⟨bH,b6,H⟩:=H
    try dsimp only at H
    replace H:=ll H;rcases H with⟨rfl,H⟩|⟨rfl,H⟩;rotate_left
    ·obtain rfl:=Option.some.inj H
     go_wp2_with (first|((with_reducible refine aj (f:=60) rfl ?_);refine eI 37 Tryz.func60 (aT.calls (a0.size:Int) 1 14 false _ b6.out) ?_;rintro e w' ⟨rfl,⟨nd,rfl⟩⟩;refine⟨_,rfl,?_⟩))
     go_ret
     exact⟨oS,oD⟩
    by_cases b3:a0.toList=([46]:List UInt8)
    rotate_left
    ·rw[if_neg b3]at H;have b7:(a0.toList==([46]:List UInt8))=false:=beq_eq_false_iff_ne.mpr b3;have b8:(a0.toList !=([46]:List UInt8))=true:=bne_iff_ne.mpr b3;obtain rfl:=Option.some.inj H
     go_wp2_with (first|((with_reducible refine aj (f:=60) rfl ?_);refine eI 37 Tryz.func60 (aT.calls (a0.size:Int) 1 14 true _ b6.out) ?_;rintro e w' ⟨rfl,⟨nd,rfl⟩⟩;refine⟨_,rfl,?_⟩))
     go_ret
     exact⟨oS,oD⟩
    rw[if_pos b3]at H;have b7:(a0.toList==([46]:List UInt8))=true:=beq_iff_eq.mpr b3;have b8:(a0.toList !=([46]:List UInt8))=false:=bne_eq_false_iff_eq.mpr b3;clear b3;obtain rfl:=Option.some.inj H
    go_wp2_with (first|((with_reducible refine aj (f:=60) rfl ?_);refine eI 37 Tryz.func60 (aT.calls (a0.size:Int) 1 14 true _ b6.out) ?_;rintro e w' ⟨rfl,⟨nd,rfl⟩⟩;refine⟨_,rfl,?_⟩))
    go_ret
    exact⟨oS,oD⟩
   obtain⟨bI,H⟩:=cU H;replace H:=bA H;obtain⟨bJ,A5,H⟩:=H
   try dsimp only at H
   replace H:=ll H;rcases H with⟨rfl,H⟩|⟨rfl,H⟩
   ·have H':=ab.mk H;clear H;have p4:(0≤(b1:Int))=True:=oT;have q4:(b1<(a0.size:Int))=True:=oT;have b5:=hL a0 b1
    go_wp2_with (first|((with_reducible refine aj (f:=60) rfl ?_);refine eI 16 Tryz.func60 (aT.calls (wrap64 (bt a0 b1)) 97 122 true _ A5.out) ?_;rintro e w' ⟨rfl,⟨nd,rfl⟩⟩;refine⟨_,rfl,?_⟩))
    go_roundg k1
    case measure=>have:=b2.out;omega
    case rel=>exact⟨(wrap64 (b1+1)),oS,H',⟨by have:=b2.out;omega⟩,oD⟩
   replace H:=bA H;obtain⟨bK,A7,H⟩:=H
   try dsimp only at H
   replace H:=ll H;rcases H with⟨rfl,H⟩|⟨rfl,H⟩
   ·have H':=ab.mk H;clear H;have p4:(0≤(b1:Int))=True:=oT;have q4:(b1<(a0.size:Int))=True:=oT;have b5:=hL a0 b1
    go_wp2_with (first|((with_reducible refine aj (f:=60) rfl ?_);refine eI 16 Tryz.func60 (aT.calls (wrap64 (bt a0 b1)) 97 122 false _ A5.out) ?_;rintro e w' ⟨rfl,⟨nd,rfl⟩⟩;refine⟨_,rfl,?_⟩)|(go_at_call 60;(with_reducible refine(aT.calls (wrap64 (bt a0 b1)) 48 57 true _ A7.out).mono ?_);rintro e w' ⟨rfl,⟨nd,rfl⟩⟩))
    go_roundg k1
    case measure=>have:=b2.out;omega
    case rel=>exact⟨(wrap64 (b1+1)),oS,H',⟨by have:=b2.out;omega⟩,oD⟩
   by_cases c9:(wrap64 (bt a0 b1))=95
   ·rw[if_pos c9]at H;have bF:((wrap64 (bt a0 b1))==95)=true:=beq_iff_eq.mpr c9;have bG:((wrap64 (bt a0 b1)) !=95)=false:=bne_eq_false_iff_eq.mpr c9;clear c9;have H':=ab.mk H;clear H;have p4:(0≤(b1:Int))=True:=oT;have q4:(b1<(a0.size:Int))=True:=oT;have b5:=hL a0 b1
    go_wp2_with (first|((with_reducible refine aj (f:=60) rfl ?_);refine eI 16 Tryz.func60 (aT.calls (wrap64 (bt a0 b1)) 97 122 false _ A5.out) ?_;rintro e w' ⟨rfl,⟨nd,rfl⟩⟩;refine⟨_,rfl,?_⟩)|(go_at_call 60;(with_reducible refine(aT.calls (wrap64 (bt a0 b1)) 48 57 false _ A7.out).mono ?_);rintro e w' ⟨rfl,⟨nd,rfl⟩⟩))
    go_roundg k1
    case measure=>have:=b2.out;omega
    case rel=>exact⟨(wrap64 (b1+1)),oS,H',⟨by have:=b2.out;omega⟩,oD⟩
   rw[if_neg c9]at H;have bF:((wrap64 (bt a0 b1))==95)=false:=beq_eq_false_iff_ne.mpr c9;have bG:((wrap64 (bt a0 b1)) !=95)=true:=bne_iff_ne.mpr c9
   by_cases c10:(wrap64 (bt a0 b1))=45
   ·rw[if_pos c10]at H;have b9:((wrap64 (bt a0 b1))==45)=true:=beq_iff_eq.mpr c10;have bB:((wrap64 (bt a0 b1)) !=45)=false:=bne_eq_false_iff_eq.mpr c10;clear c10;have H':=ab.mk H;clear H;have p4:(0≤(b1:Int))=True:=oT;have q4:(b1<(a0.size:Int))=True:=oT;have b5:=hL a0 b1
    go_wp2_with (first|((with_reducible refine aj (f:=60) rfl ?_);refine eI 16 Tryz.func60 (aT.calls (wrap64 (bt a0 b1)) 97 122 false _ A5.out) ?_;rintro e w' ⟨rfl,⟨nd,rfl⟩⟩;refine⟨_,rfl,?_⟩)|(go_at_call 60;(with_reducible refine(aT.calls (wrap64 (bt a0 b1)) 48 57 false _ A7.out).mono ?_);rintro e w' ⟨rfl,⟨nd,rfl⟩⟩))
    go_roundg k1
    case measure=>have:=b2.out;omega
    case rel=>exact⟨(wrap64 (b1+1)),oS,H',⟨by have:=b2.out;omega⟩,oD⟩
   rw[if_neg c10]at H;have b9:((wrap64 (bt a0 b1))==45)=false:=beq_eq_false_iff_ne.mpr c10;have bB:((wrap64 (bt a0 b1)) !=45)=true:=bne_iff_ne.mpr c10
   by_cases b4:(wrap64 (bt a0 b1))=46
   rotate_left
   ·rw[if_neg b4]at H;have bC:((wrap64 (bt a0 b1))==46)=false:=beq_eq_false_iff_ne.mpr b4;have bD:((wrap64 (bt a0 b1)) !=46)=true:=bne_iff_ne.mpr b4;obtain rfl:=Option.some.inj H;have p4:(0≤(b1:Int))=True:=oT;have q4:(b1<(a0.size:Int))=True:=oT;have b5:=hL a0 b1
    go_wp2_with (first|((with_reducible refine aj (f:=60) rfl ?_);refine eI 16 Tryz.func60 (aT.calls (wrap64 (bt a0 b1)) 97 122 false _ A5.out) ?_;rintro e w' ⟨rfl,⟨nd,rfl⟩⟩;refine⟨_,rfl,?_⟩)|(go_at_call 60;(with_reducible refine(aT.calls (wrap64 (bt a0 b1)) 48 57 false _ A7.out).mono ?_);rintro e w' ⟨rfl,⟨nd,rfl⟩⟩))
    go_ret
    exact⟨oS,oD⟩
   rw[if_pos b4]at H;have bC:((wrap64 (bt a0 b1))==46)=true:=beq_iff_eq.mpr b4;have bD:((wrap64 (bt a0 b1)) !=46)=false:=bne_eq_false_iff_eq.mpr b4;clear b4;have H':=ab.mk H;clear H;have p4:(0≤(b1:Int))=True:=oT;have q4:(b1<(a0.size:Int))=True:=oT;have b5:=hL a0 b1
   go_wp2_with (first|((with_reducible refine aj (f:=60) rfl ?_);refine eI 16 Tryz.func60 (aT.calls (wrap64 (bt a0 b1)) 97 122 false _ A5.out) ?_;rintro e w' ⟨rfl,⟨nd,rfl⟩⟩;refine⟨_,rfl,?_⟩)|(go_at_call 60;(with_reducible refine(aT.calls (wrap64 (bt a0 b1)) 48 57 false _ A7.out).mono ?_);rintro e w' ⟨rfl,⟨nd,rfl⟩⟩))
   go_roundg k1
   case measure=>have:=b2.out;omega
   case rel=>exact⟨(wrap64 (b1+1)),oS,H',⟨by have:=b2.out;omega⟩,oD⟩

def cT.l0:Nat→List (eh)→List (eh)→Int→Int→Option (Bool)
 |0,_,_,_,_=>none
 |k+1,x0,x5,x6,x7=>if x7<x6 then(if 0≤x7 then(if x7<(x5.length:Int)then((aC.f k ((an x5 x7).f0)).bind fun b1=>(if b1=true then((bl.f (((an x5 x7).f1).size:Int) 1 16).bind fun b2=>(if b2=true then(if x7>0 then(if 0≤(wrap64 (x7-1))then(if(wrap64 (x7-1))<(x0.length:Int)then(if((Op.bytesLess (((an x0 (wrap64 (x7-1))).f0).toList) (((an x5 x7).f0).toList))=true)then(cT.l0 k x0 x5 x6 (wrap64 (x7+1)))else(some false))else(none))else(none))else(cT.l0 k x0 x5 x6 (wrap64 (x7+1))))else(some false)))else(some false)))else(none))else(none))else(some (decide ((x0.length:Int)≤4)))
def cT.f (k:Nat) (l0:List (eh)):Option (Bool):=cT.l0 k l0 l0 (l0.length:Int) 0
theorem cT.calls (k:Nat) (A0:Option Addr) (c0:Nat) (l0:List (eh)) (r:Bool) (w:World) (hr0:Kd.C iU w A0 l0.length l0) (hc0:l0.length≤c0) (h:cT.f k l0=some r):
  Calls Tryz.prog 157 #[.slice A0 l0.length c0] w fun e w'=>e= .returned (.bool r)∧Below w.heap.size w w':=by
 have d3:=Tryz.underlying82;have bJ:=ab.mk hr0;have d8:=ab.mk hc0;clear hr0 hc0;have HB:=am (Below.refl w.heap.size w);unfold cT.f at h;have H:=h;clear h;have H':=ab.mk H;clear H
 go_enter Tryz.func157,Tryz.ntmps157
 go_wp2
 repeat(go_quiet (fail);try go_wp2)
 go_loopg [7] k (fun kq v7 w'=>∃(b2:Int),v7= .int .i64 b2∧ab (cT.l0 kq l0 l0 (l0.length:Int) b2=some r)∧ab (kq≤k)∧ab (Below w.heap.size w w'))
 case atStart=>exact⟨(0),oS,H',⟨Nat.le_refl _⟩,⟨oB⟩⟩
 case round=>
  clear H';obtain⟨b2,rfl,HA,bS,HB⟩:=hrel
  cases gk with
  |zero=>exact absurd HA.out (by simp[cT.l0])
  |succ k1=>
   have H:=HA.out;clear HA;simp only[cT.l0]at H;replace H:=iH H;rcases H with⟨bU,H⟩|⟨bU,H⟩;rotate_left
   ·obtain rfl:=Option.some.inj H
    go_wp2
    repeat(go_quiet (fail);try go_wp2)
    go_ret
    exact⟨oE,oB⟩
   obtain⟨d4,H⟩:=cU H;obtain⟨d5,H⟩:=cU H;replace H:=bA H;obtain⟨d6,A5,H⟩:=H
   try dsimp only at H
   replace H:=ll H;rcases H with⟨rfl,H⟩|⟨rfl,H⟩;rotate_left
   ·obtain rfl:=Option.some.inj H;have bQ:(0≤(b2:Int))=True:=oT;have bR:(b2<(l0.length:Int))=True:=oT;obtain⟨b7,bI,bK,bL⟩:=qP bJ HB b2 oa oa
    cases bI
    go_wp2_with (first|((with_reducible refine ai (N:=4) rfl ?_);(try(refine bx (by rfl) ?_;dsimp only));refine di 4 #[.string (⟨#[]⟩:ByteArray),.string (⟨#[]⟩:ByteArray)] 82 ?_;intro b4 hg bW hbox hb;have bB:=am (hbox);have b8:=dh hg;replace HB:=hB HB hb;clear hb hbox hg;obtain⟨⟨_,_⟩,_,_⟩:=z2 bB)|(go_at_call 65;(with_reducible refine(aC.calls k1 ((an l0 b2).f0) false _ A5.out).mono ?_);rintro e w' ⟨rfl,⟨nd,rfl⟩⟩))
    repeat(go_quiet (first|(go_at_call 65;(with_reducible refine(aC.calls k1 ((an l0 b2).f0) false _ A5.out).mono ?_);rintro e w' ⟨rfl,⟨nd,rfl⟩⟩;exact oQ));try go_wp2_with (first|((with_reducible refine ai (N:=4) rfl ?_);(try(refine bx (by rfl) ?_;dsimp only));refine di 4 #[.string (⟨#[]⟩:ByteArray),.string (⟨#[]⟩:ByteArray)] 82 ?_;intro b4 hg bW hbox hb;have bB:=am (hbox);have b8:=dh hg;replace HB:=hB HB hb;clear hb hbox hg;obtain⟨⟨_,_⟩,_,_⟩:=z2 bB)|(go_at_call 65;(with_reducible refine(aC.calls k1 ((an l0 b2).f0) false _ A5.out).mono ?_);rintro e w' ⟨rfl,⟨nd,rfl⟩⟩)))
    go_ret
    exact⟨oE,oB⟩
   replace H:=bA H;obtain⟨d7,A7,H⟩:=H
   try dsimp only at H
   replace H:=ll H;rcases H with⟨rfl,H⟩|⟨rfl,H⟩;rotate_left
   ·obtain rfl:=Option.some.inj H;have bQ:(0≤(b2:Int))=True:=oT;have bR:(b2<(l0.length:Int))=True:=oT;obtain⟨b7,bI,bK,bL⟩:=qP bJ HB b2 oa oa
    cases bI
    go_wp2_with (first|((with_reducible refine ai (N:=4) rfl ?_);(try(refine bx (by rfl) ?_;dsimp only));refine di 4 #[.string (⟨#[]⟩:ByteArray),.string (⟨#[]⟩:ByteArray)] 82 ?_;intro b4 hg bX hbox hb;have bB:=am (hbox);have b8:=dh hg;replace HB:=hB HB hb;clear hb hbox hg;obtain⟨⟨_,_⟩,_,_⟩:=z2 bB)|(go_at_call 65;(with_reducible refine(aC.calls k1 ((an l0 b2).f0) true _ A5.out).mono ?_);rintro e w' ⟨rfl,⟨nd,rfl⟩⟩)|(go_at_call 61;(with_reducible refine(bl.calls (((an l0 b2).f1).size:Int) 1 16 false _ A7.out).mono ?_);rintro e w' ⟨rfl,⟨nd,rfl⟩⟩))
    repeat(go_quiet (first|(go_at_call 65;(with_reducible refine(aC.calls k1 ((an l0 b2).f0) true _ A5.out).mono ?_);rintro e w' ⟨rfl,⟨nd,rfl⟩⟩;exact oQ)|(go_at_call 61;(with_reducible refine(bl.calls (((an l0 b2).f1).size:Int) 1 16 false _ A7.out).mono ?_);rintro e w' ⟨rfl,⟨nd,rfl⟩⟩;exact oQ));try go_wp2_with (first|((with_reducible refine ai (N:=4) rfl ?_);(try(refine bx (by rfl) ?_;dsimp only));refine di 4 #[.string (⟨#[]⟩:ByteArray),.string (⟨#[]⟩:ByteArray)] 82 ?_;intro b4 hg bX hbox hb;have bB:=am (hbox);have b8:=dh hg;replace HB:=hB HB hb;clear hb hbox hg;obtain⟨⟨_,_⟩,_,_⟩:=z2 bB)|(go_at_call 65;(with_reducible refine(aC.calls k1 ((an l0 b2).f0) true _ A5.out).mono ?_);rintro e w' ⟨rfl,⟨nd,rfl⟩⟩)|(go_at_call 61;(with_reducible refine(bl.calls (((an l0 b2).f1).size:Int) 1 16 false _ A7.out).mono ?_);rintro e w' ⟨rfl,⟨nd,rfl⟩⟩)))
    go_ret
    exact⟨oE,oB⟩
   replace H:=itG H;rcases H with⟨bV,H⟩|⟨bV,H⟩;rotate_left
   ·have H':=ab.mk H;clear H;have bQ:(0≤(b2:Int))=True:=oT;have bR:(b2<(l0.length:Int))=True:=oT;obtain⟨b7,bI,bK,bL⟩:=qP bJ HB b2 oa oa
    cases bI
    go_wp2_with (first|((with_reducible refine ai (N:=4) rfl ?_);(try(refine bx (by rfl) ?_;dsimp only));refine di 4 #[.string (⟨#[]⟩:ByteArray),.string (⟨#[]⟩:ByteArray)] 82 ?_;intro b4 hg bY hbox hb;have bB:=am (hbox);have b8:=dh hg;replace HB:=hB HB hb;clear hb hbox hg;obtain⟨⟨_,_⟩,_,_⟩:=z2 bB)|(go_at_call 65;(with_reducible refine(aC.calls k1 ((an l0 b2).f0) true _ A5.out).mono ?_);rintro e w' ⟨rfl,⟨nd,rfl⟩⟩)|(go_at_call 61;(with_reducible refine(bl.calls (((an l0 b2).f1).size:Int) 1 16 true _ A7.out).mono ?_);rintro e w' ⟨rfl,⟨nd,rfl⟩⟩))
    repeat(go_quiet (first|(go_at_call 65;(with_reducible refine(aC.calls k1 ((an l0 b2).f0) true _ A5.out).mono ?_);rintro e w' ⟨rfl,⟨nd,rfl⟩⟩;exact oQ)|(go_at_call 61;(with_reducible refine(bl.calls (((an l0 b2).f1).size:Int) 1 16 true _ A7.out).mono ?_);rintro e w' ⟨rfl,⟨nd,rfl⟩⟩;exact oQ));try go_wp2_with (first|((with_reducible refine ai (N:=4) rfl ?_);(try(refine bx (by rfl) ?_;dsimp only));refine di 4 #[.string (⟨#[]⟩:ByteArray),.string (⟨#[]⟩:ByteArray)] 82 ?_;intro b4 hg bY hbox hb;have bB:=am (hbox);have b8:=dh hg;replace HB:=hB HB hb;clear hb hbox hg;obtain⟨⟨_,_⟩,_,_⟩:=z2 bB)|(go_at_call 65;(with_reducible refine(aC.calls k1 ((an l0 b2).f0) true _ A5.out).mono ?_);rintro e w' ⟨rfl,⟨nd,rfl⟩⟩)|(go_at_call 61;(with_reducible refine(bl.calls (((an l0 b2).f1).size:Int) 1 16 true _ A7.out).mono ?_);rintro e w' ⟨rfl,⟨nd,rfl⟩⟩)))
    go_roundg k1
    case measure=>have:=bS.out;omega
    case rel=>exact⟨(wrap64 (b2+1)),oS,H',⟨by have:=bS.out;omega⟩,⟨oB⟩⟩
   obtain⟨b9,bM⟩:∃j_:Int,(wrap64 (b2-1))=j_:=⟨_,rfl⟩
   replace H:(if 0≤(b9)then(if(b9)<(l0.length:Int)then(if((Op.bytesLess (((an l0 (b9)).f0).toList) (((an l0 b2).f0).toList))=true)then(cT.l0 k1 l0 l0 (l0.length:Int) (wrap64 (b2+1)))else(some false))else(none))else(none))=some r:=by first|(rw[bM]at H;exact H)|(simp only[bM]at H⊢;exact H)
   (try rw[bM]at A5)
   (try rw[bM]at A7)
   have bZ:(IntKind.i64.wrap (b2-1))=b9:=(fo _).trans bM;obtain⟨d1,H⟩:=cU H;obtain⟨d2,H⟩:=cU H
   by_cases bP:((Op.bytesLess (((an l0 (b9)).f0).toList) (((an l0 b2).f0).toList))=true)
   ·rw[if_pos bP]at H;have bT:(Op.bytesLess (((an l0 (b9)).f0).toList) (((an l0 b2).f0).toList))=true:=bP;clear bP;have H':=ab.mk H;clear H;have bQ:(0≤(b2:Int))=True:=oT;have bR:(b2<(l0.length:Int))=True:=oT;obtain⟨b7,bI,bK,bL⟩:=qP bJ HB b2 oa oa
    cases bI
    go_wp2_with (first|((with_reducible refine ai (N:=4) rfl ?_);(try(refine bx (by rfl) ?_;dsimp only));refine di 4 #[.string (⟨#[]⟩:ByteArray),.string (⟨#[]⟩:ByteArray)] 82 ?_;intro b4 hg bN hbox hb;have bB:=am (hbox);have b8:=dh hg;replace HB:=hB HB hb;clear hb hbox hg;obtain⟨⟨_,_⟩,_,_⟩:=z2 bB)|(go_at_call 65;(with_reducible refine(aC.calls k1 ((an l0 b2).f0) true _ A5.out).mono ?_);rintro e w' ⟨rfl,⟨nd,rfl⟩⟩)|(go_at_call 61;(with_reducible refine(bl.calls (((an l0 b2).f1).size:Int) 1 16 true _ A7.out).mono ?_);rintro e w' ⟨rfl,⟨nd,rfl⟩⟩;have bD:(0≤((b9):Int))=True:=oT;have bE:((b9)<(l0.length:Int))=True:=oT;obtain⟨bC,bF,b1,b3⟩:=dw bJ.out (b9) oa oa;obtain rfl:b7=bC:=(by injection bF);have b5:b7.block≠b4:=qD b1 b8;have b6:b7.block≠b4:=qD b1 b8;replace b1:=cB HB b1;replace b3:=cB HB b3;replace b1:=lG 0 (.string ((an l0 b2).f0)) b5 b1;replace b3:=lG 0 (.string ((an l0 b2).f0)) b5 b3;replace b1:=lG 1 (.string ((an l0 b2).f1)) b6 b1;replace b3:=lG 1 (.string ((an l0 b2).f1)) b6 b3;(try have bG:=fun(n_:Nat)=>(show((((bN.drewN n_).setCell ⟨b4,0,none⟩ (.string ((an l0 b2).f0))).setCell ⟨b4,1,none⟩ (.string ((an l0 b2).f1)))).cell? _=some _ from b1));(try have bH:=fun(n_:Nat)=>(show((((bN.drewN n_).setCell ⟨b4,0,none⟩ (.string ((an l0 b2).f0))).setCell ⟨b4,1,none⟩ (.string ((an l0 b2).f1)))).cell? _=some _ from b3));clear b5;clear b6))
    try(have bD:0≤((b9):Int):=oa;have bE:(b9)<(l0.length:Int):=oa;obtain⟨bC,bF,b1,b3⟩:=dw bJ.out (b9) bD bE;obtain rfl:b7=bC:=(by injection bF);have b5:b7.block≠b4:=qD b1 b8;have b6:b7.block≠b4:=qD b1 b8;replace b1:=cB HB b1;replace b3:=cB HB b3;replace b1:=lG 0 (.string ((an l0 b2).f0)) b5 b1;replace b3:=lG 0 (.string ((an l0 b2).f0)) b5 b3;replace b1:=lG 1 (.string ((an l0 b2).f1)) b6 b1;replace b3:=lG 1 (.string ((an l0 b2).f1)) b6 b3;(try have bG:=fun(n_:Nat)=>(show((((bN.drewN n_).setCell ⟨b4,0,none⟩ (.string ((an l0 b2).f0))).setCell ⟨b4,1,none⟩ (.string ((an l0 b2).f1)))).cell? _=some _ from b1));(try have bH:=fun(n_:Nat)=>(show((((bN.drewN n_).setCell ⟨b4,0,none⟩ (.string ((an l0 b2).f0))).setCell ⟨b4,1,none⟩ (.string ((an l0 b2).f1)))).cell? _=some _ from b3));clear b5;clear b6;replace bD:=eq_true bD;replace bE:=eq_true bE)
    repeat(go_quiet (first|(go_at_call 65;(with_reducible refine(aC.calls k1 ((an l0 b2).f0) true _ A5.out).mono ?_);rintro e w' ⟨rfl,⟨nd,rfl⟩⟩;exact oQ)|(go_at_call 61;(with_reducible refine(bl.calls (((an l0 b2).f1).size:Int) 1 16 true _ A7.out).mono ?_);rintro e w' ⟨rfl,⟨nd,rfl⟩⟩;exact oQ));try go_wp2_with (first|((with_reducible refine ai (N:=4) rfl ?_);(try(refine bx (by rfl) ?_;dsimp only));refine di 4 #[.string (⟨#[]⟩:ByteArray),.string (⟨#[]⟩:ByteArray)] 82 ?_;intro b4 hg bN hbox hb;have bB:=am (hbox);have b8:=dh hg;replace HB:=hB HB hb;clear hb hbox hg;obtain⟨⟨_,_⟩,_,_⟩:=z2 bB)|(go_at_call 65;(with_reducible refine(aC.calls k1 ((an l0 b2).f0) true _ A5.out).mono ?_);rintro e w' ⟨rfl,⟨nd,rfl⟩⟩)|(go_at_call 61;(with_reducible refine(bl.calls (((an l0 b2).f1).size:Int) 1 16 true _ A7.out).mono ?_);rintro e w' ⟨rfl,⟨nd,rfl⟩⟩;have bD:(0≤((b9):Int))=True:=oT;have bE:((b9)<(l0.length:Int))=True:=oT;obtain⟨bC,bF,b1,b3⟩:=dw bJ.out (b9) oa oa;obtain rfl:b7=bC:=(by injection bF);have b5:b7.block≠b4:=qD b1 b8;have b6:b7.block≠b4:=qD b1 b8;replace b1:=cB HB b1;replace b3:=cB HB b3;replace b1:=lG 0 (.string ((an l0 b2).f0)) b5 b1;replace b3:=lG 0 (.string ((an l0 b2).f0)) b5 b3;replace b1:=lG 1 (.string ((an l0 b2).f1)) b6 b1;replace b3:=lG 1 (.string ((an l0 b2).f1)) b6 b3;(try have bG:=fun(n_:Nat)=>(show((((bN.drewN n_).setCell ⟨b4,0,none⟩ (.string ((an l0 b2).f0))).setCell ⟨b4,1,none⟩ (.string ((an l0 b2).f1)))).cell? _=some _ from b1));(try have bH:=fun(n_:Nat)=>(show((((bN.drewN n_).setCell ⟨b4,0,none⟩ (.string ((an l0 b2).f0))).setCell ⟨b4,1,none⟩ (.string ((an l0 b2).f1)))).cell? _=some _ from b3));clear b5;clear b6)))
    go_roundg k1
    case measure=>have:=bS.out;omega
    case rel=>exact⟨(wrap64 (b2+1)),oS,H',⟨by have:=bS.out;omega⟩,⟨oB⟩⟩
   rw[if_neg bP]at H
   have bT:(Op.bytesLess (((an l0 (b9)).f0).toList) (((an l0 b2).f0).toList))=false:=by simpa using bP
   clear bP;obtain rfl:=Option.some.inj H;have bQ:(0≤(b2:Int))=True:=oT;have bR:(b2<(l0.length:Int))=True:=oT;obtain⟨b7,bI,bK,bL⟩:=qP bJ HB b2 oa oa
   cases bI
   go_wp2_with (first|((with_reducible refine ai (N:=4) rfl ?_);(try(refine bx (by rfl) ?_;dsimp only));refine di 4 #[.string (⟨#[]⟩:ByteArray),.string (⟨#[]⟩:ByteArray)] 82 ?_;intro b4 hg bO hbox hb;have bB:=am (hbox);have b8:=dh hg;replace HB:=hB HB hb;clear hb hbox hg;obtain⟨⟨_,_⟩,_,_⟩:=z2 bB)|(go_at_call 65;(with_reducible refine(aC.calls k1 ((an l0 b2).f0) true _ A5.out).mono ?_);rintro e w' ⟨rfl,⟨nd,rfl⟩⟩)|(go_at_call 61;(with_reducible refine(bl.calls (((an l0 b2).f1).size:Int) 1 16 true _ A7.out).mono ?_);rintro e w' ⟨rfl,⟨nd,rfl⟩⟩;have bD:(0≤((b9):Int))=True:=oT;have bE:((b9)<(l0.length:Int))=True:=oT;obtain⟨bC,bF,b1,b3⟩:=dw bJ.out (b9) oa oa;obtain rfl:b7=bC:=(by injection bF);have b5:b7.block≠b4:=qD b1 b8;have b6:b7.block≠b4:=qD b1 b8;replace b1:=cB HB b1;replace b3:=cB HB b3;replace b1:=lG 0 (.string ((an l0 b2).f0)) b5 b1;replace b3:=lG 0 (.string ((an l0 b2).f0)) b5 b3;replace b1:=lG 1 (.string ((an l0 b2).f1)) b6 b1;replace b3:=lG 1 (.string ((an l0 b2).f1)) b6 b3;(try have bG:=fun(n_:Nat)=>(show((((bO.drewN n_).setCell ⟨b4,0,none⟩ (.string ((an l0 b2).f0))).setCell ⟨b4,1,none⟩ (.string ((an l0 b2).f1)))).cell? _=some _ from b1));(try have bH:=fun(n_:Nat)=>(show((((bO.drewN n_).setCell ⟨b4,0,none⟩ (.string ((an l0 b2).f0))).setCell ⟨b4,1,none⟩ (.string ((an l0 b2).f1)))).cell? _=some _ from b3));clear b5;clear b6))
   try(have bD:0≤((b9):Int):=oa;have bE:(b9)<(l0.length:Int):=oa;obtain⟨bC,bF,b1,b3⟩:=dw bJ.out (b9) bD bE;obtain rfl:b7=bC:=(by injection bF);have b5:b7.block≠b4:=qD b1 b8;have b6:b7.block≠b4:=qD b1 b8;replace b1:=cB HB b1;replace b3:=cB HB b3;replace b1:=lG 0 (.string ((an l0 b2).f0)) b5 b1;replace b3:=lG 0 (.string ((an l0 b2).f0)) b5 b3;replace b1:=lG 1 (.string ((an l0 b2).f1)) b6 b1;replace b3:=lG 1 (.string ((an l0 b2).f1)) b6 b3;(try have bG:=fun(n_:Nat)=>(show((((bO.drewN n_).setCell ⟨b4,0,none⟩ (.string ((an l0 b2).f0))).setCell ⟨b4,1,none⟩ (.string ((an l0 b2).f1)))).cell? _=some _ from b1));(try have bH:=fun(n_:Nat)=>(show((((bO.drewN n_).setCell ⟨b4,0,none⟩ (.string ((an l0 b2).f0))).setCell ⟨b4,1,none⟩ (.string ((an l0 b2).f1)))).cell? _=some _ from b3));clear b5;clear b6;replace bD:=eq_true bD;replace bE:=eq_true bE)
   repeat(go_quiet (first|(go_at_call 65;(with_reducible refine(aC.calls k1 ((an l0 b2).f0) true _ A5.out).mono ?_);rintro e w' ⟨rfl,⟨nd,rfl⟩⟩;exact oQ)|(go_at_call 61;(with_reducible refine(bl.calls (((an l0 b2).f1).size:Int) 1 16 true _ A7.out).mono ?_);rintro e w' ⟨rfl,⟨nd,rfl⟩⟩;exact oQ));try go_wp2_with (first|((with_reducible refine ai (N:=4) rfl ?_);(try(refine bx (by rfl) ?_;dsimp only));refine di 4 #[.string (⟨#[]⟩:ByteArray),.string (⟨#[]⟩:ByteArray)] 82 ?_;intro b4 hg bO hbox hb;have bB:=am (hbox);have b8:=dh hg;replace HB:=hB HB hb;clear hb hbox hg;obtain⟨⟨_,_⟩,_,_⟩:=z2 bB)|(go_at_call 65;(with_reducible refine(aC.calls k1 ((an l0 b2).f0) true _ A5.out).mono ?_);rintro e w' ⟨rfl,⟨nd,rfl⟩⟩)|(go_at_call 61;(with_reducible refine(bl.calls (((an l0 b2).f1).size:Int) 1 16 true _ A7.out).mono ?_);rintro e w' ⟨rfl,⟨nd,rfl⟩⟩;have bD:(0≤((b9):Int))=True:=oT;have bE:((b9)<(l0.length:Int))=True:=oT;obtain⟨bC,bF,b1,b3⟩:=dw bJ.out (b9) oa oa;obtain rfl:b7=bC:=(by injection bF);have b5:b7.block≠b4:=qD b1 b8;have b6:b7.block≠b4:=qD b1 b8;replace b1:=cB HB b1;replace b3:=cB HB b3;replace b1:=lG 0 (.string ((an l0 b2).f0)) b5 b1;replace b3:=lG 0 (.string ((an l0 b2).f0)) b5 b3;replace b1:=lG 1 (.string ((an l0 b2).f1)) b6 b1;replace b3:=lG 1 (.string ((an l0 b2).f1)) b6 b3;(try have bG:=fun(n_:Nat)=>(show((((bO.drewN n_).setCell ⟨b4,0,none⟩ (.string ((an l0 b2).f0))).setCell ⟨b4,1,none⟩ (.string ((an l0 b2).f1)))).cell? _=some _ from b1));(try have bH:=fun(n_:Nat)=>(show((((bO.drewN n_).setCell ⟨b4,0,none⟩ (.string ((an l0 b2).f0))).setCell ⟨b4,1,none⟩ (.string ((an l0 b2).f1)))).cell? _=some _ from b3));clear b5;clear b6)))
   go_ret
   exact⟨by first|rfl|(simp[eU,eV]<;>rfl)|(simp only[←bM];first|rfl|(simp[eU,eV]<;>rfl))|(simp[*,eU,eV]<;>rfl),oB⟩

def ej.l0:Nat→List (jz)→List (eb)→Int→Option ((List (eb)))
 |0,_,_,_=>none
 |k+1,x0,x3,x4=>if x4<(x0.length:Int)then(if 0≤x4 then((kS.f ((hJ x0 x4).f0) ((hJ x0 x4).f1)).bind fun b1=>(if x4<(x3.length:Int)then(ej.l0 k x0 (x3.set (x4:Int).toNat (⟨b1.1,b1.2⟩:eb)) (wrap64 (x4+1)))else(none)))else(none))else(some x3)
def ej.f (k:Nat) (l0:List (jz)):Option ((List (eb))):=if 0≤(l0.length:Int)then(if((l0.length:Int):Int).toNat≤11728124029610 then(ej.l0 k l0 (List.replicate ((l0.length:Int):Int).toNat z75) 0)else(none))else(none)
theorem ej.calls (k:Nat) (A0:Option Addr) (c0:Nat) (l0:List (jz)) (r:List (eb)) (w:World) (hr0:Kd.C qw w A0 l0.length l0) (hc0:l0.length≤c0) (h:ej.f k l0=some r):
  Calls Tryz.prog 111 #[.slice A0 l0.length c0] w fun e w'=>∃jd:Value,e= .returned (jd)∧Kd.R iT 75 w' w.heap.size (fun _=>True) jd r∧Below w.heap.size w w':=by
 have dG:=Tryz.underlying131;have dI:=Tryz.underlying75;have dB:=ab.mk hr0;have dT:=ab.mk hc0;clear hr0 hc0;have HB:=am (Below.refl w.heap.size w);unfold ej.f at h;have H:=h;clear h;obtain⟨c2,H⟩:=lH H;have d3:=eq_true c2;have d4:decide (0≤(l0.length:Int))=true:=decide_eq_true c2;clear c2;obtain⟨c3,H⟩:=lH H;have dJ:=eq_true c3;have dK:decide (((l0.length:Int):Int).toNat≤11728124029610)=true:=decide_eq_true c3;clear c3;obtain⟨bI,dn⟩:∃y_:List (eb),y_=(List.replicate ((l0.length:Int):Int).toNat z75):=⟨_,rfl⟩;replace H:(ej.l0 k l0 bI 0)=some r:=oY;have bG:=ab.mk dn;clear dn;have H':=ab.mk H;clear H
 go_enter Tryz.func111,Tryz.ntmps111
 go_wp2_with (first|((with_reducible refine ai (N:=7) rfl ?_);refine Kd.qS iT _ 75 rfl (N:=7) rfl 55 _ _ rfl (l0.length:Int) rfl rfl Tryz.underlying55 (.agg #[(.string ⟨#[]⟩),(.int .i64 0)]) 24 uT rfl (by decide) (by omega) z75 (ok:=fun _=>True) (fm:=fun _=>True) (qE _ _ _ z75) (fun _ hk=>hk) trivial oa (Nat.le_trans (Nat.mul_le_mul_right _ (oa:(l0.length:Int).toNat≤11728124029610)) (by omega)) (Below.refl _ _) (Nat.le_refl _) ?_;intro d5 w4 bD hb kB ep;clear kB ep;(first|rw[←bG.out]at bD|(simp only[Int.reduceToNat]at bD;rw[←bG.out]at bD));have bY:=am (Kd.ay bD (ah oB));replace HB:=hB HB hb;clear hb bD))
 go_loopg [4] k (fun kq v4 w'=>∃(b2:List (eb)) (b1:Int),v4= .int .i64 b1∧ab (ej.l0 kq l0 b2 b1=some r)∧ab (kq≤k)∧ab (Kd.R iT 75 w' w.heap.size (fun _=>True) d5 b2)∧ab (Below w.heap.size w w'))
 case atStart=>exact⟨(bI),(0),oS,H',⟨Nat.le_refl _⟩,⟨oR bY⟩,⟨oB⟩⟩
 case round=>
  clear H'
  try clear c2
  try clear d3
  try clear d4
  try clear c3
  obtain⟨b2,b1,rfl,HA,d2,b3,HB⟩:=hrel
  cases gk with
  |zero=>exact absurd HA.out (by simp[ej.l0])
  |succ k1=>
   have H:=HA.out;clear HA;simp only[ej.l0]at H;replace H:=iH H;rcases H with⟨d6,H⟩|⟨d6,H⟩;rotate_left
   ·obtain rfl:=Option.some.inj H
    go_wp2
    go_ret
    exact⟨_,oE,oR b3,oB⟩
   obtain⟨dL,H⟩:=cU H;replace H:=bA H;obtain⟨⟨b5,b6⟩,A8,H⟩:=H
   try dsimp only at H
   obtain⟨dM,H⟩:=cU H;obtain⟨bE,dn⟩:∃y_:List (eb),y_=(b2.set (b1:Int).toNat (⟨b5,b6⟩:eb)):=⟨_,rfl⟩;replace H:(ej.l0 k1 l0 bE (wrap64 (b1+1)))=some r:=oY;have bZ:=ab.mk dn;clear dn;have H':=ab.mk H;clear H;have dN:(0≤(b1:Int))=True:=oT;have dO:(b1<(l0.length:Int))=True:=oT;obtain⟨dH,d7,d9,dA⟩:=sH dB HB b1 oa oa
   cases d7
   go_wp2_with (first|((with_reducible refine aj (f:=135) rfl ?_);refine eI 20 Tryz.func135 (kS.calls ((hJ l0 b1).f0) ((hJ l0 b1).f1) b5 b6 _ A8.out) ?_;rintro e b8 ⟨rfl,hb⟩;refine⟨_,rfl,?_⟩;replace b3:=iI b3 hb;replace HB:=hB HB hb;(try clear hk);have bJ:0≤(b1:Int):=oa;have bK:(b1:Int)<((b2.length:Int):Int):=oa;obtain⟨b4,bL,bM,bN,d8,dP,bO⟩:=Kd.lu b3.out (by omega);(first|cases bM|(injection bM with iF nP nQ;(first|subst iF|(injection iF with iF;subst iF));subst nQ;clear nP));have bP:=ab.mk bN;have dQ:=ab.mk bO;clear bN d8 bO;obtain⟨dR,d1,bQ,b9,bB⟩:=Kd.kr b3.out z75 (b1:Int) bJ bK;obtain rfl:=lI bQ;have dC:b8.cell? ⟨b4,(b1:Int).toNat*2,none⟩=some (.string ((al b2 b1).f0)):=b9 0 _ rfl;have dD:b8.cell? ⟨b4,(b1:Int).toNat*2+1,none⟩=some (.int .i64 ((al b2 b1).f1)):=b9 1 _ rfl;have dE:b8.frozen? ⟨b4,(b1:Int).toNat*2,none⟩=false:=bB 0;have dF:b8.frozen? ⟨b4,(b1:Int).toNat*2+1,none⟩=false:=bB 1;clear d1 b9 bB bQ;replace bJ:=eq_true bJ;replace bK:=eq_true bK;have bR:=am (show Kd.R iT 75 b8 w.heap.size (fun _=>True) (.slice (some ⟨b4,0,none⟩) b2.length bL) b2 from(oR b3));obtain⟨dS,bH,bS,b7,bC⟩:=Kd.kr bR.out z75 (b1:Int) oa (by have h_:(b1:Int)<((b2.length:Int):Int):=oa;first|exact h_|(have e_:=(Kd.bu b3.out).1;omega)|simpa using h_);obtain rfl:=lI bS;have bF:=Kd.po bR.out (b1:Int) oa (by have h_:(b1:Int)<((b2.length:Int):Int):=oa;first|exact h_|(have e_:=(Kd.bu b3.out).1;omega)|simpa using h_) (seg:=[.string b5,.int .i64 b6]) (j:=0) bH b7 (show 2≤2 from by decide) (x':=(⟨b5,b6⟩:eb)) (qE _ _ _ (⟨b5,b6⟩:eb)) (fun _ hk=>hk);have bT:=b7 0 _ rfl;(try simp only[show(iT).sz=2 from rfl,Nat.mul_one,Nat.add_zero]at bT);have bU:=bC 0;(try simp only[show(iT).sz=2 from rfl,Nat.mul_one,Nat.add_zero]at bU);have bV:=b7 1 _ rfl;(try simp only[show(iT).sz=2 from rfl,Nat.mul_one,Nat.add_zero]at bV);have bW:=bC 1;(try simp only[show(iT).sz=2 from rfl,Nat.mul_one,Nat.add_zero]at bW);clear bH b7 bC bS)|((with_reducible refine fx (t:=75) (p:=21) rfl ?_);refine fk (t:=75) (p:=21) (v:= ?vx) (w1:=((b8.setCell ⟨b4,(b1:Int).toNat*2,none⟩ (.string b5)).setCell ⟨b4,(b1:Int).toNat*2+1,none⟩ (.int .i64 b6))) ?hg ?ho ?hn ?hr ?_;(case ho=>rfl);(case hg=>rfl);(case hn=>rfl);(case hr=>first|(go_simp;done)|(go_simp;rfl));intro bX hw;have hg:b8.grownBy bX (some b4):=(by rw[hw];exact bF.2);have nR:Kd.R iT 75 bX w.heap.size (fun _=>True) (.slice (some ⟨b4,0,none⟩) b2.length bL) bE:=(by rw[hw,bZ.out];exact bF.1);clear bF;replace b3:=am (nR);replace HB:=am ((by rw[hw];exact aG (aG (HB.out) bP.out) bP.out:Below w.heap.size w bX));clear hg hw nR))
   go_roundg k1
   case measure=>have:=d2.out;omega
   case rel=>exact⟨(bE),(wrap64 (b1+1)),oS,H',⟨by have:=d2.out;omega⟩,⟨oR b3⟩,⟨oB⟩⟩

def dq.l0:Nat→List (ka)→List (eh)→Int→Option ((List (eh)))
 |0,_,_,_=>none
 |k+1,x0,x3,x4=>if x4<(x0.length:Int)then(if 0≤x4 then((kv.f ((gp x0 x4).f0) ((gp x0 x4).f1)).bind fun b1=>(if x4<(x3.length:Int)then(dq.l0 k x0 (x3.set (x4:Int).toNat (⟨b1.1,b1.2⟩:eh)) (wrap64 (x4+1)))else(none)))else(none))else(some x3)
def dq.f (k:Nat) (l0:List (ka)):Option ((List (eh))):=if 0≤(l0.length:Int)then(if((l0.length:Int):Int).toNat≤8796093022208 then(dq.l0 k l0 (List.replicate ((l0.length:Int):Int).toNat z82) 0)else(none))else(none)
theorem dq.calls (k:Nat) (A0:Option Addr) (c0:Nat) (l0:List (ka)) (r:List (eh)) (w:World) (hr0:Kd.C qx w A0 l0.length l0) (hc0:l0.length≤c0) (h:dq.f k l0=some r):
  Calls Tryz.prog 112 #[.slice A0 l0.length c0] w fun e w'=>∃jd:Value,e= .returned (jd)∧Kd.R iU 82 w' w.heap.size (fun _=>True) jd r∧Below w.heap.size w w':=by
 have dG:=Tryz.underlying133;have dI:=Tryz.underlying82;have dB:=ab.mk hr0;have dT:=ab.mk hc0;clear hr0 hc0;have HB:=am (Below.refl w.heap.size w);unfold dq.f at h;have H:=h;clear h;obtain⟨c2,H⟩:=lH H;have d3:=eq_true c2;have d4:decide (0≤(l0.length:Int))=true:=decide_eq_true c2;clear c2;obtain⟨c3,H⟩:=lH H;have dJ:=eq_true c3;have dK:decide (((l0.length:Int):Int).toNat≤8796093022208)=true:=decide_eq_true c3;clear c3;obtain⟨bI,dn⟩:∃y_:List (eh),y_=(List.replicate ((l0.length:Int):Int).toNat z82):=⟨_,rfl⟩;replace H:(dq.l0 k l0 bI 0)=some r:=oY;have bG:=ab.mk dn;clear dn;have H':=ab.mk H;clear H
 go_enter Tryz.func112,Tryz.ntmps112
 go_wp2_with (first|((with_reducible refine ai (N:=7) rfl ?_);refine Kd.qS iU _ 82 rfl (N:=7) rfl 56 _ _ rfl (l0.length:Int) rfl rfl Tryz.underlying56 (.agg #[(.string ⟨#[]⟩),(.string ⟨#[]⟩)]) 32 uU rfl (by decide) (by omega) z82 (ok:=fun _=>True) (fm:=fun _=>True) (qF _ _ _ z82) (fun _ hk=>hk) trivial oa (Nat.le_trans (Nat.mul_le_mul_right _ (oa:(l0.length:Int).toNat≤8796093022208)) (by omega)) (Below.refl _ _) (Nat.le_refl _) ?_;intro d5 w4 bD hb kB ep;clear kB ep;(first|rw[←bG.out]at bD|(simp only[Int.reduceToNat]at bD;rw[←bG.out]at bD));have bY:=am (Kd.ay bD (ah oB));replace HB:=hB HB hb;clear hb bD))
 go_loopg [4] k (fun kq v4 w'=>∃(b2:List (eh)) (b1:Int),v4= .int .i64 b1∧ab (dq.l0 kq l0 b2 b1=some r)∧ab (kq≤k)∧ab (Kd.R iU 82 w' w.heap.size (fun _=>True) d5 b2)∧ab (Below w.heap.size w w'))
 case atStart=>exact⟨(bI),(0),oS,H',⟨Nat.le_refl _⟩,⟨oR bY⟩,⟨oB⟩⟩
 case round=>
  clear H'
  try clear c2
  try clear d3
  try clear d4
  try clear c3
  obtain⟨b2,b1,rfl,HA,d2,b3,HB⟩:=hrel
  cases gk with
  |zero=>exact absurd HA.out (by simp[dq.l0])
  |succ k1=>
   have H:=HA.out;clear HA;simp only[dq.l0]at H;replace H:=iH H;rcases H with⟨d6,H⟩|⟨d6,H⟩;rotate_left
   ·obtain rfl:=Option.some.inj H
    go_wp2
    go_ret
    exact⟨_,oE,oR b3,oB⟩
   obtain⟨dL,H⟩:=cU H;replace H:=bA H;obtain⟨⟨b5,b6⟩,A8,H⟩:=H
   try dsimp only at H
   obtain⟨dM,H⟩:=cU H;obtain⟨bE,dn⟩:∃y_:List (eh),y_=(b2.set (b1:Int).toNat (⟨b5,b6⟩:eh)):=⟨_,rfl⟩;replace H:(dq.l0 k1 l0 bE (wrap64 (b1+1)))=some r:=oY;have bZ:=ab.mk dn;clear dn;have H':=ab.mk H;clear H;have dN:(0≤(b1:Int))=True:=oT;have dO:(b1<(l0.length:Int))=True:=oT;obtain⟨dH,d7,d9,dA⟩:=sI dB HB b1 oa oa
   cases d7
   go_wp2_with (first|((with_reducible refine aj (f:=136) rfl ?_);refine eI 20 Tryz.func136 (kv.calls ((gp l0 b1).f0) ((gp l0 b1).f1) b5 b6 _ A8.out) ?_;rintro e b8 ⟨rfl,hb⟩;refine⟨_,rfl,?_⟩;replace b3:=iI b3 hb;replace HB:=hB HB hb;(try clear hk);have bJ:0≤(b1:Int):=oa;have bK:(b1:Int)<((b2.length:Int):Int):=oa;obtain⟨b4,bL,bM,bN,d8,dP,bO⟩:=Kd.lu b3.out (by omega);(first|cases bM|(injection bM with iF nP nQ;(first|subst iF|(injection iF with iF;subst iF));subst nQ;clear nP));have bP:=ab.mk bN;have dQ:=ab.mk bO;clear bN d8 bO;obtain⟨dR,d1,bQ,b9,bB⟩:=Kd.kr b3.out z82 (b1:Int) bJ bK;obtain rfl:=lJ bQ;have dC:b8.cell? ⟨b4,(b1:Int).toNat*2,none⟩=some (.string ((an b2 b1).f0)):=b9 0 _ rfl;have dD:b8.cell? ⟨b4,(b1:Int).toNat*2+1,none⟩=some (.string ((an b2 b1).f1)):=b9 1 _ rfl;have dE:b8.frozen? ⟨b4,(b1:Int).toNat*2,none⟩=false:=bB 0;have dF:b8.frozen? ⟨b4,(b1:Int).toNat*2+1,none⟩=false:=bB 1;clear d1 b9 bB bQ;replace bJ:=eq_true bJ;replace bK:=eq_true bK;have bR:=am (show Kd.R iU 82 b8 w.heap.size (fun _=>True) (.slice (some ⟨b4,0,none⟩) b2.length bL) b2 from(oR b3));obtain⟨dS,bH,bS,b7,bC⟩:=Kd.kr bR.out z82 (b1:Int) oa (by have h_:(b1:Int)<((b2.length:Int):Int):=oa;first|exact h_|(have e_:=(Kd.bu b3.out).1;omega)|simpa using h_);obtain rfl:=lJ bS;have bF:=Kd.po bR.out (b1:Int) oa (by have h_:(b1:Int)<((b2.length:Int):Int):=oa;first|exact h_|(have e_:=(Kd.bu b3.out).1;omega)|simpa using h_) (seg:=[.string b5,.string b6]) (j:=0) bH b7 (show 2≤2 from by decide) (x':=(⟨b5,b6⟩:eh)) (qF _ _ _ (⟨b5,b6⟩:eh)) (fun _ hk=>hk);have bT:=b7 0 _ rfl;(try simp only[show(iU).sz=2 from rfl,Nat.mul_one,Nat.add_zero]at bT);have bU:=bC 0;(try simp only[show(iU).sz=2 from rfl,Nat.mul_one,Nat.add_zero]at bU);have bV:=b7 1 _ rfl;(try simp only[show(iU).sz=2 from rfl,Nat.mul_one,Nat.add_zero]at bV);have bW:=bC 1;(try simp only[show(iU).sz=2 from rfl,Nat.mul_one,Nat.add_zero]at bW);clear bH b7 bC bS)|((with_reducible refine fx (t:=82) (p:=21) rfl ?_);refine fk (t:=82) (p:=21) (v:= ?vx) (w1:=((b8.setCell ⟨b4,(b1:Int).toNat*2,none⟩ (.string b5)).setCell ⟨b4,(b1:Int).toNat*2+1,none⟩ (.string b6))) ?hg ?ho ?hn ?hr ?_;(case ho=>rfl);(case hg=>rfl);(case hn=>rfl);(case hr=>first|(go_simp;done)|(go_simp;rfl));intro bX hw;have hg:b8.grownBy bX (some b4):=(by rw[hw];exact bF.2);have nR:Kd.R iU 82 bX w.heap.size (fun _=>True) (.slice (some ⟨b4,0,none⟩) b2.length bL) bE:=(by rw[hw,bZ.out];exact bF.1);clear bF;replace b3:=am (nR);replace HB:=am ((by rw[hw];exact aG (aG (HB.out) bP.out) bP.out:Below w.heap.size w bX));clear hg hw nR))
   go_roundg k1
   case measure=>have:=d2.out;omega
   case rel=>exact⟨(bE),(wrap64 (b1+1)),oS,H',⟨by have:=d2.out;omega⟩,⟨oR b3⟩,⟨oB⟩⟩

def ed.l0:Nat→List (jz)→Int→Int→Option (Int)
 |0,_,_,_=>none
 |k+1,x0,x1,x5=>if x5<(x0.length:Int)then(if 0≤x5 then((jo.f ((hJ x0 x5).f0) ((hJ x0 x5).f1) x1).bind fun b1=>(if b1<0 then(some (-1))else(ed.l0 k x0 b1 (wrap64 (x5+1)))))else(none))else(some x1)
def ed.f (k:Nat) (l0:List (jz)) (a1:Int):Option (Int):=if(wrap64 (a1-(l0.length:Int)))<0 then(some (-1))else(ed.l0 k l0 (wrap64 (a1-(l0.length:Int))) 0)
theorem ed.calls (k:Nat) (A0:Option Addr) (c0:Nat) (l0:List (jz)) (a1:Int) (r:Int) (w:World) (hr0:Kd.C qw w A0 l0.length l0) (hc0:l0.length≤c0) (h:ed.f k l0 a1=some r):
  Calls Tryz.prog 109 #[.slice A0 l0.length c0,.int .i64 a1] w fun e w'=>e= .returned (.int .i64 r)∧Below w.heap.size w w':=by
 have bG:=Tryz.underlying131;have b9:=ab.mk hr0;have bI:=ab.mk hc0;clear hr0 hc0;have HB:=am (Below.refl w.heap.size w);unfold ed.f at h;have H:=h;clear h;replace H:=iH H;rcases H with⟨b7,H⟩|⟨b7,H⟩
 ·obtain rfl:=Option.some.inj H
  go_enter Tryz.func109,Tryz.ntmps109
  go_wp2
  go_ret
  exact⟨oE,oB⟩
 have H':=ab.mk H;clear H
 go_enter Tryz.func109,Tryz.ntmps109
 go_wp2
 go_loopg [1,5] k (fun kq v1 v5 w'=>∃(b2:Int) (b1:Int),v1= .int .i64 b2∧v5= .int .i64 b1∧ab (ed.l0 kq l0 b2 b1=some r)∧ab (kq≤k)∧ab (Below w.heap.size w w'))
 case atStart=>exact⟨(wrap64 (a1-(l0.length:Int))),(0),oS,oS,H',⟨Nat.le_refl _⟩,⟨oB⟩⟩
 case round=>
  clear H'
  try clear b7
  obtain⟨b2,b1,rfl,rfl,HA,bB,HB⟩:=hrel
  cases gk with
  |zero=>exact absurd HA.out (by simp[ed.l0])
  |succ k1=>
   have H:=HA.out;clear HA;simp only[ed.l0]at H;replace H:=iH H;rcases H with⟨bC,H⟩|⟨bC,H⟩;rotate_left
   ·obtain rfl:=Option.some.inj H
    go_wp2
    go_ret
    exact⟨oE,oB⟩
   obtain⟨bH,H⟩:=cU H;replace H:=bA H;obtain⟨b3,A6,H⟩:=H
   try dsimp only at H
   replace H:=iH H;rcases H with⟨bD,H⟩|⟨bD,H⟩
   ·obtain rfl:=Option.some.inj H;have bE:(0≤(b1:Int))=True:=oT;have bF:(b1<(l0.length:Int))=True:=oT;obtain⟨b8,b4,b5,b6⟩:=sH b9 HB b1 oa oa
    cases b4
    go_wp2_with (first|((with_reducible refine aj (f:=133) rfl ?_);refine eI 23 Tryz.func133 (jo.calls ((hJ l0 b1).f0) ((hJ l0 b1).f1) b2 b3 _ A6.out) ?_;rintro e w8 ⟨rfl,hb⟩;refine⟨_,rfl,?_⟩;replace HB:=hB HB hb))
    go_ret
    exact⟨oE,oB⟩
   have H':=ab.mk H;clear H;have bE:(0≤(b1:Int))=True:=oT;have bF:(b1<(l0.length:Int))=True:=oT;obtain⟨b8,b4,b5,b6⟩:=sH b9 HB b1 oa oa
   cases b4
   go_wp2_with (first|((with_reducible refine aj (f:=133) rfl ?_);refine eI 23 Tryz.func133 (jo.calls ((hJ l0 b1).f0) ((hJ l0 b1).f1) b2 b3 _ A6.out) ?_;rintro e w9 ⟨rfl,hb⟩;refine⟨_,rfl,?_⟩;replace HB:=hB HB hb))
   go_roundg k1
   case measure=>have:=bB.out;omega
   case rel=>exact⟨(b3),(wrap64 (b1+1)),oS,oS,H',⟨by have:=bB.out;omega⟩,⟨oB⟩⟩

def df.l0:Nat→List (ka)→Int→Int→Option (Int)
 |0,_,_,_=>none
 |k+1,x0,x1,x5=>if x5<(x0.length:Int)then(if 0≤x5 then((hO.f ((gp x0 x5).f0) ((gp x0 x5).f1) x1).bind fun b1=>(if b1<0 then(some (-1))else(df.l0 k x0 b1 (wrap64 (x5+1)))))else(none))else(some x1)
def df.f (k:Nat) (l0:List (ka)) (a1:Int):Option (Int):=if(wrap64 (a1-(l0.length:Int)))<0 then(some (-1))else(df.l0 k l0 (wrap64 (a1-(l0.length:Int))) 0)
theorem df.calls (k:Nat) (A0:Option Addr) (c0:Nat) (l0:List (ka)) (a1:Int) (r:Int) (w:World) (hr0:Kd.C qx w A0 l0.length l0) (hc0:l0.length≤c0) (h:df.f k l0 a1=some r):
  Calls Tryz.prog 110 #[.slice A0 l0.length c0,.int .i64 a1] w fun e w'=>e= .returned (.int .i64 r)∧Below w.heap.size w w':=by
 have bG:=Tryz.underlying133;have b9:=ab.mk hr0;have bI:=ab.mk hc0;clear hr0 hc0;have HB:=am (Below.refl w.heap.size w);unfold df.f at h;have H:=h;clear h;replace H:=iH H;rcases H with⟨b7,H⟩|⟨b7,H⟩
 ·obtain rfl:=Option.some.inj H
  go_enter Tryz.func110,Tryz.ntmps110
  go_wp2
  go_ret
  exact⟨oE,oB⟩
 have H':=ab.mk H;clear H
 go_enter Tryz.func110,Tryz.ntmps110
 go_wp2
 go_loopg [1,5] k (fun kq v1 v5 w'=>∃(b2:Int) (b1:Int),v1= .int .i64 b2∧v5= .int .i64 b1∧ab (df.l0 kq l0 b2 b1=some r)∧ab (kq≤k)∧ab (Below w.heap.size w w'))
 case atStart=>exact⟨(wrap64 (a1-(l0.length:Int))),(0),oS,oS,H',⟨Nat.le_refl _⟩,⟨oB⟩⟩
 case round=>
  clear H'
  try clear b7
  obtain⟨b2,b1,rfl,rfl,HA,bB,HB⟩:=hrel
  cases gk with
  |zero=>exact absurd HA.out (by simp[df.l0])
  |succ k1=>
   have H:=HA.out;clear HA;simp only[df.l0]at H;replace H:=iH H;rcases H with⟨bC,H⟩|⟨bC,H⟩;rotate_left
   ·obtain rfl:=Option.some.inj H
    go_wp2
    go_ret
    exact⟨oE,oB⟩
   obtain⟨bH,H⟩:=cU H;replace H:=bA H;obtain⟨b3,A6,H⟩:=H
   try dsimp only at H
   replace H:=iH H;rcases H with⟨bD,H⟩|⟨bD,H⟩
   ·obtain rfl:=Option.some.inj H;have bE:(0≤(b1:Int))=True:=oT;have bF:(b1<(l0.length:Int))=True:=oT;obtain⟨b8,b4,b5,b6⟩:=sI b9 HB b1 oa oa
    cases b4
    go_wp2_with (first|((with_reducible refine aj (f:=134) rfl ?_);refine eI 23 Tryz.func134 (hO.calls ((gp l0 b1).f0) ((gp l0 b1).f1) b2 b3 _ A6.out) ?_;rintro e w8 ⟨rfl,hb⟩;refine⟨_,rfl,?_⟩;replace HB:=hB HB hb))
    go_ret
    exact⟨oE,oB⟩
   have H':=ab.mk H;clear H;have bE:(0≤(b1:Int))=True:=oT;have bF:(b1<(l0.length:Int))=True:=oT;obtain⟨b8,b4,b5,b6⟩:=sI b9 HB b1 oa oa
   cases b4
   go_wp2_with (first|((with_reducible refine aj (f:=134) rfl ?_);refine eI 23 Tryz.func134 (hO.calls ((gp l0 b1).f0) ((gp l0 b1).f1) b2 b3 _ A6.out) ?_;rintro e w9 ⟨rfl,hb⟩;refine⟨_,rfl,?_⟩;replace HB:=hB HB hb))
   go_roundg k1
   case measure=>have:=bB.out;omega
   case rel=>exact⟨(b3),(wrap64 (b1+1)),oS,oS,H',⟨by have:=bB.out;omega⟩,⟨oB⟩⟩

def cQ.l0:Nat→List (eh)→Int→Int→Option (Int×(List (eh)))
 |0,_,_,_=>none
 |k+1,x0,x1,x5=>if x5<(x0.length:Int)then((aY.f k x1).bind fun b2=>(if 0≤x5 then((some (x0.set (x5:Int).toNat (⟨b2,(an x0 x5).f1⟩:eh):List (eh))).bind fun b1=>((aY.f k (wrap64 (x1+1))).bind fun b3=>(cQ.l0 k (b1.set (x5:Int).toNat (⟨(an b1 x5).f0,b3⟩:eh)) (wrap64 ((wrap64 (x1+1))+1)) (wrap64 (x5+1)))))else(none)))else(some (x1,x0))
def cQ.f (k:Nat) (l0:List (eh)) (a1:Int):Option (Int×(List (eh))):=cQ.l0 k l0 a1 0
theorem cQ.calls (k:Nat) (kD:Nat→Prop) (ij:Value) (l0:List (eh)) (a1:Int) (r1:Int) (r2:List (eh)) (w0 w:World) (hB:Below w0.heap.size w0 w) (ho0:Kd.R iU 82 w w0.heap.size kD ij l0) (h:cQ.f k l0 a1=some (r1,r2)):
  Calls Tryz.prog 74 #[ij,.int .i64 a1] w fun e w'=>e= .returned (.int .i64 r1)∧Kd.R iU 82 w' w0.heap.size (fun k_=>(kD k_∨w.heap.size≤k_)) ij r2∧Below w0.heap.size w0 w'∧Kept w w' (fun k_=>kD k_):=by
 have dE:=am (show Kd.R iU 82 w w0.heap.size (fun k_=>(kD k_∨w.heap.size≤k_)) ij l0 from Kd.bm ho0 (fun k_ hk=>(.inl hk)));have HK:=am (Kept.refl w (fun k_=>kD k_));have HW0:=ab.mk hB.size;have HB:=ab.mk hB;clear hB;unfold cQ.f at h;have H:=h;clear h;have H':=ab.mk H;clear H
 go_enter Tryz.func74,Tryz.ntmps74
 go_wp2
 go_loopg [1,5] k (fun kq v1 v5 w'=>∃(b3:List (eh)) (b6:Int) (b1:Int),v1= .int .i64 b6∧v5= .int .i64 b1∧ab (cQ.l0 kq b3 b6 b1=some (r1,r2))∧ab (kq≤k)∧ab (Kd.R iU 82 w' w0.heap.size (fun k_=>(kD k_∨w.heap.size≤k_)) ij b3)∧ab (Kept w w' (fun k_=>kD k_))∧ab (Below w0.heap.size w0 w'))
 case atStart=>exact⟨(l0),(a1),(0),oS,oS,H',⟨Nat.le_refl _⟩,⟨oR dE⟩,⟨oK⟩,⟨oB⟩⟩
 case round=>
  clear H';obtain⟨b3,b6,b1,rfl,rfl,HA,d3,b2,HK,HB⟩:=hrel
  cases gk with
  |zero=>exact absurd HA.out (by simp[cQ.l0])
  |succ k1=>
   have H:=HA.out;clear HA;simp only[cQ.l0]at H;replace H:=iH H;rcases H with⟨dA,H⟩|⟨dA,H⟩;rotate_left
   ·simp only[Option.some.injEq,Prod.mk.injEq]at H;obtain⟨rfl,rfl⟩:=H;obtain⟨dQ,dR,dB⟩:=Kd.ax b2.out;subst dB
    go_wp2
    go_ret
    exact⟨oE,oR b2,oB,oK⟩
   replace H:=bA H;obtain⟨b8,A4,H⟩:=H
   try dsimp only at H
   obtain⟨dS,H⟩:=cU H;obtain⟨b5,dn⟩:∃y_:List (eh),y_=(b3.set (b1:Int).toNat (⟨b8,(an b3 b1).f1⟩:eh)):=⟨_,rfl⟩;replace H:((aY.f k1 (wrap64 (b6+1))).bind fun b7=>(cQ.l0 k1 (b5.set (b1:Int).toNat (⟨(an b5 b1).f0,b7⟩:eh)) (wrap64 ((wrap64 (b6+1))+1)) (wrap64 (b1+1))))=some (r1,r2):=oY;have d1:=ab.mk dn;clear dn;replace H:=bA H;obtain⟨b7,A7,H⟩:=H
   try dsimp only at H
   obtain⟨bE,dn⟩:∃y_:List (eh),y_=(b5.set (b1:Int).toNat (⟨(an b5 b1).f0,b7⟩:eh)):=⟨_,rfl⟩;replace H:(cQ.l0 k1 bE (wrap64 ((wrap64 (b6+1))+1)) (wrap64 (b1+1)))=some (r1,r2):=oY;have d2:=ab.mk dn;clear dn;have H':=ab.mk H;clear H;obtain⟨dV,bL,dF⟩:=Kd.ax b2.out;subst dF
   go_wp2_with (first|((with_reducible refine aj (f:=115) rfl ?_);refine eI 15 Tryz.func115 (aY.calls k1 b6 b8 _ A4.out) ?_;rintro e b9 ⟨rfl,hb⟩;refine⟨_,rfl,?_⟩;replace b2:=iI b2 hb;replace HK:=am (Kept.below (S:=(fun k_=>kD k_)) oK hb);replace HB:=hB HB hb;(try clear hk);have p6:0≤(b1:Int):=oa;have q6:(b1:Int)<((b3.length:Int):Int):=oa;obtain⟨b4,dW,d4,d5,dG,dX,d6⟩:=Kd.lu b2.out (by omega);(first|cases d4|(injection d4 with iF nP nQ;(first|subst iF|(injection iF with iF;subst iF));subst nQ;clear nP));have d7:=ab.mk d5;have dY:=ab.mk d6;clear d5 dG d6;have dH:=am (show(kD b4∨w.heap.size≤b4)from(b2.out.1 _ rfl));obtain⟨dZ,dC,d8,bF,bG⟩:=Kd.kr b2.out z82 (b1:Int) p6 q6;obtain rfl:=lJ d8;have dI:b9.cell? ⟨b4,(b1:Int).toNat*2,none⟩=some (.string ((an b3 b1).f0)):=bF 0 _ rfl;have dJ:b9.cell? ⟨b4,(b1:Int).toNat*2+1,none⟩=some (.string ((an b3 b1).f1)):=bF 1 _ rfl;have dK:b9.frozen? ⟨b4,(b1:Int).toNat*2,none⟩=false:=bG 0;have dL:b9.frozen? ⟨b4,(b1:Int).toNat*2+1,none⟩=false:=bG 1;clear dC bF bG d8;replace p6:=eq_true p6;replace q6:=eq_true q6;have bQ:=am (show Kd.R iU 82 b9 w0.heap.size (fun k_=>(kD k_∨w.heap.size≤k_)) (.slice (some ⟨b4,0,none⟩) b3.length bL) b3 from(oR b2));obtain⟨dT,bM,bR,bC,bN⟩:=Kd.kr bQ.out z82 (b1:Int) oa (by have h_:(b1:Int)<((b3.length:Int):Int):=oa;first|exact h_|(have e_:=(Kd.bu b2.out).1;omega)|simpa using h_);obtain rfl:=lJ bR;have bH:=Kd.po bQ.out (b1:Int) oa (by have h_:(b1:Int)<((b3.length:Int):Int):=oa;first|exact h_|(have e_:=(Kd.bu b2.out).1;omega)|simpa using h_) (seg:=[.string b8]) (j:=0) bM bC (show 1≤2 from by decide) (x':=(⟨b8,(an b3 b1).f1⟩:eh)) (qF _ _ _ (⟨b8,(an b3 b1).f1⟩:eh)) (fun _ hk=>hk);have bS:=bC 0 _ rfl;(try simp only[show(iU).sz=2 from rfl,Nat.mul_one,Nat.add_zero]at bS);have bT:=bN 0;(try simp only[show(iU).sz=2 from rfl,Nat.mul_one,Nat.add_zero]at bT);clear bM bC bN bR)|((with_reducible refine fx (t:=9) (p:=17) rfl ?_);refine fk (t:=9) (p:=17) (v:= ?vo_w12) (w1:=(b9.setCell ⟨b4,(b1:Int).toNat*2,none⟩ (.string b8))) ?hg ?ho ?hn ?hr ?_;(case ho=>rfl);(case hg=>rfl);(case hn=>rfl);(case hr=>first|(go_simp;done)|(go_simp;rfl));intro bU hw;have hg:b9.grownBy bU (some b4):=(by rw[hw];exact bH.2);have nR:Kd.R iU 82 bU w0.heap.size (fun k_=>(kD k_∨w.heap.size≤k_)) (.slice (some ⟨b4,0,none⟩) b3.length bL) b5:=(by rw[hw,d1.out];exact bH.1);clear bH;replace b2:=am (nR);replace HK:=am (Kept.lP (S:=(fun k_=>kD k_)) hg oK (fun k_ e_=>(b2.out.1 k_ e_)));replace HB:=am ((by rw[hw];exact aG (HB.out) d7.out:Below w0.heap.size w0 bU));clear hg hw nR)|((with_reducible refine aj (f:=115) rfl ?_);refine eI 23 Tryz.func115 (aY.calls k1 (wrap64 (b6+1)) b7 _ A7.out) ?_;rintro e bB ⟨rfl,hb⟩;refine⟨_,rfl,?_⟩;replace b2:=iI b2 hb;replace HK:=am (Kept.below (S:=(fun k_=>kD k_)) oK hb);replace HB:=hB HB hb;(try clear hk);have p8:(0≤(b1:Int))=True:=oT;have q8:((b1:Int)<((b3.length:Int):Int))=True:=oT;obtain⟨gA,dD,d9,bI,bJ⟩:=Kd.kr b2.out z82 (b1:Int) oa oa;obtain rfl:=lJ d9;have dM:bB.cell? ⟨b4,(b1:Int).toNat*2,none⟩=some (.string ((an b5 b1).f0)):=bI 0 _ rfl;have dN:bB.cell? ⟨b4,(b1:Int).toNat*2+1,none⟩=some (.string ((an b5 b1).f1)):=bI 1 _ rfl;have dO:bB.frozen? ⟨b4,(b1:Int).toNat*2,none⟩=false:=bJ 0;have dP:bB.frozen? ⟨b4,(b1:Int).toNat*2+1,none⟩=false:=bJ 1;clear dD bI bJ d9;have bV:=am (show Kd.R iU 82 bB w0.heap.size (fun k_=>(kD k_∨w.heap.size≤k_)) (.slice (some ⟨b4,0,none⟩) b3.length bL) b5 from(oR b2));obtain⟨dU,bO,bW,bD,bP⟩:=Kd.kr bV.out z82 (b1:Int) oa (by have h_:(b1:Int)<((b3.length:Int):Int):=oa;first|exact h_|(have e_:=(Kd.bu b2.out).1;omega)|simpa using h_);obtain rfl:=lJ bW;have bK:=Kd.po bV.out (b1:Int) oa (by have h_:(b1:Int)<((b3.length:Int):Int):=oa;first|exact h_|(have e_:=(Kd.bu b2.out).1;omega)|simpa using h_) (seg:=[.string b7]) (j:=1) bO bD (show 2≤2 from by decide) (x':=(⟨(an b5 b1).f0,b7⟩:eh)) (qF _ _ _ (⟨(an b5 b1).f0,b7⟩:eh)) (fun _ hk=>hk);have bX:=bD 1 _ rfl;(try simp only[show(iU).sz=2 from rfl,Nat.mul_one,Nat.add_zero]at bX);have bY:=bP 1;(try simp only[show(iU).sz=2 from rfl,Nat.mul_one,Nat.add_zero]at bY);clear bO bD bP bW)|((with_reducible refine fx (t:=9) (p:=25) rfl ?_);refine fk (t:=9) (p:=25) (v:= ?vo_w15) (w1:=(bB.setCell ⟨b4,(b1:Int).toNat*2+1,none⟩ (.string b7))) ?hg ?ho ?hn ?hr ?_;(case ho=>rfl);(case hg=>rfl);(case hn=>rfl);(case hr=>first|(go_simp;done)|(go_simp;rfl));intro bZ hw;have hg:bB.grownBy bZ (some b4):=(by rw[hw];exact bK.2);have nR:Kd.R iU 82 bZ w0.heap.size (fun k_=>(kD k_∨w.heap.size≤k_)) (.slice (some ⟨b4,0,none⟩) b3.length bL) bE:=(by rw[hw,d2.out];exact bK.1);clear bK;replace b2:=am (nR);replace HK:=am (Kept.lP (S:=(fun k_=>kD k_)) hg oK (fun k_ e_=>(b2.out.1 k_ e_)));replace HB:=am ((by rw[hw];exact aG (HB.out) d7.out:Below w0.heap.size w0 bZ));clear hg hw nR))
   go_roundg k1
   case measure=>have:=d3.out;omega
   case rel=>exact⟨(bE),(wrap64 ((wrap64 (b6+1))+1)),(wrap64 (b1+1)),oS,oS,H',⟨by have:=d3.out;omega⟩,⟨oR b2⟩,⟨oK⟩,⟨oB⟩⟩
end Go.Proofs.YtlecajlnjmbilaaGreatDoor.P
