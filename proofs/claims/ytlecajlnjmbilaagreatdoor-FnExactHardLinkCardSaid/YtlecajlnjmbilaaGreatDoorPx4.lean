-- Printed walks.
import Derived.Test.YtlecajlnjmbilaaGreatDoorPx1
import Derived.Test.YtlecajlnjmbilaaGreatDoorPx3
set_option linter.all false
set_option maxHeartbeats 8000000
set_option maxRecDepth 100000
namespace Go.Proofs.YtlecajlnjmbilaaGreatDoor.P
open Go.RowKit Go.Proofs.ab.ar Go.Proofs.ab.aH Go.Proofs.ab.aN Go.Proofs.Tryz
attribute [local go_sem] ib ic jc jd fU fV ie ig

def cv.l0:Nat→List (eu)→List (eu)→Int→Option (Bool)
 |0,_,_,_=>none
 |k+1,x0,x1,x5=>if x5<(x0.length:Int)then(if 0≤x5 then(if x5<(x1.length:Int)then((kj.f ((aw x0 x5).f0) ((aw x0 x5).f1) ((aw x1 x5).f0) ((aw x1 x5).f1)).bind fun b1=>(if b1=true then(cv.l0 k x0 x1 (wrap64 (x5+1)))else(some false)))else(none))else(none))else(some true)
def cv.f (k:Nat) (l0:List (eu)) (l1:List (eu)):Option (Bool):=if(l0.length:Int)=(l1.length:Int)then(cv.l0 k l0 l1 0)else(some false)
def cv.T6:Bool×List (List Nat×List Nat):=(true,[([],[]),([],[]),([0,1],[0,1]),([2],[2]),([],[]),([],[]),([4,5],[4,5]),([6],[6]),([3,7],[3,7]),([8],[8])])
def cv.B6:List Nat:=[0,0,3,7,0,0,48,112,255,511]
theorem cv.tab6:ij .any (opsOf Tryz.f114 6)=cv.T6:=by kernel_rfl
theorem cv.nv:fa cv.T6.2 cv.B6=true:=by kernel_rfl
theorem cv.calls (k:Nat) (A0:Option Addr) (c0:Nat) (l0:List (eu)) (A1:Option Addr) (c1:Nat) (l1:List (eu)) (r:Bool) (w:World) (hr0:Kd.C jl w A0 l0.length l0) (hc0:l0.length≤c0) (hr1:Kd.C jl w A1 l1.length l1) (hc1:l1.length≤c1) (h:cv.f k l0 l1=some r):
  Calls Tryz.prog 114 #[.slice A0 l0.length c0,.slice A1 l1.length c1] w fun e w'=>e= .returned (.bool r)∧Below w.heap.size w w':=by
 have bQ:=underlying82;have bF:=ae.mk hr0;have bU:=ae.mk hc0;clear hr0 hc0;have bG:=ae.mk hr1;have bV:=ae.mk hc1;clear hr1 hc1;have HB:=am (Below.refl w.heap.size w);unfold cv.f at h;have H:=h;clear h
 by_cases c3:(l0.length:Int)=(l1.length:Int)
 rotate_left
 ·rw[if_neg c3]at H;have bI:((l0.length:Int)==(l1.length:Int))=false:=beq_eq_false_iff_ne.mpr c3;have bJ:((l0.length:Int) !=(l1.length:Int))=true:=bne_iff_ne.mpr c3
  have bK:(l0.length==l1.length)=false:=by first|simpa using c3|(simp at c3⊢;omega)
  obtain rfl:=Option.some.inj H
  go_enter func114,ntmps114
  go_wp2
  go_ret
  exact⟨oE,oB⟩
 rw[if_pos c3]at H;have bI:((l0.length:Int)==(l1.length:Int))=true:=beq_iff_eq.mpr c3;have bJ:((l0.length:Int) !=(l1.length:Int))=false:=bne_eq_false_iff_eq.mpr c3
 have bK:(l0.length==l1.length)=true:=by first|simpa using c3|(simp at c3⊢;omega)
 clear c3;have H':=ae.mk H;clear H
 go_enter func114,ntmps114
 go_wp2
 go_loopg [5] k (fun kq v5 w'=>∃(b1:Int),v5= .int .i64 b1∧ae (cv.l0 kq l0 l1 b1=some r)∧ae (kq≤k)∧ae (Below w.heap.size w w'))
 case atStart=>exact⟨(0),oS,H',⟨Nat.le_refl _⟩,⟨oB⟩⟩
 case round=>
  clear H'
  try clear c1
  try clear c3
  obtain⟨b1,rfl,HA,bH,HB⟩:=hrel
  cases gk with
  |zero=>exact absurd HA.out (by simp[cv.l0])
  |succ k1=>
   have H:=HA.out;clear HA;simp only[cv.l0]at H;replace H:=jm H;rcases H with⟨bL,H⟩|⟨bL,H⟩;rotate_left
   ·obtain rfl:=Option.some.inj H
    go_wp2
    go_ret
    exact⟨oE,oB⟩
   obtain⟨bR,H⟩:=cU H;obtain⟨bS,H⟩:=cU H;replace H:=bA H;obtain⟨bT,A7,H⟩:=H
   try dsimp only at H
   replace H:=lr H;rcases H with⟨rfl,H⟩|⟨rfl,H⟩;rotate_left
   ·obtain rfl:=Option.some.inj H
    try go_wp2
    replace HB:=am (av HB.out);have bM:(0≤(b1:Int))=True:=oT;have bN:(b1<(l0.length:Int))=True:=oT;obtain⟨b6,b8,b2,b3⟩:=ep bF.out b1 oa oa;have bB:=b3;have bC:=b2
    cases b8
    replace b2:=cB HB b2;replace b3:=cB HB b3;have bO:(0≤(b1:Int))=True:=oT;have bP:(b1<(l1.length:Int))=True:=oT;obtain⟨b7,b9,b4,b5⟩:=ep bG.out b1 oa oa;have bD:=b5;have bE:=b4
    cases b9
    replace b4:=cB HB b4;replace b5:=cB HB b5;refine np 10 (fun w'=>w'.cell? (b6.add ((b1).toNat*2))=some (.string ((aw l0 b1).f0))∧w'.cell? ⟨(b6.add ((b1).toNat*2)).block,(b6.add ((b1).toNat*2)).off+1,none⟩=some (.string ((aw l0 b1).f1))∧w'.cell? (b7.add ((b1).toNat*2))=some (.string ((aw l1 b1).f0))∧w'.cell? ⟨(b7.add ((b1).toNat*2)).block,(b7.add ((b1).toNat*2)).off+1,none⟩=some (.string ((aw l1 b1).f1))) cv.tab6 cv.nv oH (fun hHeld ax eN=> ?_);generalize wr.drew=bW at HB b2 b3 b4 b5 hHeld⊢;refine bz 0 17 ax ?_;refine bz 1 18 ax ?_;refine bz 2 19 ax ?_;refine bz 4 21 ax ?_;refine bz 5 22 ax ?_;refine bz 6 23 ax ?_;refine gj 3 20 ax eN hHeld ?_;refine gj 7 24 ax eN hHeld ?_;refine lg 8 25 ax (fun K hK=> ?_);refine lO 25 func138 (kj.calls ((aw l0 b1).f0) ((aw l0 b1).f1) ((aw l1 b1).f0) ((aw l1 b1).f1) false _ A7.out) ?_;rintro e bX ⟨rfl,hb⟩;refine⟨_,rfl,?_⟩;replace HB:=hB HB hb;refine eW hK 25 oH (fun hHeld=> ?_);clear hK K;refine bz 9 26 ax ?_;refine mo ax ?_
    try go_wp2
    go_ret
    exact⟨oE,oB⟩
   have H':=ae.mk H;clear H
   try go_wp2
   replace HB:=am (av HB.out);have bM:(0≤(b1:Int))=True:=oT;have bN:(b1<(l0.length:Int))=True:=oT;obtain⟨b6,b8,b2,b3⟩:=ep bF.out b1 oa oa;have bB:=b3;have bC:=b2
   cases b8
   replace b2:=cB HB b2;replace b3:=cB HB b3;have bO:(0≤(b1:Int))=True:=oT;have bP:(b1<(l1.length:Int))=True:=oT;obtain⟨b7,b9,b4,b5⟩:=ep bG.out b1 oa oa;have bD:=b5;have bE:=b4
   cases b9
   replace b4:=cB HB b4;replace b5:=cB HB b5;refine np 10 (fun w'=>w'.cell? (b6.add ((b1).toNat*2))=some (.string ((aw l0 b1).f0))∧w'.cell? ⟨(b6.add ((b1).toNat*2)).block,(b6.add ((b1).toNat*2)).off+1,none⟩=some (.string ((aw l0 b1).f1))∧w'.cell? (b7.add ((b1).toNat*2))=some (.string ((aw l1 b1).f0))∧w'.cell? ⟨(b7.add ((b1).toNat*2)).block,(b7.add ((b1).toNat*2)).off+1,none⟩=some (.string ((aw l1 b1).f1))) cv.tab6 cv.nv oH (fun hHeld ax eN=> ?_);generalize wr.drew=w9 at HB b2 b3 b4 b5 hHeld⊢;refine bz 0 17 ax ?_;refine bz 1 18 ax ?_;refine bz 2 19 ax ?_;refine bz 4 21 ax ?_;refine bz 5 22 ax ?_;refine bz 6 23 ax ?_;refine gj 3 20 ax eN hHeld ?_;refine gj 7 24 ax eN hHeld ?_;refine lg 8 25 ax (fun K hK=> ?_);refine lO 25 func138 (kj.calls ((aw l0 b1).f0) ((aw l0 b1).f1) ((aw l1 b1).f0) ((aw l1 b1).f1) true _ A7.out) ?_;rintro e bY ⟨rfl,hb⟩;refine⟨_,rfl,?_⟩;replace HB:=hB HB hb;refine eW hK 25 oH (fun hHeld=> ?_);clear hK K;refine bz 9 26 ax ?_;refine mo ax ?_
   try go_wp2
   go_roundg k1
   case measure=>have:=bH.out;omega
   case rel=>exact⟨(wrap64 (b1+1)),oS,H',⟨by have:=bH.out;omega⟩,⟨oB⟩⟩

def cr.l0:Nat→Int→List (aX)→Int→List (aX)→Int→Option ((List (aX))×Int)
 |0,_,_,_,_,_=>none
 |k+1,x4,b1,b5,b3,b4=>if x4<(b1.length:Int)then(if 0≤x4 then((dv.f ((af b1 x4).f0) ((af b1 x4).f1) ((af b1 x4).f2) ((af b1 x4).f3) ((af b1 x4).f4) ((af b1 x4).f5)).bind fun b2=>(if b3.length<1466015503701 then(cr.l0 k (wrap64 (x4+1)) b1 b5 (b3++[(⟨b2.1,b2.2.1,b2.2.2.1,b2.2.2.2.1,b2.2.2.2.2.1,b2.2.2.2.2.2⟩:aX)]) b4)else(none)))else(none))else(some (b3,b4))
def cr.f (k:Nat) (ag:List (aX)) (ak:Int):Option ((List (aX))×Int):=cr.l0 k 0 ag ak ([]:List (aX)) ak
def cr.T5:Bool×List (List Nat×List Nat):=(true,[([],[]),([0],[0]),([],[]),([2],[2]),([],[]),([3,4],[3,4]),([5],[5]),([6],[6]),([7],[7]),([1,8,7],[1,8]),([0,1,2,3,4,5,6,7,8,9],[]),([10,9,9,0,1,2,3,4,5,6,7,8,9],[9,10])])
def cr.B5:List Nat:=[0,1,0,4,0,28,60,124,252,511,1023,2047]
theorem cr.xt:ij .any (opsOf Tryz.f41 5)=cr.T5:=by kernel_rfl
theorem cr.sE:fa cr.T5.2 cr.B5=true:=by kernel_rfl
theorem cr.calls (k:Nat) (bh:Option Addr) (aT:Nat) (ag:List (aX)) (ak:Int) (r1:List (aX)) (r2:Int) (w:World) (cj:Kd.C gh w bh ag.length ag) (ck:ag.length≤aT) (h:cr.f k ag ak=some (r1,r2)):
  Calls Tryz.prog 41 #[.agg #[.slice bh ag.length aT,.int .i64 ak]] w fun e w'=>∃jx:Value,e= .returned (.agg #[jx,.int .i64 r2])∧Kd.S gh 58 w' w.heap.size (fun _=>True) jx r1∧Below w.heap.size w w':=by
 have jD:=underlying28;have jE:=underlying58;have gH:=ae.mk cj;have gW:=ae.mk ck;clear cj ck;have HB:=am (Below.refl w.heap.size w);unfold cr.f at h;have H:=h;clear h;have H':=ae.mk H;clear H
 go_enter func41,ntmps41
 go_wp2_with (first|((with_reducible refine aj (N:=1) rfl ?_);refine cO 1 #[.slice bh ag.length aT,.int .i64 ak] 28 ?_;intro dF hg w2 hbox hb;have b3:=am (hbox);have gX:=cN hg;replace HB:=hB HB hb;clear hb hbox hg)|((with_reducible refine aj (N:=2) rfl ?_);refine cO 2 #[.slice none 0 0,.int .i64 0] 28 ?_;intro bQ hg w3 hbox hb;have b4:=am (hbox);have gY:=cN hg;have bC:=dm hg b3;have bD:=dn hg b3;replace b3:=aJ b3 hb;replace HB:=hB HB hb;clear hb hbox hg;have jF:=bC.out;have jG:=bD.out;obtain⟨⟨_,_⟩,_,_⟩:=z2 b3)|((with_reducible refine aj (N:=3) rfl ?_);refine cO 3 #[.slice none 0 0,.int .i64 0] 28 ?_;intro bM hg w6 hbox hb;have b5:=am (hbox);have gZ:=cN hg;have b9:=dm hg b3;have bB:=dn hg b3;have bE:=dm hg b4;have bF:=dn hg b4;replace b3:=aJ b3 hb;replace b4:=aJ b4 hb;replace HB:=hB HB hb;clear hb hbox hg;have jH:=bB.out;have jI:=b9.out;have jJ:=bF.out;have jK:=bE.out;obtain⟨⟨_,_⟩,_,_⟩:=z2 b5))
 go_loopg [4] k (fun kq v4 w'=>∃(b2:Int) (b7:List (aX)) (b6:Value),v4= .int .i64 b2∧ae (cr.l0 kq b2 ag ak b7 ak=some (r1,r2))∧ae (kq≤k)∧ae (Kd.S gh 58 w' w.heap.size (fun _=>True) b6 b7)∧ae (w'.heap[dF]? =some (.cells #[(.slice bh ag.length aT),.int .i64 ak] 28 (0,0)))∧ae (w'.heap[bQ]? =some (.cells #[(.slice none 0 0),.int .i64 0] 28 (0,0)))∧ae (w'.heap[bM]? =some (.cells #[b6,.int .i64 ak] 28 (0,0)))∧ae (Below w.heap.size w w'))
 case atStart=>exact⟨(0),(([]:List (aX))),(.slice none 0 0),oS,H',⟨Nat.le_refl _⟩,⟨by first|exact Kd.fe _ _ _ _ _|exact Kd.ff _ _ _ _ _|exact Kd.fg _ _ _ _ _|exact Kd.fc _ _ _ _ _|exact Kd.eD _ _ _ _ _⟩,⟨oF b3⟩,⟨oF b4⟩,⟨oP b5⟩,⟨oB⟩⟩
 case round=>
  clear H';obtain⟨b2,b7,b6,rfl,HA,gL,b1,b3,b4,b5,HB⟩:=hrel
  cases gk with
  |zero=>exact absurd HA.out (by simp[cr.l0])
  |succ k1=>
   have H:=HA.out;clear HA;simp only[cr.l0]at H;replace H:=jm H;rcases H with⟨gI,H⟩|⟨gI,H⟩;rotate_left
   ·simp only[Option.some.injEq,Prod.mk.injEq]at H;obtain⟨rfl,rfl⟩:=H;have j1:=bC.out;have j2:=bD.out;have j3:=b9.out;have j4:=bB.out;obtain⟨⟨_,_⟩,_,_⟩:=z2 b3;have j5:=bF.out;have j6:=bE.out;obtain⟨⟨_,_⟩,_,_⟩:=z2 b5;obtain⟨dL,dM,gO⟩:=Kd.iA b1.out;subst gO;obtain⟨⟨_,_⟩,_,_⟩:=z2 b4
    go_wp2
    refine bodyPost_ret (results_cell_row rfl _ _ bQ 28 #[.slice dL b7.length dM,.int .i64 ak] (0,0) _ rfl (oP b4) underlying28 rfl (by kernel_rfl)) rfl ?_;exact⟨_,oE,by(with_reducible repeat(first|apply Kd.eL|apply Kd.eR|apply Kd.fi));exact Kd.eV (Kd.eJ (p:=⟨bQ,1,none⟩) (Kd.eJ (p:=⟨bQ,0,none⟩) (Kd.ka b1.out b4.out (by decide)) (fun _ hk=>hk.2) (.slice dL b7.length dM)) (fun _ hk=>hk.2) (.int .i64 ak)) (fun _ hk=>trivial),oB⟩
   obtain⟨j7,H⟩:=cU H;replace H:=bA H;obtain⟨⟨bU,bV,bW,bN,bO,bP⟩,gU,H⟩:=H
   try dsimp only at H
   obtain⟨gM,H⟩:=lC H;have gJ:=ae.mk gM;clear gM;obtain⟨dG,da⟩:∃y_:List (aX),y_=(b7++[(⟨bU,bV,bW,bN,bO,bP⟩:aX)]):=⟨_,rfl⟩;replace H:(cr.l0 k1 (wrap64 (b2+1)) ag ak dG ak)=some (r1,r2):=oY;have gK:=ae.mk da;clear da;have H':=ae.mk H;clear H;have j8:=bC.out;have j9:=bD.out;have jA:=b9.out;have jB:=bB.out;obtain⟨⟨_,_⟩,_,_⟩:=z2 b3
   try go_wp2
   replace b1:=am (Kd.fi b1.out);replace b3:=am (au b3.out);replace b4:=am (au b4.out);replace b5:=am (au b5.out);replace HB:=am (av HB.out);have jL:(0≤(b2:Int))=True:=oT;have jM:(b2<(ag.length:Int))=True:=oT;obtain⟨b8,dN,dO,dP,dQ,dR,dS,gP,bG,bH,bI,bJ,bK,bL,bZ,d1,d2,d3,d4,d5⟩:=gi gH.out b2 oa oa;have d6:=bL;have d7:=bK;have d8:=bJ;have d9:=bI;have dA:=bH;have dB:=bG
   cases gP
   replace bG:=cB HB bG;replace bH:=cB HB bH;replace bI:=cB HB bI;replace bJ:=cB HB bJ;replace bK:=cB HB bK;replace bL:=cB HB bL;have dC:=ae.mk d1;have dI:=ae.mk bZ;clear d1 bZ;have dD:=ae.mk d3;have dJ:=ae.mk d2;clear d3 d2;have dE:=ae.mk d5;have dK:=ae.mk d4;clear d5 d4;refine qN (n:=12) (S:=fun w'=>w'.cell? ⟨bM,0,none⟩=some (b6)∧w'.cell? ⟨bM,1,none⟩=some (.int .i64 ak)∧w'.cell? ⟨dF,0,none⟩=some (.slice (some b8) ag.length aT)∧w'.cell? ⟨dF,1,none⟩=some (.int .i64 ak)∧w'.cell? (b8.add ((b2).toNat*6))=some (.int .i64 ((af ag b2).f0))∧w'.cell? ⟨(b8.add ((b2).toNat*6)).block,(b8.add ((b2).toNat*6)).off+1,none⟩=some (.int .i64 ((af ag b2).f1))∧w'.cell? ⟨(b8.add ((b2).toNat*6)).block,(b8.add ((b2).toNat*6)).off+2,none⟩=some (.int .i64 ((af ag b2).f2))∧w'.cell? ⟨(b8.add ((b2).toNat*6)).block,(b8.add ((b2).toNat*6)).off+3,none⟩=some (.slice dN ((af ag b2).f3).length dO)∧w'.cell? ⟨(b8.add ((b2).toNat*6)).block,(b8.add ((b2).toNat*6)).off+4,none⟩=some (.slice dP ((af ag b2).f4).length dQ)∧w'.cell? ⟨(b8.add ((b2).toNat*6)).block,(b8.add ((b2).toNat*6)).off+5,none⟩=some (.slice dR ((af ag b2).f5).length dS)) (ds:=[11]) (lb 12 0) (by kernel_rfl) rfl rfl oH (fun hHeld=> ?_);refine tO cr.xt cr.sE (fun ax eN=> ?_);generalize wr.drew=jS at b1 b3 b4 b5 HB dC dD dE bG bH bI bJ bK bL hHeld⊢;refine bz 0 15 ax ?_;refine bz 2 17 ax ?_;refine bz 4 19 ax ?_;refine gj 1 16 ax eN hHeld ?_;refine gj 3 18 ax eN hHeld ?_;refine bz 5 20 ax ?_;refine gj 6 21 ax eN hHeld ?_;refine lg 7 22 ax (fun K hK=> ?_);refine lO 22 func83 (dv.calls ((af ag b2).f0) ((af ag b2).f1) ((af ag b2).f2) _ _ ((af ag b2).f3) _ _ ((af ag b2).f4) _ _ ((af ag b2).f5) bU bV bW bN bO bP _ (kC dC) dI.out (kC dD) dJ.out (kC dE) dK.out gU.out) ?_;rintro e jT ⟨jN,jO,jP,rfl,gN,dT,dU,hb⟩;refine⟨_,rfl,?_⟩;have bR:=am (Kd.an gN (ah oB));have bS:=am (Kd.an dT (ah oB));have bT:=am (Kd.an dU (ah oB));replace b1:=rG (vw b1 hb) (Kd.cf gN) (Kd.cf dT) (Kd.cf dU);replace b3:=aJ b3 hb;replace b4:=aJ b4 hb;replace b5:=aJ b5 hb;replace HB:=hB HB hb
   (try clear dT)
   (try clear dU)
   obtain⟨dV,dW,dX⟩:=Kd.ao bR.out
   (first|subst dX|(injection dX with kn nh kp;have bX:=kn.symm;have bY:=kp.symm;clear kn nh kp;subst bX;subst bY))
   obtain⟨dY,dZ,gA⟩:=Kd.ao bS.out
   (first|subst gA|(injection gA with kn nh kp;have bX:=kn.symm;have bY:=kp.symm;clear kn nh kp;subst bX;subst bY))
   obtain⟨gB,gC,gD⟩:=Kd.ao bT.out
   (first|subst gD|(injection gD with kn nh kp;have bX:=kn.symm;have bY:=kp.symm;clear kn nh kp;subst bX;subst bY))
   refine eW hK 22 oH (fun hHeld=> ?_);clear hK K;refine lg 8 23 ax (fun K hK=> ?_);refine uw (w1:= ?_) (v:= ?_) (by rfl) rfl ?_ ?_;rotate_left 2
   ·go_simp
    constructor
    ·rfl
    ·rfl
   refine eW hK 23 ⟨(aq (aC b5.out _) 0).trans rfl,(aq (aC b5.out _) 1).trans rfl,(aq (aC b3.out _) 0).trans rfl,(aq (aC b3.out _) 1).trans rfl,(World.cell?_alloc_lt _ _ _ (World.block_lt_of_cell? _ _ ((cB HB dB)))).trans ((cB HB dB)),(World.cell?_alloc_lt _ _ _ (World.block_lt_of_cell? _ _ ((cB HB dA)))).trans ((cB HB dA)),(World.cell?_alloc_lt _ _ _ (World.block_lt_of_cell? _ _ ((cB HB d9)))).trans ((cB HB d9)),(World.cell?_alloc_lt _ _ _ (World.block_lt_of_cell? _ _ ((cB HB d8)))).trans ((cB HB d8)),(World.cell?_alloc_lt _ _ _ (World.block_lt_of_cell? _ _ ((cB HB d7)))).trans ((cB HB d7)),(World.cell?_alloc_lt _ _ _ (World.block_lt_of_cell? _ _ ((cB HB d6)))).trans ((cB HB d6))⟩ (fun hHeld=> ?_);clear hK K;refine lg 9 24 ax (fun K hK=> ?_);refine Kd.pH gh (w0:=w) w.heap.size (by rfl) (.tmp 16) (.tmp 23) 26 58 (.agg #[(.int .i64 0),(.int .i64 0),(.int .i64 0),(.slice none 0 0),(.slice none 0 0),(.slice none 0 0)]) 96 rfl underlying26 lD rfl (by decide) (by omega) b6 b7 (⟨bU,bV,bW,bN,bO,bP⟩:aX) [.int .i64 bU,.int .i64 bV,.int .i64 bW,.slice dV bN.length dW,.slice dY bO.length dZ,.slice gB bP.length gC] (fun _=>True) (fun k_=>some k_=(.slice dV bN.length dW:Value).ownBlock∨some k_=(.slice dY bO.length dZ:Value).ownBlock∨some k_=(.slice gB bP.length gC:Value).ownBlock) rfl rfl ?aP (fun k_ eW=>eW.elim (fun h_=>((Kd.aZ (ok':=fun k_=>((fun _=>True)) k_∧some k_≠(b6:Value).ownBlock) (Kd.cI (bR.out) (Kd.iD b1.out) (by decide)) (fun k_ hk=>⟨trivial,hk.2⟩))).1 k_ h_.symm) (fun h_=>h_.elim (fun h_=>((Kd.aZ (ok':=fun k_=>((fun _=>True)) k_∧some k_≠(b6:Value).ownBlock) (Kd.cI (bS.out) (Kd.iD b1.out) (by decide)) (fun k_ hk=>⟨trivial,hk.2⟩))).1 k_ h_.symm) (fun h_=>((Kd.aZ (ok':=fun k_=>((fun _=>True)) k_∧some k_≠(b6:Value).ownBlock) (Kd.cI (bT.out) (Kd.iD b1.out) (by decide)) (fun k_ hk=>⟨trivial,hk.2⟩))).1 k_ h_.symm))) ?aF ?aO ?aB ?aS ?aL ?_
   (case aP=>exact pq _ _ _ (⟨bU,bV,bW,bN,bO,bP⟩:aX) (Kd.aZ (Kd.kb rfl (Kd.aZ (ok':=fun k_=>((fun _=>True)) k_∧some k_≠(b6:Value).ownBlock) (Kd.cI (bR.out) (Kd.iD b1.out) (by decide)) (fun k_ hk=>⟨trivial,hk.2⟩))) (fun _ h_=>Or.inl h_)) (Kd.aZ (Kd.kb rfl (Kd.aZ (ok':=fun k_=>((fun _=>True)) k_∧some k_≠(b6:Value).ownBlock) (Kd.cI (bS.out) (Kd.iD b1.out) (by decide)) (fun k_ hk=>⟨trivial,hk.2⟩))) (fun _ h_=>Or.inr (Or.inl h_))) (Kd.aZ (Kd.kb rfl (Kd.aZ (ok':=fun k_=>((fun _=>True)) k_∧some k_≠(b6:Value).ownBlock) (Kd.cI (bT.out) (Kd.iD b1.out) (by decide)) (fun k_ hk=>⟨trivial,hk.2⟩))) (fun _ h_=>Or.inr (Or.inr (h_)))))
   (case aB=>exact oB)
   (case aF=>exact(fun _ _=>trivial))
   (case aO=>exact(by(with_reducible repeat(first|apply Kd.eL|apply Kd.eR|apply Kd.fi));exact Kd.eV b1.out (fun k_ hk=>⟨trivial,fun e_=>e_.elim (fun h_=>hk.1.1.2 h_) (fun h_=>h_.elim (fun h_=>hk.1.2 h_) (fun h_=>hk.2 h_))⟩)))
   (case aS=>exact(ah oB))
   (case aL=>have:=gJ.out;omega)
   intro jQ gV ho hb hg hat;rw[←gK.out]at ho;have dH:=am (ho);replace b3:=lM b3 hg (Kd.zf b1.out b3.out (by decide));replace b4:=lM b4 hg (Kd.zf b1.out b4.out (by decide));replace b5:=lM b5 hg (Kd.zf b1.out b5.out (by decide));replace HB:=am (hb);clear b1;clear bR;clear bS;clear bT;clear ho hb hg hat;obtain⟨gE,gF,gG⟩:=Kd.iA dH.out
   (first|subst gG|(injection gG with kn nh kp;have bX:=kn.symm;have bY:=kp.symm;clear kn nh kp;subst bX;subst bY))
   refine eW hK 24 oH (fun hHeld=> ?_);clear hK K;refine bz 10 25 ax ?_;refine yr (i:=11) (N:=none) (lb 12 4095) rfl rfl (sa ax.out (by kernel_rfl)) (by decide) (fun K hK=> ?_);have jR:gV.cell? ⟨bM,0,none⟩=some (b6):=(aq b5.out 0).trans rfl;have jC:=ay b5.out 0;have gQ:=b9.out;have gR:=bE.out;have gS:=bB.out;have gT:=bF.out;refine su (w1:= ?_) (by rfl) rfl ?_ ?_;rotate_left
   ·go_simp
    rfl
   refine hK.out _ _ ?_;clear hK K;refine mo ax ?_
   try go_wp2
   go_roundg k1
   case measure=>have:=gL.out;omega
   case rel=>exact⟨(wrap64 (b2+1)),(dG),(.slice gE dG.length gF),oS,H',⟨by have:=gL.out;omega⟩,⟨by(with_reducible repeat(first|apply Kd.eL|apply Kd.eR|apply Kd.fi));exact Kd.eV (Kd.eJ (p:=⟨bM,0,none⟩) (Kd.ka dH.out b5.out (by decide)) (fun _ hk=>hk.2) (.slice gE dG.length gF)) (fun _ hk=>trivial)⟩,⟨oF b3⟩,⟨oF b4⟩,⟨oP b5⟩,⟨oB⟩⟩

def di.l0:Nat→Int→List Int→Int→Option (List Int)
 |0,_,_,_=>none
 |k+1,x1,x5,x6=>if x6>0 then(if 0≤(wrap64 (x6-1))then(if(wrap64 (x6-1))<(x5.length:Int)then(if(rd x5 (wrap64 (x6-1)))>x1 then(if 0≤x6 then(if x6<(x5.length:Int)then(di.l0 k x1 (x5.set (x6:Int).toNat (rd x5 (wrap64 (x6-1)))) (wrap64 (x6-1)))else(none))else(none))else(if 0≤x6 then(if x6<(x5.length:Int)then(some (x5.set (x6:Int).toNat x1))else(none))else(none)))else(none))else(none))else(if 0≤x6 then(if x6<(x5.length:Int)then(some (x5.set (x6:Int).toNat x1))else(none))else(none))
def di.f (k:Nat) (l0:List Int) (a1:Int):Option (List Int):=(eY.f k l0 a1).bind fun b4=>(if b4=true then(some l0)else((some (([]:List Int):List Int)).bind fun b1=>(if b1.length+l0.length<17592186044416 then((some (b1++l0:List Int)).bind fun b2=>(if b2.length<17592186044416 then((some (b2++[a1]:List Int)).bind fun b3=>(di.l0 k a1 b3 (wrap64 ((b3.length:Int)-1))))else(none)))else(none))))
theorem di.calls (k:Nat) (A0:Option Addr) (c0:Nat) (l0:List Int) (a1:Int) (r:List Int) (b0:Nat) (w:World) (hb0:b0≤w.heap.size) (ho0:Kd.R (Kd.int .i64) 3 w b0 (fun _=>True) (.slice A0 l0.length c0) l0) (h:di.f k l0 a1=some r):
  Calls Tryz.prog 141 #[.slice A0 l0.length c0,.int .i64 a1] w fun e w'=>∃jx:Value,e= .returned (jx)∧Kd.R (Kd.int .i64) 3 w' b0 (fun _=>True) jx r∧Below w.heap.size w w':=by
 have d2:=am (Kd.bd ho0).2.2;have dV:=am (Kd.bd ho0).2.1;have gH:=ae.mk ho0;have dW:=ae.mk hb0;clear ho0 hb0;have HB:=am (Below.refl w.heap.size w);have H:((eY.f k l0 a1).bind fun bJ=>(if bJ=true then(some l0)else((some (([]:List Int):List Int)).bind fun b7=>(if b7.length+l0.length<17592186044416 then((some (b7++l0:List Int)).bind fun b6=>(if b6.length<17592186044416 then((some (b6++[a1]:List Int)).bind fun b5=>(di.l0 k a1 b5 (wrap64 ((b5.length:Int)-1))))else(none)))else(none)))))=some r:=h;clear h;replace H:=Option.bind_eq_some_iff.mp H;obtain⟨bJ,dX,H⟩:=H;replace H:(if bJ=true then(some l0)else((some (([]:List Int):List Int)).bind fun b7=>(if b7.length+l0.length<17592186044416 then((some (b7++l0:List Int)).bind fun b6=>(if b6.length<17592186044416 then((some (b6++[a1]:List Int)).bind fun b5=>(di.l0 k a1 b5 (wrap64 ((b5.length:Int)-1))))else(none)))else(none))))=some r:=H;have A3:=ae.mk dX;clear dX
 by_cases c4:bJ=true
 ·subst c4
  have H1:(some l0)=some r:=by rw[if_pos rfl]at H;exact H
  clear H;obtain rfl:=Option.some.inj H1
  go_enter func141,ntmps141
  go_wp2_with (first|((with_reducible refine ai (f:=152) rfl ?_);refine ud (some 9) rfl rfl func152 (by kernel_rfl) rfl #[.slice A0 l0.length c0,.int .i64 a1] rfl oL ?_;(with_reducible refine(eY.calls k _ _ l0 a1 true _ ?eQ ?ni A3.out).mono ?_);(case eQ=>repeat(first|exact d2.out|(with_reducible refine Kd.eF ?_ _)|(with_reducible refine Kd.eG ?_ _)|(with_reducible refine Kd.ft ?_)));(case ni=>exact dV.out);rintro e w' ⟨rfl,⟨nd,rfl⟩⟩;refine⟨_,rfl,?_⟩))
  go_ret
  exact⟨_,oE,(wV gH),oB⟩
 replace c4:=Bool.eq_false_iff.mpr c4;subst c4
 have H1:((some (([]:List Int):List Int)).bind fun b7=>(if b7.length+l0.length<17592186044416 then((some (b7++l0:List Int)).bind fun b6=>(if b6.length<17592186044416 then((some (b6++[a1]:List Int)).bind fun b5=>(di.l0 k a1 b5 (wrap64 ((b5.length:Int)-1))))else(none)))else(none)))=some r:=by rw[if_neg (show¬(false=true) by decide)]at H;exact H
 clear H;have H:=H1;clear H1;obtain⟨b7,da⟩:∃y_:List Int,y_=(([]:List Int)):=⟨_,rfl⟩;replace H:(if b7.length+l0.length<17592186044416 then((some (b7++l0:List Int)).bind fun b6=>(if b6.length<17592186044416 then((some (b6++[a1]:List Int)).bind fun b5=>(di.l0 k a1 b5 (wrap64 ((b5.length:Int)-1))))else(none)))else(none))=some r:=oY;have bV:=ae.mk da;clear da;obtain⟨c7,H⟩:=lC H;have gI:=ae.mk c7;clear c7;obtain⟨b6,da⟩:∃y_:List Int,y_=(b7++l0):=⟨_,rfl⟩;replace H:(if b6.length<17592186044416 then((some (b6++[a1]:List Int)).bind fun b5=>(di.l0 k a1 b5 (wrap64 ((b5.length:Int)-1))))else(none))=some r:=oY;have dN:=ae.mk da;clear da;obtain⟨c8,H⟩:=lC H;have gJ:=ae.mk c8;clear c8;obtain⟨b5,da⟩:∃y_:List Int,y_=(b6++[a1]):=⟨_,rfl⟩;replace H:(di.l0 k a1 b5 (wrap64 ((b5.length:Int)-1)))=some r:=oY;have dO:=ae.mk da;clear da;have H':=ae.mk H;clear H
 go_enter func141,ntmps141
 go_wp2_with (first|((with_reducible refine ai (f:=152) rfl ?_);refine ud (some 9) rfl rfl func152 (by kernel_rfl) rfl #[.slice A0 l0.length c0,.int .i64 a1] rfl oL ?_;(with_reducible refine(eY.calls k _ _ l0 a1 false _ ?eQ ?ni A3.out).mono ?_);(case eQ=>repeat(first|exact d2.out|(with_reducible refine Kd.eF ?_ _)|(with_reducible refine Kd.eG ?_ _)|(with_reducible refine Kd.ft ?_)));(case ni=>exact dV.out);rintro e w' ⟨rfl,⟨nd,rfl⟩⟩;refine⟨_,rfl,?_⟩)|((with_reducible refine aj (N:=11) rfl ?_);refine Kd.kM (Kd.int .i64) _ 3 ?hg (N:=11) ?hd (xs:=([]:List Int)) (inner:=[]) (ok:=fun _=>True) (fY:=fun _=>True) ?hr ?hp (fun _ hk=>hk) trivial (Below.refl _ _) (Nat.le_refl _) (by simp) ?_;(case hd=>rfl);(case hg=>rfl);(case hr=>first|(go_simp;done)|(go_simp;rfl));(case hp=>exact(cS.none _ _));intro gK w9 bG hb kX ek;clear kX ek;(first|rw[←bV.out]at bG|(simp only[Int.reduceToNat]at bG;rw[←bV.out]at bG));have b8:=am (Kd.an bG (ah oB));have b9:=hB HB hb;clear HB;have bW:=b8;have HB:=b9;clear b8 b9;clear hb bG)|((with_reducible refine eU (b:= .append) (xs:= #[.tmp 11,.tmp 12]) rfl ?_);at_builtin;refine Kd.fk (Kd.int .i64) (w0:=w) w.heap.size rfl (.tmp 11) (.tmp 12) 98 3 (.int .i64 0) 8 rfl underlying98 info3 rfl (by decide) (by omega) gK b7 l0 _ _ _ (fun _=>True) (fun _=>False) rfl rfl ?aO ?aR (fun _ _ h=>h) (fun _ h=>h.elim) ?aF ?aB ?aS ?aL ?_;(case aR=>repeat(first|exact(Kd.cY d2.out HB.out)|(with_reducible refine Kd.eF ?_ _)|(with_reducible refine Kd.eG ?_ _)|(with_reducible refine Kd.ft ?_)));(case aB=>exact oB);(case aF=>exact(fun _ _=>trivial));(case aO=>exact(wV bW));(case aS=>exact(ah oB));(case aL=>have:=gI.out;omega);intro gL jL ho hb hg hat;rw[←dN.out]at ho;have b8:=am (hb);have b9:=am (ho);clear HB;clear bW;have HB:=b8;have bX:=b9;clear b8 b9;clear ho hb hg hat)|((with_reducible refine eU (b:= .append) (xs:= #[.tmp 13,.tmp 15]) rfl ?_);at_builtin;refine Kd.pb (Kd.int .i64) (w0:=w) w.heap.size rfl (.tmp 13) (.tmp 15) 98 3 (.int .i64 0) 8 rfl underlying98 info3 rfl (by decide) (by omega) gL b6 a1 [.int .i64 a1] (fun _=>True) (fun _=>False) rfl rfl ?aP (fun _ hk=>hk.elim) ?aF ?aO ?aB ?aS ?aL ?_;(case aP=>exact rfl);(case aB=>exact oB);(case aF=>exact(fun _ _=>trivial));(case aO=>exact(wV bX));(case aS=>exact(ah oB));(case aL=>have:=gJ.out;omega);intro jB jM ho hb hg hat;rw[←dO.out]at ho;have b8:=am (hb);have b9:=am (ho);clear HB;clear bX;have HB:=b8;have bY:=b9;clear b8 b9;clear ho hb hg hat;obtain⟨gM,bK,gN⟩:=Kd.ao bY.out;subst gN))
 go_loopg [6] k (fun kq v6 w'=>∃(b2:List Int) (b1:Int),v6= .int .i64 b1∧ae (di.l0 kq a1 b2 b1=some r)∧ae (kq≤k)∧ae (Kd.R (Kd.int .i64) 3 w' w.heap.size (fun _=>True) (.slice gM b5.length bK) b2)∧ae (Below w.heap.size w w'))
 case atStart=>exact⟨(b5),(wrap64 ((b5.length:Int)-1)),oS,H',⟨Nat.le_refl _⟩,⟨by(with_reducible repeat(first|apply Kd.bu|apply Kd.bx|apply Kd.bp));exact bY.out⟩,⟨oB⟩⟩
 case round=>
  clear H'
  try clear c1
  try clear p2
  try clear c4
  try clear p6
  try clear c7
  try clear c8
  obtain⟨b2,b1,rfl,HA,dY,b4,HB⟩:=hrel;have bF:=(Kd.bd b4.out).1;rw[bF]at b4
  (try simp only[bF])
  cases gk with
  |zero=>exact absurd HA.out (by simp[di.l0])
  |succ k1=>
   have H:=HA.out;clear HA;simp only[di.l0]at H
   by_cases bH:b1>0
   rotate_left
   ·rw[if_neg bH]at H;have dP:decide (0<b1)=false:=decide_eq_false bH;clear bH;obtain⟨dZ,H⟩:=lC H;have j3:decide (0≤b1)=true:=decide_eq_true dZ;clear dZ;obtain⟨gA,H⟩:=lC H;have j4:decide (b1<(b2.length:Int))=true:=decide_eq_true gA;clear gA;obtain⟨d3,da⟩:∃y_:List Int,y_=(b2.set (b1:Int).toNat a1):=⟨_,rfl⟩;replace H:(some d3)=some r:=oY;have dQ:=ae.mk da;clear da;obtain rfl:=Option.some.inj H;have d4:0≤(b1:Int):=oa;have d5:(b1:Int)<((b2.length:Int):Int):=oa;obtain⟨bL,jC,d6,d7,gO,jD,d8⟩:=Kd.ll b4.out (by omega)
    (first|cases d6|(injection d6 with iF oc od;(first|subst iF|(injection iF with iF;subst iF));subst od;clear oc))
    have gP:=ae.mk d7;have jE:=ae.mk d8;clear d7 gO d8;obtain⟨gV,gW⟩:=Kd.qq 0 b4.out (b1:Int) d4 d5;replace d4:=eq_true d4;replace d5:=eq_true d5;have bM:=Kd.sn b4.out (b1:Int) a1
    go_wp2_with (first|((with_reducible refine fu (t:=3) (p:=44) rfl ?_);refine fj (t:=3) (p:=44) (v:= ?adr) (w1:=(wr.setCell ⟨bL,(b1:Int).toNat,none⟩ (.int .i64 a1))) ?hg ?ho ?hn ?hr ?_;(case ho=>rfl);(case hg=>rfl);(case hn=>rfl);(case hr=>first|(go_simp;done)|(go_simp;rfl));intro d9 hw;have hg:wr.grownBy d9 (some bL):=(by rw[hw];exact bM.2);have ny:Kd.R (Kd.int .i64) 3 d9 w.heap.size (fun _=>True) (.slice (some ⟨bL,0,none⟩) b2.length bK) d3:=(by rw[hw,dQ.out];exact bM.1);clear bM;have b8:=am (ny);have b9:=am ((by rw[hw];exact aI (HB.out) gP.out:Below w.heap.size w d9));clear b4;clear HB;have b4:=b8;have HB:=b9;clear b8 b9;clear hg hw ny))
    go_ret
    exact⟨_,oE,Kd.an (wV b4) dW.out,oB⟩
   rw[if_pos bH]at H;have dP:decide (0<b1)=true:=decide_eq_true bH;clear bH;obtain⟨b3,bD⟩:∃j_:Int,(wrap64 (b1-1))=j_:=⟨_,rfl⟩
   replace H:(if 0≤(b3)then(if(b3)<(b2.length:Int)then(if(rd b2 (b3))>a1 then(if 0≤b1 then(if b1<(b2.length:Int)then(di.l0 k1 a1 (b2.set (b1:Int).toNat (rd b2 (b3))) b3)else(none))else(none))else(if 0≤b1 then(if b1<(b2.length:Int)then(some (b2.set (b1:Int).toNat a1))else(none))else(none)))else(none))else(none))=some r:=by first|(rw[bD]at H;exact H)|(simp only[bD]at H⊢;exact H)
   have gX:(IntKind.i64.wrap (b1-1))=b3:=(kK _).trans bD;obtain⟨gB,H⟩:=lC H;have j5:decide (0≤(b3))=true:=decide_eq_true gB;clear gB;obtain⟨gC,H⟩:=lC H;have j6:decide ((b3)<(b2.length:Int))=true:=decide_eq_true gC;clear gC
   by_cases bI:(rd b2 (b3))>a1
   rotate_left
   ·rw[if_neg bI]at H;have dR:decide (a1<(rd b2 (b3)))=false:=decide_eq_false bI;clear bI;obtain⟨gD,H⟩:=lC H;have j7:decide (0≤b1)=true:=decide_eq_true gD;clear gD;obtain⟨gE,H⟩:=lC H;have j8:decide (b1<(b2.length:Int))=true:=decide_eq_true gE;clear gE;obtain⟨dA,da⟩:∃y_:List Int,y_=(b2.set (b1:Int).toNat a1):=⟨_,rfl⟩;replace H:(some dA)=some r:=oY;have dS:=ae.mk da;clear da;obtain rfl:=Option.some.inj H;have bB:0≤((b3):Int):=oa;have bC:(b3)<(b2.length:Int):=oa;obtain⟨bZ,bN,bE⟩:=Kd.kA (Kd.bd b4.out).2.2 (b3) bB bC
    cases bN
    replace bB:=eq_true bB;replace bC:=eq_true bC;have dB:0≤(b1:Int):=oa;have dC:(b1:Int)<((b2.length:Int):Int):=oa;obtain⟨bO,jF,dD,dE,gQ,jG,dF⟩:=Kd.ll b4.out (by omega)
    (first|cases dD|(injection dD with iF oc od;(first|subst iF|(injection iF with iF;subst iF));subst od;clear oc))
    have gR:=ae.mk dE;have jH:=ae.mk dF;clear dE gQ dF
    (first|simp only[add_plain]at bE|skip)
    obtain⟨gY,gZ⟩:=Kd.qq 0 b4.out (b1:Int) dB dC;replace dB:=eq_true dB;replace dC:=eq_true dC;have bP:=Kd.sn b4.out (b1:Int) a1
    go_wp2_with (first|((with_reducible refine fu (t:=3) (p:=44) rfl ?_);refine fj (t:=3) (p:=44) (v:= ?vo_w28) (w1:=(wr.setCell ⟨bO,(b1:Int).toNat,none⟩ (.int .i64 a1))) ?hg ?ho ?hn ?hr ?_;(case ho=>rfl);(case hg=>rfl);(case hn=>rfl);(case hr=>first|(go_simp;done)|(go_simp;rfl));intro dG hw;have hg:wr.grownBy dG (some bO):=(by rw[hw];exact bP.2);have ny:Kd.R (Kd.int .i64) 3 dG w.heap.size (fun _=>True) (.slice (some ⟨bO,0,none⟩) b2.length bK) dA:=(by rw[hw,dS.out];exact bP.1);clear bP;have b8:=am (ny);have b9:=am ((by rw[hw];exact aI (HB.out) gR.out:Below w.heap.size w dG));clear b4;clear HB;have b4:=b8;have HB:=b9;clear b8 b9;clear hg hw ny))
    go_ret
    exact⟨_,by first|rfl|(simp[ee,ef]<;>rfl)|(simp only[←bD];first|rfl|(simp[ee,ef]<;>rfl))|(simp[*,ee,ef]<;>rfl),Kd.an (wV b4) dW.out,oB⟩
   rw[if_pos bI]at H;have dR:decide (a1<(rd b2 (b3)))=true:=decide_eq_true bI;clear bI;obtain⟨gF,H⟩:=lC H;have j9:decide (0≤b1)=true:=decide_eq_true gF;clear gF;obtain⟨gG,H⟩:=lC H;have jA:decide (b1<(b2.length:Int))=true:=decide_eq_true gG;clear gG;obtain⟨bQ,da⟩:∃y_:List Int,y_=(b2.set (b1:Int).toNat (rd b2 (b3))):=⟨_,rfl⟩;replace H:(di.l0 k1 a1 bQ b3)=some r:=oY;have dT:=ae.mk da;clear da;have H':=ae.mk H;clear H;have bB:0≤((b3):Int):=oa;have bC:(b3)<(b2.length:Int):=oa;obtain⟨bZ,bN,bE⟩:=Kd.kA (Kd.bd b4.out).2.2 (b3) bB bC
   cases bN
   replace bB:=eq_true bB;replace bC:=eq_true bC;have bR:0≤((b3):Int):=oa;have bS:(b3)<(b2.length:Int):=oa;obtain⟨dU,gS,d1⟩:=Kd.kA (Kd.bd b4.out).2.2 (b3) bR bS;obtain rfl:bZ=dU:=(by injection gS);replace bR:=eq_true bR;replace bS:=eq_true bS;have dH:0≤(b1:Int):=oa;have dI:(b1:Int)<((b2.length:Int):Int):=oa;obtain⟨bT,jI,dJ,dK,gT,jJ,dL⟩:=Kd.ll b4.out (by omega)
   (first|cases dJ|(injection dJ with iF oc od;(first|subst iF|(injection iF with iF;subst iF));subst od;clear oc))
   have gU:=ae.mk dK;have jK:=ae.mk dL;clear dK gT dL
   (first|simp only[add_plain]at bE|skip)
   (first|simp only[add_plain]at d1|skip)
   obtain⟨j1,j2⟩:=Kd.qq 0 b4.out (b1:Int) dH dI;replace dH:=eq_true dH;replace dI:=eq_true dI;have bU:=Kd.sn b4.out (b1:Int) (rd b2 (b3))
   go_wp2_with (first|((with_reducible refine fu (t:=3) (p:=38) rfl ?_);refine fj (t:=3) (p:=38) (v:= ?vo_w23) (w1:=(wr.setCell ⟨bT,(b1:Int).toNat,none⟩ (.int .i64 (rd b2 (b3))))) ?hg ?ho ?hn ?hr ?_;(case ho=>rfl);(case hg=>rfl);(case hn=>rfl);(case hr=>first|(go_simp;done)|(go_simp;rfl));intro dM hw;have hg:wr.grownBy dM (some bT):=(by rw[hw];exact bU.2);have ny:Kd.R (Kd.int .i64) 3 dM w.heap.size (fun _=>True) (.slice (some ⟨bT,0,none⟩) b2.length bK) bQ:=(by rw[hw,dT.out];exact bU.1);clear bU;have b8:=am (ny);have b9:=am ((by rw[hw];exact aI (HB.out) gU.out:Below w.heap.size w dM));clear b4;clear HB;have b4:=b8;have HB:=b9;clear b8 b9;clear hg hw ny))
   (try simp only[←bF])
   go_roundg k1
   case measure=>have:=dY.out;omega
   case rel=>exact⟨(bQ),(b3),(by first|rfl|(simp;done)|(simp only[←bD]<;>(first|rfl|simp))|(simp[*];done)),H',⟨by have:=dY.out;omega⟩,⟨by(try simp only[bF]);(with_reducible repeat(first|apply Kd.bu|apply Kd.bx|apply Kd.bp));exact b4.out⟩,⟨oB⟩⟩

def aQ.l0:Nat→ByteArray→Int→Option (Bool)
 |0,_,_=>none
 |k+1,x0,x3=>if x3<(x0.size:Int)then(if 0≤x3 then((bb.f (wrap64 (bt x0 x3)) 97 122).bind fun b1=>(if b1=true then(aQ.l0 k x0 (wrap64 (x3+1)))else((bb.f (wrap64 (bt x0 x3)) 48 57).bind fun b2=>(if b2=true then(aQ.l0 k x0 (wrap64 (x3+1)))else(if(wrap64 (bt x0 x3))=95 then(aQ.l0 k x0 (wrap64 (x3+1)))else(if(wrap64 (bt x0 x3))=45 then(aQ.l0 k x0 (wrap64 (x3+1)))else(if(wrap64 (bt x0 x3))=46 then(aQ.l0 k x0 (wrap64 (x3+1)))else(some false))))))))else(none))else((bb.f (x0.size:Int) 1 14).bind fun b3=>(if b3=true then(if x0.toList=([46]:List UInt8)then(some false)else(some (x0.toList !=([46,46]:List UInt8))))else(some false)))
def aQ.f (k:Nat) (a0:ByteArray):Option (Bool):=aQ.l0 k a0 0
theorem aQ.calls (k:Nat) (a0:ByteArray) (r:Bool) (w:World) (h:aQ.f k a0=some r):
  Calls Tryz.prog 63 #[.string a0] w fun e w'=>e= .returned (.bool r)∧fC w w':=by
 unfold aQ.f at h;have H:=h;clear h;have H':=ae.mk H;clear H
 go_enter func63,ntmps63
 go_wp2
 go_loopg [3] k (fun kq v3 w'=>∃(b1:Int),v3= .int .i64 b1∧ae (aQ.l0 kq a0 b1=some r)∧ae (kq≤k)∧fC w w')
 case atStart=>exact⟨(0),oS,H',⟨Nat.le_refl _⟩,oD⟩
 case round=>
  clear H';obtain⟨b1,rfl,HA,b2,⟨m1,rfl⟩⟩:=hrel
  cases gk with
  |zero=>exact absurd HA.out (by simp[aQ.l0])
  |succ k1=>
   have H:=HA.out;clear HA;simp only[aQ.l0]at H;replace H:=jm H;rcases H with⟨bE,H⟩|⟨bE,H⟩;rotate_left
   ·replace H:=bA H;obtain⟨bH,b6,H⟩:=H
    try dsimp only at H
    replace H:=lr H;rcases H with⟨rfl,H⟩|⟨rfl,H⟩;rotate_left
    ·obtain rfl:=Option.some.inj H
     go_wp2_with (first|((with_reducible refine ai (f:=60) rfl ?_);refine ej 37 func60 (bb.calls (a0.size:Int) 1 14 false _ b6.out) ?_;rintro e w' ⟨rfl,⟨nd,rfl⟩⟩;refine⟨_,rfl,?_⟩))
     go_ret
     exact⟨oS,oD⟩
    by_cases b3:a0.toList=([46]:List UInt8)
    rotate_left
    ·rw[if_neg b3]at H;have b7:(a0.toList==([46]:List UInt8))=false:=beq_eq_false_iff_ne.mpr b3;have b8:(a0.toList !=([46]:List UInt8))=true:=bne_iff_ne.mpr b3;obtain rfl:=Option.some.inj H
     go_wp2_with (first|((with_reducible refine ai (f:=60) rfl ?_);refine ej 37 func60 (bb.calls (a0.size:Int) 1 14 true _ b6.out) ?_;rintro e w' ⟨rfl,⟨nd,rfl⟩⟩;refine⟨_,rfl,?_⟩))
     go_ret
     exact⟨oS,oD⟩
    rw[if_pos b3]at H;have b7:(a0.toList==([46]:List UInt8))=true:=beq_iff_eq.mpr b3;have b8:(a0.toList !=([46]:List UInt8))=false:=bne_eq_false_iff_eq.mpr b3;clear b3;obtain rfl:=Option.some.inj H
    go_wp2_with (first|((with_reducible refine ai (f:=60) rfl ?_);refine ej 37 func60 (bb.calls (a0.size:Int) 1 14 true _ b6.out) ?_;rintro e w' ⟨rfl,⟨nd,rfl⟩⟩;refine⟨_,rfl,?_⟩))
    go_ret
    exact⟨oS,oD⟩
   obtain⟨bI,H⟩:=cU H;replace H:=bA H;obtain⟨bJ,A5,H⟩:=H
   try dsimp only at H
   replace H:=lr H;rcases H with⟨rfl,H⟩|⟨rfl,H⟩
   ·have H':=ae.mk H;clear H;have p4:(0≤(b1:Int))=True:=oT;have q4:(b1<(a0.size:Int))=True:=oT;have b5:=iK a0 b1
    go_wp2_with (first|((with_reducible refine ai (f:=60) rfl ?_);refine ej 16 func60 (bb.calls (wrap64 (bt a0 b1)) 97 122 true _ A5.out) ?_;rintro e w' ⟨rfl,⟨nd,rfl⟩⟩;refine⟨_,rfl,?_⟩))
    go_roundg k1
    case measure=>have:=b2.out;omega
    case rel=>exact⟨(wrap64 (b1+1)),oS,H',⟨by have:=b2.out;omega⟩,oD⟩
   replace H:=bA H;obtain⟨bK,A7,H⟩:=H
   try dsimp only at H
   replace H:=lr H;rcases H with⟨rfl,H⟩|⟨rfl,H⟩
   ·have H':=ae.mk H;clear H;have p4:(0≤(b1:Int))=True:=oT;have q4:(b1<(a0.size:Int))=True:=oT;have b5:=iK a0 b1
    go_wp2_with (first|((with_reducible refine ai (f:=60) rfl ?_);refine ej 16 func60 (bb.calls (wrap64 (bt a0 b1)) 97 122 false _ A5.out) ?_;rintro e w' ⟨rfl,⟨nd,rfl⟩⟩;refine⟨_,rfl,?_⟩)|(go_at_call 60;(with_reducible refine(bb.calls (wrap64 (bt a0 b1)) 48 57 true _ A7.out).mono ?_);rintro e w' ⟨rfl,⟨nd,rfl⟩⟩))
    go_roundg k1
    case measure=>have:=b2.out;omega
    case rel=>exact⟨(wrap64 (b1+1)),oS,H',⟨by have:=b2.out;omega⟩,oD⟩
   by_cases c9:(wrap64 (bt a0 b1))=95
   ·rw[if_pos c9]at H;have bF:((wrap64 (bt a0 b1))==95)=true:=beq_iff_eq.mpr c9;have bG:((wrap64 (bt a0 b1)) !=95)=false:=bne_eq_false_iff_eq.mpr c9;clear c9;have H':=ae.mk H;clear H;have p4:(0≤(b1:Int))=True:=oT;have q4:(b1<(a0.size:Int))=True:=oT;have b5:=iK a0 b1
    go_wp2_with (first|((with_reducible refine ai (f:=60) rfl ?_);refine ej 16 func60 (bb.calls (wrap64 (bt a0 b1)) 97 122 false _ A5.out) ?_;rintro e w' ⟨rfl,⟨nd,rfl⟩⟩;refine⟨_,rfl,?_⟩)|(go_at_call 60;(with_reducible refine(bb.calls (wrap64 (bt a0 b1)) 48 57 false _ A7.out).mono ?_);rintro e w' ⟨rfl,⟨nd,rfl⟩⟩))
    go_roundg k1
    case measure=>have:=b2.out;omega
    case rel=>exact⟨(wrap64 (b1+1)),oS,H',⟨by have:=b2.out;omega⟩,oD⟩
   rw[if_neg c9]at H;have bF:((wrap64 (bt a0 b1))==95)=false:=beq_eq_false_iff_ne.mpr c9;have bG:((wrap64 (bt a0 b1)) !=95)=true:=bne_iff_ne.mpr c9
   by_cases c10:(wrap64 (bt a0 b1))=45
   ·rw[if_pos c10]at H;have b9:((wrap64 (bt a0 b1))==45)=true:=beq_iff_eq.mpr c10;have bB:((wrap64 (bt a0 b1)) !=45)=false:=bne_eq_false_iff_eq.mpr c10;clear c10;have H':=ae.mk H;clear H;have p4:(0≤(b1:Int))=True:=oT;have q4:(b1<(a0.size:Int))=True:=oT;have b5:=iK a0 b1
    go_wp2_with (first|((with_reducible refine ai (f:=60) rfl ?_);refine ej 16 func60 (bb.calls (wrap64 (bt a0 b1)) 97 122 false _ A5.out) ?_;rintro e w' ⟨rfl,⟨nd,rfl⟩⟩;refine⟨_,rfl,?_⟩)|(go_at_call 60;(with_reducible refine(bb.calls (wrap64 (bt a0 b1)) 48 57 false _ A7.out).mono ?_);rintro e w' ⟨rfl,⟨nd,rfl⟩⟩))
    go_roundg k1
    case measure=>have:=b2.out;omega
    case rel=>exact⟨(wrap64 (b1+1)),oS,H',⟨by have:=b2.out;omega⟩,oD⟩
   rw[if_neg c10]at H;have b9:((wrap64 (bt a0 b1))==45)=false:=beq_eq_false_iff_ne.mpr c10;have bB:((wrap64 (bt a0 b1)) !=45)=true:=bne_iff_ne.mpr c10
   by_cases b4:(wrap64 (bt a0 b1))=46
   rotate_left
   ·rw[if_neg b4]at H;have bC:((wrap64 (bt a0 b1))==46)=false:=beq_eq_false_iff_ne.mpr b4;have bD:((wrap64 (bt a0 b1)) !=46)=true:=bne_iff_ne.mpr b4;obtain rfl:=Option.some.inj H;have p4:(0≤(b1:Int))=True:=oT;have q4:(b1<(a0.size:Int))=True:=oT;have b5:=iK a0 b1
    go_wp2_with (first|((with_reducible refine ai (f:=60) rfl ?_);refine ej 16 func60 (bb.calls (wrap64 (bt a0 b1)) 97 122 false _ A5.out) ?_;rintro e w' ⟨rfl,⟨nd,rfl⟩⟩;refine⟨_,rfl,?_⟩)|(go_at_call 60;(with_reducible refine(bb.calls (wrap64 (bt a0 b1)) 48 57 false _ A7.out).mono ?_);rintro e w' ⟨rfl,⟨nd,rfl⟩⟩))
    go_ret
    exact⟨oS,oD⟩
   rw[if_pos b4]at H;have bC:((wrap64 (bt a0 b1))==46)=true:=beq_iff_eq.mpr b4;have bD:((wrap64 (bt a0 b1)) !=46)=false:=bne_eq_false_iff_eq.mpr b4;clear b4;have H':=ae.mk H;clear H;have p4:(0≤(b1:Int))=True:=oT;have q4:(b1<(a0.size:Int))=True:=oT;have b5:=iK a0 b1
   go_wp2_with (first|((with_reducible refine ai (f:=60) rfl ?_);refine ej 16 func60 (bb.calls (wrap64 (bt a0 b1)) 97 122 false _ A5.out) ?_;rintro e w' ⟨rfl,⟨nd,rfl⟩⟩;refine⟨_,rfl,?_⟩)|(go_at_call 60;(with_reducible refine(bb.calls (wrap64 (bt a0 b1)) 48 57 false _ A7.out).mono ?_);rintro e w' ⟨rfl,⟨nd,rfl⟩⟩))
   go_roundg k1
   case measure=>have:=b2.out;omega
   case rel=>exact⟨(wrap64 (b1+1)),oS,H',⟨by have:=b2.out;omega⟩,oD⟩

def cZ.l0:Nat→List (eu)→List (eu)→Int→Int→Option (Bool)
 |0,_,_,_,_=>none
 |k+1,x0,x5,x6,x7=>if x7<x6 then(if 0≤x7 then(if x7<(x5.length:Int)then((aD.f k ((aw x5 x7).f0)).bind fun b1=>(if b1=true then((bw.f (((aw x5 x7).f1).size:Int) 1 16).bind fun b2=>(if b2=true then(if x7>0 then(if 0≤(wrap64 (x7-1))then(if(wrap64 (x7-1))<(x0.length:Int)then(if((Op.bytesLess (((aw x0 (wrap64 (x7-1))).f0).toList) (((aw x5 x7).f0).toList))=true)then(cZ.l0 k x0 x5 x6 (wrap64 (x7+1)))else(some false))else(none))else(none))else(cZ.l0 k x0 x5 x6 (wrap64 (x7+1))))else(some false)))else(some false)))else(none))else(none))else(some (decide ((x0.length:Int)≤4)))
def cZ.f (k:Nat) (l0:List (eu)):Option (Bool):=cZ.l0 k l0 l0 (l0.length:Int) 0
theorem cZ.calls (k:Nat) (A0:Option Addr) (c0:Nat) (l0:List (eu)) (r:Bool) (w:World) (hr0:Kd.C jl w A0 l0.length l0) (hc0:l0.length≤c0) (h:cZ.f k l0=some r):
  Calls Tryz.prog 157 #[.slice A0 l0.length c0] w fun e w'=>e= .returned (.bool r)∧Below w.heap.size w w':=by
 have d3:=underlying82;have bJ:=ae.mk hr0;have d8:=ae.mk hc0;clear hr0 hc0;have HB:=am (Below.refl w.heap.size w);unfold cZ.f at h;have H:=h;clear h;have H':=ae.mk H;clear H
 go_enter func157,ntmps157
 go_wp2
 repeat(go_quiet (fail);try go_wp2)
 go_loopg [7] k (fun kq v7 w'=>∃(b2:Int),v7= .int .i64 b2∧ae (cZ.l0 kq l0 l0 (l0.length:Int) b2=some r)∧ae (kq≤k)∧ae (Below w.heap.size w w'))
 case atStart=>exact⟨(0),oS,H',⟨Nat.le_refl _⟩,⟨oB⟩⟩
 case round=>
  clear H';obtain⟨b2,rfl,HA,bS,HB⟩:=hrel
  cases gk with
  |zero=>exact absurd HA.out (by simp[cZ.l0])
  |succ k1=>
   have H:=HA.out;clear HA;simp only[cZ.l0]at H;replace H:=jm H;rcases H with⟨bU,H⟩|⟨bU,H⟩;rotate_left
   ·obtain rfl:=Option.some.inj H
    go_wp2
    repeat(go_quiet (fail);try go_wp2)
    go_ret
    exact⟨oE,oB⟩
   obtain⟨d4,H⟩:=cU H;obtain⟨d5,H⟩:=cU H;replace H:=bA H;obtain⟨d6,A5,H⟩:=H
   try dsimp only at H
   replace H:=lr H;rcases H with⟨rfl,H⟩|⟨rfl,H⟩;rotate_left
   ·obtain rfl:=Option.some.inj H;have bQ:(0≤(b2:Int))=True:=oT;have bR:(b2<(l0.length:Int))=True:=oT;obtain⟨b7,bI,bK,bL⟩:=sd bJ HB b2 oa oa
    cases bI
    go_wp2_with (first|((with_reducible refine aj (N:=4) rfl ?_);(try(refine cl (by rfl) ?_;dsimp only));refine cO 4 #[.string (⟨#[]⟩:ByteArray),.string (⟨#[]⟩:ByteArray)] 82 ?_;intro b4 hg bW hbox hb;have bB:=am (hbox);have b8:=cN hg;replace HB:=hB HB hb;clear hb hbox hg;obtain⟨⟨_,_⟩,_,_⟩:=z2 bB)|(go_at_call 65;(with_reducible refine(aD.calls k1 ((aw l0 b2).f0) false _ A5.out).mono ?_);rintro e w' ⟨rfl,⟨nd,rfl⟩⟩))
    repeat(go_quiet (first|(go_at_call 65;(with_reducible refine(aD.calls k1 ((aw l0 b2).f0) false _ A5.out).mono ?_);rintro e w' ⟨rfl,⟨nd,rfl⟩⟩;exact oQ));try go_wp2_with (first|((with_reducible refine aj (N:=4) rfl ?_);(try(refine cl (by rfl) ?_;dsimp only));refine cO 4 #[.string (⟨#[]⟩:ByteArray),.string (⟨#[]⟩:ByteArray)] 82 ?_;intro b4 hg bW hbox hb;have bB:=am (hbox);have b8:=cN hg;replace HB:=hB HB hb;clear hb hbox hg;obtain⟨⟨_,_⟩,_,_⟩:=z2 bB)|(go_at_call 65;(with_reducible refine(aD.calls k1 ((aw l0 b2).f0) false _ A5.out).mono ?_);rintro e w' ⟨rfl,⟨nd,rfl⟩⟩)))
    go_ret
    exact⟨oE,oB⟩
   replace H:=bA H;obtain⟨d7,A7,H⟩:=H
   try dsimp only at H
   replace H:=lr H;rcases H with⟨rfl,H⟩|⟨rfl,H⟩;rotate_left
   ·obtain rfl:=Option.some.inj H;have bQ:(0≤(b2:Int))=True:=oT;have bR:(b2<(l0.length:Int))=True:=oT;obtain⟨b7,bI,bK,bL⟩:=sd bJ HB b2 oa oa
    cases bI
    go_wp2_with (first|((with_reducible refine aj (N:=4) rfl ?_);(try(refine cl (by rfl) ?_;dsimp only));refine cO 4 #[.string (⟨#[]⟩:ByteArray),.string (⟨#[]⟩:ByteArray)] 82 ?_;intro b4 hg bX hbox hb;have bB:=am (hbox);have b8:=cN hg;replace HB:=hB HB hb;clear hb hbox hg;obtain⟨⟨_,_⟩,_,_⟩:=z2 bB)|(go_at_call 65;(with_reducible refine(aD.calls k1 ((aw l0 b2).f0) true _ A5.out).mono ?_);rintro e w' ⟨rfl,⟨nd,rfl⟩⟩)|(go_at_call 61;(with_reducible refine(bw.calls (((aw l0 b2).f1).size:Int) 1 16 false _ A7.out).mono ?_);rintro e w' ⟨rfl,⟨nd,rfl⟩⟩))
    repeat(go_quiet (first|(go_at_call 65;(with_reducible refine(aD.calls k1 ((aw l0 b2).f0) true _ A5.out).mono ?_);rintro e w' ⟨rfl,⟨nd,rfl⟩⟩;exact oQ)|(go_at_call 61;(with_reducible refine(bw.calls (((aw l0 b2).f1).size:Int) 1 16 false _ A7.out).mono ?_);rintro e w' ⟨rfl,⟨nd,rfl⟩⟩;exact oQ));try go_wp2_with (first|((with_reducible refine aj (N:=4) rfl ?_);(try(refine cl (by rfl) ?_;dsimp only));refine cO 4 #[.string (⟨#[]⟩:ByteArray),.string (⟨#[]⟩:ByteArray)] 82 ?_;intro b4 hg bX hbox hb;have bB:=am (hbox);have b8:=cN hg;replace HB:=hB HB hb;clear hb hbox hg;obtain⟨⟨_,_⟩,_,_⟩:=z2 bB)|(go_at_call 65;(with_reducible refine(aD.calls k1 ((aw l0 b2).f0) true _ A5.out).mono ?_);rintro e w' ⟨rfl,⟨nd,rfl⟩⟩)|(go_at_call 61;(with_reducible refine(bw.calls (((aw l0 b2).f1).size:Int) 1 16 false _ A7.out).mono ?_);rintro e w' ⟨rfl,⟨nd,rfl⟩⟩)))
    go_ret
    exact⟨oE,oB⟩
   replace H:=AA H;rcases H with⟨bV,H⟩|⟨bV,H⟩;rotate_left
   ·have H':=ae.mk H;clear H;have bQ:(0≤(b2:Int))=True:=oT;have bR:(b2<(l0.length:Int))=True:=oT;obtain⟨b7,bI,bK,bL⟩:=sd bJ HB b2 oa oa
    cases bI
    go_wp2_with (first|((with_reducible refine aj (N:=4) rfl ?_);(try(refine cl (by rfl) ?_;dsimp only));refine cO 4 #[.string (⟨#[]⟩:ByteArray),.string (⟨#[]⟩:ByteArray)] 82 ?_;intro b4 hg bY hbox hb;have bB:=am (hbox);have b8:=cN hg;replace HB:=hB HB hb;clear hb hbox hg;obtain⟨⟨_,_⟩,_,_⟩:=z2 bB)|(go_at_call 65;(with_reducible refine(aD.calls k1 ((aw l0 b2).f0) true _ A5.out).mono ?_);rintro e w' ⟨rfl,⟨nd,rfl⟩⟩)|(go_at_call 61;(with_reducible refine(bw.calls (((aw l0 b2).f1).size:Int) 1 16 true _ A7.out).mono ?_);rintro e w' ⟨rfl,⟨nd,rfl⟩⟩))
    repeat(go_quiet (first|(go_at_call 65;(with_reducible refine(aD.calls k1 ((aw l0 b2).f0) true _ A5.out).mono ?_);rintro e w' ⟨rfl,⟨nd,rfl⟩⟩;exact oQ)|(go_at_call 61;(with_reducible refine(bw.calls (((aw l0 b2).f1).size:Int) 1 16 true _ A7.out).mono ?_);rintro e w' ⟨rfl,⟨nd,rfl⟩⟩;exact oQ));try go_wp2_with (first|((with_reducible refine aj (N:=4) rfl ?_);(try(refine cl (by rfl) ?_;dsimp only));refine cO 4 #[.string (⟨#[]⟩:ByteArray),.string (⟨#[]⟩:ByteArray)] 82 ?_;intro b4 hg bY hbox hb;have bB:=am (hbox);have b8:=cN hg;replace HB:=hB HB hb;clear hb hbox hg;obtain⟨⟨_,_⟩,_,_⟩:=z2 bB)|(go_at_call 65;(with_reducible refine(aD.calls k1 ((aw l0 b2).f0) true _ A5.out).mono ?_);rintro e w' ⟨rfl,⟨nd,rfl⟩⟩)|(go_at_call 61;(with_reducible refine(bw.calls (((aw l0 b2).f1).size:Int) 1 16 true _ A7.out).mono ?_);rintro e w' ⟨rfl,⟨nd,rfl⟩⟩)))
    go_roundg k1
    case measure=>have:=bS.out;omega
    case rel=>exact⟨(wrap64 (b2+1)),oS,H',⟨by have:=bS.out;omega⟩,⟨oB⟩⟩
   obtain⟨b9,bM⟩:∃j_:Int,(wrap64 (b2-1))=j_:=⟨_,rfl⟩
   replace H:(if 0≤(b9)then(if(b9)<(l0.length:Int)then(if((Op.bytesLess (((aw l0 (b9)).f0).toList) (((aw l0 b2).f0).toList))=true)then(cZ.l0 k1 l0 l0 (l0.length:Int) (wrap64 (b2+1)))else(some false))else(none))else(none))=some r:=by first|(rw[bM]at H;exact H)|(simp only[bM]at H⊢;exact H)
   (try rw[bM]at A5)
   (try rw[bM]at A7)
   have bZ:(IntKind.i64.wrap (b2-1))=b9:=(kK _).trans bM;obtain⟨d1,H⟩:=cU H;obtain⟨d2,H⟩:=cU H
   by_cases bP:((Op.bytesLess (((aw l0 (b9)).f0).toList) (((aw l0 b2).f0).toList))=true)
   ·rw[if_pos bP]at H;have bT:(Op.bytesLess (((aw l0 (b9)).f0).toList) (((aw l0 b2).f0).toList))=true:=bP;clear bP;have H':=ae.mk H;clear H;have bQ:(0≤(b2:Int))=True:=oT;have bR:(b2<(l0.length:Int))=True:=oT;obtain⟨b7,bI,bK,bL⟩:=sd bJ HB b2 oa oa
    cases bI
    go_wp2_with (first|((with_reducible refine aj (N:=4) rfl ?_);(try(refine cl (by rfl) ?_;dsimp only));refine cO 4 #[.string (⟨#[]⟩:ByteArray),.string (⟨#[]⟩:ByteArray)] 82 ?_;intro b4 hg bN hbox hb;have bB:=am (hbox);have b8:=cN hg;replace HB:=hB HB hb;clear hb hbox hg;obtain⟨⟨_,_⟩,_,_⟩:=z2 bB)|(go_at_call 65;(with_reducible refine(aD.calls k1 ((aw l0 b2).f0) true _ A5.out).mono ?_);rintro e w' ⟨rfl,⟨nd,rfl⟩⟩)|(go_at_call 61;(with_reducible refine(bw.calls (((aw l0 b2).f1).size:Int) 1 16 true _ A7.out).mono ?_);rintro e w' ⟨rfl,⟨nd,rfl⟩⟩;have bD:(0≤((b9):Int))=True:=oT;have bE:((b9)<(l0.length:Int))=True:=oT;obtain⟨bC,bF,b1,b3⟩:=ep bJ.out (b9) oa oa;obtain rfl:b7=bC:=(by injection bF);have b5:b7.block≠b4:=rQ b1 b8;have b6:b7.block≠b4:=rQ b1 b8;replace b1:=cB HB b1;replace b3:=cB HB b3;replace b1:=mq 0 (.string ((aw l0 b2).f0)) b5 b1;replace b3:=mq 0 (.string ((aw l0 b2).f0)) b5 b3;replace b1:=mq 1 (.string ((aw l0 b2).f1)) b6 b1;replace b3:=mq 1 (.string ((aw l0 b2).f1)) b6 b3;(try have bG:=fun(n_:Nat)=>(show((((bN.drewN n_).setCell ⟨b4,0,none⟩ (.string ((aw l0 b2).f0))).setCell ⟨b4,1,none⟩ (.string ((aw l0 b2).f1)))).cell? _=some _ from b1));(try have bH:=fun(n_:Nat)=>(show((((bN.drewN n_).setCell ⟨b4,0,none⟩ (.string ((aw l0 b2).f0))).setCell ⟨b4,1,none⟩ (.string ((aw l0 b2).f1)))).cell? _=some _ from b3));clear b5;clear b6))
    try(have bD:0≤((b9):Int):=oa;have bE:(b9)<(l0.length:Int):=oa;obtain⟨bC,bF,b1,b3⟩:=ep bJ.out (b9) bD bE;obtain rfl:b7=bC:=(by injection bF);have b5:b7.block≠b4:=rQ b1 b8;have b6:b7.block≠b4:=rQ b1 b8;replace b1:=cB HB b1;replace b3:=cB HB b3;replace b1:=mq 0 (.string ((aw l0 b2).f0)) b5 b1;replace b3:=mq 0 (.string ((aw l0 b2).f0)) b5 b3;replace b1:=mq 1 (.string ((aw l0 b2).f1)) b6 b1;replace b3:=mq 1 (.string ((aw l0 b2).f1)) b6 b3;(try have bG:=fun(n_:Nat)=>(show((((bN.drewN n_).setCell ⟨b4,0,none⟩ (.string ((aw l0 b2).f0))).setCell ⟨b4,1,none⟩ (.string ((aw l0 b2).f1)))).cell? _=some _ from b1));(try have bH:=fun(n_:Nat)=>(show((((bN.drewN n_).setCell ⟨b4,0,none⟩ (.string ((aw l0 b2).f0))).setCell ⟨b4,1,none⟩ (.string ((aw l0 b2).f1)))).cell? _=some _ from b3));clear b5;clear b6;replace bD:=eq_true bD;replace bE:=eq_true bE)
    repeat(go_quiet (first|(go_at_call 65;(with_reducible refine(aD.calls k1 ((aw l0 b2).f0) true _ A5.out).mono ?_);rintro e w' ⟨rfl,⟨nd,rfl⟩⟩;exact oQ)|(go_at_call 61;(with_reducible refine(bw.calls (((aw l0 b2).f1).size:Int) 1 16 true _ A7.out).mono ?_);rintro e w' ⟨rfl,⟨nd,rfl⟩⟩;exact oQ));try go_wp2_with (first|((with_reducible refine aj (N:=4) rfl ?_);(try(refine cl (by rfl) ?_;dsimp only));refine cO 4 #[.string (⟨#[]⟩:ByteArray),.string (⟨#[]⟩:ByteArray)] 82 ?_;intro b4 hg bN hbox hb;have bB:=am (hbox);have b8:=cN hg;replace HB:=hB HB hb;clear hb hbox hg;obtain⟨⟨_,_⟩,_,_⟩:=z2 bB)|(go_at_call 65;(with_reducible refine(aD.calls k1 ((aw l0 b2).f0) true _ A5.out).mono ?_);rintro e w' ⟨rfl,⟨nd,rfl⟩⟩)|(go_at_call 61;(with_reducible refine(bw.calls (((aw l0 b2).f1).size:Int) 1 16 true _ A7.out).mono ?_);rintro e w' ⟨rfl,⟨nd,rfl⟩⟩;have bD:(0≤((b9):Int))=True:=oT;have bE:((b9)<(l0.length:Int))=True:=oT;obtain⟨bC,bF,b1,b3⟩:=ep bJ.out (b9) oa oa;obtain rfl:b7=bC:=(by injection bF);have b5:b7.block≠b4:=rQ b1 b8;have b6:b7.block≠b4:=rQ b1 b8;replace b1:=cB HB b1;replace b3:=cB HB b3;replace b1:=mq 0 (.string ((aw l0 b2).f0)) b5 b1;replace b3:=mq 0 (.string ((aw l0 b2).f0)) b5 b3;replace b1:=mq 1 (.string ((aw l0 b2).f1)) b6 b1;replace b3:=mq 1 (.string ((aw l0 b2).f1)) b6 b3;(try have bG:=fun(n_:Nat)=>(show((((bN.drewN n_).setCell ⟨b4,0,none⟩ (.string ((aw l0 b2).f0))).setCell ⟨b4,1,none⟩ (.string ((aw l0 b2).f1)))).cell? _=some _ from b1));(try have bH:=fun(n_:Nat)=>(show((((bN.drewN n_).setCell ⟨b4,0,none⟩ (.string ((aw l0 b2).f0))).setCell ⟨b4,1,none⟩ (.string ((aw l0 b2).f1)))).cell? _=some _ from b3));clear b5;clear b6)))
    go_roundg k1
    case measure=>have:=bS.out;omega
    case rel=>exact⟨(wrap64 (b2+1)),oS,H',⟨by have:=bS.out;omega⟩,⟨oB⟩⟩
   rw[if_neg bP]at H
   have bT:(Op.bytesLess (((aw l0 (b9)).f0).toList) (((aw l0 b2).f0).toList))=false:=by simpa using bP
   clear bP;obtain rfl:=Option.some.inj H;have bQ:(0≤(b2:Int))=True:=oT;have bR:(b2<(l0.length:Int))=True:=oT;obtain⟨b7,bI,bK,bL⟩:=sd bJ HB b2 oa oa
   cases bI
   go_wp2_with (first|((with_reducible refine aj (N:=4) rfl ?_);(try(refine cl (by rfl) ?_;dsimp only));refine cO 4 #[.string (⟨#[]⟩:ByteArray),.string (⟨#[]⟩:ByteArray)] 82 ?_;intro b4 hg bO hbox hb;have bB:=am (hbox);have b8:=cN hg;replace HB:=hB HB hb;clear hb hbox hg;obtain⟨⟨_,_⟩,_,_⟩:=z2 bB)|(go_at_call 65;(with_reducible refine(aD.calls k1 ((aw l0 b2).f0) true _ A5.out).mono ?_);rintro e w' ⟨rfl,⟨nd,rfl⟩⟩)|(go_at_call 61;(with_reducible refine(bw.calls (((aw l0 b2).f1).size:Int) 1 16 true _ A7.out).mono ?_);rintro e w' ⟨rfl,⟨nd,rfl⟩⟩;have bD:(0≤((b9):Int))=True:=oT;have bE:((b9)<(l0.length:Int))=True:=oT;obtain⟨bC,bF,b1,b3⟩:=ep bJ.out (b9) oa oa;obtain rfl:b7=bC:=(by injection bF);have b5:b7.block≠b4:=rQ b1 b8;have b6:b7.block≠b4:=rQ b1 b8;replace b1:=cB HB b1;replace b3:=cB HB b3;replace b1:=mq 0 (.string ((aw l0 b2).f0)) b5 b1;replace b3:=mq 0 (.string ((aw l0 b2).f0)) b5 b3;replace b1:=mq 1 (.string ((aw l0 b2).f1)) b6 b1;replace b3:=mq 1 (.string ((aw l0 b2).f1)) b6 b3;(try have bG:=fun(n_:Nat)=>(show((((bO.drewN n_).setCell ⟨b4,0,none⟩ (.string ((aw l0 b2).f0))).setCell ⟨b4,1,none⟩ (.string ((aw l0 b2).f1)))).cell? _=some _ from b1));(try have bH:=fun(n_:Nat)=>(show((((bO.drewN n_).setCell ⟨b4,0,none⟩ (.string ((aw l0 b2).f0))).setCell ⟨b4,1,none⟩ (.string ((aw l0 b2).f1)))).cell? _=some _ from b3));clear b5;clear b6))
   try(have bD:0≤((b9):Int):=oa;have bE:(b9)<(l0.length:Int):=oa;obtain⟨bC,bF,b1,b3⟩:=ep bJ.out (b9) bD bE;obtain rfl:b7=bC:=(by injection bF);have b5:b7.block≠b4:=rQ b1 b8;have b6:b7.block≠b4:=rQ b1 b8;replace b1:=cB HB b1;replace b3:=cB HB b3;replace b1:=mq 0 (.string ((aw l0 b2).f0)) b5 b1;replace b3:=mq 0 (.string ((aw l0 b2).f0)) b5 b3;replace b1:=mq 1 (.string ((aw l0 b2).f1)) b6 b1;replace b3:=mq 1 (.string ((aw l0 b2).f1)) b6 b3;(try have bG:=fun(n_:Nat)=>(show((((bO.drewN n_).setCell ⟨b4,0,none⟩ (.string ((aw l0 b2).f0))).setCell ⟨b4,1,none⟩ (.string ((aw l0 b2).f1)))).cell? _=some _ from b1));(try have bH:=fun(n_:Nat)=>(show((((bO.drewN n_).setCell ⟨b4,0,none⟩ (.string ((aw l0 b2).f0))).setCell ⟨b4,1,none⟩ (.string ((aw l0 b2).f1)))).cell? _=some _ from b3));clear b5;clear b6;replace bD:=eq_true bD;replace bE:=eq_true bE)
   repeat(go_quiet (first|(go_at_call 65;(with_reducible refine(aD.calls k1 ((aw l0 b2).f0) true _ A5.out).mono ?_);rintro e w' ⟨rfl,⟨nd,rfl⟩⟩;exact oQ)|(go_at_call 61;(with_reducible refine(bw.calls (((aw l0 b2).f1).size:Int) 1 16 true _ A7.out).mono ?_);rintro e w' ⟨rfl,⟨nd,rfl⟩⟩;exact oQ));try go_wp2_with (first|((with_reducible refine aj (N:=4) rfl ?_);(try(refine cl (by rfl) ?_;dsimp only));refine cO 4 #[.string (⟨#[]⟩:ByteArray),.string (⟨#[]⟩:ByteArray)] 82 ?_;intro b4 hg bO hbox hb;have bB:=am (hbox);have b8:=cN hg;replace HB:=hB HB hb;clear hb hbox hg;obtain⟨⟨_,_⟩,_,_⟩:=z2 bB)|(go_at_call 65;(with_reducible refine(aD.calls k1 ((aw l0 b2).f0) true _ A5.out).mono ?_);rintro e w' ⟨rfl,⟨nd,rfl⟩⟩)|(go_at_call 61;(with_reducible refine(bw.calls (((aw l0 b2).f1).size:Int) 1 16 true _ A7.out).mono ?_);rintro e w' ⟨rfl,⟨nd,rfl⟩⟩;have bD:(0≤((b9):Int))=True:=oT;have bE:((b9)<(l0.length:Int))=True:=oT;obtain⟨bC,bF,b1,b3⟩:=ep bJ.out (b9) oa oa;obtain rfl:b7=bC:=(by injection bF);have b5:b7.block≠b4:=rQ b1 b8;have b6:b7.block≠b4:=rQ b1 b8;replace b1:=cB HB b1;replace b3:=cB HB b3;replace b1:=mq 0 (.string ((aw l0 b2).f0)) b5 b1;replace b3:=mq 0 (.string ((aw l0 b2).f0)) b5 b3;replace b1:=mq 1 (.string ((aw l0 b2).f1)) b6 b1;replace b3:=mq 1 (.string ((aw l0 b2).f1)) b6 b3;(try have bG:=fun(n_:Nat)=>(show((((bO.drewN n_).setCell ⟨b4,0,none⟩ (.string ((aw l0 b2).f0))).setCell ⟨b4,1,none⟩ (.string ((aw l0 b2).f1)))).cell? _=some _ from b1));(try have bH:=fun(n_:Nat)=>(show((((bO.drewN n_).setCell ⟨b4,0,none⟩ (.string ((aw l0 b2).f0))).setCell ⟨b4,1,none⟩ (.string ((aw l0 b2).f1)))).cell? _=some _ from b3));clear b5;clear b6)))
   go_ret
   exact⟨by first|rfl|(simp[ee,ef]<;>rfl)|(simp only[←bM];first|rfl|(simp[ee,ef]<;>rfl))|(simp[*,ee,ef]<;>rfl),oB⟩

def eE.l0:Nat→List (ky)→List (cA)→Int→Option ((List (cA)))
 |0,_,_,_=>none
 |k+1,x0,x3,x4=>if x4<(x0.length:Int)then(if 0≤x4 then((lI.f ((iJ x0 x4).f0) ((iJ x0 x4).f1)).bind fun b1=>(if x4<(x3.length:Int)then(eE.l0 k x0 (x3.set (x4:Int).toNat (⟨b1.1,b1.2⟩:cA)) (wrap64 (x4+1)))else(none)))else(none))else(some x3)
def eE.f (k:Nat) (l0:List (ky)):Option ((List (cA))):=if 0≤(l0.length:Int)then(if((l0.length:Int):Int).toNat≤11728124029610 then(eE.l0 k l0 (List.replicate ((l0.length:Int):Int).toNat z75) 0)else(none))else(none)
theorem eE.calls (k:Nat) (A0:Option Addr) (c0:Nat) (l0:List (ky)) (r:List (cA)) (w:World) (hr0:Kd.C rI w A0 l0.length l0) (hc0:l0.length≤c0) (h:eE.f k l0=some r):
  Calls Tryz.prog 111 #[.slice A0 l0.length c0] w fun e w'=>∃jx:Value,e= .returned (jx)∧Kd.R fI 75 w' w.heap.size (fun _=>True) jx r∧Below w.heap.size w w':=by
 have dG:=underlying131;have dI:=underlying75;have dB:=ae.mk hr0;have dT:=ae.mk hc0;clear hr0 hc0;have HB:=am (Below.refl w.heap.size w);unfold eE.f at h;have H:=h;clear h;obtain⟨c2,H⟩:=lC H;have d3:=eq_true c2;have d4:decide (0≤(l0.length:Int))=true:=decide_eq_true c2;clear c2;obtain⟨c3,H⟩:=lC H;have dJ:=eq_true c3;have dK:decide (((l0.length:Int):Int).toNat≤11728124029610)=true:=decide_eq_true c3;clear c3;obtain⟨bI,da⟩:∃y_:List (cA),y_=(List.replicate ((l0.length:Int):Int).toNat z75):=⟨_,rfl⟩;replace H:(eE.l0 k l0 bI 0)=some r:=oY;have bG:=ae.mk da;clear da;have H':=ae.mk H;clear H
 go_enter func111,ntmps111
 go_wp2_with (first|((with_reducible refine aj (N:=7) rfl ?_);refine Kd.ur fI _ 75 rfl (N:=7) rfl 55 _ _ rfl (l0.length:Int) rfl rfl underlying55 (.agg #[(.string ⟨#[]⟩),(.int .i64 0)]) 24 pX rfl (by decide) (by omega) z75 (ok:=fun _=>True) (fY:=fun _=>True) (lh _ _ _ z75) (fun _ hk=>hk) trivial oa (Nat.le_trans (Nat.mul_le_mul_right _ (oa:(l0.length:Int).toNat≤11728124029610)) (by omega)) (Below.refl _ _) (Nat.le_refl _) ?_;intro d5 w4 bD hb kX ek;clear kX ek;(first|rw[←bG.out]at bD|(simp only[Int.reduceToNat]at bD;rw[←bG.out]at bD));have bY:=am (Kd.an bD (ah oB));replace HB:=hB HB hb;clear hb bD))
 go_loopg [4] k (fun kq v4 w'=>∃(b2:List (cA)) (b1:Int),v4= .int .i64 b1∧ae (eE.l0 kq l0 b2 b1=some r)∧ae (kq≤k)∧ae (Kd.R fI 75 w' w.heap.size (fun _=>True) d5 b2)∧ae (Below w.heap.size w w'))
 case atStart=>exact⟨(bI),(0),oS,H',⟨Nat.le_refl _⟩,⟨oR bY⟩,⟨oB⟩⟩
 case round=>
  clear H'
  try clear c2
  try clear d3
  try clear d4
  try clear c3
  obtain⟨b2,b1,rfl,HA,d2,b3,HB⟩:=hrel
  cases gk with
  |zero=>exact absurd HA.out (by simp[eE.l0])
  |succ k1=>
   have H:=HA.out;clear HA;simp only[eE.l0]at H;replace H:=jm H;rcases H with⟨d6,H⟩|⟨d6,H⟩;rotate_left
   ·obtain rfl:=Option.some.inj H
    go_wp2
    go_ret
    exact⟨_,oE,oR b3,oB⟩
   obtain⟨dL,H⟩:=cU H;replace H:=bA H;obtain⟨⟨b5,b6⟩,A8,H⟩:=H
   try dsimp only at H
   obtain⟨dM,H⟩:=cU H;obtain⟨bE,da⟩:∃y_:List (cA),y_=(b2.set (b1:Int).toNat (⟨b5,b6⟩:cA)):=⟨_,rfl⟩;replace H:(eE.l0 k1 l0 bE (wrap64 (b1+1)))=some r:=oY;have bZ:=ae.mk da;clear da;have H':=ae.mk H;clear H;have dN:(0≤(b1:Int))=True:=oT;have dO:(b1<(l0.length:Int))=True:=oT;obtain⟨dH,d7,d9,dA⟩:=ui dB HB b1 oa oa
   cases d7
   go_wp2_with (first|((with_reducible refine ai (f:=135) rfl ?_);refine ej 20 func135 (lI.calls ((iJ l0 b1).f0) ((iJ l0 b1).f1) b5 b6 _ A8.out) ?_;rintro e b8 ⟨rfl,hb⟩;refine⟨_,rfl,?_⟩;replace b3:=ei b3 hb;replace HB:=hB HB hb;(try clear hk);have bJ:0≤(b1:Int):=oa;have bK:(b1:Int)<((b2.length:Int):Int):=oa;obtain⟨b4,bL,bM,bN,d8,dP,bO⟩:=Kd.ll b3.out (by omega);(first|cases bM|(injection bM with iF oc od;(first|subst iF|(injection iF with iF;subst iF));subst od;clear oc));have bP:=ae.mk bN;have dQ:=ae.mk bO;clear bN d8 bO;obtain⟨dR,d1,bQ,b9,bB⟩:=Kd.i_ b3.out z75 (b1:Int) bJ bK;obtain rfl:=iw bQ;have dC:b8.cell? ⟨b4,(b1:Int).toNat*2,none⟩=some (.string ((al b2 b1).f0)):=b9 0 _ rfl;have dD:b8.cell? ⟨b4,(b1:Int).toNat*2+1,none⟩=some (.int .i64 ((al b2 b1).f1)):=b9 1 _ rfl;have dE:b8.frozen? ⟨b4,(b1:Int).toNat*2,none⟩=false:=bB 0;have dF:b8.frozen? ⟨b4,(b1:Int).toNat*2+1,none⟩=false:=bB 1;clear d1 b9 bB bQ;replace bJ:=eq_true bJ;replace bK:=eq_true bK;have bR:=am (show Kd.R fI 75 b8 w.heap.size (fun _=>True) (.slice (some ⟨b4,0,none⟩) b2.length bL) b2 from(oR b3));obtain⟨dS,bH,bS,b7,bC⟩:=Kd.i_ bR.out z75 (b1:Int) oa (by have h_:(b1:Int)<((b2.length:Int):Int):=oa;first|exact h_|(have e_:=(Kd.bd b3.out).1;omega)|simpa using h_);obtain rfl:=iw bS;have bF:=Kd.ow bR.out (b1:Int) oa (by have h_:(b1:Int)<((b2.length:Int):Int):=oa;first|exact h_|(have e_:=(Kd.bd b3.out).1;omega)|simpa using h_) (seg:=[.string b5,.int .i64 b6]) (j:=0) bH b7 (show 2≤2 from by decide) (x':=(⟨b5,b6⟩:cA)) (lh _ _ _ (⟨b5,b6⟩:cA)) (fun _ hk=>hk);have bT:=b7 0 _ rfl;(try simp only[show(fI).sz=2 from rfl,Nat.mul_one,Nat.add_zero]at bT);have bU:=bC 0;(try simp only[show(fI).sz=2 from rfl,Nat.mul_one,Nat.add_zero]at bU);have bV:=b7 1 _ rfl;(try simp only[show(fI).sz=2 from rfl,Nat.mul_one,Nat.add_zero]at bV);have bW:=bC 1;(try simp only[show(fI).sz=2 from rfl,Nat.mul_one,Nat.add_zero]at bW);clear bH b7 bC bS)|((with_reducible refine fu (t:=75) (p:=21) rfl ?_);refine fj (t:=75) (p:=21) (v:= ?xu) (w1:=((b8.setCell ⟨b4,(b1:Int).toNat*2,none⟩ (.string b5)).setCell ⟨b4,(b1:Int).toNat*2+1,none⟩ (.int .i64 b6))) ?hg ?ho ?hn ?hr ?_;(case ho=>rfl);(case hg=>rfl);(case hn=>rfl);(case hr=>first|(go_simp;done)|(go_simp;rfl));intro bX hw;have hg:b8.grownBy bX (some b4):=(by rw[hw];exact bF.2);have ny:Kd.R fI 75 bX w.heap.size (fun _=>True) (.slice (some ⟨b4,0,none⟩) b2.length bL) bE:=(by rw[hw,bZ.out];exact bF.1);clear bF;replace b3:=am (ny);replace HB:=am ((by rw[hw];exact aI (aI (HB.out) bP.out) bP.out:Below w.heap.size w bX));clear hg hw ny))
   go_roundg k1
   case measure=>have:=d2.out;omega
   case rel=>exact⟨(bE),(wrap64 (b1+1)),oS,H',⟨by have:=d2.out;omega⟩,⟨oR b3⟩,⟨oB⟩⟩

def eb.l0:Nat→List (kz)→List (eu)→Int→Option ((List (eu)))
 |0,_,_,_=>none
 |k+1,x0,x3,x4=>if x4<(x0.length:Int)then(if 0≤x4 then((kZ.f ((iB x0 x4).f0) ((iB x0 x4).f1)).bind fun b1=>(if x4<(x3.length:Int)then(eb.l0 k x0 (x3.set (x4:Int).toNat (⟨b1.1,b1.2⟩:eu)) (wrap64 (x4+1)))else(none)))else(none))else(some x3)
def eb.f (k:Nat) (l0:List (kz)):Option ((List (eu))):=if 0≤(l0.length:Int)then(if((l0.length:Int):Int).toNat≤8796093022208 then(eb.l0 k l0 (List.replicate ((l0.length:Int):Int).toNat z82) 0)else(none))else(none)
theorem eb.calls (k:Nat) (A0:Option Addr) (c0:Nat) (l0:List (kz)) (r:List (eu)) (w:World) (hr0:Kd.C rJ w A0 l0.length l0) (hc0:l0.length≤c0) (h:eb.f k l0=some r):
  Calls Tryz.prog 112 #[.slice A0 l0.length c0] w fun e w'=>∃jx:Value,e= .returned (jx)∧Kd.R jl 82 w' w.heap.size (fun _=>True) jx r∧Below w.heap.size w w':=by
 have dG:=underlying133;have dI:=underlying82;have dB:=ae.mk hr0;have dT:=ae.mk hc0;clear hr0 hc0;have HB:=am (Below.refl w.heap.size w);unfold eb.f at h;have H:=h;clear h;obtain⟨c2,H⟩:=lC H;have d3:=eq_true c2;have d4:decide (0≤(l0.length:Int))=true:=decide_eq_true c2;clear c2;obtain⟨c3,H⟩:=lC H;have dJ:=eq_true c3;have dK:decide (((l0.length:Int):Int).toNat≤8796093022208)=true:=decide_eq_true c3;clear c3;obtain⟨bI,da⟩:∃y_:List (eu),y_=(List.replicate ((l0.length:Int):Int).toNat z82):=⟨_,rfl⟩;replace H:(eb.l0 k l0 bI 0)=some r:=oY;have bG:=ae.mk da;clear da;have H':=ae.mk H;clear H
 go_enter func112,ntmps112
 go_wp2_with (first|((with_reducible refine aj (N:=7) rfl ?_);refine Kd.ur jl _ 82 rfl (N:=7) rfl 56 _ _ rfl (l0.length:Int) rfl rfl underlying56 (.agg #[(.string ⟨#[]⟩),(.string ⟨#[]⟩)]) 32 wZ rfl (by decide) (by omega) z82 (ok:=fun _=>True) (fY:=fun _=>True) (rT _ _ _ z82) (fun _ hk=>hk) trivial oa (Nat.le_trans (Nat.mul_le_mul_right _ (oa:(l0.length:Int).toNat≤8796093022208)) (by omega)) (Below.refl _ _) (Nat.le_refl _) ?_;intro d5 w4 bD hb kX ek;clear kX ek;(first|rw[←bG.out]at bD|(simp only[Int.reduceToNat]at bD;rw[←bG.out]at bD));have bY:=am (Kd.an bD (ah oB));replace HB:=hB HB hb;clear hb bD))
 go_loopg [4] k (fun kq v4 w'=>∃(b2:List (eu)) (b1:Int),v4= .int .i64 b1∧ae (eb.l0 kq l0 b2 b1=some r)∧ae (kq≤k)∧ae (Kd.R jl 82 w' w.heap.size (fun _=>True) d5 b2)∧ae (Below w.heap.size w w'))
 case atStart=>exact⟨(bI),(0),oS,H',⟨Nat.le_refl _⟩,⟨oR bY⟩,⟨oB⟩⟩
 case round=>
  clear H'
  try clear c2
  try clear d3
  try clear d4
  try clear c3
  obtain⟨b2,b1,rfl,HA,d2,b3,HB⟩:=hrel
  cases gk with
  |zero=>exact absurd HA.out (by simp[eb.l0])
  |succ k1=>
   have H:=HA.out;clear HA;simp only[eb.l0]at H;replace H:=jm H;rcases H with⟨d6,H⟩|⟨d6,H⟩;rotate_left
   ·obtain rfl:=Option.some.inj H
    go_wp2
    go_ret
    exact⟨_,oE,oR b3,oB⟩
   obtain⟨dL,H⟩:=cU H;replace H:=bA H;obtain⟨⟨b5,b6⟩,A8,H⟩:=H
   try dsimp only at H
   obtain⟨dM,H⟩:=cU H;obtain⟨bE,da⟩:∃y_:List (eu),y_=(b2.set (b1:Int).toNat (⟨b5,b6⟩:eu)):=⟨_,rfl⟩;replace H:(eb.l0 k1 l0 bE (wrap64 (b1+1)))=some r:=oY;have bZ:=ae.mk da;clear da;have H':=ae.mk H;clear H;have dN:(0≤(b1:Int))=True:=oT;have dO:(b1<(l0.length:Int))=True:=oT;obtain⟨dH,d7,d9,dA⟩:=uj dB HB b1 oa oa
   cases d7
   go_wp2_with (first|((with_reducible refine ai (f:=136) rfl ?_);refine ej 20 func136 (kZ.calls ((iB l0 b1).f0) ((iB l0 b1).f1) b5 b6 _ A8.out) ?_;rintro e b8 ⟨rfl,hb⟩;refine⟨_,rfl,?_⟩;replace b3:=ei b3 hb;replace HB:=hB HB hb;(try clear hk);have bJ:0≤(b1:Int):=oa;have bK:(b1:Int)<((b2.length:Int):Int):=oa;obtain⟨b4,bL,bM,bN,d8,dP,bO⟩:=Kd.ll b3.out (by omega);(first|cases bM|(injection bM with iF oc od;(first|subst iF|(injection iF with iF;subst iF));subst od;clear oc));have bP:=ae.mk bN;have dQ:=ae.mk bO;clear bN d8 bO;obtain⟨dR,d1,bQ,b9,bB⟩:=Kd.i_ b3.out z82 (b1:Int) bJ bK;obtain rfl:=mr bQ;have dC:b8.cell? ⟨b4,(b1:Int).toNat*2,none⟩=some (.string ((aw b2 b1).f0)):=b9 0 _ rfl;have dD:b8.cell? ⟨b4,(b1:Int).toNat*2+1,none⟩=some (.string ((aw b2 b1).f1)):=b9 1 _ rfl;have dE:b8.frozen? ⟨b4,(b1:Int).toNat*2,none⟩=false:=bB 0;have dF:b8.frozen? ⟨b4,(b1:Int).toNat*2+1,none⟩=false:=bB 1;clear d1 b9 bB bQ;replace bJ:=eq_true bJ;replace bK:=eq_true bK;have bR:=am (show Kd.R jl 82 b8 w.heap.size (fun _=>True) (.slice (some ⟨b4,0,none⟩) b2.length bL) b2 from(oR b3));obtain⟨dS,bH,bS,b7,bC⟩:=Kd.i_ bR.out z82 (b1:Int) oa (by have h_:(b1:Int)<((b2.length:Int):Int):=oa;first|exact h_|(have e_:=(Kd.bd b3.out).1;omega)|simpa using h_);obtain rfl:=mr bS;have bF:=Kd.ow bR.out (b1:Int) oa (by have h_:(b1:Int)<((b2.length:Int):Int):=oa;first|exact h_|(have e_:=(Kd.bd b3.out).1;omega)|simpa using h_) (seg:=[.string b5,.string b6]) (j:=0) bH b7 (show 2≤2 from by decide) (x':=(⟨b5,b6⟩:eu)) (rT _ _ _ (⟨b5,b6⟩:eu)) (fun _ hk=>hk);have bT:=b7 0 _ rfl;(try simp only[show(jl).sz=2 from rfl,Nat.mul_one,Nat.add_zero]at bT);have bU:=bC 0;(try simp only[show(jl).sz=2 from rfl,Nat.mul_one,Nat.add_zero]at bU);have bV:=b7 1 _ rfl;(try simp only[show(jl).sz=2 from rfl,Nat.mul_one,Nat.add_zero]at bV);have bW:=bC 1;(try simp only[show(jl).sz=2 from rfl,Nat.mul_one,Nat.add_zero]at bW);clear bH b7 bC bS)|((with_reducible refine fu (t:=82) (p:=21) rfl ?_);refine fj (t:=82) (p:=21) (v:= ?xu) (w1:=((b8.setCell ⟨b4,(b1:Int).toNat*2,none⟩ (.string b5)).setCell ⟨b4,(b1:Int).toNat*2+1,none⟩ (.string b6))) ?hg ?ho ?hn ?hr ?_;(case ho=>rfl);(case hg=>rfl);(case hn=>rfl);(case hr=>first|(go_simp;done)|(go_simp;rfl));intro bX hw;have hg:b8.grownBy bX (some b4):=(by rw[hw];exact bF.2);have ny:Kd.R jl 82 bX w.heap.size (fun _=>True) (.slice (some ⟨b4,0,none⟩) b2.length bL) bE:=(by rw[hw,bZ.out];exact bF.1);clear bF;replace b3:=am (ny);replace HB:=am ((by rw[hw];exact aI (aI (HB.out) bP.out) bP.out:Below w.heap.size w bX));clear hg hw ny))
   go_roundg k1
   case measure=>have:=d2.out;omega
   case rel=>exact⟨(bE),(wrap64 (b1+1)),oS,H',⟨by have:=d2.out;omega⟩,⟨oR b3⟩,⟨oB⟩⟩

def ez.l0:Nat→List (ky)→Int→Int→Option (Int)
 |0,_,_,_=>none
 |k+1,x0,x1,x5=>if x5<(x0.length:Int)then(if 0≤x5 then((km.f ((iJ x0 x5).f0) ((iJ x0 x5).f1) x1).bind fun b1=>(if b1<0 then(some (-1))else(ez.l0 k x0 b1 (wrap64 (x5+1)))))else(none))else(some x1)
def ez.f (k:Nat) (l0:List (ky)) (a1:Int):Option (Int):=if(wrap64 (a1-(l0.length:Int)))<0 then(some (-1))else(ez.l0 k l0 (wrap64 (a1-(l0.length:Int))) 0)
theorem ez.calls (k:Nat) (A0:Option Addr) (c0:Nat) (l0:List (ky)) (a1:Int) (r:Int) (w:World) (hr0:Kd.C rI w A0 l0.length l0) (hc0:l0.length≤c0) (h:ez.f k l0 a1=some r):
  Calls Tryz.prog 109 #[.slice A0 l0.length c0,.int .i64 a1] w fun e w'=>e= .returned (.int .i64 r)∧Below w.heap.size w w':=by
 have bG:=underlying131;have b9:=ae.mk hr0;have bI:=ae.mk hc0;clear hr0 hc0;have HB:=am (Below.refl w.heap.size w);unfold ez.f at h;have H:=h;clear h;replace H:=jm H;rcases H with⟨b7,H⟩|⟨b7,H⟩
 ·obtain rfl:=Option.some.inj H
  go_enter func109,ntmps109
  go_wp2
  go_ret
  exact⟨oE,oB⟩
 have H':=ae.mk H;clear H
 go_enter func109,ntmps109
 go_wp2
 go_loopg [1,5] k (fun kq v1 v5 w'=>∃(b2:Int) (b1:Int),v1= .int .i64 b2∧v5= .int .i64 b1∧ae (ez.l0 kq l0 b2 b1=some r)∧ae (kq≤k)∧ae (Below w.heap.size w w'))
 case atStart=>exact⟨(wrap64 (a1-(l0.length:Int))),(0),oS,oS,H',⟨Nat.le_refl _⟩,⟨oB⟩⟩
 case round=>
  clear H'
  try clear b7
  obtain⟨b2,b1,rfl,rfl,HA,bB,HB⟩:=hrel
  cases gk with
  |zero=>exact absurd HA.out (by simp[ez.l0])
  |succ k1=>
   have H:=HA.out;clear HA;simp only[ez.l0]at H;replace H:=jm H;rcases H with⟨bC,H⟩|⟨bC,H⟩;rotate_left
   ·obtain rfl:=Option.some.inj H
    go_wp2
    go_ret
    exact⟨oE,oB⟩
   obtain⟨bH,H⟩:=cU H;replace H:=bA H;obtain⟨b3,A6,H⟩:=H
   try dsimp only at H
   replace H:=jm H;rcases H with⟨bD,H⟩|⟨bD,H⟩
   ·obtain rfl:=Option.some.inj H;have bE:(0≤(b1:Int))=True:=oT;have bF:(b1<(l0.length:Int))=True:=oT;obtain⟨b8,b4,b5,b6⟩:=ui b9 HB b1 oa oa
    cases b4
    go_wp2_with (first|((with_reducible refine ai (f:=133) rfl ?_);refine ej 23 func133 (km.calls ((iJ l0 b1).f0) ((iJ l0 b1).f1) b2 b3 _ A6.out) ?_;rintro e w8 ⟨rfl,hb⟩;refine⟨_,rfl,?_⟩;replace HB:=hB HB hb))
    go_ret
    exact⟨oE,oB⟩
   have H':=ae.mk H;clear H;have bE:(0≤(b1:Int))=True:=oT;have bF:(b1<(l0.length:Int))=True:=oT;obtain⟨b8,b4,b5,b6⟩:=ui b9 HB b1 oa oa
   cases b4
   go_wp2_with (first|((with_reducible refine ai (f:=133) rfl ?_);refine ej 23 func133 (km.calls ((iJ l0 b1).f0) ((iJ l0 b1).f1) b2 b3 _ A6.out) ?_;rintro e w9 ⟨rfl,hb⟩;refine⟨_,rfl,?_⟩;replace HB:=hB HB hb))
   go_roundg k1
   case measure=>have:=bB.out;omega
   case rel=>exact⟨(b3),(wrap64 (b1+1)),oS,oS,H',⟨by have:=bB.out;omega⟩,⟨oB⟩⟩

def dr.l0:Nat→List (kz)→Int→Int→Option (Int)
 |0,_,_,_=>none
 |k+1,x0,x1,x5=>if x5<(x0.length:Int)then(if 0≤x5 then((iR.f ((iB x0 x5).f0) ((iB x0 x5).f1) x1).bind fun b1=>(if b1<0 then(some (-1))else(dr.l0 k x0 b1 (wrap64 (x5+1)))))else(none))else(some x1)
def dr.f (k:Nat) (l0:List (kz)) (a1:Int):Option (Int):=if(wrap64 (a1-(l0.length:Int)))<0 then(some (-1))else(dr.l0 k l0 (wrap64 (a1-(l0.length:Int))) 0)
theorem dr.calls (k:Nat) (A0:Option Addr) (c0:Nat) (l0:List (kz)) (a1:Int) (r:Int) (w:World) (hr0:Kd.C rJ w A0 l0.length l0) (hc0:l0.length≤c0) (h:dr.f k l0 a1=some r):
  Calls Tryz.prog 110 #[.slice A0 l0.length c0,.int .i64 a1] w fun e w'=>e= .returned (.int .i64 r)∧Below w.heap.size w w':=by
 have bG:=underlying133;have b9:=ae.mk hr0;have bI:=ae.mk hc0;clear hr0 hc0;have HB:=am (Below.refl w.heap.size w);unfold dr.f at h;have H:=h;clear h;replace H:=jm H;rcases H with⟨b7,H⟩|⟨b7,H⟩
 ·obtain rfl:=Option.some.inj H
  go_enter func110,ntmps110
  go_wp2
  go_ret
  exact⟨oE,oB⟩
 have H':=ae.mk H;clear H
 go_enter func110,ntmps110
 go_wp2
 go_loopg [1,5] k (fun kq v1 v5 w'=>∃(b2:Int) (b1:Int),v1= .int .i64 b2∧v5= .int .i64 b1∧ae (dr.l0 kq l0 b2 b1=some r)∧ae (kq≤k)∧ae (Below w.heap.size w w'))
 case atStart=>exact⟨(wrap64 (a1-(l0.length:Int))),(0),oS,oS,H',⟨Nat.le_refl _⟩,⟨oB⟩⟩
 case round=>
  clear H'
  try clear b7
  obtain⟨b2,b1,rfl,rfl,HA,bB,HB⟩:=hrel
  cases gk with
  |zero=>exact absurd HA.out (by simp[dr.l0])
  |succ k1=>
   have H:=HA.out;clear HA;simp only[dr.l0]at H;replace H:=jm H;rcases H with⟨bC,H⟩|⟨bC,H⟩;rotate_left
   ·obtain rfl:=Option.some.inj H
    go_wp2
    go_ret
    exact⟨oE,oB⟩
   obtain⟨bH,H⟩:=cU H;replace H:=bA H;obtain⟨b3,A6,H⟩:=H
   try dsimp only at H
   replace H:=jm H;rcases H with⟨bD,H⟩|⟨bD,H⟩
   ·obtain rfl:=Option.some.inj H;have bE:(0≤(b1:Int))=True:=oT;have bF:(b1<(l0.length:Int))=True:=oT;obtain⟨b8,b4,b5,b6⟩:=uj b9 HB b1 oa oa
    cases b4
    go_wp2_with (first|((with_reducible refine ai (f:=134) rfl ?_);refine ej 23 func134 (iR.calls ((iB l0 b1).f0) ((iB l0 b1).f1) b2 b3 _ A6.out) ?_;rintro e w8 ⟨rfl,hb⟩;refine⟨_,rfl,?_⟩;replace HB:=hB HB hb))
    go_ret
    exact⟨oE,oB⟩
   have H':=ae.mk H;clear H;have bE:(0≤(b1:Int))=True:=oT;have bF:(b1<(l0.length:Int))=True:=oT;obtain⟨b8,b4,b5,b6⟩:=uj b9 HB b1 oa oa
   cases b4
   go_wp2_with (first|((with_reducible refine ai (f:=134) rfl ?_);refine ej 23 func134 (iR.calls ((iB l0 b1).f0) ((iB l0 b1).f1) b2 b3 _ A6.out) ?_;rintro e w9 ⟨rfl,hb⟩;refine⟨_,rfl,?_⟩;replace HB:=hB HB hb))
   go_roundg k1
   case measure=>have:=bB.out;omega
   case rel=>exact⟨(b3),(wrap64 (b1+1)),oS,oS,H',⟨by have:=bB.out;omega⟩,⟨oB⟩⟩

def cW.l0:Nat→List (eu)→Int→Int→Option (Int×(List (eu)))
 |0,_,_,_=>none
 |k+1,x0,x1,x5=>if x5<(x0.length:Int)then((bg.f k x1).bind fun b2=>(if 0≤x5 then((some (x0.set (x5:Int).toNat (⟨b2,(aw x0 x5).f1⟩:eu):List (eu))).bind fun b1=>((bg.f k (wrap64 (x1+1))).bind fun b3=>(cW.l0 k (b1.set (x5:Int).toNat (⟨(aw b1 x5).f0,b3⟩:eu)) (wrap64 ((wrap64 (x1+1))+1)) (wrap64 (x5+1)))))else(none)))else(some (x1,x0))
def cW.f (k:Nat) (l0:List (eu)) (a1:Int):Option (Int×(List (eu))):=cW.l0 k l0 a1 0
theorem cW.calls (k:Nat) (lx:Nat→Prop) (ja:Value) (l0:List (eu)) (a1:Int) (r1:Int) (r2:List (eu)) (w0 w:World) (hB:Below w0.heap.size w0 w) (ho0:Kd.R jl 82 w w0.heap.size lx ja l0) (h:cW.f k l0 a1=some (r1,r2)):
  Calls Tryz.prog 74 #[ja,.int .i64 a1] w fun e w'=>e= .returned (.int .i64 r1)∧Kd.R jl 82 w' w0.heap.size (fun k_=>(lx k_∨w.heap.size≤k_)) ja r2∧Below w0.heap.size w0 w'∧Kept w w' (fun k_=>lx k_):=by
 have dE:=am (show Kd.R jl 82 w w0.heap.size (fun k_=>(lx k_∨w.heap.size≤k_)) ja l0 from Kd.aZ ho0 (fun k_ hk=>(.inl hk)));have HK:=am (Kept.refl w (fun k_=>lx k_));have HW0:=ae.mk hB.size;have HB:=ae.mk hB;clear hB;unfold cW.f at h;have H:=h;clear h;have H':=ae.mk H;clear H
 go_enter func74,ntmps74
 go_wp2
 go_loopg [1,5] k (fun kq v1 v5 w'=>∃(b3:List (eu)) (b6:Int) (b1:Int),v1= .int .i64 b6∧v5= .int .i64 b1∧ae (cW.l0 kq b3 b6 b1=some (r1,r2))∧ae (kq≤k)∧ae (Kd.R jl 82 w' w0.heap.size (fun k_=>(lx k_∨w.heap.size≤k_)) ja b3)∧ae (Kept w w' (fun k_=>lx k_))∧ae (Below w0.heap.size w0 w'))
 case atStart=>exact⟨(l0),(a1),(0),oS,oS,H',⟨Nat.le_refl _⟩,⟨oR dE⟩,⟨oK⟩,⟨oB⟩⟩
 case round=>
  clear H';obtain⟨b3,b6,b1,rfl,rfl,HA,d3,b2,HK,HB⟩:=hrel
  cases gk with
  |zero=>exact absurd HA.out (by simp[cW.l0])
  |succ k1=>
   have H:=HA.out;clear HA;simp only[cW.l0]at H;replace H:=jm H;rcases H with⟨dA,H⟩|⟨dA,H⟩;rotate_left
   ·simp only[Option.some.injEq,Prod.mk.injEq]at H;obtain⟨rfl,rfl⟩:=H;obtain⟨dQ,dR,dB⟩:=Kd.ao b2.out;subst dB
    go_wp2
    go_ret
    exact⟨oE,oR b2,oB,oK⟩
   replace H:=bA H;obtain⟨b8,A4,H⟩:=H
   try dsimp only at H
   obtain⟨dS,H⟩:=cU H;obtain⟨b5,da⟩:∃y_:List (eu),y_=(b3.set (b1:Int).toNat (⟨b8,(aw b3 b1).f1⟩:eu)):=⟨_,rfl⟩;replace H:((bg.f k1 (wrap64 (b6+1))).bind fun b7=>(cW.l0 k1 (b5.set (b1:Int).toNat (⟨(aw b5 b1).f0,b7⟩:eu)) (wrap64 ((wrap64 (b6+1))+1)) (wrap64 (b1+1))))=some (r1,r2):=oY;have d1:=ae.mk da;clear da;replace H:=bA H;obtain⟨b7,A7,H⟩:=H
   try dsimp only at H
   obtain⟨bE,da⟩:∃y_:List (eu),y_=(b5.set (b1:Int).toNat (⟨(aw b5 b1).f0,b7⟩:eu)):=⟨_,rfl⟩;replace H:(cW.l0 k1 bE (wrap64 ((wrap64 (b6+1))+1)) (wrap64 (b1+1)))=some (r1,r2):=oY;have d2:=ae.mk da;clear da;have H':=ae.mk H;clear H;obtain⟨dV,bL,dF⟩:=Kd.ao b2.out;subst dF
   go_wp2_with (first|((with_reducible refine ai (f:=115) rfl ?_);refine ej 15 func115 (bg.calls k1 b6 b8 _ A4.out) ?_;rintro e b9 ⟨rfl,hb⟩;refine⟨_,rfl,?_⟩;replace b2:=ei b2 hb;replace HK:=am (Kept.below (S:=(fun k_=>lx k_)) oK hb);replace HB:=hB HB hb;(try clear hk);have p6:0≤(b1:Int):=oa;have q6:(b1:Int)<((b3.length:Int):Int):=oa;obtain⟨b4,dW,d4,d5,dG,dX,d6⟩:=Kd.ll b2.out (by omega);(first|cases d4|(injection d4 with iF oc od;(first|subst iF|(injection iF with iF;subst iF));subst od;clear oc));have d7:=ae.mk d5;have dY:=ae.mk d6;clear d5 dG d6;have dH:=am (show(lx b4∨w.heap.size≤b4)from(b2.out.1 _ rfl));obtain⟨dZ,dC,d8,bF,bG⟩:=Kd.i_ b2.out z82 (b1:Int) p6 q6;obtain rfl:=mr d8;have dI:b9.cell? ⟨b4,(b1:Int).toNat*2,none⟩=some (.string ((aw b3 b1).f0)):=bF 0 _ rfl;have dJ:b9.cell? ⟨b4,(b1:Int).toNat*2+1,none⟩=some (.string ((aw b3 b1).f1)):=bF 1 _ rfl;have dK:b9.frozen? ⟨b4,(b1:Int).toNat*2,none⟩=false:=bG 0;have dL:b9.frozen? ⟨b4,(b1:Int).toNat*2+1,none⟩=false:=bG 1;clear dC bF bG d8;replace p6:=eq_true p6;replace q6:=eq_true q6;have bQ:=am (show Kd.R jl 82 b9 w0.heap.size (fun k_=>(lx k_∨w.heap.size≤k_)) (.slice (some ⟨b4,0,none⟩) b3.length bL) b3 from(oR b2));obtain⟨dT,bM,bR,bC,bN⟩:=Kd.i_ bQ.out z82 (b1:Int) oa (by have h_:(b1:Int)<((b3.length:Int):Int):=oa;first|exact h_|(have e_:=(Kd.bd b2.out).1;omega)|simpa using h_);obtain rfl:=mr bR;have bH:=Kd.ow bQ.out (b1:Int) oa (by have h_:(b1:Int)<((b3.length:Int):Int):=oa;first|exact h_|(have e_:=(Kd.bd b2.out).1;omega)|simpa using h_) (seg:=[.string b8]) (j:=0) bM bC (show 1≤2 from by decide) (x':=(⟨b8,(aw b3 b1).f1⟩:eu)) (rT _ _ _ (⟨b8,(aw b3 b1).f1⟩:eu)) (fun _ hk=>hk);have bS:=bC 0 _ rfl;(try simp only[show(jl).sz=2 from rfl,Nat.mul_one,Nat.add_zero]at bS);have bT:=bN 0;(try simp only[show(jl).sz=2 from rfl,Nat.mul_one,Nat.add_zero]at bT);clear bM bC bN bR)|((with_reducible refine fu (t:=9) (p:=17) rfl ?_);refine fj (t:=9) (p:=17) (v:= ?vo_w12) (w1:=(b9.setCell ⟨b4,(b1:Int).toNat*2,none⟩ (.string b8))) ?hg ?ho ?hn ?hr ?_;(case ho=>rfl);(case hg=>rfl);(case hn=>rfl);(case hr=>first|(go_simp;done)|(go_simp;rfl));intro bU hw;have hg:b9.grownBy bU (some b4):=(by rw[hw];exact bH.2);have ny:Kd.R jl 82 bU w0.heap.size (fun k_=>(lx k_∨w.heap.size≤k_)) (.slice (some ⟨b4,0,none⟩) b3.length bL) b5:=(by rw[hw,d1.out];exact bH.1);clear bH;replace b2:=am (ny);replace HK:=am (Kept.na (S:=(fun k_=>lx k_)) hg oK (fun k_ e_=>(b2.out.1 k_ e_)));replace HB:=am ((by rw[hw];exact aI (HB.out) d7.out:Below w0.heap.size w0 bU));clear hg hw ny)|((with_reducible refine ai (f:=115) rfl ?_);refine ej 23 func115 (bg.calls k1 (wrap64 (b6+1)) b7 _ A7.out) ?_;rintro e bB ⟨rfl,hb⟩;refine⟨_,rfl,?_⟩;replace b2:=ei b2 hb;replace HK:=am (Kept.below (S:=(fun k_=>lx k_)) oK hb);replace HB:=hB HB hb;(try clear hk);have p8:(0≤(b1:Int))=True:=oT;have q8:((b1:Int)<((b3.length:Int):Int))=True:=oT;obtain⟨gA,dD,d9,bI,bJ⟩:=Kd.i_ b2.out z82 (b1:Int) oa oa;obtain rfl:=mr d9;have dM:bB.cell? ⟨b4,(b1:Int).toNat*2,none⟩=some (.string ((aw b5 b1).f0)):=bI 0 _ rfl;have dN:bB.cell? ⟨b4,(b1:Int).toNat*2+1,none⟩=some (.string ((aw b5 b1).f1)):=bI 1 _ rfl;have dO:bB.frozen? ⟨b4,(b1:Int).toNat*2,none⟩=false:=bJ 0;have dP:bB.frozen? ⟨b4,(b1:Int).toNat*2+1,none⟩=false:=bJ 1;clear dD bI bJ d9;have bV:=am (show Kd.R jl 82 bB w0.heap.size (fun k_=>(lx k_∨w.heap.size≤k_)) (.slice (some ⟨b4,0,none⟩) b3.length bL) b5 from(oR b2));obtain⟨dU,bO,bW,bD,bP⟩:=Kd.i_ bV.out z82 (b1:Int) oa (by have h_:(b1:Int)<((b3.length:Int):Int):=oa;first|exact h_|(have e_:=(Kd.bd b2.out).1;omega)|simpa using h_);obtain rfl:=mr bW;have bK:=Kd.ow bV.out (b1:Int) oa (by have h_:(b1:Int)<((b3.length:Int):Int):=oa;first|exact h_|(have e_:=(Kd.bd b2.out).1;omega)|simpa using h_) (seg:=[.string b7]) (j:=1) bO bD (show 2≤2 from by decide) (x':=(⟨(aw b5 b1).f0,b7⟩:eu)) (rT _ _ _ (⟨(aw b5 b1).f0,b7⟩:eu)) (fun _ hk=>hk);have bX:=bD 1 _ rfl;(try simp only[show(jl).sz=2 from rfl,Nat.mul_one,Nat.add_zero]at bX);have bY:=bP 1;(try simp only[show(jl).sz=2 from rfl,Nat.mul_one,Nat.add_zero]at bY);clear bO bD bP bW)|((with_reducible refine fu (t:=9) (p:=25) rfl ?_);refine fj (t:=9) (p:=25) (v:= ?vo_w15) (w1:=(bB.setCell ⟨b4,(b1:Int).toNat*2+1,none⟩ (.string b7))) ?hg ?ho ?hn ?hr ?_;(case ho=>rfl);(case hg=>rfl);(case hn=>rfl);(case hr=>first|(go_simp;done)|(go_simp;rfl));intro bZ hw;have hg:bB.grownBy bZ (some b4):=(by rw[hw];exact bK.2);have ny:Kd.R jl 82 bZ w0.heap.size (fun k_=>(lx k_∨w.heap.size≤k_)) (.slice (some ⟨b4,0,none⟩) b3.length bL) bE:=(by rw[hw,d2.out];exact bK.1);clear bK;replace b2:=am (ny);replace HK:=am (Kept.na (S:=(fun k_=>lx k_)) hg oK (fun k_ e_=>(b2.out.1 k_ e_)));replace HB:=am ((by rw[hw];exact aI (HB.out) d7.out:Below w0.heap.size w0 bZ));clear hg hw ny))
   go_roundg k1
   case measure=>have:=d3.out;omega
   case rel=>exact⟨(bE),(wrap64 ((wrap64 (b6+1))+1)),(wrap64 (b1+1)),oS,oS,H',⟨by have:=d3.out;omega⟩,⟨oR b2⟩,⟨oK⟩,⟨oB⟩⟩
end Go.Proofs.YtlecajlnjmbilaaGreatDoor.P
