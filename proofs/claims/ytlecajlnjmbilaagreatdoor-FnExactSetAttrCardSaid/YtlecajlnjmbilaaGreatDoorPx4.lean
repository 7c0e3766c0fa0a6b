-- Printed walks.
import Derived.Test.YtlecajlnjmbilaaGreatDoorPx1
import Derived.Test.YtlecajlnjmbilaaGreatDoorPx3
set_option linter.all false
set_option maxHeartbeats 8000000
set_option maxRecDepth 100000
namespace Go.Proofs.YtlecajlnjmbilaaGreatDoor.P
open Go.RowKit Go.Proofs.ab.aq Go.Proofs.ab.aM Go.Proofs.ab.aT Go.Proofs.Tryz
attribute [local go_sem] gn gp iF iG fC fD gq gr

def cu.l0:Nat→List (ct)→List (ct)→Int→Option (Bool)
 |0,_,_,_=>none
 |k+1,x0,x1,x5=>if x5<(x0.length:Int)then(if 0≤x5 then(if x5<(x1.length:Int)then((js.f ((an x0 x5).f0) ((an x0 x5).f1) ((an x1 x5).f0) ((an x1 x5).f1)).bind fun b1=>(if b1=true then(cu.l0 k x0 x1 (wrap64 (x5+1)))else(some false)))else(none))else(none))else(some true)
def cu.f (k:Nat) (l0:List (ct)) (l1:List (ct)):Option (Bool):=if(l0.length:Int)=(l1.length:Int)then(cu.l0 k l0 l1 0)else(some false)
def cu.T6:Bool×List (List Nat×List Nat):=(true,[([],[]),([],[]),([0,1],[0,1]),([2],[2]),([],[]),([],[]),([4,5],[4,5]),([6],[6]),([3,7],[3,7]),([8],[8])])
def cu.B6:List Nat:=[0,0,3,7,0,0,48,112,255,511]
theorem cu.tab6:g_ .any (opsOf Tryz.f114 6)=cu.T6:=by kernel_rfl
theorem cu.mj:eX cu.T6.2 cu.B6=true:=by kernel_rfl
theorem cu.calls (k:Nat) (A0:Option Addr) (c0:Nat) (l0:List (ct)) (A1:Option Addr) (c1:Nat) (l1:List (ct)) (r:Bool) (w:World) (hr0:Kd.C fa w A0 l0.length l0) (hc0:l0.length≤c0) (hr1:Kd.C fa w A1 l1.length l1) (hc1:l1.length≤c1) (h:cu.f k l0 l1=some r):
  Calls Tryz.prog 114 #[.slice A0 l0.length c0,.slice A1 l1.length c1] w fun e w'=>e= .returned (.bool r)∧Below w.heap.size w w':=by
 have bQ:=underlying82;have bF:=ae.mk hr0;have bU:=ae.mk hc0;clear hr0 hc0;have bG:=ae.mk hr1;have bV:=ae.mk hc1;clear hr1 hc1;have HB:=am (Below.refl w.heap.size w);unfold cu.f at h;have H:=h;clear h
 by_cases c3:(l0.length:Int)=(l1.length:Int)
 rotate_left
 ·rw[if_neg c3]at H;have bI:((l0.length:Int)==(l1.length:Int))=false:=beq_eq_false_iff_ne.mpr c3;have bJ:((l0.length:Int) !=(l1.length:Int))=true:=bne_iff_ne.mpr c3
  have bK:(l0.length==l1.length)=false:=by first|simpa using c3|(simp at c3⊢;omega)
  obtain rfl:=Option.some.inj H
  go_enter func114,ntmps114
  go_wp2
  go_ret
  exact⟨oE,oB⟩
 rw[if_pos c3]at H;have bI:((l0.length:Int)==(l1.length:Int))=true:=beq_iff_eq.mpr c3;have bJ:((l0.length:Int) !=(l1.length:Int))=false:=bne_eq_false_iff_eq.mpr c3
 have bK:(l0.length==l1.length)=true:=by first|simpa using c3|(simp at c3⊢;omega)
 clear c3;have H':=ae.mk H;clear H
 go_enter func114,ntmps114
 go_wp2
 go_loopg [5] k (fun kq v5 w'=>∃(b1:Int),v5= .int .i64 b1∧ae (cu.l0 kq l0 l1 b1=some r)∧ae (kq≤k)∧ae (Below w.heap.size w w'))
 case atStart=>exact⟨(0),oS,H',⟨Nat.le_refl _⟩,⟨oB⟩⟩
 case round=>
  clear H'
  try clear c1
  try clear c3
  obtain⟨b1,rfl,HA,bH,HB⟩:=hrel
  cases gk with
  |zero=>exact absurd HA.out (by simp[cu.l0])
  |succ k1=>
   have H:=HA.out;clear HA;simp only[cu.l0]at H;replace H:=iM H;rcases H with⟨bL,H⟩|⟨bL,H⟩;rotate_left
   ·obtain rfl:=Option.some.inj H
    go_wp2
    go_ret
    exact⟨oE,oB⟩
   obtain⟨bR,H⟩:=cO H;obtain⟨bS,H⟩:=cO H;replace H:=bA H;obtain⟨bT,A7,H⟩:=H
   try dsimp only at H
   replace H:=kN H;rcases H with⟨rfl,H⟩|⟨rfl,H⟩;rotate_left
   ·obtain rfl:=Option.some.inj H
    try go_wp2
    replace HB:=am (au HB.out);have bM:(0≤(b1:Int))=True:=oT;have bN:(b1<(l0.length:Int))=True:=oT;obtain⟨b6,b8,b2,b3⟩:=cZ bF.out b1 oa oa;have bB:=b3;have bC:=b2
    cases b8
    replace b2:=cB HB b2;replace b3:=cB HB b3;have bO:(0≤(b1:Int))=True:=oT;have bP:(b1<(l1.length:Int))=True:=oT;obtain⟨b7,b9,b4,b5⟩:=cZ bG.out b1 oa oa;have bD:=b5;have bE:=b4
    cases b9
    replace b4:=cB HB b4;replace b5:=cB HB b5;refine mb 10 (fun w'=>w'.cell? (b6.add ((b1).toNat*2))=some (.string ((an l0 b1).f0))∧w'.cell? ⟨(b6.add ((b1).toNat*2)).block,(b6.add ((b1).toNat*2)).off+1,none⟩=some (.string ((an l0 b1).f1))∧w'.cell? (b7.add ((b1).toNat*2))=some (.string ((an l1 b1).f0))∧w'.cell? ⟨(b7.add ((b1).toNat*2)).block,(b7.add ((b1).toNat*2)).off+1,none⟩=some (.string ((an l1 b1).f1))) cu.tab6 cu.mj oH (fun hHeld av eH=> ?_);generalize wr.drew=bW at HB b2 b3 b4 b5 hHeld⊢;refine bx 0 17 av ?_;refine bx 1 18 av ?_;refine bx 2 19 av ?_;refine bx 4 21 av ?_;refine bx 5 22 av ?_;refine bx 6 23 av ?_;refine fO 3 20 av eH hHeld ?_;refine fO 7 24 av eH hHeld ?_;refine kQ 8 25 av (fun K hK=> ?_);refine l_ 25 func138 (js.calls ((an l0 b1).f0) ((an l0 b1).f1) ((an l1 b1).f0) ((an l1 b1).f1) false _ A7.out) ?_;rintro e bX ⟨rfl,hb⟩;refine⟨_,rfl,?_⟩;replace HB:=hB HB hb;refine eP hK 25 oH (fun hHeld=> ?_);clear hK K;refine bx 9 26 av ?_;refine lZ av ?_
    try go_wp2
    go_ret
    exact⟨oE,oB⟩
   have H':=ae.mk H;clear H
   try go_wp2
   replace HB:=am (au HB.out);have bM:(0≤(b1:Int))=True:=oT;have bN:(b1<(l0.length:Int))=True:=oT;obtain⟨b6,b8,b2,b3⟩:=cZ bF.out b1 oa oa;have bB:=b3;have bC:=b2
   cases b8
   replace b2:=cB HB b2;replace b3:=cB HB b3;have bO:(0≤(b1:Int))=True:=oT;have bP:(b1<(l1.length:Int))=True:=oT;obtain⟨b7,b9,b4,b5⟩:=cZ bG.out b1 oa oa;have bD:=b5;have bE:=b4
   cases b9
   replace b4:=cB HB b4;replace b5:=cB HB b5;refine mb 10 (fun w'=>w'.cell? (b6.add ((b1).toNat*2))=some (.string ((an l0 b1).f0))∧w'.cell? ⟨(b6.add ((b1).toNat*2)).block,(b6.add ((b1).toNat*2)).off+1,none⟩=some (.string ((an l0 b1).f1))∧w'.cell? (b7.add ((b1).toNat*2))=some (.string ((an l1 b1).f0))∧w'.cell? ⟨(b7.add ((b1).toNat*2)).block,(b7.add ((b1).toNat*2)).off+1,none⟩=some (.string ((an l1 b1).f1))) cu.tab6 cu.mj oH (fun hHeld av eH=> ?_);generalize wr.drew=w9 at HB b2 b3 b4 b5 hHeld⊢;refine bx 0 17 av ?_;refine bx 1 18 av ?_;refine bx 2 19 av ?_;refine bx 4 21 av ?_;refine bx 5 22 av ?_;refine bx 6 23 av ?_;refine fO 3 20 av eH hHeld ?_;refine fO 7 24 av eH hHeld ?_;refine kQ 8 25 av (fun K hK=> ?_);refine l_ 25 func138 (js.calls ((an l0 b1).f0) ((an l0 b1).f1) ((an l1 b1).f0) ((an l1 b1).f1) true _ A7.out) ?_;rintro e bY ⟨rfl,hb⟩;refine⟨_,rfl,?_⟩;replace HB:=hB HB hb;refine eP hK 25 oH (fun hHeld=> ?_);clear hK K;refine bx 9 26 av ?_;refine lZ av ?_
   try go_wp2
   go_roundg k1
   case measure=>have:=bH.out;omega
   case rel=>exact⟨(wrap64 (b1+1)),oS,H',⟨by have:=bH.out;omega⟩,⟨oB⟩⟩

def cl.l0:Nat→Int→List (bm)→Int→List (bm)→Int→Option ((List (bm))×Int)
 |0,_,_,_,_,_=>none
 |k+1,x4,b1,b5,b3,b4=>if x4<(b1.length:Int)then(if 0≤x4 then((du.f ((af b1 x4).f0) ((af b1 x4).f1) ((af b1 x4).f2) ((af b1 x4).f3) ((af b1 x4).f4) ((af b1 x4).f5)).bind fun b2=>(if b3.length<1466015503701 then(cl.l0 k (wrap64 (x4+1)) b1 b5 (b3++[(⟨b2.1,b2.2.1,b2.2.2.1,b2.2.2.2.1,b2.2.2.2.2.1,b2.2.2.2.2.2⟩:bm)]) b4)else(none)))else(none))else(some (b3,b4))
def cl.f (k:Nat) (ag:List (bm)) (aj:Int):Option ((List (bm))×Int):=cl.l0 k 0 ag aj ([]:List (bm)) aj
def cl.T5:Bool×List (List Nat×List Nat):=(true,[([],[]),([0],[0]),([],[]),([2],[2]),([],[]),([3,4],[3,4]),([5],[5]),([6],[6]),([7],[7]),([1,8,7],[1,8]),([0,1,2,3,4,5,6,7,8,9],[]),([10,9,9,0,1,2,3,4,5,6,7,8,9],[9,10])])
def cl.B5:List Nat:=[0,1,0,4,0,28,60,124,252,511,1023,2047]
theorem cl.aaU:g_ .any (opsOf Tryz.f41 5)=cl.T5:=by kernel_rfl
theorem cl.uS:eX cl.T5.2 cl.B5=true:=by kernel_rfl
theorem cl.calls (k:Nat) (bo:Option Addr) (bg:Nat) (ag:List (bm)) (aj:Int) (r1:List (bm)) (r2:Int) (w:World) (cv:Kd.C fN w bo ag.length ag) (cA:ag.length≤bg) (h:cl.f k ag aj=some (r1,r2)):
  Calls Tryz.prog 41 #[.agg #[.slice bo ag.length bg,.int .i64 aj]] w fun e w'=>∃iV:Value,e= .returned (.agg #[iV,.int .i64 r2])∧Kd.S fN 58 w' w.heap.size (fun _=>True) iV r1∧Below w.heap.size w w':=by
 have jD:=underlying28;have jE:=underlying58;have gH:=ae.mk cv;have gW:=ae.mk cA;clear cv cA;have HB:=am (Below.refl w.heap.size w);unfold cl.f at h;have H:=h;clear h;have H':=ae.mk H;clear H
 go_enter func41,ntmps41
 go_wp2_with (first|((with_reducible refine ai (N:=1) rfl ?_);refine eh 1 #[.slice bo ag.length bg,.int .i64 aj] 28 ?_;intro dF hg w2 hbox hb;have b3:=am (hbox);have gX:=eg hg;replace HB:=hB HB hb;clear hb hbox hg)|((with_reducible refine ai (N:=2) rfl ?_);refine eh 2 #[.slice none 0 0,.int .i64 0] 28 ?_;intro bQ hg w3 hbox hb;have b4:=am (hbox);have gY:=eg hg;have bC:=eY hg b3;have bD:=eZ hg b3;replace b3:=aQ b3 hb;replace HB:=hB HB hb;clear hb hbox hg;have jF:=bC.out;have jG:=bD.out;obtain⟨⟨_,_⟩,_,_⟩:=z2 b3)|((with_reducible refine ai (N:=3) rfl ?_);refine eh 3 #[.slice none 0 0,.int .i64 0] 28 ?_;intro bM hg w6 hbox hb;have b5:=am (hbox);have gZ:=eg hg;have b9:=eY hg b3;have bB:=eZ hg b3;have bE:=eY hg b4;have bF:=eZ hg b4;replace b3:=aQ b3 hb;replace b4:=aQ b4 hb;replace HB:=hB HB hb;clear hb hbox hg;have jH:=bB.out;have jI:=b9.out;have jJ:=bF.out;have jK:=bE.out;obtain⟨⟨_,_⟩,_,_⟩:=z2 b5))
 go_loopg [4] k (fun kq v4 w'=>∃(b2:Int) (b7:List (bm)) (b6:Value),v4= .int .i64 b2∧ae (cl.l0 kq b2 ag aj b7 aj=some (r1,r2))∧ae (kq≤k)∧ae (Kd.S fN 58 w' w.heap.size (fun _=>True) b6 b7)∧ae (w'.heap[dF]? =some (.cells #[(.slice bo ag.length bg),.int .i64 aj] 28 (0,0)))∧ae (w'.heap[bQ]? =some (.cells #[(.slice none 0 0),.int .i64 0] 28 (0,0)))∧ae (w'.heap[bM]? =some (.cells #[b6,.int .i64 aj] 28 (0,0)))∧ae (Below w.heap.size w w'))
 case atStart=>exact⟨(0),(([]:List (bm))),(.slice none 0 0),oS,H',⟨Nat.le_refl _⟩,⟨by first|exact Kd.ji _ _ _ _ _|exact Kd.jj _ _ _ _ _|exact Kd.jk _ _ _ _ _|exact Kd.jg _ _ _ _ _|exact Kd.gv _ _ _ _ _⟩,⟨oF b3⟩,⟨oF b4⟩,⟨oP b5⟩,⟨oB⟩⟩
 case round=>
  clear H';obtain⟨b2,b7,b6,rfl,HA,gL,b1,b3,b4,b5,HB⟩:=hrel
  cases gk with
  |zero=>exact absurd HA.out (by simp[cl.l0])
  |succ k1=>
   have H:=HA.out;clear HA;simp only[cl.l0]at H;replace H:=iM H;rcases H with⟨gI,H⟩|⟨gI,H⟩;rotate_left
   ·simp only[Option.some.injEq,Prod.mk.injEq]at H;obtain⟨rfl,rfl⟩:=H;have j1:=bC.out;have j2:=bD.out;have j3:=b9.out;have j4:=bB.out;obtain⟨⟨_,_⟩,_,_⟩:=z2 b3;have j5:=bF.out;have j6:=bE.out;obtain⟨⟨_,_⟩,_,_⟩:=z2 b5;obtain⟨dL,dM,gO⟩:=Kd.eM b1.out;subst gO;obtain⟨⟨_,_⟩,_,_⟩:=z2 b4
    go_wp2
    refine bodyPost_ret (results_cell_row rfl _ _ bQ 28 #[.slice dL b7.length dM,.int .i64 aj] (0,0) _ rfl (oP b4) underlying28 rfl (by kernel_rfl)) rfl ?_;exact⟨_,oE,by(with_reducible repeat(first|apply Kd.cV|apply Kd.cW|apply Kd.ei));exact Kd.cS (Kd.eS (p:=⟨bQ,1,none⟩) (Kd.eS (p:=⟨bQ,0,none⟩) (Kd.je b1.out b4.out (by decide)) (fun _ hk=>hk.2) (.slice dL b7.length dM)) (fun _ hk=>hk.2) (.int .i64 aj)) (fun _ hk=>trivial),oB⟩
   obtain⟨j7,H⟩:=cO H;replace H:=bA H;obtain⟨⟨bU,bV,bW,bN,bO,bP⟩,gU,H⟩:=H
   try dsimp only at H
   obtain⟨gM,H⟩:=lu H;have gJ:=ae.mk gM;clear gM;obtain⟨dG,cX⟩:∃y_:List (bm),y_=(b7++[(⟨bU,bV,bW,bN,bO,bP⟩:bm)]):=⟨_,rfl⟩;replace H:(cl.l0 k1 (wrap64 (b2+1)) ag aj dG aj)=some (r1,r2):=oY;have gK:=ae.mk cX;clear cX;have H':=ae.mk H;clear H;have j8:=bC.out;have j9:=bD.out;have jA:=b9.out;have jB:=bB.out;obtain⟨⟨_,_⟩,_,_⟩:=z2 b3
   try go_wp2
   replace b1:=am (Kd.ei b1.out);replace b3:=am (ar b3.out);replace b4:=am (ar b4.out);replace b5:=am (ar b5.out);replace HB:=am (au HB.out);have jL:(0≤(b2:Int))=True:=oT;have jM:(b2<(ag.length:Int))=True:=oT;obtain⟨b8,dN,dO,dP,dQ,dR,dS,gP,bG,bH,bI,bJ,bK,bL,bZ,d1,d2,d3,d4,d5⟩:=fI gH.out b2 oa oa;have d6:=bL;have d7:=bK;have d8:=bJ;have d9:=bI;have dA:=bH;have dB:=bG
   cases gP
   replace bG:=cB HB bG;replace bH:=cB HB bH;replace bI:=cB HB bI;replace bJ:=cB HB bJ;replace bK:=cB HB bK;replace bL:=cB HB bL;have dC:=ae.mk d1;have dI:=ae.mk bZ;clear d1 bZ;have dD:=ae.mk d3;have dJ:=ae.mk d2;clear d3 d2;have dE:=ae.mk d5;have dK:=ae.mk d4;clear d5 d4;refine q_ (n:=12) (S:=fun w'=>w'.cell? ⟨bM,0,none⟩=some (b6)∧w'.cell? ⟨bM,1,none⟩=some (.int .i64 aj)∧w'.cell? ⟨dF,0,none⟩=some (.slice (some b8) ag.length bg)∧w'.cell? ⟨dF,1,none⟩=some (.int .i64 aj)∧w'.cell? (b8.add ((b2).toNat*6))=some (.int .i64 ((af ag b2).f0))∧w'.cell? ⟨(b8.add ((b2).toNat*6)).block,(b8.add ((b2).toNat*6)).off+1,none⟩=some (.int .i64 ((af ag b2).f1))∧w'.cell? ⟨(b8.add ((b2).toNat*6)).block,(b8.add ((b2).toNat*6)).off+2,none⟩=some (.int .i64 ((af ag b2).f2))∧w'.cell? ⟨(b8.add ((b2).toNat*6)).block,(b8.add ((b2).toNat*6)).off+3,none⟩=some (.slice dN ((af ag b2).f3).length dO)∧w'.cell? ⟨(b8.add ((b2).toNat*6)).block,(b8.add ((b2).toNat*6)).off+4,none⟩=some (.slice dP ((af ag b2).f4).length dQ)∧w'.cell? ⟨(b8.add ((b2).toNat*6)).block,(b8.add ((b2).toNat*6)).off+5,none⟩=some (.slice dR ((af ag b2).f5).length dS)) (ds:=[11]) (lb 12 0) (by kernel_rfl) rfl rfl oH (fun hHeld=> ?_);refine sM cl.aaU cl.uS (fun av eH=> ?_);generalize wr.drew=jS at b1 b3 b4 b5 HB dC dD dE bG bH bI bJ bK bL hHeld⊢;refine bx 0 15 av ?_;refine bx 2 17 av ?_;refine bx 4 19 av ?_;refine fO 1 16 av eH hHeld ?_;refine fO 3 18 av eH hHeld ?_;refine bx 5 20 av ?_;refine fO 6 21 av eH hHeld ?_;refine kQ 7 22 av (fun K hK=> ?_);refine l_ 22 func83 (du.calls ((af ag b2).f0) ((af ag b2).f1) ((af ag b2).f2) _ _ ((af ag b2).f3) _ _ ((af ag b2).f4) _ _ ((af ag b2).f5) bU bV bW bN bO bP _ (kC dC) dI.out (kC dD) dJ.out (kC dE) dK.out gU.out) ?_;rintro e jT ⟨jN,jO,jP,rfl,gN,dT,dU,hb⟩;refine⟨_,rfl,?_⟩;have bR:=am (Kd.aw gN (ah oB));have bS:=am (Kd.aw dT (ah oB));have bT:=am (Kd.aw dU (ah oB));replace b1:=tk (tj b1 hb) (Kd.cQ gN) (Kd.cQ dT) (Kd.cQ dU);replace b3:=aQ b3 hb;replace b4:=aQ b4 hb;replace b5:=aQ b5 hb;replace HB:=hB HB hb
   (try clear dT)
   (try clear dU)
   obtain⟨dV,dW,dX⟩:=Kd.ax bR.out
   (first|subst dX|(injection dX with kL nA kM;have bX:=kL.symm;have bY:=kM.symm;clear kL nA kM;subst bX;subst bY))
   obtain⟨dY,dZ,gA⟩:=Kd.ax bS.out
   (first|subst gA|(injection gA with kL nA kM;have bX:=kL.symm;have bY:=kM.symm;clear kL nA kM;subst bX;subst bY))
   obtain⟨gB,gC,gD⟩:=Kd.ax bT.out
   (first|subst gD|(injection gD with kL nA kM;have bX:=kL.symm;have bY:=kM.symm;clear kL nA kM;subst bX;subst bY))
   refine eP hK 22 oH (fun hHeld=> ?_);clear hK K;refine kQ 8 23 av (fun K hK=> ?_);refine tC (w1:= ?_) (v:= ?_) (by rfl) rfl ?_ ?_;rotate_left 2
   ·go_simp
    constructor
    ·rfl
    ·rfl
   refine eP hK 23 ⟨(ao (aG b5.out _) 0).trans rfl,(ao (aG b5.out _) 1).trans rfl,(ao (aG b3.out _) 0).trans rfl,(ao (aG b3.out _) 1).trans rfl,(World.cell?_alloc_lt _ _ _ (World.block_lt_of_cell? _ _ ((cB HB dB)))).trans ((cB HB dB)),(World.cell?_alloc_lt _ _ _ (World.block_lt_of_cell? _ _ ((cB HB dA)))).trans ((cB HB dA)),(World.cell?_alloc_lt _ _ _ (World.block_lt_of_cell? _ _ ((cB HB d9)))).trans ((cB HB d9)),(World.cell?_alloc_lt _ _ _ (World.block_lt_of_cell? _ _ ((cB HB d8)))).trans ((cB HB d8)),(World.cell?_alloc_lt _ _ _ (World.block_lt_of_cell? _ _ ((cB HB d7)))).trans ((cB HB d7)),(World.cell?_alloc_lt _ _ _ (World.block_lt_of_cell? _ _ ((cB HB d6)))).trans ((cB HB d6))⟩ (fun hHeld=> ?_);clear hK K;refine kQ 9 24 av (fun K hK=> ?_);refine Kd.o_ fN (w0:=w) w.heap.size (by rfl) (.tmp 16) (.tmp 23) 26 58 (.agg #[(.int .i64 0),(.int .i64 0),(.int .i64 0),(.slice none 0 0),(.slice none 0 0),(.slice none 0 0)]) 96 rfl underlying26 kT rfl (by decide) (by omega) b6 b7 (⟨bU,bV,bW,bN,bO,bP⟩:bm) [.int .i64 bU,.int .i64 bV,.int .i64 bW,.slice dV bN.length dW,.slice dY bO.length dZ,.slice gB bP.length gC] (fun _=>True) (fun k_=>some k_=(.slice dV bN.length dW:Value).ownBlock∨some k_=(.slice dY bO.length dZ:Value).ownBlock∨some k_=(.slice gB bP.length gC:Value).ownBlock) rfl rfl ?aP (fun k_ eP=>eP.elim (fun h_=>((Kd.bn (ok':=fun k_=>((fun _=>True)) k_∧some k_≠(b6:Value).ownBlock) (Kd.cH (bR.out) (Kd.ia b1.out) (by decide)) (fun k_ hk=>⟨trivial,hk.2⟩))).1 k_ h_.symm) (fun h_=>h_.elim (fun h_=>((Kd.bn (ok':=fun k_=>((fun _=>True)) k_∧some k_≠(b6:Value).ownBlock) (Kd.cH (bS.out) (Kd.ia b1.out) (by decide)) (fun k_ hk=>⟨trivial,hk.2⟩))).1 k_ h_.symm) (fun h_=>((Kd.bn (ok':=fun k_=>((fun _=>True)) k_∧some k_≠(b6:Value).ownBlock) (Kd.cH (bT.out) (Kd.ia b1.out) (by decide)) (fun k_ hk=>⟨trivial,hk.2⟩))).1 k_ h_.symm))) ?aF ?aO ?aB ?aS ?aL ?_
   (case aP=>exact ou _ _ _ (⟨bU,bV,bW,bN,bO,bP⟩:bm) (Kd.bn (Kd.jh rfl (Kd.bn (ok':=fun k_=>((fun _=>True)) k_∧some k_≠(b6:Value).ownBlock) (Kd.cH (bR.out) (Kd.ia b1.out) (by decide)) (fun k_ hk=>⟨trivial,hk.2⟩))) (fun _ h_=>Or.inl h_)) (Kd.bn (Kd.jh rfl (Kd.bn (ok':=fun k_=>((fun _=>True)) k_∧some k_≠(b6:Value).ownBlock) (Kd.cH (bS.out) (Kd.ia b1.out) (by decide)) (fun k_ hk=>⟨trivial,hk.2⟩))) (fun _ h_=>Or.inr (Or.inl h_))) (Kd.bn (Kd.jh rfl (Kd.bn (ok':=fun k_=>((fun _=>True)) k_∧some k_≠(b6:Value).ownBlock) (Kd.cH (bT.out) (Kd.ia b1.out) (by decide)) (fun k_ hk=>⟨trivial,hk.2⟩))) (fun _ h_=>Or.inr (Or.inr (h_)))))
   (case aB=>exact oB)
   (case aF=>exact(fun _ _=>trivial))
   (case aO=>exact(by(with_reducible repeat(first|apply Kd.cV|apply Kd.cW|apply Kd.ei));exact Kd.cS b1.out (fun k_ hk=>⟨trivial,fun e_=>e_.elim (fun h_=>hk.1.1.2 h_) (fun h_=>h_.elim (fun h_=>hk.1.2 h_) (fun h_=>hk.2 h_))⟩)))
   (case aS=>exact(ah oB))
   (case aL=>have:=gJ.out;omega)
   intro jQ gV ho hb hg hat;rw[←gK.out]at ho;have dH:=am (ho);replace b3:=ks b3 hg (Kd.xU b1.out b3.out (by decide));replace b4:=ks b4 hg (Kd.xU b1.out b4.out (by decide));replace b5:=ks b5 hg (Kd.xU b1.out b5.out (by decide));replace HB:=am (hb);clear b1;clear bR;clear bS;clear bT;clear ho hb hg hat;obtain⟨gE,gF,gG⟩:=Kd.eM dH.out
   (first|subst gG|(injection gG with kL nA kM;have bX:=kL.symm;have bY:=kM.symm;clear kL nA kM;subst bX;subst bY))
   refine eP hK 24 oH (fun hHeld=> ?_);clear hK K;refine bx 10 25 av ?_;refine aaC (i:=11) (N:=none) (lb 12 4095) rfl rfl (th av.out (by kernel_rfl)) (by decide) (fun K hK=> ?_);have jR:gV.cell? ⟨bM,0,none⟩=some (b6):=(ao b5.out 0).trans rfl;have jC:=aC b5.out 0;have gQ:=b9.out;have gR:=bE.out;have gS:=bB.out;have gT:=bF.out;refine xi (w1:= ?_) (by rfl) rfl ?_ ?_;rotate_left
   ·go_simp
    rfl
   refine hK.out _ _ ?_;clear hK K;refine lZ av ?_
   try go_wp2
   go_roundg k1
   case measure=>have:=gL.out;omega
   case rel=>exact⟨(wrap64 (b2+1)),(dG),(.slice gE dG.length gF),oS,H',⟨by have:=gL.out;omega⟩,⟨by(with_reducible repeat(first|apply Kd.cV|apply Kd.cW|apply Kd.ei));exact Kd.cS (Kd.eS (p:=⟨bM,0,none⟩) (Kd.je dH.out b5.out (by decide)) (fun _ hk=>hk.2) (.slice gE dG.length gF)) (fun _ hk=>trivial)⟩,⟨oF b3⟩,⟨oF b4⟩,⟨oP b5⟩,⟨oB⟩⟩

/-- copy of elements of several cells. -/
theorem ld {P:Program}(w:World) (dT sT ty elem:TypeId) (b o dLen dCap:Nat) (a:Addr) (sLen sCap n:Nat) (cs:List Value)
  (hu:P.underlying dT=some (.slice elem)) (hs:(P.info? elem).map (·.size)=some 2) (hm:Nat.min sLen dLen=n) (hn:cs.length=n*2)
  (hsrc:∀j v,cs[j]? =some v→w.cell? (a.add j)=some v) (hc:∀j,j<cs.length→(w.cell? ⟨b,o+j,none⟩).isSome=true) (hf:∀j,j<cs.length→w.frozen? ⟨b,o+j,none⟩=false) (h1:∀v∈cs,v.oneCell'=true):
  (Builtin.copy_ #[dT,sT] ty #[.slice (some ⟨b,o,none⟩) dLen dCap,.slice (some a) sLen sCap]).run P w= .ok (goInt n) (w.setCells b o cs):=by
 have hl:=run_loadCells_list (P:=P) w a cs hsrc;have hst:=run_storeCells_cells (P:=P) b o cs 0 w (by simpa using hc) (by simpa using hf) h1
 cases hq:P.info? elem with
 |none=>simp[hq]at hs
 |some i=>
  have hi:i.size=2:=by simpa [hq]using hs
  simp[Builtin.copy_,run_underlying hu,Builtin.lenOf,Builtin.firstCells,sizeOf,typeInfo,hq,hi,hm,←hn,hl,hst]
theorem np {P:Program}(w:World) {ops:Array Oper}{rest:List Oper}{o:Oper}{a:Act}{Q:Exit→Act→World→Prop}(hgd:o.guard=none) (d s:Operand) (t t':TypeId)
  (ho:o.op= .call {callee:= .builtin .copy,args:= #[d,s],argTypes:= #[t,t']}) (v u:Value) (hd:a.eval d=v) (hs:a.eval s=u) {v':Value}{w':World}
  (hr:(Builtin.copy_ #[t,t'] o.type #[v,u]).run P w= .ok v' w') (h:wpList P ops Q rest (a.put o.dst v') w'):wpList P ops Q (o::rest) a w:=
 wpList_plain hgd fun K hK=>by
  unfold Oper.wp execOp;simp only[ho,resolve,invoke,builtin,Sem.run_bind,Sem.run_pure,Result.andThen_ok,List.map_toArray,List.map_cons,List.map_nil,hd,hs,hr];exact hK _ _ h
theorem nY {P:Program}{ops:Array Oper}{o:Oper}{a:Act}{w:World}{K:Act→World→Prop}{Q:Exit→Act→World→Prop}{E:Prop}
  (hg:o.guard=none) (d x:Operand) (dT sT:TypeId) (hop:o.op=Op.call {callee:=Callee.builtin Builtin.copy,args:= #[d,x],argTypes:= #[dT,sT]})
  (v u:Value) (hd:a.eval d=v) (hx:a.eval x=u) {v':Value}{w':World}(hr:(Builtin.copy_ #[dT,sT] o.type #[v,u]).run P w= .ok v' w') (hK:K (a.put o.dst v') w'):
  if Region.wanted o (yielded ops a.tmps)=true then Oper.wp P o a w K Q else E:=by
 have hw:Region.wanted o (yielded ops a.tmps)=true:=by simp[Region.wanted,hg]
 rw[if_pos hw];unfold Oper.wp;simp[execOp,hop,resolve,invoke,builtin,hd,hx,hr,Result.andThen];exact hK
theorem sv.calls (g n c i vb:Nat) (cur:Array Value) (inner vs:List Value) (w:World) (hi:i<n) (hroom:n+1≤c) (hc63:c≤9223372036854775807) (hvb:vb≠g)
  (hb:w.heap[g]? =some (.cells cur 82 (0,0))) (hcs:cur.size=c*2) (hin:cur.toList.take (n*2)=inner) (hv:w.heap[vb]? =some (.cells vs.toArray 82 (0,0))) (hvl:vs.length=2)
  (h1c:∀u∈inner,u.oneCell'=true) (h1v:∀u∈vs,u.oneCell'=true):
  Calls Tryz.prog 69 #[.slice (some ⟨g,0,none⟩) n c,.int .i64 i,.slice (some ⟨vb,0,none⟩) 1 1] w fun e w'=>
   e= .returned (.slice (some ⟨g,0,none⟩) (n+1) c)∧w'=(w.drew.setCells g ((i+1)*2) (inner.drop (i*2))).setCells g (i*2) vs:=by
 have hu:=underlying56
 have mixed:Tryz.prog.follows .mixedOrders=true:=by kernel_rfl
 have b7:¬((1:Int)=0):=by omega
 have b8:¬((i:Int)=(n:Int)):=by omega
 have hsz:(Tryz.prog.info? 82).map (·.size)=some 2:=by kernel_rfl
 have hil:inner.length=n*2:=by rw[←hin,List.length_take,Array.length_toList];omega
 have hdl:(inner.drop (i*2)).length=(n-i)*2:=by rw[List.length_drop,hil];omega
 have hcur:∀j,w.cell? ⟨g,j,none⟩=cur[j]? :=fun j=>ao hb j
 have hcell:∀j u,inner[j]? =some u→w.cell? ⟨g,j,none⟩=some u:=fun j u hj=>by
  rw[hcur,←hj,←hin,List.getElem?_take];have:j<inner.length:=(List.getElem?_eq_some_iff.1 hj).1;rw[if_pos (by omega),Array.getElem?_toList]
 have hsp:∀j,j<(n+1)*2→(w.cell? ⟨g,j,none⟩).isSome=true:=fun j hj=>by rw[hcur,Array.getElem?_eq_getElem (by omega)];rfl
 have hfz:∀j,w.frozen? ⟨g,j,none⟩=false:=fun j=>aC hb j
 have hvc:∀j u,vs[j]? =some u→w.cell? ⟨vb,j,none⟩=some u:=fun j u hj=>by rw[ao hv j,List.getElem?_toArray,hj]
 have hov:∀lb cb,(callFunc 106 #[.slice (some ⟨vb,0,none⟩) 1 1,.slice (some ⟨g,(i+1)*2,none⟩) lb cb]).run Tryz.prog w= .ok (.value (.bool false)) w:=fun lb cb=>by
  rw[run_callFunc_extern func106 (by kernel_rfl) (by kernel_rfl) (by kernel_rfl) (e:=Extern.SlicesOverlaps.overlaps #[56,56] #[4]) (by kernel_rfl),
   Lib.run_overlaps_apart w 56 4 82 underlying56 2 Tryz.sizeOf82 ⟨vb,0,none⟩ ⟨g,(i+1)*2,none⟩ 1 1 lb cb hvb 82 82 vs.length cur.size (by simp[World.shape?,hv]) (by simp[World.shape?,hb]) (by omega) (aC hv 0) (aC hv _)]
  rfl
 have b9:IntKind.i64.wrap ((i:Int)+(1:Int))=(i:Int)+(1:Int):=by rw[IntKind.wrap_i64];omega
 have bB:IntKind.i64.wrap ((n:Int)+(1:Int))=(n:Int)+(1:Int):=by rw[IntKind.wrap_i64];omega
 have bC:(0:Int)≤(i:Int)+(1:Int):=by omega
 have hin':i≤n:=by omega
 have htn:((i:Int)+(1:Int)).toNat=i+1:=by omega
 have b6:((n:Int)+(1:Int)).toNat=n+1:=by omega
 have bD:¬(c=i+1):=by omega
 have bE:(i:Int)≤(n:Int)+(1:Int):=by omega
 have bF:¬(c=i):=by omega
 have b2:∀ty dl dc sl sc,dl=n-i→sl=n+1-i→(Builtin.copy_ #[56,56] ty #[.slice (some ⟨g,(i+1)*2,none⟩) dl dc,.slice (some ⟨g,i*2,none⟩) sl sc]).run Tryz.prog w.drew= .ok (goInt ((n-i:Nat):Int)) (w.drew.setCells g ((i+1)*2) (inner.drop (i*2))):=fun ty dl dc sl sc adw aaL=>
  ld w.drew _ _ ty 82 g ((i+1)*2) dl dc ⟨g,i*2,none⟩ sl sc (n-i) (inner.drop (i*2)) underlying56 hsz (by simp only[Nat.min_def];split<;>omega) hdl
   (fun j v hj=>by rw[Addr.add_lit];exact hcell (i*2+j) v (by rwa [List.getElem?_drop]at hj))
   (fun j hj=>hsp _ (by omega)) (fun j hj=>hfz _) (fun v hv=>h1c v (List.mem_of_mem_drop hv))
 obtain⟨W1,b1⟩:∃W1,W1=w.drew.setCells g ((i+1)*2) (inner.drop (i*2)):=⟨_,rfl⟩;obtain⟨b3,b4,bG,_⟩:=er (inner.drop (i*2)) ((i+1)*2) w.drew cur hb (by omega)
 have b5:∀(W:World),W.heap=W1.heap→∀ty dc,(Builtin.copy_ #[56,56] ty #[.slice (some ⟨g,i*2,none⟩) (n+1-i) dc,.slice (some ⟨vb,0,none⟩) 1 1]).run Tryz.prog W= .ok (goInt 1) (W.setCells g (i*2) vs):=fun W hWh ty dc=>
  ld W _ _ ty 82 g (i*2) (n+1-i) dc ⟨vb,0,none⟩ 1 1 1 vs underlying56 hsz (by simp only[Nat.min_def];split<;>omega) (by omega)
   (fun j v hj=>by
    rw[Addr.add_lit,Nat.zero_add];rw[show W.cell? ⟨vb,j,none⟩=w.cell? ⟨vb,j,none⟩from by rw[ao (w:=W) (g:=vb) (cs:=vs.toArray) (t:=82) (by rw[hWh,b1,eN _ _ _ hvb];exact hv) j,ao hv j]]
    exact hvc j v hj)
   (fun j hj=>by rw[ao (w:=W) (g:=g) (cs:=b3) (t:=82) (by rw[hWh,b1];exact b4),Array.getElem?_eq_getElem (by omega)];rfl) (fun j hj=>aC (w:=W) (g:=g) (cs:=b3) (t:=82) (by rw[hWh,b1];exact b4) _) h1v
 rw[←b1]at b2
 go_enter func69,ntmps69
 go_wp2_with (simp only[hov])
 go_region_law_o (refine nY rfl _ _ 56 56 rfl (.slice (some ⟨g,(i+1)*2,none⟩) (n+1-(i+1)) (c-(i+1))) (.slice (some ⟨g,i*2,none⟩) (n+1-i) (c-i)) (by simp[Act.eval,Act.put]) (by simp[Act.eval,Act.put]) (b2 _ _ _ _ _ (by omega) (by omega)) ?_)
 go_wp2_with (at_builtin;refine np _ rfl _ _ 56 56 rfl _ _ rfl rfl (b5 _ rfl _ _) ?_)
 go_ret
 first|exact⟨rfl,rfl⟩|exact⟨rfl,by rw[b1]⟩
theorem rG:(Tryz.prog.info? 82).map (fun i=>(i.zero,i.size,i.bytes))=some (some (Value.agg #[.string ⟨#[]⟩,.string ⟨#[]⟩]),2,32):=by kernel_rfl
theorem acj (w:World) (vb:Nat) (vs:List Value) (hv:w.heap[vb]? =some (.cells vs.toArray 82 (0,0))) (hvl:vs.length=2) (h1v:∀u∈vs,u.oneCell'=true):fb ((Kd.raw 2).K w) 2 w (some ⟨vb,0,none⟩) 1 [vs]:=by
 refine⟨rfl,by decide,fun _=>⟨⟨vb,0,none⟩,rfl,fun j p hj=> ?_⟩⟩
 cases j with
 |zero=>
  obtain rfl:vs=p:=by simpa using hj
  refine⟨vs,hvl,⟨rfl,hvl,h1v⟩,fun i u hu=> ?_⟩;rw[Nat.zero_mul,Nat.zero_add,Addr.add_lit,Nat.zero_add,ao hv i,List.getElem?_toArray,hu]
 |succ j=>simp at hj
theorem uT.calls (A:Option Addr) (n c vb base:Nat) (rows:List (List Value)) (vs:List Value) (w0 w:World) (hn:rows.length=n)
  (hr:(Kd.raw 2).R 82 w base (fun k=>some k=(Value.slice A n c).ownBlock∨w.heap.size≤k) (.slice A n c) rows) (hv:w.heap[vb]? =some (.cells vs.toArray 82 (0,0))) (hvl:vs.length=2) (h1v:∀u∈vs,u.oneCell'=true)
  (hB:Below base w0 w) (hbase:base≤w.heap.size) (hbig:(n+1)*32≤140737488355328):
  Calls Tryz.prog 69 #[.slice A n c,.int .i64 n,.slice (some ⟨vb,0,none⟩) 1 1] w fun e w'=>∃v',e= .returned v'∧(Kd.raw 2).R 82 w' base (fun k=>some k=(Value.slice A n c).ownBlock∨w.heap.size≤k) v' (rows++[vs])∧
   Below base w0 w'∧w.grownBy w' (Value.slice A n c).ownBlock∧(v'.ownBlock=(Value.slice A n c).ownBlock∨∃b,v'.ownBlock=some b∧w.heap.size≤b):=by
 have hu:=underlying56
 have b1:¬((1:Int)=0):=by omega
 have ho:=acj w vb vs hv hvl h1v;have hr':=hr;obtain⟨hok,inner,hown,hrep⟩:=hr'
 go_enter func69,ntmps69
 rcases A with _|ad
 ·obtain⟨rfl,rfl⟩:n=0∧c=0:=by
   rcases hown.2 with⟨h1,h2⟩|⟨g',cap',cur,h1,_⟩
   ·injection h1 with _ a b;exact⟨a,b⟩
   ·cases h1
  go_wp2_with (at_builtin;refine Kd.eW (Kd.raw 2) (Rr:=(Kd.raw 2).K w) (w0:=w0) base rfl _ _ 56 82 (Value.agg #[.string ⟨#[]⟩,.string ⟨#[]⟩]) 32 rfl hu rG rfl (by decide) (by decide) _ rows [vs] (some ⟨vb,0,none⟩) 1 1 _ (fun _=>False) rfl rfl hr ho (fun x cs h=>h) (fun _ h=>h.elim) (fun k hk=> .inr hk) hB hbase (by omega) ?_;intro v1 w1 h1 h2 h3 h4)
  go_ret
  exact⟨_,rfl,h1,h2,h3,h4⟩
 ·obtain⟨g,rfl⟩:=Kd.vZ hr;have hnc:n≤c:=(Kd.aH hr).2.1
  go_wp2_with (at_builtin;refine Kd.eW (Kd.raw 2) (Rr:=(Kd.raw 2).K w) (w0:=w0) base rfl _ _ 56 82 (Value.agg #[.string ⟨#[]⟩,.string ⟨#[]⟩]) 32 rfl hu rG rfl (by decide) (by decide) _ rows [vs] (some ⟨vb,0,none⟩) 1 1 _ (fun _=>False) rfl rfl hr ho (fun x cs h=>h) (fun _ h=>h.elim) (fun k hk=> .inr hk) hB hbase (by omega) ?_;intro v1 w1 h1 h2 h3 h4)
  all_goals(go_ret;exact⟨_,rfl,h1,h2,h3,h4⟩)
theorem tK.calls (g n c i vb:Nat) (cur:Array Value) (inner vs:List Value) (w:World) (hi:i<n) (hnc:n≤c) (hroom:c<n+1) (hbig:(n+1)*32≤140737488355328)
  (hb:w.heap[g]? =some (.cells cur 82 (0,0))) (hcs:cur.size=c*2) (hin:cur.toList.take (n*2)=inner) (hv:w.heap[vb]? =some (.cells vs.toArray 82 (0,0))) (hvl:vs.length=2)
  (h1c:∀u∈inner,u.oneCell'=true) (h1v:∀u∈vs,u.oneCell'=true):
  Calls Tryz.prog 69 #[.slice (some ⟨g,0,none⟩) n c,.int .i64 i,.slice (some ⟨vb,0,none⟩) 1 1] w fun e w'=>∃(G:Nat) (ROW:Array Value),n+1≤G∧G≤9223372036854775807∧ROW.size=G*2∧ROW.toList.take (i*2)=inner.take (i*2)∧
   e= .returned (.slice (some ⟨w.heap.size,0,none⟩) (n+1) G)∧w'=(((w.alloc (.cells ROW 82)).drew.setCells w.heap.size (i*2) vs).drew).setCells w.heap.size ((i+1)*2) (inner.drop (i*2)):=by
 have hu:=underlying56
 have mixed:Tryz.prog.follows .mixedOrders=true:=by kernel_rfl
 obtain⟨i0,b3,b5,hzs,hzb⟩:=info_parts rG
 have hsz:(Tryz.prog.info? 82).map (·.size)=some 2:=by rw[b3];simp[hzs]
 have b7:¬((1:Int)=0):=by omega
 have b8:¬((i:Int)=(n:Int)):=by omega
 have b9:(c:Int)<(n:Int)+(1:Int):=by omega
 have hil:inner.length=n*2:=by rw[←hin,List.length_take,Array.length_toList];omega
 have hdl:(inner.drop (i*2)).length=(n-i)*2:=by rw[List.length_drop,hil];omega
 have hgw:g<w.heap.size:=ie hb;have hvw:vb<w.heap.size:=ie hv
 have hcell:∀j u,inner[j]? =some u→w.cell? ⟨g,j,none⟩=some u:=fun j u hj=>by
  rw[ao hb j,←hj,←hin,List.getElem?_take];have:j<inner.length:=(List.getElem?_eq_some_iff.1 hj).1;rw[if_pos (by omega),Array.getElem?_toList]
 have hvc:∀j u,vs[j]? =some u→w.cell? ⟨vb,j,none⟩=some u:=fun j u hj=>by rw[ao hv j,List.getElem?_toArray,hj]
 have hkk:(n:Int)+(1:Int)-(i:Int)=((n+1-i:Nat):Int):=by omega
 have hik:i+(n+1-i)=n+1:=by omega
 have hold:(Builtin.firstCells i0.size i (.slice (some ⟨g,0,none⟩) i c)).run Tryz.prog w.drew= .ok (inner.take (i*2)).toArray w.drew:=by
  rw[hzs]
  exact run_firstCells_some w.drew 2 i ⟨g,0,none⟩ i c (inner.take (i*2)) (by rw[List.length_take];omega) (fun j v hj=>by
   rw[Addr.add_lit,Nat.zero_add];rw[List.getElem?_take]at hj
   split at hj
   ·exact hcell j v hj
   ·cases hj)
 have hrz:∀ty,(Builtin.append_ #[56,3] ty #[.slice (some ⟨g,0,none⟩) i c,.int .i64 ((n:Int)+(1:Int)-(i:Int))]).run Tryz.prog w=
   .ok (.slice (some ⟨w.heap.size,0,none⟩) (n+1) (grownCap w (n+1) c 82)) (w.drew.alloc (.cells ((inner.take (i*2)).toArray++Builtin.zeroCells (Value.agg #[.string ⟨#[]⟩,.string ⟨#[]⟩]).cells (n+1-i)++Builtin.zeroCells (Value.agg #[.string ⟨#[]⟩,.string ⟨#[]⟩]).cells (grownCap w (n+1) c 82-(n+1))) 82)):=fun ty=>by
  have h:=Lib.run_append_grow_zeros w 56 3 ty 82 i0 _ .i64 .i64 hu underlying3 b3 b5 (some ⟨g,0,none⟩) i c (inner.take (i*2)) hold (n+1-i) (by omega) (by omega) (by omega) (by omega) (by rw[hzb];omega) (by rw[hzb,hik];exact growslice_fits hroom hbig);rw[hik]at h;rw[hkk];exact h
 obtain⟨G,hG⟩:∃G,G=grownCap w (n+1) c 82:=⟨_,rfl⟩
 have hGn:n+1≤G:=by rw[hG];exact grownCap_ge w _ _ _
 have b4:G≤9223372036854775807:=by
  have:=grownCap_le_maxLen w (n+1) c 82 (by unfold maxLen;omega);rw[←hG]at this;unfold maxLen at this
  omega
 obtain⟨ROW,hROW⟩:∃ROW:Array Value,ROW=(inner.take (i*2)).toArray++Builtin.zeroCells (Value.agg #[.string ⟨#[]⟩,.string ⟨#[]⟩]).cells (n+1-i)++Builtin.zeroCells (Value.agg #[.string ⟨#[]⟩,.string ⟨#[]⟩]).cells (G-(n+1)):=⟨_,rfl⟩;rw[←hG]at hrz;rw[←hROW]at hrz;have hzc:(Value.agg #[.string ⟨#[]⟩,.string ⟨#[]⟩]).cells.size=2:=rfl
 have hRl:ROW.size=G*2:=by
  rw[hROW];simp only[Array.size_append,List.size_toArray,List.length_take,Builtin.zeroCells,Array.size_map,Array.size_range,hzc]
  omega
 have hRt:ROW.toList.take (i*2)=inner.take (i*2):=by
  rw[hROW,Array.toList_append,Array.toList_append,List.append_assoc,List.take_append_of_le_length (by rw[List.length_take];omega),List.take_of_length_le (by rw[List.length_take];omega)]
 have hblk:∀W:World,W.heap=(w.drew.alloc (.cells ROW 82)).heap→W.heap[w.heap.size]? =some (.cells ROW 82 (0,0)):=fun W h=>by rw[h];exact iZ w.drew _
 have hcpA:∀(W:World),W.heap=(w.drew.alloc (.cells ROW 82)).heap→∀ty dc,(Builtin.copy_ #[56,56] ty #[.slice (some ⟨w.heap.size,i*2,none⟩) (n+1-i) dc,.slice (some ⟨vb,0,none⟩) 1 1]).run Tryz.prog W= .ok (goInt 1) (W.setCells w.heap.size (i*2) vs):=fun W hWh ty dc=>
  ld W _ _ ty 82 w.heap.size (i*2) (n+1-i) dc ⟨vb,0,none⟩ 1 1 1 vs hu hsz (by simp only[Nat.min_def];split<;>omega) (by omega)
   (fun j v hj=>by
    rw[Addr.add_lit,Nat.zero_add,ao (w:=W) (g:=vb) (cs:=vs.toArray) (t:=82) (by rw[hWh];exact aG (ar hv) _) j,List.getElem?_toArray,hj])
   (fun j hj=>by rw[ao (hblk W hWh),Array.getElem?_eq_getElem (by omega)];rfl) (fun j hj=>aC (hblk W hWh) _) h1v
 obtain⟨b1,b2,b6,_⟩:=er vs (i*2) (w.drew.alloc (.cells ROW 82)) ROW (iZ w.drew _) (by omega)
 have hcpB:∀(W:World),W.heap=((w.drew.alloc (.cells ROW 82)).setCells w.heap.size (i*2) vs).heap→∀ty dl dc sl sc,dl=n-i→sl=n-i→(Builtin.copy_ #[56,56] ty #[.slice (some ⟨w.heap.size,(i+1)*2,none⟩) dl dc,.slice (some ⟨g,i*2,none⟩) sl sc]).run Tryz.prog W= .ok (goInt ((n-i:Nat):Int)) (W.setCells w.heap.size ((i+1)*2) (inner.drop (i*2))):=fun W hWh ty dl dc sl sc adw aaL=>
  ld W _ _ ty 82 w.heap.size ((i+1)*2) dl dc ⟨g,i*2,none⟩ sl sc (n-i) (inner.drop (i*2)) hu hsz (by simp only[Nat.min_def];split<;>omega) hdl
   (fun j v hj=>by
    rw[Addr.add_lit];have h2:=hcell (i*2+j) v (by rwa [List.getElem?_drop]at hj);rw[ao hb]at h2;rw[ao (w:=W) (g:=g) (cs:=cur) (t:=82) (by rw[hWh,eN _ _ _ (by omega)];exact aG (ar hb) _)]
    exact h2)
   (fun j hj=>by rw[ao (w:=W) (g:=w.heap.size) (cs:=b1) (t:=82) (by rw[hWh];exact b2),Array.getElem?_eq_getElem (by omega)];rfl) (fun j hj=>aC (w:=W) (g:=w.heap.size) (cs:=b1) (t:=82) (by rw[hWh];exact b2) _) (fun v hv=>h1c v (List.mem_of_mem_drop hv))
 have hGi:¬(G=i):=by omega
 have hGim:¬(G=i+1):=by omega
 have hci:¬(c=i):=by omega
 have bB:IntKind.i64.wrap ((i:Int)+(1:Int))=(i:Int)+(1:Int):=by rw[IntKind.wrap_i64];omega
 have bC:IntKind.i64.wrap ((n:Int)+(1:Int))=(n:Int)+(1:Int):=by rw[IntKind.wrap_i64];omega
 have bD:IntKind.i64.wrap ((n:Int)+(1:Int)-(i:Int))=(n:Int)+(1:Int)-(i:Int):=by rw[IntKind.wrap_i64];omega
 have bE:(0:Int)≤(i:Int)+(1:Int):=by omega
 have hin':i≤n:=by omega
 have htn:((i:Int)+(1:Int)).toNat=i+1:=by omega
 have bF:(i:Int)≤(n:Int):=by omega
 clear hkk hik hold hROW hG hblk b2 b6
 go_enter func69,ntmps69
 go_wp2_with (first
  |(at_builtin;refine Lib.wpList_append_run _ rfl _ _ _ _ rfl _ _ rfl rfl _ _ (hrz _) ?_)
  |(refine np _ rfl _ _ 56 56 rfl _ _ rfl rfl (hcpA _ rfl _ _) ?_))
 go_region_law_o (refine nY rfl _ _ 56 56 rfl (.slice (some ⟨w.heap.size,(i+1)*2,none⟩) (n+1-(i+1)) (G-(i+1))) (.slice (some ⟨g,i*2,none⟩) (n-i) (c-i)) (by simp[Act.eval,Act.put]) (by simp[Act.eval,Act.put]) (hcpB ((((w.alloc (.cells ROW 82)).drew).setCells w.heap.size (i*2) vs).drew) (by rfl) _ _ _ _ _ (by omega) (by omega)) ?_)
 go_wp2
 go_ret
 exact⟨G,ROW,hGn,b4,hRl,hRt,rfl,rfl⟩
/-- slices.Insert of one element: the row with it. -/
theorem ack.calls (A:Option Addr) (n c i vb base:Nat) (ok:Nat→Prop) (rows:List (List Value)) (vs:List Value) (w0 w:World) (hi:i≤n) (hn:rows.length=n) (hr:(Kd.raw 2).R 82 w base ok (.slice A n c) rows)
  (hv:w.heap[vb]? =some (.cells vs.toArray 82 (0,0))) (hvb:some vb≠(Value.slice A n c).ownBlock) (hvl:vs.length=2) (h1v:∀u∈vs,u.oneCell'=true) (hB:Below base w0 w) (hbase:base≤w.heap.size) (hbig:(n+1)*32≤140737488355328):
  Calls Tryz.prog 69 #[.slice A n c,.int .i64 i,.slice (some ⟨vb,0,none⟩) 1 1] w fun e w'=>∃v',e= .returned v'∧(Kd.raw 2).R 82 w' base (fun k=>some k=(Value.slice A n c).ownBlock∨w.heap.size≤k) v' (rows.take i++[vs]++rows.drop i)∧
   Below base w0 w'∧w.grownBy w' (Value.slice A n c).ownBlock∧(v'.ownBlock=(Value.slice A n c).ownBlock∨∃b,v'.ownBlock=some b∧w.heap.size≤b):=by
 have hr':(Kd.raw 2).R 82 w base (fun k=>some k=(Value.slice A n c).ownBlock∨w.heap.size≤k) (.slice A n c) rows:=⟨fun k hk=> .inl hk.symm,hr.2⟩;rcases Nat.lt_or_ge i n with hlt|hge
 case inr=>
  obtain rfl:i=n:=by omega
  rw[List.take_of_length_le (by omega),List.drop_of_length_le (by omega),List.append_nil];exact uT.calls A i c vb base rows vs w0 w hn hr' hv hvl h1v hB hbase hbig
 case inl=>
 obtain⟨hok,inner,⟨hil,hown⟩,hrep⟩:=hr';rcases hown with⟨he,h0⟩|⟨g,cap,cur,he,hbg,hh,hnc,hcm,hcs,hin⟩
 ·omega
 injection he with ha hnn hcc;subst ha;subst hcc;subst hnn;rw[show(Kd.raw 2).sz=2 from rfl]at hil hcs hin hrep;have b2:∀u∈inner,u.oneCell'=true:=Kd.uG hrep (by decide) (fun p c h=>h.2.2);have hrI:=uy (i:=i) hrep (by omega) hvl h1v
 have hgv:vb≠g:=fun he=>hvb (by rw[he];rfl)
 have hpl:i*2≤inner.length:=by rw[hil];omega
 have b1:(rows.take i++[vs]++rows.drop i).length=rows.length+1:=by simp only[List.length_append,List.length_take,List.length_drop,List.length_singleton];omega
 rcases Nat.lt_or_ge c (rows.length+1)with hg|hroom
 ·refine(tK.calls g rows.length c i vb cur inner vs w hlt hnc hg hbig hh hcs hin hv hvl b2 h1v).mono ?_;rintro e w' ⟨G,ROW,hGn,b3,hRl,hRt,rfl,rfl⟩;refine⟨_,rfl,?_,?_,kt w _ _ _ _ _ _,.inr ⟨_,rfl,Nat.le_refl _⟩⟩
  ·obtain⟨c1,k1,k2,k3⟩:=er (e:=82) vs (i*2) (w.alloc (.cells ROW 82)).drew ROW (ar (iZ w _)) (by omega);obtain⟨c2,l1,l2,l3⟩:=er (inner.drop (i*2)) ((i+1)*2) _ c1 (ar k1) (by rw[List.length_drop,k2,hil,hRl];omega);have hm:G≤maxLen:=b3;rw[b1.symm];refine qP l1 (by rw[l2,k2,hRl]) (by omega) hm (by omega) (.inr (Nat.le_refl _)) rfl ?_;rw[l3];have:=sF ROW.toList inner vs (i*2) 2 hvl hpl hRt c1.toList (by rw[Array.length_toList];omega) k3;rw[show(i+1)*2=i*2+2 by omega,show(rows.take i++[vs]++rows.drop i).length*2=inner.length+2 by rw[b1,hil];omega,this];exact hrI
  ·exact hB.grown (kt w _ _ _ _ _ none) hbase (fun k e=>by cases e)
 ·refine(sv.calls g rows.length c i vb cur inner vs w hlt hroom (by unfold maxLen at hcm;omega) hgv hh hcs hin hv hvl b2 h1v).mono ?_;rintro e w' ⟨rfl,rfl⟩;refine⟨_,rfl,?_,?_,ot w g _ _ _ _,.inl rfl⟩
  ·obtain⟨c1,k1,k2,k3⟩:=er (inner.drop (i*2)) ((i+1)*2) w.drew cur (ar hh) (by rw[List.length_drop,hil,hcs];omega);obtain⟨c2,l1,l2,l3⟩:=er vs (i*2) _ c1 k1 (by rw[k2,hcs];omega);rw[b1.symm];refine qP l1 (by rw[l2,k2,hcs]) (by omega) hcm hbg (.inl rfl) rfl ?_;rw[l3];have:=ux cur.toList inner vs (i*2) 2 hvl hpl (by rw[←hin,List.take_take,Nat.min_eq_left (by omega)]) (by rw[Array.length_toList,hcs];omega) c1.toList (by rw[k3,show(i+1)*2=i*2+2 by omega]);rw[show(rows.take i++[vs]++rows.drop i).length*2=inner.length+2 by rw[b1,hil];omega,this];exact hrI
  ·exact hB.grown (ot w g _ _ _ _) hbase (fun k e=>by injection e with e;omega)
def ew.f (l0:List ct) (a1:Int) (l2:List ct):Option (List ct):=if 0≤a1∧a1≤(l0.length:Int)∧(l0.length+1)*32≤140737488355328 then some (l0.take a1.toNat++l2++l0.drop a1.toNat)else none
/-- One attribute put into a row of the call's own: the row, or another one. -/
theorem ew.calls (A:Option Addr) (c b0:Nat) (ok:Nat→Prop) (l0:List ct) (a1:Int) (s t:ByteArray) (r:List ct) (w:World) (ho:Kd.R fa 82 w b0 ok (.slice A l0.length c) l0) (hb0:b0≤w.heap.size) (h:ew.f l0 a1 [⟨s,t⟩]=some r):
  Calls Tryz.prog 69 #[.slice A l0.length c,.int .i64 a1,.slice (some ⟨w.heap.size,0,none⟩) 1 1] (w.alloc (.cells #[.string s,.string t] 82 (0,0))) fun e w'=>∃iV:Value,e= .returned iV∧Kd.R fa 82 w' b0 (fun _=>True) iV r∧w.grownBy w' (Value.slice A l0.length c).ownBlock:=by
 unfold ew.f at h
 split at h
 case isFalse=>cases h
 case isTrue hc=>
 obtain⟨h0,h1,hbig⟩:=hc;obtain rfl:=Option.some.inj h;obtain⟨i,rfl⟩:∃i:Nat,a1=(i:Int):=⟨a1.toNat,by omega⟩;have hraw:=adS (d:=fa) su (fun _ _ _ _ _ h=>ff h) (Kd.ca ho (.cells #[.string s,.string t] 82 (0,0)))
 have hne:some w.heap.size≠(Value.slice A l0.length c).ownBlock:=fun he=>Nat.lt_irrefl _ (Kd.xz ho _ he.symm)
 refine(ack.calls A l0.length c i w.heap.size b0 ok (l0.map su) [.string s,.string t] (w.alloc (.cells #[.string s,.string t] 82 (0,0))) (w.alloc (.cells #[.string s,.string t] 82 (0,0))) (by omega) (List.length_map ..) hraw (iZ w _) hne rfl (by simp;exact⟨rfl,rfl⟩) (Below.refl _ _) (Nat.le_trans hb0 (by show w.heap.size≤(w.heap.push _).size;rw[Array.size_push];omega)) hbig).mono ?_;rintro e w' ⟨v',rfl,hr,hb,hg,hat⟩;refine⟨v',rfl,?_,⟨hg.os,hg.tape,hg.output,Nat.le_trans (by show w.heap.size≤(w.heap.push _).size;rw[Array.size_push];omega) hg.size,fun k hk hn=>(hg.block k (by show k<(w.heap.push _).size;rw[Array.size_push];omega) hn).trans (by show(w.heap.push _)[k]? =_;rw[Array.getElem?_push,if_neg (Nat.ne_of_lt hk)])⟩⟩;rw[show(l0.map su).take i++[[.string s,.string t]]++(l0.map su).drop i=(l0.take i++[(⟨s,t⟩:ct)]++l0.drop i).map su from by simp[List.map_take,List.map_drop,su]]at hr;exact Kd.bn (aan (d:=fa) su (fun _ _ _ x=>iI _ _ _ x) hr) (fun _ _=>trivial)
def dj.l0:Nat→Int→List Int→Int→Option (List Int)
 |0,_,_,_=>none
 |k+1,x1,x5,x6=>if x6>0 then(if 0≤(wrap64 (x6-1))then(if(wrap64 (x6-1))<(x5.length:Int)then(if(rd x5 (wrap64 (x6-1)))>x1 then(if 0≤x6 then(if x6<(x5.length:Int)then(dj.l0 k x1 (x5.set (x6:Int).toNat (rd x5 (wrap64 (x6-1)))) (wrap64 (x6-1)))else(none))else(none))else(if 0≤x6 then(if x6<(x5.length:Int)then(some (x5.set (x6:Int).toNat x1))else(none))else(none)))else(none))else(none))else(if 0≤x6 then(if x6<(x5.length:Int)then(some (x5.set (x6:Int).toNat x1))else(none))else(none))
def dj.f (k:Nat) (l0:List Int) (a1:Int):Option (List Int):=(eL.f k l0 a1).bind fun b4=>(if b4=true then(some l0)else((some (([]:List Int):List Int)).bind fun b1=>(if b1.length+l0.length<17592186044416 then((some (b1++l0:List Int)).bind fun b2=>(if b2.length<17592186044416 then((some (b2++[a1]:List Int)).bind fun b3=>(dj.l0 k a1 b3 (wrap64 ((b3.length:Int)-1))))else(none)))else(none))))
theorem dj.calls (k:Nat) (A0:Option Addr) (c0:Nat) (l0:List Int) (a1:Int) (r:List Int) (b0:Nat) (w:World) (hb0:b0≤w.heap.size) (ho0:Kd.R (Kd.int .i64) 3 w b0 (fun _=>True) (.slice A0 l0.length c0) l0) (h:dj.f k l0 a1=some r):
  Calls Tryz.prog 141 #[.slice A0 l0.length c0,.int .i64 a1] w fun e w'=>∃iV:Value,e= .returned (iV)∧Kd.R (Kd.int .i64) 3 w' b0 (fun _=>True) iV r∧Below w.heap.size w w':=by
 have d2:=am (Kd.aH ho0).2.2;have dV:=am (Kd.aH ho0).2.1;have gH:=ae.mk ho0;have dW:=ae.mk hb0;clear ho0 hb0;have HB:=am (Below.refl w.heap.size w);have H:((eL.f k l0 a1).bind fun bJ=>(if bJ=true then(some l0)else((some (([]:List Int):List Int)).bind fun b7=>(if b7.length+l0.length<17592186044416 then((some (b7++l0:List Int)).bind fun b6=>(if b6.length<17592186044416 then((some (b6++[a1]:List Int)).bind fun b5=>(dj.l0 k a1 b5 (wrap64 ((b5.length:Int)-1))))else(none)))else(none)))))=some r:=h;clear h;replace H:=Option.bind_eq_some_iff.mp H;obtain⟨bJ,dX,H⟩:=H;replace H:(if bJ=true then(some l0)else((some (([]:List Int):List Int)).bind fun b7=>(if b7.length+l0.length<17592186044416 then((some (b7++l0:List Int)).bind fun b6=>(if b6.length<17592186044416 then((some (b6++[a1]:List Int)).bind fun b5=>(dj.l0 k a1 b5 (wrap64 ((b5.length:Int)-1))))else(none)))else(none))))=some r:=H;have A3:=ae.mk dX;clear dX
 by_cases c4:bJ=true
 ·subst c4
  have H1:(some l0)=some r:=by rw[if_pos rfl]at H;exact H
  clear H;obtain rfl:=Option.some.inj H1
  go_enter func141,ntmps141
  go_wp2_with (first|((with_reducible refine ak (f:=152) rfl ?_);refine tg (some 9) rfl rfl func152 (by kernel_rfl) rfl #[.slice A0 l0.length c0,.int .i64 a1] rfl oL ?_;(with_reducible refine(eL.calls k _ _ l0 a1 true _ ?fl ?nq A3.out).mono ?_);(case fl=>repeat(first|exact d2.out|(with_reducible refine Kd.fx ?_ _)|(with_reducible refine Kd.fy ?_ _)|(with_reducible refine Kd.hD ?_)));(case nq=>exact dV.out);rintro e w' ⟨rfl,⟨nd,rfl⟩⟩;refine⟨_,rfl,?_⟩))
  go_ret
  exact⟨_,oE,(vK gH),oB⟩
 replace c4:=Bool.eq_false_iff.mpr c4;subst c4
 have H1:((some (([]:List Int):List Int)).bind fun b7=>(if b7.length+l0.length<17592186044416 then((some (b7++l0:List Int)).bind fun b6=>(if b6.length<17592186044416 then((some (b6++[a1]:List Int)).bind fun b5=>(dj.l0 k a1 b5 (wrap64 ((b5.length:Int)-1))))else(none)))else(none)))=some r:=by rw[if_neg (show¬(false=true) by decide)]at H;exact H
 clear H;have H:=H1;clear H1;obtain⟨b7,cX⟩:∃y_:List Int,y_=(([]:List Int)):=⟨_,rfl⟩;replace H:(if b7.length+l0.length<17592186044416 then((some (b7++l0:List Int)).bind fun b6=>(if b6.length<17592186044416 then((some (b6++[a1]:List Int)).bind fun b5=>(dj.l0 k a1 b5 (wrap64 ((b5.length:Int)-1))))else(none)))else(none))=some r:=oY;have bV:=ae.mk cX;clear cX;obtain⟨c7,H⟩:=lu H;have gI:=ae.mk c7;clear c7;obtain⟨b6,cX⟩:∃y_:List Int,y_=(b7++l0):=⟨_,rfl⟩;replace H:(if b6.length<17592186044416 then((some (b6++[a1]:List Int)).bind fun b5=>(dj.l0 k a1 b5 (wrap64 ((b5.length:Int)-1))))else(none))=some r:=oY;have dN:=ae.mk cX;clear cX;obtain⟨c8,H⟩:=lu H;have gJ:=ae.mk c8;clear c8;obtain⟨b5,cX⟩:∃y_:List Int,y_=(b6++[a1]):=⟨_,rfl⟩;replace H:(dj.l0 k a1 b5 (wrap64 ((b5.length:Int)-1)))=some r:=oY;have dO:=ae.mk cX;clear cX;have H':=ae.mk H;clear H
 go_enter func141,ntmps141
 go_wp2_with (first|((with_reducible refine ak (f:=152) rfl ?_);refine tg (some 9) rfl rfl func152 (by kernel_rfl) rfl #[.slice A0 l0.length c0,.int .i64 a1] rfl oL ?_;(with_reducible refine(eL.calls k _ _ l0 a1 false _ ?fl ?nq A3.out).mono ?_);(case fl=>repeat(first|exact d2.out|(with_reducible refine Kd.fx ?_ _)|(with_reducible refine Kd.fy ?_ _)|(with_reducible refine Kd.hD ?_)));(case nq=>exact dV.out);rintro e w' ⟨rfl,⟨nd,rfl⟩⟩;refine⟨_,rfl,?_⟩)|((with_reducible refine ai (N:=11) rfl ?_);refine Kd.iO (Kd.int .i64) _ 3 ?hg (N:=11) ?hd (xs:=([]:List Int)) (inner:=[]) (ok:=fun _=>True) (ft:=fun _=>True) ?hr ?hp (fun _ hk=>hk) trivial (Below.refl _ _) (Nat.le_refl _) (by simp) ?_;(case hd=>rfl);(case hg=>rfl);(case hr=>first|(go_simp;done)|(go_simp;rfl));(case hp=>exact(cK.none _ _));intro gK w9 bG hb fc da;clear fc da;(first|rw[←bV.out]at bG|(simp only[Int.reduceToNat]at bG;rw[←bV.out]at bG));have b8:=am (Kd.aw bG (ah oB));have b9:=hB HB hb;clear HB;have bW:=b8;have HB:=b9;clear b8 b9;clear hb bG)|((with_reducible refine et (b:= .append) (xs:= #[.tmp 11,.tmp 12]) rfl ?_);at_builtin;refine Kd.eW (Kd.int .i64) (w0:=w) w.heap.size rfl (.tmp 11) (.tmp 12) 98 3 (.int .i64 0) 8 rfl underlying98 info3 rfl (by decide) (by omega) gK b7 l0 _ _ _ (fun _=>True) (fun _=>False) rfl rfl ?aO ?aR (fun _ _ h=>h) (fun _ h=>h.elim) ?aF ?aB ?aS ?aL ?_;(case aR=>repeat(first|exact(Kd.de d2.out HB.out)|(with_reducible refine Kd.fx ?_ _)|(with_reducible refine Kd.fy ?_ _)|(with_reducible refine Kd.hD ?_)));(case aB=>exact oB);(case aF=>exact(fun _ _=>trivial));(case aO=>exact(vK bW));(case aS=>exact(ah oB));(case aL=>have:=gI.out;omega);intro gL jL ho hb hg hat;rw[←dN.out]at ho;have b8:=am (hb);have b9:=am (ho);clear HB;clear bW;have HB:=b8;have bX:=b9;clear b8 b9;clear ho hb hg hat)|((with_reducible refine et (b:= .append) (xs:= #[.tmp 13,.tmp 15]) rfl ?_);at_builtin;refine Kd.nf (Kd.int .i64) (w0:=w) w.heap.size rfl (.tmp 13) (.tmp 15) 98 3 (.int .i64 0) 8 rfl underlying98 info3 rfl (by decide) (by omega) gL b6 a1 [.int .i64 a1] (fun _=>True) (fun _=>False) rfl rfl ?aP (fun _ hk=>hk.elim) ?aF ?aO ?aB ?aS ?aL ?_;(case aP=>exact rfl);(case aB=>exact oB);(case aF=>exact(fun _ _=>trivial));(case aO=>exact(vK bX));(case aS=>exact(ah oB));(case aL=>have:=gJ.out;omega);intro jB jM ho hb hg hat;rw[←dO.out]at ho;have b8:=am (hb);have b9:=am (ho);clear HB;clear bX;have HB:=b8;have bY:=b9;clear b8 b9;clear ho hb hg hat;obtain⟨gM,bK,gN⟩:=Kd.ax bY.out;subst gN))
 go_loopg [6] k (fun kq v6 w'=>∃(b2:List Int) (b1:Int),v6= .int .i64 b1∧ae (dj.l0 kq a1 b2 b1=some r)∧ae (kq≤k)∧ae (Kd.R (Kd.int .i64) 3 w' w.heap.size (fun _=>True) (.slice gM b5.length bK) b2)∧ae (Below w.heap.size w w'))
 case atStart=>exact⟨(b5),(wrap64 ((b5.length:Int)-1)),oS,H',⟨Nat.le_refl _⟩,⟨by(with_reducible repeat(first|apply Kd.ca|apply Kd.cd|apply Kd.cj));exact bY.out⟩,⟨oB⟩⟩
 case round=>
  clear H'
  try clear c1
  try clear p2
  try clear c4
  try clear p6
  try clear c7
  try clear c8
  obtain⟨b2,b1,rfl,HA,dY,b4,HB⟩:=hrel;have bF:=(Kd.aH b4.out).1;rw[bF]at b4
  (try simp only[bF])
  cases gk with
  |zero=>exact absurd HA.out (by simp[dj.l0])
  |succ k1=>
   have H:=HA.out;clear HA;simp only[dj.l0]at H
   by_cases bH:b1>0
   rotate_left
   ·rw[if_neg bH]at H;have dP:decide (0<b1)=false:=decide_eq_false bH;clear bH;obtain⟨dZ,H⟩:=lu H;have j3:decide (0≤b1)=true:=decide_eq_true dZ;clear dZ;obtain⟨gA,H⟩:=lu H;have j4:decide (b1<(b2.length:Int))=true:=decide_eq_true gA;clear gA;obtain⟨d3,cX⟩:∃y_:List Int,y_=(b2.set (b1:Int).toNat a1):=⟨_,rfl⟩;replace H:(some d3)=some r:=oY;have dQ:=ae.mk cX;clear cX;obtain rfl:=Option.some.inj H;have d4:0≤(b1:Int):=oa;have d5:(b1:Int)<((b2.length:Int):Int):=oa;obtain⟨bL,jC,d6,d7,gO,jD,d8⟩:=Kd.kA b4.out (by omega)
    (first|cases d6|(injection d6 with gz nj nn;(first|subst gz|(injection gz with gz;subst gz));subst nn;clear nj))
    have gP:=ae.mk d7;have jE:=ae.mk d8;clear d7 gO d8;obtain⟨gV,gW⟩:=Kd.pH 0 b4.out (b1:Int) d4 d5;replace d4:=eq_true d4;replace d5:=eq_true d5;have bM:=Kd.rn b4.out (b1:Int) a1
    go_wp2_with (first|((with_reducible refine eK (t:=3) (p:=44) rfl ?_);refine eE (t:=3) (p:=44) (v:= ?adE) (w1:=(wr.setCell ⟨bL,(b1:Int).toNat,none⟩ (.int .i64 a1))) ?hg ?ho ?hn ?hr ?_;(case ho=>rfl);(case hg=>rfl);(case hn=>rfl);(case hr=>first|(go_simp;done)|(go_simp;rfl));intro d9 hw;have hg:wr.grownBy d9 (some bL):=(by rw[hw];exact bM.2);have lG:Kd.R (Kd.int .i64) 3 d9 w.heap.size (fun _=>True) (.slice (some ⟨bL,0,none⟩) b2.length bK) d3:=(by rw[hw,dQ.out];exact bM.1);clear bM;have b8:=am (lG);have b9:=am ((by rw[hw];exact aD (HB.out) gP.out:Below w.heap.size w d9));clear b4;clear HB;have b4:=b8;have HB:=b9;clear b8 b9;clear hg hw lG))
    go_ret
    exact⟨_,oE,Kd.aw (vK b4) dW.out,oB⟩
   rw[if_pos bH]at H;have dP:decide (0<b1)=true:=decide_eq_true bH;clear bH;obtain⟨b3,bD⟩:∃j_:Int,(wrap64 (b1-1))=j_:=⟨_,rfl⟩
   replace H:(if 0≤(b3)then(if(b3)<(b2.length:Int)then(if(rd b2 (b3))>a1 then(if 0≤b1 then(if b1<(b2.length:Int)then(dj.l0 k1 a1 (b2.set (b1:Int).toNat (rd b2 (b3))) b3)else(none))else(none))else(if 0≤b1 then(if b1<(b2.length:Int)then(some (b2.set (b1:Int).toNat a1))else(none))else(none)))else(none))else(none))=some r:=by first|(rw[bD]at H;exact H)|(simp only[bD]at H⊢;exact H)
   have gX:(IntKind.i64.wrap (b1-1))=b3:=(kR _).trans bD;obtain⟨gB,H⟩:=lu H;have j5:decide (0≤(b3))=true:=decide_eq_true gB;clear gB;obtain⟨gC,H⟩:=lu H;have j6:decide ((b3)<(b2.length:Int))=true:=decide_eq_true gC;clear gC
   by_cases bI:(rd b2 (b3))>a1
   rotate_left
   ·rw[if_neg bI]at H;have dR:decide (a1<(rd b2 (b3)))=false:=decide_eq_false bI;clear bI;obtain⟨gD,H⟩:=lu H;have j7:decide (0≤b1)=true:=decide_eq_true gD;clear gD;obtain⟨gE,H⟩:=lu H;have j8:decide (b1<(b2.length:Int))=true:=decide_eq_true gE;clear gE;obtain⟨dA,cX⟩:∃y_:List Int,y_=(b2.set (b1:Int).toNat a1):=⟨_,rfl⟩;replace H:(some dA)=some r:=oY;have dS:=ae.mk cX;clear cX;obtain rfl:=Option.some.inj H;have bB:0≤((b3):Int):=oa;have bC:(b3)<(b2.length:Int):=oa;obtain⟨bZ,bN,bE⟩:=Kd.kf (Kd.aH b4.out).2.2 (b3) bB bC
    cases bN
    replace bB:=eq_true bB;replace bC:=eq_true bC;have dB:0≤(b1:Int):=oa;have dC:(b1:Int)<((b2.length:Int):Int):=oa;obtain⟨bO,jF,dD,dE,gQ,jG,dF⟩:=Kd.kA b4.out (by omega)
    (first|cases dD|(injection dD with gz nj nn;(first|subst gz|(injection gz with gz;subst gz));subst nn;clear nj))
    have gR:=ae.mk dE;have jH:=ae.mk dF;clear dE gQ dF
    (first|simp only[add_plain]at bE|skip)
    obtain⟨gY,gZ⟩:=Kd.pH 0 b4.out (b1:Int) dB dC;replace dB:=eq_true dB;replace dC:=eq_true dC;have bP:=Kd.rn b4.out (b1:Int) a1
    go_wp2_with (first|((with_reducible refine eK (t:=3) (p:=44) rfl ?_);refine eE (t:=3) (p:=44) (v:= ?vo_w28) (w1:=(wr.setCell ⟨bO,(b1:Int).toNat,none⟩ (.int .i64 a1))) ?hg ?ho ?hn ?hr ?_;(case ho=>rfl);(case hg=>rfl);(case hn=>rfl);(case hr=>first|(go_simp;done)|(go_simp;rfl));intro dG hw;have hg:wr.grownBy dG (some bO):=(by rw[hw];exact bP.2);have lG:Kd.R (Kd.int .i64) 3 dG w.heap.size (fun _=>True) (.slice (some ⟨bO,0,none⟩) b2.length bK) dA:=(by rw[hw,dS.out];exact bP.1);clear bP;have b8:=am (lG);have b9:=am ((by rw[hw];exact aD (HB.out) gR.out:Below w.heap.size w dG));clear b4;clear HB;have b4:=b8;have HB:=b9;clear b8 b9;clear hg hw lG))
    go_ret
    exact⟨_,by first|rfl|(simp[eQ,eR]<;>rfl)|(simp only[←bD];first|rfl|(simp[eQ,eR]<;>rfl))|(simp[*,eQ,eR]<;>rfl),Kd.aw (vK b4) dW.out,oB⟩
   rw[if_pos bI]at H;have dR:decide (a1<(rd b2 (b3)))=true:=decide_eq_true bI;clear bI;obtain⟨gF,H⟩:=lu H;have j9:decide (0≤b1)=true:=decide_eq_true gF;clear gF;obtain⟨gG,H⟩:=lu H;have jA:decide (b1<(b2.length:Int))=true:=decide_eq_true gG;clear gG;obtain⟨bQ,cX⟩:∃y_:List Int,y_=(b2.set (b1:Int).toNat (rd b2 (b3))):=⟨_,rfl⟩;replace H:(dj.l0 k1 a1 bQ b3)=some r:=oY;have dT:=ae.mk cX;clear cX;have H':=ae.mk H;clear H;have bB:0≤((b3):Int):=oa;have bC:(b3)<(b2.length:Int):=oa;obtain⟨bZ,bN,bE⟩:=Kd.kf (Kd.aH b4.out).2.2 (b3) bB bC
   cases bN
   replace bB:=eq_true bB;replace bC:=eq_true bC;have bR:0≤((b3):Int):=oa;have bS:(b3)<(b2.length:Int):=oa;obtain⟨dU,gS,d1⟩:=Kd.kf (Kd.aH b4.out).2.2 (b3) bR bS;obtain rfl:bZ=dU:=(by injection gS);replace bR:=eq_true bR;replace bS:=eq_true bS;have dH:0≤(b1:Int):=oa;have dI:(b1:Int)<((b2.length:Int):Int):=oa;obtain⟨bT,jI,dJ,dK,gT,jJ,dL⟩:=Kd.kA b4.out (by omega)
   (first|cases dJ|(injection dJ with gz nj nn;(first|subst gz|(injection gz with gz;subst gz));subst nn;clear nj))
   have gU:=ae.mk dK;have jK:=ae.mk dL;clear dK gT dL
   (first|simp only[add_plain]at bE|skip)
   (first|simp only[add_plain]at d1|skip)
   obtain⟨j1,j2⟩:=Kd.pH 0 b4.out (b1:Int) dH dI;replace dH:=eq_true dH;replace dI:=eq_true dI;have bU:=Kd.rn b4.out (b1:Int) (rd b2 (b3))
   go_wp2_with (first|((with_reducible refine eK (t:=3) (p:=38) rfl ?_);refine eE (t:=3) (p:=38) (v:= ?vo_w23) (w1:=(wr.setCell ⟨bT,(b1:Int).toNat,none⟩ (.int .i64 (rd b2 (b3))))) ?hg ?ho ?hn ?hr ?_;(case ho=>rfl);(case hg=>rfl);(case hn=>rfl);(case hr=>first|(go_simp;done)|(go_simp;rfl));intro dM hw;have hg:wr.grownBy dM (some bT):=(by rw[hw];exact bU.2);have lG:Kd.R (Kd.int .i64) 3 dM w.heap.size (fun _=>True) (.slice (some ⟨bT,0,none⟩) b2.length bK) bQ:=(by rw[hw,dT.out];exact bU.1);clear bU;have b8:=am (lG);have b9:=am ((by rw[hw];exact aD (HB.out) gU.out:Below w.heap.size w dM));clear b4;clear HB;have b4:=b8;have HB:=b9;clear b8 b9;clear hg hw lG))
   (try simp only[←bF])
   go_roundg k1
   case measure=>have:=dY.out;omega
   case rel=>exact⟨(bQ),(b3),(by first|rfl|(simp;done)|(simp only[←bD]<;>(first|rfl|simp))|(simp[*];done)),H',⟨by have:=dY.out;omega⟩,⟨by(try simp only[bF]);(with_reducible repeat(first|apply Kd.ca|apply Kd.cd|apply Kd.cj));exact b4.out⟩,⟨oB⟩⟩

def aI.l0:Nat→ByteArray→Int→Option (Bool)
 |0,_,_=>none
 |k+1,x0,x3=>if x3<(x0.size:Int)then(if 0≤x3 then((ba.f (wrap64 (bt x0 x3)) 97 122).bind fun b1=>(if b1=true then(aI.l0 k x0 (wrap64 (x3+1)))else((ba.f (wrap64 (bt x0 x3)) 48 57).bind fun b2=>(if b2=true then(aI.l0 k x0 (wrap64 (x3+1)))else(if(wrap64 (bt x0 x3))=95 then(aI.l0 k x0 (wrap64 (x3+1)))else(if(wrap64 (bt x0 x3))=45 then(aI.l0 k x0 (wrap64 (x3+1)))else(if(wrap64 (bt x0 x3))=46 then(aI.l0 k x0 (wrap64 (x3+1)))else(some false))))))))else(none))else((ba.f (x0.size:Int) 1 14).bind fun b3=>(if b3=true then(if x0.toList=([46]:List UInt8)then(some false)else(some (x0.toList !=([46,46]:List UInt8))))else(some false)))
def aI.f (k:Nat) (a0:ByteArray):Option (Bool):=aI.l0 k a0 0
theorem aI.calls (k:Nat) (a0:ByteArray) (r:Bool) (w:World) (h:aI.f k a0=some r):
  Calls Tryz.prog 63 #[.string a0] w fun e w'=>e= .returned (.bool r)∧fv w w':=by
 unfold aI.f at h;have H:=h;clear h;have H':=ae.mk H;clear H
 go_enter func63,ntmps63
 go_wp2
 go_loopg [3] k (fun kq v3 w'=>∃(b1:Int),v3= .int .i64 b1∧ae (aI.l0 kq a0 b1=some r)∧ae (kq≤k)∧fv w w')
 case atStart=>exact⟨(0),oS,H',⟨Nat.le_refl _⟩,oD⟩
 case round=>
  clear H';obtain⟨b1,rfl,HA,b2,⟨m1,rfl⟩⟩:=hrel
  cases gk with
  |zero=>exact absurd HA.out (by simp[aI.l0])
  |succ k1=>
   have H:=HA.out;clear HA;simp only[aI.l0]at H;replace H:=iM H;rcases H with⟨bE,H⟩|⟨bE,H⟩;rotate_left
   ·replace H:=bA H;obtain⟨bH,b6,H⟩:=H
    try dsimp only at H
    replace H:=kN H;rcases H with⟨rfl,H⟩|⟨rfl,H⟩;rotate_left
    ·obtain rfl:=Option.some.inj H
     go_wp2_with (first|((with_reducible refine ak (f:=60) rfl ?_);refine fe 37 func60 (ba.calls (a0.size:Int) 1 14 false _ b6.out) ?_;rintro e w' ⟨rfl,⟨nd,rfl⟩⟩;refine⟨_,rfl,?_⟩))
     go_ret
     exact⟨oS,oD⟩
    by_cases b3:a0.toList=([46]:List UInt8)
    rotate_left
    ·rw[if_neg b3]at H;have b7:(a0.toList==([46]:List UInt8))=false:=beq_eq_false_iff_ne.mpr b3;have b8:(a0.toList !=([46]:List UInt8))=true:=bne_iff_ne.mpr b3;obtain rfl:=Option.some.inj H
     go_wp2_with (first|((with_reducible refine ak (f:=60) rfl ?_);refine fe 37 func60 (ba.calls (a0.size:Int) 1 14 true _ b6.out) ?_;rintro e w' ⟨rfl,⟨nd,rfl⟩⟩;refine⟨_,rfl,?_⟩))
     go_ret
     exact⟨oS,oD⟩
    rw[if_pos b3]at H;have b7:(a0.toList==([46]:List UInt8))=true:=beq_iff_eq.mpr b3;have b8:(a0.toList !=([46]:List UInt8))=false:=bne_eq_false_iff_eq.mpr b3;clear b3;obtain rfl:=Option.some.inj H
    go_wp2_with (first|((with_reducible refine ak (f:=60) rfl ?_);refine fe 37 func60 (ba.calls (a0.size:Int) 1 14 true _ b6.out) ?_;rintro e w' ⟨rfl,⟨nd,rfl⟩⟩;refine⟨_,rfl,?_⟩))
    go_ret
    exact⟨oS,oD⟩
   obtain⟨bI,H⟩:=cO H;replace H:=bA H;obtain⟨bJ,A5,H⟩:=H
   try dsimp only at H
   replace H:=kN H;rcases H with⟨rfl,H⟩|⟨rfl,H⟩
   ·have H':=ae.mk H;clear H;have p4:(0≤(b1:Int))=True:=oT;have q4:(b1<(a0.size:Int))=True:=oT;have b5:=iu a0 b1
    go_wp2_with (first|((with_reducible refine ak (f:=60) rfl ?_);refine fe 16 func60 (ba.calls (wrap64 (bt a0 b1)) 97 122 true _ A5.out) ?_;rintro e w' ⟨rfl,⟨nd,rfl⟩⟩;refine⟨_,rfl,?_⟩))
    go_roundg k1
    case measure=>have:=b2.out;omega
    case rel=>exact⟨(wrap64 (b1+1)),oS,H',⟨by have:=b2.out;omega⟩,oD⟩
   replace H:=bA H;obtain⟨bK,A7,H⟩:=H
   try dsimp only at H
   replace H:=kN H;rcases H with⟨rfl,H⟩|⟨rfl,H⟩
   ·have H':=ae.mk H;clear H;have p4:(0≤(b1:Int))=True:=oT;have q4:(b1<(a0.size:Int))=True:=oT;have b5:=iu a0 b1
    go_wp2_with (first|((with_reducible refine ak (f:=60) rfl ?_);refine fe 16 func60 (ba.calls (wrap64 (bt a0 b1)) 97 122 false _ A5.out) ?_;rintro e w' ⟨rfl,⟨nd,rfl⟩⟩;refine⟨_,rfl,?_⟩)|(go_at_call 60;(with_reducible refine(ba.calls (wrap64 (bt a0 b1)) 48 57 true _ A7.out).mono ?_);rintro e w' ⟨rfl,⟨nd,rfl⟩⟩))
    go_roundg k1
    case measure=>have:=b2.out;omega
    case rel=>exact⟨(wrap64 (b1+1)),oS,H',⟨by have:=b2.out;omega⟩,oD⟩
   by_cases c9:(wrap64 (bt a0 b1))=95
   ·rw[if_pos c9]at H;have bF:((wrap64 (bt a0 b1))==95)=true:=beq_iff_eq.mpr c9;have bG:((wrap64 (bt a0 b1)) !=95)=false:=bne_eq_false_iff_eq.mpr c9;clear c9;have H':=ae.mk H;clear H;have p4:(0≤(b1:Int))=True:=oT;have q4:(b1<(a0.size:Int))=True:=oT;have b5:=iu a0 b1
    go_wp2_with (first|((with_reducible refine ak (f:=60) rfl ?_);refine fe 16 func60 (ba.calls (wrap64 (bt a0 b1)) 97 122 false _ A5.out) ?_;rintro e w' ⟨rfl,⟨nd,rfl⟩⟩;refine⟨_,rfl,?_⟩)|(go_at_call 60;(with_reducible refine(ba.calls (wrap64 (bt a0 b1)) 48 57 false _ A7.out).mono ?_);rintro e w' ⟨rfl,⟨nd,rfl⟩⟩))
    go_roundg k1
    case measure=>have:=b2.out;omega
    case rel=>exact⟨(wrap64 (b1+1)),oS,H',⟨by have:=b2.out;omega⟩,oD⟩
   rw[if_neg c9]at H;have bF:((wrap64 (bt a0 b1))==95)=false:=beq_eq_false_iff_ne.mpr c9;have bG:((wrap64 (bt a0 b1)) !=95)=true:=bne_iff_ne.mpr c9
   by_cases c10:(wrap64 (bt a0 b1))=45
   ·rw[if_pos c10]at H;have b9:((wrap64 (bt a0 b1))==45)=true:=beq_iff_eq.mpr c10;have bB:((wrap64 (bt a0 b1)) !=45)=false:=bne_eq_false_iff_eq.mpr c10;clear c10;have H':=ae.mk H;clear H;have p4:(0≤(b1:Int))=True:=oT;have q4:(b1<(a0.size:Int))=True:=oT;have b5:=iu a0 b1
    go_wp2_with (first|((with_reducible refine ak (f:=60) rfl ?_);refine fe 16 func60 (ba.calls (wrap64 (bt a0 b1)) 97 122 false _ A5.out) ?_;rintro e w' ⟨rfl,⟨nd,rfl⟩⟩;refine⟨_,rfl,?_⟩)|(go_at_call 60;(with_reducible refine(ba.calls (wrap64 (bt a0 b1)) 48 57 false _ A7.out).mono ?_);rintro e w' ⟨rfl,⟨nd,rfl⟩⟩))
    go_roundg k1
    case measure=>have:=b2.out;omega
    case rel=>exact⟨(wrap64 (b1+1)),oS,H',⟨by have:=b2.out;omega⟩,oD⟩
   rw[if_neg c10]at H;have b9:((wrap64 (bt a0 b1))==45)=false:=beq_eq_false_iff_ne.mpr c10;have bB:((wrap64 (bt a0 b1)) !=45)=true:=bne_iff_ne.mpr c10
   by_cases b4:(wrap64 (bt a0 b1))=46
   rotate_left
   ·rw[if_neg b4]at H;have bC:((wrap64 (bt a0 b1))==46)=false:=beq_eq_false_iff_ne.mpr b4;have bD:((wrap64 (bt a0 b1)) !=46)=true:=bne_iff_ne.mpr b4;obtain rfl:=Option.some.inj H;have p4:(0≤(b1:Int))=True:=oT;have q4:(b1<(a0.size:Int))=True:=oT;have b5:=iu a0 b1
    go_wp2_with (first|((with_reducible refine ak (f:=60) rfl ?_);refine fe 16 func60 (ba.calls (wrap64 (bt a0 b1)) 97 122 false _ A5.out) ?_;rintro e w' ⟨rfl,⟨nd,rfl⟩⟩;refine⟨_,rfl,?_⟩)|(go_at_call 60;(with_reducible refine(ba.calls (wrap64 (bt a0 b1)) 48 57 false _ A7.out).mono ?_);rintro e w' ⟨rfl,⟨nd,rfl⟩⟩))
    go_ret
    exact⟨oS,oD⟩
   rw[if_pos b4]at H;have bC:((wrap64 (bt a0 b1))==46)=true:=beq_iff_eq.mpr b4;have bD:((wrap64 (bt a0 b1)) !=46)=false:=bne_eq_false_iff_eq.mpr b4;clear b4;have H':=ae.mk H;clear H;have p4:(0≤(b1:Int))=True:=oT;have q4:(b1<(a0.size:Int))=True:=oT;have b5:=iu a0 b1
   go_wp2_with (first|((with_reducible refine ak (f:=60) rfl ?_);refine fe 16 func60 (ba.calls (wrap64 (bt a0 b1)) 97 122 false _ A5.out) ?_;rintro e w' ⟨rfl,⟨nd,rfl⟩⟩;refine⟨_,rfl,?_⟩)|(go_at_call 60;(with_reducible refine(ba.calls (wrap64 (bt a0 b1)) 48 57 false _ A7.out).mono ?_);rintro e w' ⟨rfl,⟨nd,rfl⟩⟩))
   go_roundg k1
   case measure=>have:=b2.out;omega
   case rel=>exact⟨(wrap64 (b1+1)),oS,H',⟨by have:=b2.out;omega⟩,oD⟩

def cY.l0:Nat→List (ct)→List (ct)→Int→Int→Option (Bool)
 |0,_,_,_,_=>none
 |k+1,x0,x5,x6,x7=>if x7<x6 then(if 0≤x7 then(if x7<(x5.length:Int)then((ay.f k ((an x5 x7).f0)).bind fun b1=>(if b1=true then((bw.f (((an x5 x7).f1).size:Int) 1 16).bind fun b2=>(if b2=true then(if x7>0 then(if 0≤(wrap64 (x7-1))then(if(wrap64 (x7-1))<(x0.length:Int)then(if((Op.bytesLess (((an x0 (wrap64 (x7-1))).f0).toList) (((an x5 x7).f0).toList))=true)then(cY.l0 k x0 x5 x6 (wrap64 (x7+1)))else(some false))else(none))else(none))else(cY.l0 k x0 x5 x6 (wrap64 (x7+1))))else(some false)))else(some false)))else(none))else(none))else(some (decide ((x0.length:Int)≤4)))
def cY.f (k:Nat) (l0:List (ct)):Option (Bool):=cY.l0 k l0 l0 (l0.length:Int) 0
theorem cY.calls (k:Nat) (A0:Option Addr) (c0:Nat) (l0:List (ct)) (r:Bool) (w:World) (hr0:Kd.C fa w A0 l0.length l0) (hc0:l0.length≤c0) (h:cY.f k l0=some r):
  Calls Tryz.prog 157 #[.slice A0 l0.length c0] w fun e w'=>e= .returned (.bool r)∧Below w.heap.size w w':=by
 have d3:=underlying82;have bJ:=ae.mk hr0;have d8:=ae.mk hc0;clear hr0 hc0;have HB:=am (Below.refl w.heap.size w);unfold cY.f at h;have H:=h;clear h;have H':=ae.mk H;clear H
 go_enter func157,ntmps157
 go_wp2
 repeat(go_quiet (fail);try go_wp2)
 go_loopg [7] k (fun kq v7 w'=>∃(b2:Int),v7= .int .i64 b2∧ae (cY.l0 kq l0 l0 (l0.length:Int) b2=some r)∧ae (kq≤k)∧ae (Below w.heap.size w w'))
 case atStart=>exact⟨(0),oS,H',⟨Nat.le_refl _⟩,⟨oB⟩⟩
 case round=>
  clear H';obtain⟨b2,rfl,HA,bS,HB⟩:=hrel
  cases gk with
  |zero=>exact absurd HA.out (by simp[cY.l0])
  |succ k1=>
   have H:=HA.out;clear HA;simp only[cY.l0]at H;replace H:=iM H;rcases H with⟨bU,H⟩|⟨bU,H⟩;rotate_left
   ·obtain rfl:=Option.some.inj H
    go_wp2
    repeat(go_quiet (fail);try go_wp2)
    go_ret
    exact⟨oE,oB⟩
   obtain⟨d4,H⟩:=cO H;obtain⟨d5,H⟩:=cO H;replace H:=bA H;obtain⟨d6,A5,H⟩:=H
   try dsimp only at H
   replace H:=kN H;rcases H with⟨rfl,H⟩|⟨rfl,H⟩;rotate_left
   ·obtain rfl:=Option.some.inj H;have bQ:(0≤(b2:Int))=True:=oT;have bR:(b2<(l0.length:Int))=True:=oT;obtain⟨b7,bI,bK,bL⟩:=rf bJ HB b2 oa oa
    cases bI
    go_wp2_with (first|((with_reducible refine ai (N:=4) rfl ?_);(try(refine aW (by rfl) ?_;dsimp only));refine eh 4 #[.string (⟨#[]⟩:ByteArray),.string (⟨#[]⟩:ByteArray)] 82 ?_;intro b4 hg bW hbox hb;have bB:=am (hbox);have b8:=eg hg;replace HB:=hB HB hb;clear hb hbox hg;obtain⟨⟨_,_⟩,_,_⟩:=z2 bB)|(go_at_call 65;(with_reducible refine(ay.calls k1 ((an l0 b2).f0) false _ A5.out).mono ?_);rintro e w' ⟨rfl,⟨nd,rfl⟩⟩))
    repeat(go_quiet (first|(go_at_call 65;(with_reducible refine(ay.calls k1 ((an l0 b2).f0) false _ A5.out).mono ?_);rintro e w' ⟨rfl,⟨nd,rfl⟩⟩;exact oQ));try go_wp2_with (first|((with_reducible refine ai (N:=4) rfl ?_);(try(refine aW (by rfl) ?_;dsimp only));refine eh 4 #[.string (⟨#[]⟩:ByteArray),.string (⟨#[]⟩:ByteArray)] 82 ?_;intro b4 hg bW hbox hb;have bB:=am (hbox);have b8:=eg hg;replace HB:=hB HB hb;clear hb hbox hg;obtain⟨⟨_,_⟩,_,_⟩:=z2 bB)|(go_at_call 65;(with_reducible refine(ay.calls k1 ((an l0 b2).f0) false _ A5.out).mono ?_);rintro e w' ⟨rfl,⟨nd,rfl⟩⟩)))
    go_ret
    exact⟨oE,oB⟩
   replace H:=bA H;obtain⟨d7,A7,H⟩:=H
   try dsimp only at H
   replace H:=kN H;rcases H with⟨rfl,H⟩|⟨rfl,H⟩;rotate_left
   ·obtain rfl:=Option.some.inj H;have bQ:(0≤(b2:Int))=True:=oT;have bR:(b2<(l0.length:Int))=True:=oT;obtain⟨b7,bI,bK,bL⟩:=rf bJ HB b2 oa oa
    cases bI
    go_wp2_with (first|((with_reducible refine ai (N:=4) rfl ?_);(try(refine aW (by rfl) ?_;dsimp only));refine eh 4 #[.string (⟨#[]⟩:ByteArray),.string (⟨#[]⟩:ByteArray)] 82 ?_;intro b4 hg bX hbox hb;have bB:=am (hbox);have b8:=eg hg;replace HB:=hB HB hb;clear hb hbox hg;obtain⟨⟨_,_⟩,_,_⟩:=z2 bB)|(go_at_call 65;(with_reducible refine(ay.calls k1 ((an l0 b2).f0) true _ A5.out).mono ?_);rintro e w' ⟨rfl,⟨nd,rfl⟩⟩)|(go_at_call 61;(with_reducible refine(bw.calls (((an l0 b2).f1).size:Int) 1 16 false _ A7.out).mono ?_);rintro e w' ⟨rfl,⟨nd,rfl⟩⟩))
    repeat(go_quiet (first|(go_at_call 65;(with_reducible refine(ay.calls k1 ((an l0 b2).f0) true _ A5.out).mono ?_);rintro e w' ⟨rfl,⟨nd,rfl⟩⟩;exact oQ)|(go_at_call 61;(with_reducible refine(bw.calls (((an l0 b2).f1).size:Int) 1 16 false _ A7.out).mono ?_);rintro e w' ⟨rfl,⟨nd,rfl⟩⟩;exact oQ));try go_wp2_with (first|((with_reducible refine ai (N:=4) rfl ?_);(try(refine aW (by rfl) ?_;dsimp only));refine eh 4 #[.string (⟨#[]⟩:ByteArray),.string (⟨#[]⟩:ByteArray)] 82 ?_;intro b4 hg bX hbox hb;have bB:=am (hbox);have b8:=eg hg;replace HB:=hB HB hb;clear hb hbox hg;obtain⟨⟨_,_⟩,_,_⟩:=z2 bB)|(go_at_call 65;(with_reducible refine(ay.calls k1 ((an l0 b2).f0) true _ A5.out).mono ?_);rintro e w' ⟨rfl,⟨nd,rfl⟩⟩)|(go_at_call 61;(with_reducible refine(bw.calls (((an l0 b2).f1).size:Int) 1 16 false _ A7.out).mono ?_);rintro e w' ⟨rfl,⟨nd,rfl⟩⟩)))
    go_ret
    exact⟨oE,oB⟩
   replace H:=yJ H;rcases H with⟨bV,H⟩|⟨bV,H⟩;rotate_left
   ·have H':=ae.mk H;clear H;have bQ:(0≤(b2:Int))=True:=oT;have bR:(b2<(l0.length:Int))=True:=oT;obtain⟨b7,bI,bK,bL⟩:=rf bJ HB b2 oa oa
    cases bI
    go_wp2_with (first|((with_reducible refine ai (N:=4) rfl ?_);(try(refine aW (by rfl) ?_;dsimp only));refine eh 4 #[.string (⟨#[]⟩:ByteArray),.string (⟨#[]⟩:ByteArray)] 82 ?_;intro b4 hg bY hbox hb;have bB:=am (hbox);have b8:=eg hg;replace HB:=hB HB hb;clear hb hbox hg;obtain⟨⟨_,_⟩,_,_⟩:=z2 bB)|(go_at_call 65;(with_reducible refine(ay.calls k1 ((an l0 b2).f0) true _ A5.out).mono ?_);rintro e w' ⟨rfl,⟨nd,rfl⟩⟩)|(go_at_call 61;(with_reducible refine(bw.calls (((an l0 b2).f1).size:Int) 1 16 true _ A7.out).mono ?_);rintro e w' ⟨rfl,⟨nd,rfl⟩⟩))
    repeat(go_quiet (first|(go_at_call 65;(with_reducible refine(ay.calls k1 ((an l0 b2).f0) true _ A5.out).mono ?_);rintro e w' ⟨rfl,⟨nd,rfl⟩⟩;exact oQ)|(go_at_call 61;(with_reducible refine(bw.calls (((an l0 b2).f1).size:Int) 1 16 true _ A7.out).mono ?_);rintro e w' ⟨rfl,⟨nd,rfl⟩⟩;exact oQ));try go_wp2_with (first|((with_reducible refine ai (N:=4) rfl ?_);(try(refine aW (by rfl) ?_;dsimp only));refine eh 4 #[.string (⟨#[]⟩:ByteArray),.string (⟨#[]⟩:ByteArray)] 82 ?_;intro b4 hg bY hbox hb;have bB:=am (hbox);have b8:=eg hg;replace HB:=hB HB hb;clear hb hbox hg;obtain⟨⟨_,_⟩,_,_⟩:=z2 bB)|(go_at_call 65;(with_reducible refine(ay.calls k1 ((an l0 b2).f0) true _ A5.out).mono ?_);rintro e w' ⟨rfl,⟨nd,rfl⟩⟩)|(go_at_call 61;(with_reducible refine(bw.calls (((an l0 b2).f1).size:Int) 1 16 true _ A7.out).mono ?_);rintro e w' ⟨rfl,⟨nd,rfl⟩⟩)))
    go_roundg k1
    case measure=>have:=bS.out;omega
    case rel=>exact⟨(wrap64 (b2+1)),oS,H',⟨by have:=bS.out;omega⟩,⟨oB⟩⟩
   obtain⟨b9,bM⟩:∃j_:Int,(wrap64 (b2-1))=j_:=⟨_,rfl⟩
   replace H:(if 0≤(b9)then(if(b9)<(l0.length:Int)then(if((Op.bytesLess (((an l0 (b9)).f0).toList) (((an l0 b2).f0).toList))=true)then(cY.l0 k1 l0 l0 (l0.length:Int) (wrap64 (b2+1)))else(some false))else(none))else(none))=some r:=by first|(rw[bM]at H;exact H)|(simp only[bM]at H⊢;exact H)
   (try rw[bM]at A5)
   (try rw[bM]at A7)
   have bZ:(IntKind.i64.wrap (b2-1))=b9:=(kR _).trans bM;obtain⟨d1,H⟩:=cO H;obtain⟨d2,H⟩:=cO H
   by_cases bP:((Op.bytesLess (((an l0 (b9)).f0).toList) (((an l0 b2).f0).toList))=true)
   ·rw[if_pos bP]at H;have bT:(Op.bytesLess (((an l0 (b9)).f0).toList) (((an l0 b2).f0).toList))=true:=bP;clear bP;have H':=ae.mk H;clear H;have bQ:(0≤(b2:Int))=True:=oT;have bR:(b2<(l0.length:Int))=True:=oT;obtain⟨b7,bI,bK,bL⟩:=rf bJ HB b2 oa oa
    cases bI
    go_wp2_with (first|((with_reducible refine ai (N:=4) rfl ?_);(try(refine aW (by rfl) ?_;dsimp only));refine eh 4 #[.string (⟨#[]⟩:ByteArray),.string (⟨#[]⟩:ByteArray)] 82 ?_;intro b4 hg bN hbox hb;have bB:=am (hbox);have b8:=eg hg;replace HB:=hB HB hb;clear hb hbox hg;obtain⟨⟨_,_⟩,_,_⟩:=z2 bB)|(go_at_call 65;(with_reducible refine(ay.calls k1 ((an l0 b2).f0) true _ A5.out).mono ?_);rintro e w' ⟨rfl,⟨nd,rfl⟩⟩)|(go_at_call 61;(with_reducible refine(bw.calls (((an l0 b2).f1).size:Int) 1 16 true _ A7.out).mono ?_);rintro e w' ⟨rfl,⟨nd,rfl⟩⟩;have bD:(0≤((b9):Int))=True:=oT;have bE:((b9)<(l0.length:Int))=True:=oT;obtain⟨bC,bF,b1,b3⟩:=cZ bJ.out (b9) oa oa;obtain rfl:b7=bC:=(by injection bF);have b5:b7.block≠b4:=qO b1 b8;have b6:b7.block≠b4:=qO b1 b8;replace b1:=cB HB b1;replace b3:=cB HB b3;replace b1:=lK 0 (.string ((an l0 b2).f0)) b5 b1;replace b3:=lK 0 (.string ((an l0 b2).f0)) b5 b3;replace b1:=lK 1 (.string ((an l0 b2).f1)) b6 b1;replace b3:=lK 1 (.string ((an l0 b2).f1)) b6 b3;(try have bG:=fun(n_:Nat)=>(show((((bN.drewN n_).setCell ⟨b4,0,none⟩ (.string ((an l0 b2).f0))).setCell ⟨b4,1,none⟩ (.string ((an l0 b2).f1)))).cell? _=some _ from b1));(try have bH:=fun(n_:Nat)=>(show((((bN.drewN n_).setCell ⟨b4,0,none⟩ (.string ((an l0 b2).f0))).setCell ⟨b4,1,none⟩ (.string ((an l0 b2).f1)))).cell? _=some _ from b3));clear b5;clear b6))
    try(have bD:0≤((b9):Int):=oa;have bE:(b9)<(l0.length:Int):=oa;obtain⟨bC,bF,b1,b3⟩:=cZ bJ.out (b9) bD bE;obtain rfl:b7=bC:=(by injection bF);have b5:b7.block≠b4:=qO b1 b8;have b6:b7.block≠b4:=qO b1 b8;replace b1:=cB HB b1;replace b3:=cB HB b3;replace b1:=lK 0 (.string ((an l0 b2).f0)) b5 b1;replace b3:=lK 0 (.string ((an l0 b2).f0)) b5 b3;replace b1:=lK 1 (.string ((an l0 b2).f1)) b6 b1;replace b3:=lK 1 (.string ((an l0 b2).f1)) b6 b3;(try have bG:=fun(n_:Nat)=>(show((((bN.drewN n_).setCell ⟨b4,0,none⟩ (.string ((an l0 b2).f0))).setCell ⟨b4,1,none⟩ (.string ((an l0 b2).f1)))).cell? _=some _ from b1));(try have bH:=fun(n_:Nat)=>(show((((bN.drewN n_).setCell ⟨b4,0,none⟩ (.string ((an l0 b2).f0))).setCell ⟨b4,1,none⟩ (.string ((an l0 b2).f1)))).cell? _=some _ from b3));clear b5;clear b6;replace bD:=eq_true bD;replace bE:=eq_true bE)
    repeat(go_quiet (first|(go_at_call 65;(with_reducible refine(ay.calls k1 ((an l0 b2).f0) true _ A5.out).mono ?_);rintro e w' ⟨rfl,⟨nd,rfl⟩⟩;exact oQ)|(go_at_call 61;(with_reducible refine(bw.calls (((an l0 b2).f1).size:Int) 1 16 true _ A7.out).mono ?_);rintro e w' ⟨rfl,⟨nd,rfl⟩⟩;exact oQ));try go_wp2_with (first|((with_reducible refine ai (N:=4) rfl ?_);(try(refine aW (by rfl) ?_;dsimp only));refine eh 4 #[.string (⟨#[]⟩:ByteArray),.string (⟨#[]⟩:ByteArray)] 82 ?_;intro b4 hg bN hbox hb;have bB:=am (hbox);have b8:=eg hg;replace HB:=hB HB hb;clear hb hbox hg;obtain⟨⟨_,_⟩,_,_⟩:=z2 bB)|(go_at_call 65;(with_reducible refine(ay.calls k1 ((an l0 b2).f0) true _ A5.out).mono ?_);rintro e w' ⟨rfl,⟨nd,rfl⟩⟩)|(go_at_call 61;(with_reducible refine(bw.calls (((an l0 b2).f1).size:Int) 1 16 true _ A7.out).mono ?_);rintro e w' ⟨rfl,⟨nd,rfl⟩⟩;have bD:(0≤((b9):Int))=True:=oT;have bE:((b9)<(l0.length:Int))=True:=oT;obtain⟨bC,bF,b1,b3⟩:=cZ bJ.out (b9) oa oa;obtain rfl:b7=bC:=(by injection bF);have b5:b7.block≠b4:=qO b1 b8;have b6:b7.block≠b4:=qO b1 b8;replace b1:=cB HB b1;replace b3:=cB HB b3;replace b1:=lK 0 (.string ((an l0 b2).f0)) b5 b1;replace b3:=lK 0 (.string ((an l0 b2).f0)) b5 b3;replace b1:=lK 1 (.string ((an l0 b2).f1)) b6 b1;replace b3:=lK 1 (.string ((an l0 b2).f1)) b6 b3;(try have bG:=fun(n_:Nat)=>(show((((bN.drewN n_).setCell ⟨b4,0,none⟩ (.string ((an l0 b2).f0))).setCell ⟨b4,1,none⟩ (.string ((an l0 b2).f1)))).cell? _=some _ from b1));(try have bH:=fun(n_:Nat)=>(show((((bN.drewN n_).setCell ⟨b4,0,none⟩ (.string ((an l0 b2).f0))).setCell ⟨b4,1,none⟩ (.string ((an l0 b2).f1)))).cell? _=some _ from b3));clear b5;clear b6)))
    go_roundg k1
    case measure=>have:=bS.out;omega
    case rel=>exact⟨(wrap64 (b2+1)),oS,H',⟨by have:=bS.out;omega⟩,⟨oB⟩⟩
   rw[if_neg bP]at H
   have bT:(Op.bytesLess (((an l0 (b9)).f0).toList) (((an l0 b2).f0).toList))=false:=by simpa using bP
   clear bP;obtain rfl:=Option.some.inj H;have bQ:(0≤(b2:Int))=True:=oT;have bR:(b2<(l0.length:Int))=True:=oT;obtain⟨b7,bI,bK,bL⟩:=rf bJ HB b2 oa oa
   cases bI
   go_wp2_with (first|((with_reducible refine ai (N:=4) rfl ?_);(try(refine aW (by rfl) ?_;dsimp only));refine eh 4 #[.string (⟨#[]⟩:ByteArray),.string (⟨#[]⟩:ByteArray)] 82 ?_;intro b4 hg bO hbox hb;have bB:=am (hbox);have b8:=eg hg;replace HB:=hB HB hb;clear hb hbox hg;obtain⟨⟨_,_⟩,_,_⟩:=z2 bB)|(go_at_call 65;(with_reducible refine(ay.calls k1 ((an l0 b2).f0) true _ A5.out).mono ?_);rintro e w' ⟨rfl,⟨nd,rfl⟩⟩)|(go_at_call 61;(with_reducible refine(bw.calls (((an l0 b2).f1).size:Int) 1 16 true _ A7.out).mono ?_);rintro e w' ⟨rfl,⟨nd,rfl⟩⟩;have bD:(0≤((b9):Int))=True:=oT;have bE:((b9)<(l0.length:Int))=True:=oT;obtain⟨bC,bF,b1,b3⟩:=cZ bJ.out (b9) oa oa;obtain rfl:b7=bC:=(by injection bF);have b5:b7.block≠b4:=qO b1 b8;have b6:b7.block≠b4:=qO b1 b8;replace b1:=cB HB b1;replace b3:=cB HB b3;replace b1:=lK 0 (.string ((an l0 b2).f0)) b5 b1;replace b3:=lK 0 (.string ((an l0 b2).f0)) b5 b3;replace b1:=lK 1 (.string ((an l0 b2).f1)) b6 b1;replace b3:=lK 1 (.string ((an l0 b2).f1)) b6 b3;(try have bG:=fun(n_:Nat)=>(show((((bO.drewN n_).setCell ⟨b4,0,none⟩ (.string ((an l0 b2).f0))).setCell ⟨b4,1,none⟩ (.string ((an l0 b2).f1)))).cell? _=some _ from b1));(try have bH:=fun(n_:Nat)=>(show((((bO.drewN n_).setCell ⟨b4,0,none⟩ (.string ((an l0 b2).f0))).setCell ⟨b4,1,none⟩ (.string ((an l0 b2).f1)))).cell? _=some _ from b3));clear b5;clear b6))
   try(have bD:0≤((b9):Int):=oa;have bE:(b9)<(l0.length:Int):=oa;obtain⟨bC,bF,b1,b3⟩:=cZ bJ.out (b9) bD bE;obtain rfl:b7=bC:=(by injection bF);have b5:b7.block≠b4:=qO b1 b8;have b6:b7.block≠b4:=qO b1 b8;replace b1:=cB HB b1;replace b3:=cB HB b3;replace b1:=lK 0 (.string ((an l0 b2).f0)) b5 b1;replace b3:=lK 0 (.string ((an l0 b2).f0)) b5 b3;replace b1:=lK 1 (.string ((an l0 b2).f1)) b6 b1;replace b3:=lK 1 (.string ((an l0 b2).f1)) b6 b3;(try have bG:=fun(n_:Nat)=>(show((((bO.drewN n_).setCell ⟨b4,0,none⟩ (.string ((an l0 b2).f0))).setCell ⟨b4,1,none⟩ (.string ((an l0 b2).f1)))).cell? _=some _ from b1));(try have bH:=fun(n_:Nat)=>(show((((bO.drewN n_).setCell ⟨b4,0,none⟩ (.string ((an l0 b2).f0))).setCell ⟨b4,1,none⟩ (.string ((an l0 b2).f1)))).cell? _=some _ from b3));clear b5;clear b6;replace bD:=eq_true bD;replace bE:=eq_true bE)
   repeat(go_quiet (first|(go_at_call 65;(with_reducible refine(ay.calls k1 ((an l0 b2).f0) true _ A5.out).mono ?_);rintro e w' ⟨rfl,⟨nd,rfl⟩⟩;exact oQ)|(go_at_call 61;(with_reducible refine(bw.calls (((an l0 b2).f1).size:Int) 1 16 true _ A7.out).mono ?_);rintro e w' ⟨rfl,⟨nd,rfl⟩⟩;exact oQ));try go_wp2_with (first|((with_reducible refine ai (N:=4) rfl ?_);(try(refine aW (by rfl) ?_;dsimp only));refine eh 4 #[.string (⟨#[]⟩:ByteArray),.string (⟨#[]⟩:ByteArray)] 82 ?_;intro b4 hg bO hbox hb;have bB:=am (hbox);have b8:=eg hg;replace HB:=hB HB hb;clear hb hbox hg;obtain⟨⟨_,_⟩,_,_⟩:=z2 bB)|(go_at_call 65;(with_reducible refine(ay.calls k1 ((an l0 b2).f0) true _ A5.out).mono ?_);rintro e w' ⟨rfl,⟨nd,rfl⟩⟩)|(go_at_call 61;(with_reducible refine(bw.calls (((an l0 b2).f1).size:Int) 1 16 true _ A7.out).mono ?_);rintro e w' ⟨rfl,⟨nd,rfl⟩⟩;have bD:(0≤((b9):Int))=True:=oT;have bE:((b9)<(l0.length:Int))=True:=oT;obtain⟨bC,bF,b1,b3⟩:=cZ bJ.out (b9) oa oa;obtain rfl:b7=bC:=(by injection bF);have b5:b7.block≠b4:=qO b1 b8;have b6:b7.block≠b4:=qO b1 b8;replace b1:=cB HB b1;replace b3:=cB HB b3;replace b1:=lK 0 (.string ((an l0 b2).f0)) b5 b1;replace b3:=lK 0 (.string ((an l0 b2).f0)) b5 b3;replace b1:=lK 1 (.string ((an l0 b2).f1)) b6 b1;replace b3:=lK 1 (.string ((an l0 b2).f1)) b6 b3;(try have bG:=fun(n_:Nat)=>(show((((bO.drewN n_).setCell ⟨b4,0,none⟩ (.string ((an l0 b2).f0))).setCell ⟨b4,1,none⟩ (.string ((an l0 b2).f1)))).cell? _=some _ from b1));(try have bH:=fun(n_:Nat)=>(show((((bO.drewN n_).setCell ⟨b4,0,none⟩ (.string ((an l0 b2).f0))).setCell ⟨b4,1,none⟩ (.string ((an l0 b2).f1)))).cell? _=some _ from b3));clear b5;clear b6)))
   go_ret
   exact⟨by first|rfl|(simp[eQ,eR]<;>rfl)|(simp only[←bM];first|rfl|(simp[eQ,eR]<;>rfl))|(simp[*,eQ,eR]<;>rfl),oB⟩

def ez.l0:Nat→List (kd)→List (ey)→Int→Option ((List (ey)))
 |0,_,_,_=>none
 |k+1,x0,x3,x4=>if x4<(x0.length:Int)then(if 0≤x4 then((kX.f ((iq x0 x4).f0) ((iq x0 x4).f1)).bind fun b1=>(if x4<(x3.length:Int)then(ez.l0 k x0 (x3.set (x4:Int).toNat (⟨b1.1,b1.2⟩:ey)) (wrap64 (x4+1)))else(none)))else(none))else(some x3)
def ez.f (k:Nat) (l0:List (kd)):Option ((List (ey))):=if 0≤(l0.length:Int)then(if((l0.length:Int):Int).toNat≤11728124029610 then(ez.l0 k l0 (List.replicate ((l0.length:Int):Int).toNat z75) 0)else(none))else(none)
theorem ez.calls (k:Nat) (A0:Option Addr) (c0:Nat) (l0:List (kd)) (r:List (ey)) (w:World) (hr0:Kd.C qH w A0 l0.length l0) (hc0:l0.length≤c0) (h:ez.f k l0=some r):
  Calls Tryz.prog 111 #[.slice A0 l0.length c0] w fun e w'=>∃iV:Value,e= .returned (iV)∧Kd.R jc 75 w' w.heap.size (fun _=>True) iV r∧Below w.heap.size w w':=by
 have dG:=underlying131;have dI:=underlying75;have dB:=ae.mk hr0;have dT:=ae.mk hc0;clear hr0 hc0;have HB:=am (Below.refl w.heap.size w);unfold ez.f at h;have H:=h;clear h;obtain⟨c2,H⟩:=lu H;have d3:=eq_true c2;have d4:decide (0≤(l0.length:Int))=true:=decide_eq_true c2;clear c2;obtain⟨c3,H⟩:=lu H;have dJ:=eq_true c3;have dK:decide (((l0.length:Int):Int).toNat≤11728124029610)=true:=decide_eq_true c3;clear c3;obtain⟨bI,cX⟩:∃y_:List (ey),y_=(List.replicate ((l0.length:Int):Int).toNat z75):=⟨_,rfl⟩;replace H:(ez.l0 k l0 bI 0)=some r:=oY;have bG:=ae.mk cX;clear cX;have H':=ae.mk H;clear H
 go_enter func111,ntmps111
 go_wp2_with (first|((with_reducible refine ai (N:=7) rfl ?_);refine Kd.tv jc _ 75 rfl (N:=7) rfl 55 _ _ rfl (l0.length:Int) rfl rfl underlying55 (.agg #[(.string ⟨#[]⟩),(.int .i64 0)]) 24 vP rfl (by decide) (by omega) z75 (ok:=fun _=>True) (ft:=fun _=>True) (qQ _ _ _ z75) (fun _ hk=>hk) trivial oa (Nat.le_trans (Nat.mul_le_mul_right _ (oa:(l0.length:Int).toNat≤11728124029610)) (by omega)) (Below.refl _ _) (Nat.le_refl _) ?_;intro d5 w4 bD hb fc da;clear fc da;(first|rw[←bG.out]at bD|(simp only[Int.reduceToNat]at bD;rw[←bG.out]at bD));have bY:=am (Kd.aw bD (ah oB));replace HB:=hB HB hb;clear hb bD))
 go_loopg [4] k (fun kq v4 w'=>∃(b2:List (ey)) (b1:Int),v4= .int .i64 b1∧ae (ez.l0 kq l0 b2 b1=some r)∧ae (kq≤k)∧ae (Kd.R jc 75 w' w.heap.size (fun _=>True) d5 b2)∧ae (Below w.heap.size w w'))
 case atStart=>exact⟨(bI),(0),oS,H',⟨Nat.le_refl _⟩,⟨oR bY⟩,⟨oB⟩⟩
 case round=>
  clear H'
  try clear c2
  try clear d3
  try clear d4
  try clear c3
  obtain⟨b2,b1,rfl,HA,d2,b3,HB⟩:=hrel
  cases gk with
  |zero=>exact absurd HA.out (by simp[ez.l0])
  |succ k1=>
   have H:=HA.out;clear HA;simp only[ez.l0]at H;replace H:=iM H;rcases H with⟨d6,H⟩|⟨d6,H⟩;rotate_left
   ·obtain rfl:=Option.some.inj H
    go_wp2
    go_ret
    exact⟨_,oE,oR b3,oB⟩
   obtain⟨dL,H⟩:=cO H;replace H:=bA H;obtain⟨⟨b5,b6⟩,A8,H⟩:=H
   try dsimp only at H
   obtain⟨dM,H⟩:=cO H;obtain⟨bE,cX⟩:∃y_:List (ey),y_=(b2.set (b1:Int).toNat (⟨b5,b6⟩:ey)):=⟨_,rfl⟩;replace H:(ez.l0 k1 l0 bE (wrap64 (b1+1)))=some r:=oY;have bZ:=ae.mk cX;clear cX;have H':=ae.mk H;clear H;have dN:(0≤(b1:Int))=True:=oT;have dO:(b1<(l0.length:Int))=True:=oT;obtain⟨dH,d7,d9,dA⟩:=tm dB HB b1 oa oa
   cases d7
   go_wp2_with (first|((with_reducible refine ak (f:=135) rfl ?_);refine fe 20 func135 (kX.calls ((iq l0 b1).f0) ((iq l0 b1).f1) b5 b6 _ A8.out) ?_;rintro e b8 ⟨rfl,hb⟩;refine⟨_,rfl,?_⟩;replace b3:=ga b3 hb;replace HB:=hB HB hb;(try clear hk);have bJ:0≤(b1:Int):=oa;have bK:(b1:Int)<((b2.length:Int):Int):=oa;obtain⟨b4,bL,bM,bN,d8,dP,bO⟩:=Kd.kA b3.out (by omega);(first|cases bM|(injection bM with gz nj nn;(first|subst gz|(injection gz with gz;subst gz));subst nn;clear nj));have bP:=ae.mk bN;have dQ:=ae.mk bO;clear bN d8 bO;obtain⟨dR,d1,bQ,b9,bB⟩:=Kd.gm b3.out z75 (b1:Int) bJ bK;obtain rfl:=lL bQ;have dC:b8.cell? ⟨b4,(b1:Int).toNat*2,none⟩=some (.string ((al b2 b1).f0)):=b9 0 _ rfl;have dD:b8.cell? ⟨b4,(b1:Int).toNat*2+1,none⟩=some (.int .i64 ((al b2 b1).f1)):=b9 1 _ rfl;have dE:b8.frozen? ⟨b4,(b1:Int).toNat*2,none⟩=false:=bB 0;have dF:b8.frozen? ⟨b4,(b1:Int).toNat*2+1,none⟩=false:=bB 1;clear d1 b9 bB bQ;replace bJ:=eq_true bJ;replace bK:=eq_true bK;have bR:=am (show Kd.R jc 75 b8 w.heap.size (fun _=>True) (.slice (some ⟨b4,0,none⟩) b2.length bL) b2 from(oR b3));obtain⟨dS,bH,bS,b7,bC⟩:=Kd.gm bR.out z75 (b1:Int) oa (by have h_:(b1:Int)<((b2.length:Int):Int):=oa;first|exact h_|(have e_:=(Kd.aH b3.out).1;omega)|simpa using h_);obtain rfl:=lL bS;have bF:=Kd.lR bR.out (b1:Int) oa (by have h_:(b1:Int)<((b2.length:Int):Int):=oa;first|exact h_|(have e_:=(Kd.aH b3.out).1;omega)|simpa using h_) (seg:=[.string b5,.int .i64 b6]) (j:=0) bH b7 (show 2≤2 from by decide) (x':=(⟨b5,b6⟩:ey)) (qQ _ _ _ (⟨b5,b6⟩:ey)) (fun _ hk=>hk);have bT:=b7 0 _ rfl;(try simp only[show(jc).sz=2 from rfl,Nat.mul_one,Nat.add_zero]at bT);have bU:=bC 0;(try simp only[show(jc).sz=2 from rfl,Nat.mul_one,Nat.add_zero]at bU);have bV:=b7 1 _ rfl;(try simp only[show(jc).sz=2 from rfl,Nat.mul_one,Nat.add_zero]at bV);have bW:=bC 1;(try simp only[show(jc).sz=2 from rfl,Nat.mul_one,Nat.add_zero]at bW);clear bH b7 bC bS)|((with_reducible refine eK (t:=75) (p:=21) rfl ?_);refine eE (t:=75) (p:=21) (v:= ?wk) (w1:=((b8.setCell ⟨b4,(b1:Int).toNat*2,none⟩ (.string b5)).setCell ⟨b4,(b1:Int).toNat*2+1,none⟩ (.int .i64 b6))) ?hg ?ho ?hn ?hr ?_;(case ho=>rfl);(case hg=>rfl);(case hn=>rfl);(case hr=>first|(go_simp;done)|(go_simp;rfl));intro bX hw;have hg:b8.grownBy bX (some b4):=(by rw[hw];exact bF.2);have lG:Kd.R jc 75 bX w.heap.size (fun _=>True) (.slice (some ⟨b4,0,none⟩) b2.length bL) bE:=(by rw[hw,bZ.out];exact bF.1);clear bF;replace b3:=am (lG);replace HB:=am ((by rw[hw];exact aD (aD (HB.out) bP.out) bP.out:Below w.heap.size w bX));clear hg hw lG))
   go_roundg k1
   case measure=>have:=d2.out;omega
   case rel=>exact⟨(bE),(wrap64 (b1+1)),oS,H',⟨by have:=d2.out;omega⟩,⟨oR b3⟩,⟨oB⟩⟩

def eb.l0:Nat→List (ke)→List (ct)→Int→Option ((List (ct)))
 |0,_,_,_=>none
 |k+1,x0,x3,x4=>if x4<(x0.length:Int)then(if 0≤x4 then((kF.f ((hO x0 x4).f0) ((hO x0 x4).f1)).bind fun b1=>(if x4<(x3.length:Int)then(eb.l0 k x0 (x3.set (x4:Int).toNat (⟨b1.1,b1.2⟩:ct)) (wrap64 (x4+1)))else(none)))else(none))else(some x3)
def eb.f (k:Nat) (l0:List (ke)):Option ((List (ct))):=if 0≤(l0.length:Int)then(if((l0.length:Int):Int).toNat≤8796093022208 then(eb.l0 k l0 (List.replicate ((l0.length:Int):Int).toNat z82) 0)else(none))else(none)
theorem eb.calls (k:Nat) (A0:Option Addr) (c0:Nat) (l0:List (ke)) (r:List (ct)) (w:World) (hr0:Kd.C qI w A0 l0.length l0) (hc0:l0.length≤c0) (h:eb.f k l0=some r):
  Calls Tryz.prog 112 #[.slice A0 l0.length c0] w fun e w'=>∃iV:Value,e= .returned (iV)∧Kd.R fa 82 w' w.heap.size (fun _=>True) iV r∧Below w.heap.size w w':=by
 have dG:=underlying133;have dI:=underlying82;have dB:=ae.mk hr0;have dT:=ae.mk hc0;clear hr0 hc0;have HB:=am (Below.refl w.heap.size w);unfold eb.f at h;have H:=h;clear h;obtain⟨c2,H⟩:=lu H;have d3:=eq_true c2;have d4:decide (0≤(l0.length:Int))=true:=decide_eq_true c2;clear c2;obtain⟨c3,H⟩:=lu H;have dJ:=eq_true c3;have dK:decide (((l0.length:Int):Int).toNat≤8796093022208)=true:=decide_eq_true c3;clear c3;obtain⟨bI,cX⟩:∃y_:List (ct),y_=(List.replicate ((l0.length:Int):Int).toNat z82):=⟨_,rfl⟩;replace H:(eb.l0 k l0 bI 0)=some r:=oY;have bG:=ae.mk cX;clear cX;have H':=ae.mk H;clear H
 go_enter func112,ntmps112
 go_wp2_with (first|((with_reducible refine ai (N:=7) rfl ?_);refine Kd.tv fa _ 82 rfl (N:=7) rfl 56 _ _ rfl (l0.length:Int) rfl rfl underlying56 (.agg #[(.string ⟨#[]⟩),(.string ⟨#[]⟩)]) 32 nP rfl (by decide) (by omega) z82 (ok:=fun _=>True) (ft:=fun _=>True) (iI _ _ _ z82) (fun _ hk=>hk) trivial oa (Nat.le_trans (Nat.mul_le_mul_right _ (oa:(l0.length:Int).toNat≤8796093022208)) (by omega)) (Below.refl _ _) (Nat.le_refl _) ?_;intro d5 w4 bD hb fc da;clear fc da;(first|rw[←bG.out]at bD|(simp only[Int.reduceToNat]at bD;rw[←bG.out]at bD));have bY:=am (Kd.aw bD (ah oB));replace HB:=hB HB hb;clear hb bD))
 go_loopg [4] k (fun kq v4 w'=>∃(b2:List (ct)) (b1:Int),v4= .int .i64 b1∧ae (eb.l0 kq l0 b2 b1=some r)∧ae (kq≤k)∧ae (Kd.R fa 82 w' w.heap.size (fun _=>True) d5 b2)∧ae (Below w.heap.size w w'))
 case atStart=>exact⟨(bI),(0),oS,H',⟨Nat.le_refl _⟩,⟨oR bY⟩,⟨oB⟩⟩
 case round=>
  clear H'
  try clear c2
  try clear d3
  try clear d4
  try clear c3
  obtain⟨b2,b1,rfl,HA,d2,b3,HB⟩:=hrel
  cases gk with
  |zero=>exact absurd HA.out (by simp[eb.l0])
  |succ k1=>
   have H:=HA.out;clear HA;simp only[eb.l0]at H;replace H:=iM H;rcases H with⟨d6,H⟩|⟨d6,H⟩;rotate_left
   ·obtain rfl:=Option.some.inj H
    go_wp2
    go_ret
    exact⟨_,oE,oR b3,oB⟩
   obtain⟨dL,H⟩:=cO H;replace H:=bA H;obtain⟨⟨b5,b6⟩,A8,H⟩:=H
   try dsimp only at H
   obtain⟨dM,H⟩:=cO H;obtain⟨bE,cX⟩:∃y_:List (ct),y_=(b2.set (b1:Int).toNat (⟨b5,b6⟩:ct)):=⟨_,rfl⟩;replace H:(eb.l0 k1 l0 bE (wrap64 (b1+1)))=some r:=oY;have bZ:=ae.mk cX;clear cX;have H':=ae.mk H;clear H;have dN:(0≤(b1:Int))=True:=oT;have dO:(b1<(l0.length:Int))=True:=oT;obtain⟨dH,d7,d9,dA⟩:=tp dB HB b1 oa oa
   cases d7
   go_wp2_with (first|((with_reducible refine ak (f:=136) rfl ?_);refine fe 20 func136 (kF.calls ((hO l0 b1).f0) ((hO l0 b1).f1) b5 b6 _ A8.out) ?_;rintro e b8 ⟨rfl,hb⟩;refine⟨_,rfl,?_⟩;replace b3:=ga b3 hb;replace HB:=hB HB hb;(try clear hk);have bJ:0≤(b1:Int):=oa;have bK:(b1:Int)<((b2.length:Int):Int):=oa;obtain⟨b4,bL,bM,bN,d8,dP,bO⟩:=Kd.kA b3.out (by omega);(first|cases bM|(injection bM with gz nj nn;(first|subst gz|(injection gz with gz;subst gz));subst nn;clear nj));have bP:=ae.mk bN;have dQ:=ae.mk bO;clear bN d8 bO;obtain⟨dR,d1,bQ,b9,bB⟩:=Kd.gm b3.out z82 (b1:Int) bJ bK;obtain rfl:=ff bQ;have dC:b8.cell? ⟨b4,(b1:Int).toNat*2,none⟩=some (.string ((an b2 b1).f0)):=b9 0 _ rfl;have dD:b8.cell? ⟨b4,(b1:Int).toNat*2+1,none⟩=some (.string ((an b2 b1).f1)):=b9 1 _ rfl;have dE:b8.frozen? ⟨b4,(b1:Int).toNat*2,none⟩=false:=bB 0;have dF:b8.frozen? ⟨b4,(b1:Int).toNat*2+1,none⟩=false:=bB 1;clear d1 b9 bB bQ;replace bJ:=eq_true bJ;replace bK:=eq_true bK;have bR:=am (show Kd.R fa 82 b8 w.heap.size (fun _=>True) (.slice (some ⟨b4,0,none⟩) b2.length bL) b2 from(oR b3));obtain⟨dS,bH,bS,b7,bC⟩:=Kd.gm bR.out z82 (b1:Int) oa (by have h_:(b1:Int)<((b2.length:Int):Int):=oa;first|exact h_|(have e_:=(Kd.aH b3.out).1;omega)|simpa using h_);obtain rfl:=ff bS;have bF:=Kd.lR bR.out (b1:Int) oa (by have h_:(b1:Int)<((b2.length:Int):Int):=oa;first|exact h_|(have e_:=(Kd.aH b3.out).1;omega)|simpa using h_) (seg:=[.string b5,.string b6]) (j:=0) bH b7 (show 2≤2 from by decide) (x':=(⟨b5,b6⟩:ct)) (iI _ _ _ (⟨b5,b6⟩:ct)) (fun _ hk=>hk);have bT:=b7 0 _ rfl;(try simp only[show(fa).sz=2 from rfl,Nat.mul_one,Nat.add_zero]at bT);have bU:=bC 0;(try simp only[show(fa).sz=2 from rfl,Nat.mul_one,Nat.add_zero]at bU);have bV:=b7 1 _ rfl;(try simp only[show(fa).sz=2 from rfl,Nat.mul_one,Nat.add_zero]at bV);have bW:=bC 1;(try simp only[show(fa).sz=2 from rfl,Nat.mul_one,Nat.add_zero]at bW);clear bH b7 bC bS)|((with_reducible refine eK (t:=82) (p:=21) rfl ?_);refine eE (t:=82) (p:=21) (v:= ?wk) (w1:=((b8.setCell ⟨b4,(b1:Int).toNat*2,none⟩ (.string b5)).setCell ⟨b4,(b1:Int).toNat*2+1,none⟩ (.string b6))) ?hg ?ho ?hn ?hr ?_;(case ho=>rfl);(case hg=>rfl);(case hn=>rfl);(case hr=>first|(go_simp;done)|(go_simp;rfl));intro bX hw;have hg:b8.grownBy bX (some b4):=(by rw[hw];exact bF.2);have lG:Kd.R fa 82 bX w.heap.size (fun _=>True) (.slice (some ⟨b4,0,none⟩) b2.length bL) bE:=(by rw[hw,bZ.out];exact bF.1);clear bF;replace b3:=am (lG);replace HB:=am ((by rw[hw];exact aD (aD (HB.out) bP.out) bP.out:Below w.heap.size w bX));clear hg hw lG))
   go_roundg k1
   case measure=>have:=d2.out;omega
   case rel=>exact⟨(bE),(wrap64 (b1+1)),oS,H',⟨by have:=d2.out;omega⟩,⟨oR b3⟩,⟨oB⟩⟩

def eu.l0:Nat→List (kd)→Int→Int→Option (Int)
 |0,_,_,_=>none
 |k+1,x0,x1,x5=>if x5<(x0.length:Int)then(if 0≤x5 then((jt.f ((iq x0 x5).f0) ((iq x0 x5).f1) x1).bind fun b1=>(if b1<0 then(some (-1))else(eu.l0 k x0 b1 (wrap64 (x5+1)))))else(none))else(some x1)
def eu.f (k:Nat) (l0:List (kd)) (a1:Int):Option (Int):=if(wrap64 (a1-(l0.length:Int)))<0 then(some (-1))else(eu.l0 k l0 (wrap64 (a1-(l0.length:Int))) 0)
theorem eu.calls (k:Nat) (A0:Option Addr) (c0:Nat) (l0:List (kd)) (a1:Int) (r:Int) (w:World) (hr0:Kd.C qH w A0 l0.length l0) (hc0:l0.length≤c0) (h:eu.f k l0 a1=some r):
  Calls Tryz.prog 109 #[.slice A0 l0.length c0,.int .i64 a1] w fun e w'=>e= .returned (.int .i64 r)∧Below w.heap.size w w':=by
 have bG:=underlying131;have b9:=ae.mk hr0;have bI:=ae.mk hc0;clear hr0 hc0;have HB:=am (Below.refl w.heap.size w);unfold eu.f at h;have H:=h;clear h;replace H:=iM H;rcases H with⟨b7,H⟩|⟨b7,H⟩
 ·obtain rfl:=Option.some.inj H
  go_enter func109,ntmps109
  go_wp2
  go_ret
  exact⟨oE,oB⟩
 have H':=ae.mk H;clear H
 go_enter func109,ntmps109
 go_wp2
 go_loopg [1,5] k (fun kq v1 v5 w'=>∃(b2:Int) (b1:Int),v1= .int .i64 b2∧v5= .int .i64 b1∧ae (eu.l0 kq l0 b2 b1=some r)∧ae (kq≤k)∧ae (Below w.heap.size w w'))
 case atStart=>exact⟨(wrap64 (a1-(l0.length:Int))),(0),oS,oS,H',⟨Nat.le_refl _⟩,⟨oB⟩⟩
 case round=>
  clear H'
  try clear b7
  obtain⟨b2,b1,rfl,rfl,HA,bB,HB⟩:=hrel
  cases gk with
  |zero=>exact absurd HA.out (by simp[eu.l0])
  |succ k1=>
   have H:=HA.out;clear HA;simp only[eu.l0]at H;replace H:=iM H;rcases H with⟨bC,H⟩|⟨bC,H⟩;rotate_left
   ·obtain rfl:=Option.some.inj H
    go_wp2
    go_ret
    exact⟨oE,oB⟩
   obtain⟨bH,H⟩:=cO H;replace H:=bA H;obtain⟨b3,A6,H⟩:=H
   try dsimp only at H
   replace H:=iM H;rcases H with⟨bD,H⟩|⟨bD,H⟩
   ·obtain rfl:=Option.some.inj H;have bE:(0≤(b1:Int))=True:=oT;have bF:(b1<(l0.length:Int))=True:=oT;obtain⟨b8,b4,b5,b6⟩:=tm b9 HB b1 oa oa
    cases b4
    go_wp2_with (first|((with_reducible refine ak (f:=133) rfl ?_);refine fe 23 func133 (jt.calls ((iq l0 b1).f0) ((iq l0 b1).f1) b2 b3 _ A6.out) ?_;rintro e w8 ⟨rfl,hb⟩;refine⟨_,rfl,?_⟩;replace HB:=hB HB hb))
    go_ret
    exact⟨oE,oB⟩
   have H':=ae.mk H;clear H;have bE:(0≤(b1:Int))=True:=oT;have bF:(b1<(l0.length:Int))=True:=oT;obtain⟨b8,b4,b5,b6⟩:=tm b9 HB b1 oa oa
   cases b4
   go_wp2_with (first|((with_reducible refine ak (f:=133) rfl ?_);refine fe 23 func133 (jt.calls ((iq l0 b1).f0) ((iq l0 b1).f1) b2 b3 _ A6.out) ?_;rintro e w9 ⟨rfl,hb⟩;refine⟨_,rfl,?_⟩;replace HB:=hB HB hb))
   go_roundg k1
   case measure=>have:=bB.out;omega
   case rel=>exact⟨(b3),(wrap64 (b1+1)),oS,oS,H',⟨by have:=bB.out;omega⟩,⟨oB⟩⟩
end Go.Proofs.YtlecajlnjmbilaaGreatDoor.P
