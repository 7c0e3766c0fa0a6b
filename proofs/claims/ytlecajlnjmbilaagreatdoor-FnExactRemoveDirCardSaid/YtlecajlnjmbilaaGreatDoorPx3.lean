-- Printed walks.
import Derived.Test.YtlecajlnjmbilaaGreatDoorPx1
import Derived.Test.YtlecajlnjmbilaaGreatDoorPx2
set_option linter.all false
set_option maxHeartbeats 8000000
set_option maxRecDepth 100000
namespace Go.Proofs.YtlecajlnjmbilaaGreatDoor.P
open Go.RowKit Go.Proofs.ab.ao Go.Proofs.ab.aE Go.Proofs.ab.aI
attribute [local go_sem] fV fW im iq fh fi fX fY

def aT.l0:Nat→List (ey)→Int→Int→Option (Int)
 |0,_,_,_=>none
 |k+1,x0,x1,x5=>if x5<(x0.length:Int)then(if 0≤x5 then((ba.f k x1).bind fun b1=>(if((aq x0 x5).f0).toList=b1.toList then((ba.f k (wrap64 (x1+1))).bind fun b2=>(if((aq x0 x5).f1).toList=b2.toList then(aT.l0 k x0 (wrap64 ((wrap64 (x1+1))+1)) (wrap64 (x5+1)))else(some (-1))))else(some (-1))))else(none))else(some x1)
def aT.f (k:Nat) (l0:List (ey)) (a1:Int):Option (Int):=aT.l0 k l0 a1 0
def aT.T4:Bool×List (List Nat×List Nat):=(true,[([],[]),([],[]),([0,1],[0,1]),([2],[2]),([3],[3]),([],[]),([5],[5]),([4,6],[4,6])])
def aT.B4:List Nat:=[0,0,3,7,15,0,32,127]
theorem aT.wD:gy .any (opsOf Tryz.f77 4)=aT.T4:=by kernel_rfl
theorem aT.rO:eR aT.T4.2 aT.B4=true:=by kernel_rfl
def aT.T7:Bool×List (List Nat×List Nat):=(true,[([],[]),([],[]),([0,1],[0,1]),([2],[2]),([3],[3]),([],[]),([5],[5]),([4,6],[4,6])])
def aT.B7:List Nat:=[0,0,3,7,15,0,32,127]
theorem aT.qR:gy .any (opsOf Tryz.f77 7)=aT.T7:=by kernel_rfl
theorem aT.nO:eR aT.T7.2 aT.B7=true:=by kernel_rfl
theorem aT.calls (k:Nat) (A0:Option Addr) (c0:Nat) (l0:List (ey)) (a1:Int) (r:Int) (w:World) (hr0:Kd.C jr w A0 l0.length l0) (hc0:l0.length≤c0) (h:aT.f k l0 a1=some r):
  Calls Tryz.prog 77 #[.slice A0 l0.length c0,.int .i64 a1] w fun e w'=>e= .returned (.int .i64 r)∧Below w.heap.size w w':=by
 have bF:=ae.mk hr0;have bW:=ae.mk hc0;clear hr0 hc0;have HB:=am (Below.refl w.heap.size w);unfold aT.f at h;have H:=h;clear h;have H':=ae.mk H;clear H
 go_enter Tryz.func77,Tryz.ntmps77
 go_wp2
 go_loopg [1,5] k (fun kq v1 v5 w'=>∃(b7:Int) (b1:Int),v1= .int .i64 b7∧v5= .int .i64 b1∧ae (aT.l0 kq l0 b7 b1=some r)∧ae (kq≤k)∧ae (Below w.heap.size w w'))
 case atStart=>exact⟨(a1),(0),oS,oS,H',⟨Nat.le_refl _⟩,⟨oB⟩⟩
 case round=>
  clear H';obtain⟨b7,b1,rfl,rfl,HA,bL,HB⟩:=hrel
  cases gk with
  |zero=>exact absurd HA.out (by simp[aT.l0])
  |succ k1=>
   have H:=HA.out;clear HA;simp only[aT.l0]at H;replace H:=jd H;rcases H with⟨bM,H⟩|⟨bM,H⟩;rotate_left
   ·obtain rfl:=Option.some.inj H
    go_wp2
    go_ret
    exact⟨oE,oB⟩
   obtain⟨bV,H⟩:=cX H;replace H:=bA H;obtain⟨b8,A5,H⟩:=H
   try dsimp only at H
   by_cases c6:((aq l0 b1).f0).toList=b8.toList
   rotate_left
   ·rw[if_neg c6]at H;have bN:(((aq l0 b1).f0).toList==b8.toList)=false:=beq_eq_false_iff_ne.mpr c6;have bO:(((aq l0 b1).f0).toList !=b8.toList)=true:=bne_iff_ne.mpr c6;obtain rfl:=Option.some.inj H
    try go_wp2
    replace HB:=am (au HB.out);have bJ:(0≤(b1:Int))=True:=oT;have bK:(b1<(l0.length:Int))=True:=oT;obtain⟨b4,bB,b2,b3⟩:=ej bF.out b1 oa oa;have bC:=b3;have bD:=b2
    cases bB
    replace b2:=cB HB b2;replace b3:=cB HB b3;refine mn 8 (fun w'=>w'.cell? (b4.add ((b1).toNat*2))=some (.string ((aq l0 b1).f0))∧w'.cell? ⟨(b4.add ((b1).toNat*2)).block,(b4.add ((b1).toNat*2)).off+1,none⟩=some (.string ((aq l0 b1).f1))) aT.wD aT.rO oH (fun hHeld ax eF=> ?_);generalize wr.drew=bX at HB b2 b3 hHeld⊢;refine bx 0 12 ax ?_;refine bx 1 13 ax ?_;refine bx 2 14 ax ?_;refine bx 3 15 ax ?_;refine bx 5 17 ax ?_;refine fS 4 16 ax eF hHeld ?_;refine kM 6 18 ax (fun K hK=> ?_);refine lG 18 Tryz.func115 (ba.calls k1 b7 b8 _ A5.out) ?_;rintro e bY ⟨rfl,hb⟩;refine⟨_,rfl,?_⟩;replace HB:=hB HB hb;refine eY hK 18 oH (fun hHeld=> ?_);clear hK K;refine bx 7 19 ax ?_;refine lY ax ?_
    try go_wp2
    go_ret
    exact⟨oE,oB⟩
   rw[if_pos c6]at H;have bN:(((aq l0 b1).f0).toList==b8.toList)=true:=beq_iff_eq.mpr c6;have bO:(((aq l0 b1).f0).toList !=b8.toList)=false:=bne_eq_false_iff_eq.mpr c6;clear c6;replace H:=bA H;obtain⟨b9,A7,H⟩:=H
   try dsimp only at H
   by_cases c8:((aq l0 b1).f1).toList=b9.toList
   rotate_left
   ·rw[if_neg c8]at H;have bP:(((aq l0 b1).f1).toList==b9.toList)=false:=beq_eq_false_iff_ne.mpr c8;have bQ:(((aq l0 b1).f1).toList !=b9.toList)=true:=bne_iff_ne.mpr c8;obtain rfl:=Option.some.inj H
    try go_wp2
    replace HB:=am (au HB.out);have bJ:(0≤(b1:Int))=True:=oT;have bK:(b1<(l0.length:Int))=True:=oT;obtain⟨b4,bB,b2,b3⟩:=ej bF.out b1 oa oa;have bC:=b3;have bD:=b2
    cases bB
    replace b2:=cB HB b2;replace b3:=cB HB b3;refine mn 8 (fun w'=>w'.cell? (b4.add ((b1).toNat*2))=some (.string ((aq l0 b1).f0))∧w'.cell? ⟨(b4.add ((b1).toNat*2)).block,(b4.add ((b1).toNat*2)).off+1,none⟩=some (.string ((aq l0 b1).f1))) aT.wD aT.rO oH (fun hHeld ax eF=> ?_);generalize wr.drew=bZ at HB b2 b3 hHeld⊢;refine bx 0 12 ax ?_;refine bx 1 13 ax ?_;refine bx 2 14 ax ?_;refine bx 3 15 ax ?_;refine bx 5 17 ax ?_;refine fS 4 16 ax eF hHeld ?_;refine kM 6 18 ax (fun K hK=> ?_);refine lG 18 Tryz.func115 (ba.calls k1 b7 b8 _ A5.out) ?_;rintro e bT ⟨rfl,hb⟩;refine⟨_,rfl,?_⟩;replace HB:=hB HB hb;refine eY hK 18 oH (fun hHeld=> ?_);clear hK K;refine bx 7 19 ax ?_;refine lY ax ?_
    try go_wp2
    replace HB:=am (au HB.out);have bR:(0≤(b1:Int))=True:=oT;have bS:(b1<(l0.length:Int))=True:=oT;obtain⟨bE,bG,b5,b6⟩:=ej bF.out b1 oa oa;have bH:=b6;have bI:=b5;obtain rfl:b4=bE:=(by injection bG);replace b5:=cB HB b5;replace b6:=cB HB b6;refine mn 8 (fun w'=>w'.cell? (b4.add ((b1).toNat*2))=some (.string ((aq l0 b1).f0))∧w'.cell? ⟨(b4.add ((b1).toNat*2)).block,(b4.add ((b1).toNat*2)).off+1,none⟩=some (.string ((aq l0 b1).f1))) aT.qR aT.nO oH (fun hHeld ax eF=> ?_);generalize bT.drew=d1 at HB b5 b6 hHeld⊢;refine bx 0 22 ax ?_;refine bx 1 23 ax ?_;refine bx 2 24 ax ?_;refine bx 3 25 ax ?_;refine bx 5 27 ax ?_;refine fS 4 26 ax eF hHeld ?_;refine kM 6 28 ax (fun K hK=> ?_);refine lG 28 Tryz.func115 (ba.calls k1 (wrap64 (b7+1)) b9 _ A7.out) ?_;rintro e d2 ⟨rfl,hb⟩;refine⟨_,rfl,?_⟩;replace HB:=hB HB hb;refine eY hK 28 oH (fun hHeld=> ?_);clear hK K;refine bx 7 29 ax ?_;refine lY ax ?_
    try go_wp2
    go_ret
    exact⟨oE,oB⟩
   rw[if_pos c8]at H;have bP:(((aq l0 b1).f1).toList==b9.toList)=true:=beq_iff_eq.mpr c8;have bQ:(((aq l0 b1).f1).toList !=b9.toList)=false:=bne_eq_false_iff_eq.mpr c8;clear c8;have H':=ae.mk H;clear H
   try go_wp2
   replace HB:=am (au HB.out);have bJ:(0≤(b1:Int))=True:=oT;have bK:(b1<(l0.length:Int))=True:=oT;obtain⟨b4,bB,b2,b3⟩:=ej bF.out b1 oa oa;have bC:=b3;have bD:=b2
   cases bB
   replace b2:=cB HB b2;replace b3:=cB HB b3;refine mn 8 (fun w'=>w'.cell? (b4.add ((b1).toNat*2))=some (.string ((aq l0 b1).f0))∧w'.cell? ⟨(b4.add ((b1).toNat*2)).block,(b4.add ((b1).toNat*2)).off+1,none⟩=some (.string ((aq l0 b1).f1))) aT.wD aT.rO oH (fun hHeld ax eF=> ?_);generalize wr.drew=w9 at HB b2 b3 hHeld⊢;refine bx 0 12 ax ?_;refine bx 1 13 ax ?_;refine bx 2 14 ax ?_;refine bx 3 15 ax ?_;refine bx 5 17 ax ?_;refine fS 4 16 ax eF hHeld ?_;refine kM 6 18 ax (fun K hK=> ?_);refine lG 18 Tryz.func115 (ba.calls k1 b7 b8 _ A5.out) ?_;rintro e bU ⟨rfl,hb⟩;refine⟨_,rfl,?_⟩;replace HB:=hB HB hb;refine eY hK 18 oH (fun hHeld=> ?_);clear hK K;refine bx 7 19 ax ?_;refine lY ax ?_
   try go_wp2
   replace HB:=am (au HB.out);have bR:(0≤(b1:Int))=True:=oT;have bS:(b1<(l0.length:Int))=True:=oT;obtain⟨bE,bG,b5,b6⟩:=ej bF.out b1 oa oa;have bH:=b6;have bI:=b5;obtain rfl:b4=bE:=(by injection bG);replace b5:=cB HB b5;replace b6:=cB HB b6;refine mn 8 (fun w'=>w'.cell? (b4.add ((b1).toNat*2))=some (.string ((aq l0 b1).f0))∧w'.cell? ⟨(b4.add ((b1).toNat*2)).block,(b4.add ((b1).toNat*2)).off+1,none⟩=some (.string ((aq l0 b1).f1))) aT.qR aT.nO oH (fun hHeld ax eF=> ?_);generalize bU.drew=d3 at HB b5 b6 hHeld⊢;refine bx 0 22 ax ?_;refine bx 1 23 ax ?_;refine bx 2 24 ax ?_;refine bx 3 25 ax ?_;refine bx 5 27 ax ?_;refine fS 4 26 ax eF hHeld ?_;refine kM 6 28 ax (fun K hK=> ?_);refine lG 28 Tryz.func115 (ba.calls k1 (wrap64 (b7+1)) b9 _ A7.out) ?_;rintro e d4 ⟨rfl,hb⟩;refine⟨_,rfl,?_⟩;replace HB:=hB HB hb;refine eY hK 28 oH (fun hHeld=> ?_);clear hK K;refine bx 7 29 ax ?_;refine lY ax ?_
   try go_wp2
   go_roundg k1
   case measure=>have:=bL.out;omega
   case rel=>exact⟨(wrap64 ((wrap64 (b7+1))+1)),(wrap64 (b1+1)),oS,oS,H',⟨by have:=bL.out;omega⟩,⟨oB⟩⟩

def cK.l0:Nat→List ByteArray→Int→Int→List (aZ)→Int→Option (Int×Int)
 |0,_,_,_,_,_=>none
 |k+1,x1,x6,x7,b1,b3=>if x7<(x1.length:Int)then((cF.f k b1 b3 x6).bind fun b2=>(if b2<0 then(some (0,2))else(if 0≤b2 then(if b2<(b1.length:Int)then(if((af b1 b2).f1)=2 then(if 0≤x7 then((fa.f k ((af b1 b2).f0) ((af b1 b2).f1) ((af b1 b2).f2) ((af b1 b2).f3) ((af b1 b2).f4) ((af b1 b2).f5) (iZ ByteArray.empty x1 x7)).bind fun b4=>(if b4=0 then(some (0,2))else(cK.l0 k x1 b4 (wrap64 (x7+1)) b1 b3)))else(none))else(some (0,3)))else(none))else(none))))else(some (x6,0))
def cK.f (k:Nat) (ag:List (aZ)) (ak:Int) (l1:List ByteArray):Option (Int×Int):=cK.l0 k l1 1 0 ag ak
def cK.T10:Bool×List (List Nat×List Nat):=(true,[([],[]),([0],[0]),([],[]),([1,2],[1,2]),([3],[3]),([],[]),([],[]),([5,6],[5,6]),([7],[7]),([4,8],[4,8]),([9,9,0,1,2,3,4,5,6,7,8,9],[9])])
def cK.B10:List Nat:=[0,1,0,7,15,0,0,96,224,511,1023]
theorem cK.acz:gy .any (opsOf Tryz.f118 10)=cK.T10:=by kernel_rfl
theorem cK.aaT:eR cK.T10.2 cK.B10=true:=by kernel_rfl
theorem cK.calls (k:Nat) (bl:Option Addr) (aW:Nat) (ag:List (aZ)) (ak:Int) (A1:Option Addr) (c1:Nat) (l1:List ByteArray) (r1:Int) (r2:Int) (w:World) (cg:Kd.C fv w bl ag.length ag) (ch:ag.length≤aW) (hr1:Kd.C Kd.string w A1 l1.length l1) (hc1:l1.length≤c1) (h:cK.f k ag ak l1=some (r1,r2)):
  Calls Tryz.prog 118 #[.agg #[.slice bl ag.length aW,.int .i64 ak],.slice A1 l1.length c1] w fun e w'=>e= .returned (.tuple #[.int .i64 r1,.int .i64 r2])∧Below w.heap.size w w':=by
 have gR:=Tryz.underlying28;have gS:=Tryz.underlying58;have bD:=ae.mk cg;have bT:=ae.mk ch;clear cg ch;have gD:=ae.mk hr1;have gU:=ae.mk hc1;clear hr1 hc1;have HB:=am (Below.refl w.heap.size w);unfold cK.f at h;have H:=h;clear h;have H':=ae.mk H;clear H
 go_enter Tryz.func118,Tryz.ntmps118
 go_wp2_with (first|((with_reducible refine aj (N:=2) rfl ?_);refine dp 2 #[.slice bl ag.length aW,.int .i64 ak] 28 ?_;intro bP hg w3 hbox hb;have b2:=am (hbox);have gO:=dn hg;replace HB:=hB HB hb;clear hb hbox hg))
 go_loopg [6,7] k (fun kq v6 v7 w'=>∃(bO:Int) (bC:Int),v6= .int .i64 bO∧v7= .int .i64 bC∧ae (cK.l0 kq l1 bO bC ag ak=some (r1,r2))∧ae (kq≤k)∧ae (w'.heap[bP]? =some (.cells #[(.slice bl ag.length aW),.int .i64 ak] 28 (0,0)))∧ae (Below w.heap.size w w'))
 case atStart=>exact⟨(1),(0),oS,oS,H',⟨Nat.le_refl _⟩,⟨oF b2⟩,⟨oB⟩⟩
 case round=>
  clear H'
  try clear c1
  obtain⟨bO,bC,rfl,rfl,HA,gE,b2,HB⟩:=hrel
  cases gk with
  |zero=>exact absurd HA.out (by simp[cK.l0])
  |succ k1=>
   have H:=HA.out;clear HA;simp only[cK.l0]at H;replace H:=jd H;rcases H with⟨gG,H⟩|⟨gG,H⟩;rotate_left
   ·simp only[Option.some.injEq,Prod.mk.injEq]at H;obtain⟨rfl,rfl⟩:=H
    go_wp2
    go_ret2
    exact⟨oE,oB⟩
   replace H:=bA H;obtain⟨b1,A5,H⟩:=H
   try dsimp only at H
   replace H:=jd H;rcases H with⟨gH,H⟩|⟨gH,H⟩
   ·simp only[Option.some.injEq,Prod.mk.injEq]at H;obtain⟨rfl,rfl⟩:=H;obtain⟨⟨_,_⟩,_,_⟩:=z2 b2
    go_wp2_with (first|((with_reducible refine ai (f:=82) rfl ?_);refine eL 17 Tryz.func82 (cF.calls k1 _ _ ag ak bO b1 _ (kC bD) bT.out A5.out) ?_;rintro e w8 ⟨rfl,hb⟩;refine⟨_,rfl,?_⟩;replace b2:=bj b2 hb;replace HB:=hB HB hb))
    go_ret2
    exact⟨oE,oB⟩
   obtain⟨gT,H⟩:=cX H;obtain⟨gP,H⟩:=cX H
   by_cases bU:((af ag b1).f1)=2
   rotate_left
   ·rw[if_neg bU]at H;have dZ:(((af ag b1).f1)==2)=false:=beq_eq_false_iff_ne.mpr bU;have gA:(((af ag b1).f1) !=2)=true:=bne_iff_ne.mpr bU;simp only[Option.some.injEq,Prod.mk.injEq]at H;obtain⟨rfl,rfl⟩:=H;obtain⟨⟨_,_⟩,_,_⟩:=z2 b2
    go_wp2_with (first|((with_reducible refine ai (f:=82) rfl ?_);refine eL 17 Tryz.func82 (cF.calls k1 _ _ ag ak bO b1 _ (kC bD) bT.out A5.out) ?_;rintro e gV ⟨rfl,hb⟩;refine⟨_,rfl,?_⟩;replace b2:=bj b2 hb;replace HB:=hB HB hb;obtain⟨⟨_,_⟩,_,_⟩:=z2 b2;have dX:(0≤(b1:Int))=True:=oT;have dY:(b1<(ag.length:Int))=True:=oT;obtain⟨b3,dI,dJ,dK,dL,dM,dN,bV,d4,d5,d6,d7,d8,d9,dA,dB,dC,dD,dE,dF⟩:=ft bD HB b1 oa oa;cases bV))
    go_ret2
    exact⟨oE,oB⟩
   rw[if_pos bU]at H;have dZ:(((af ag b1).f1)==2)=true:=beq_iff_eq.mpr bU;have gA:(((af ag b1).f1) !=2)=false:=bne_eq_false_iff_eq.mpr bU;clear bU;obtain⟨gQ,H⟩:=cX H;replace H:=bA H;obtain⟨bN,gF,H⟩:=H
   try dsimp only at H
   by_cases bW:bN=0
   ·rw[if_pos bW]at H;have gB:(bN==0)=true:=beq_iff_eq.mpr bW;have gC:(bN !=0)=false:=bne_eq_false_iff_eq.mpr bW;clear bW;simp only[Option.some.injEq,Prod.mk.injEq]at H;obtain⟨rfl,rfl⟩:=H;obtain⟨⟨_,_⟩,_,_⟩:=z2 b2
    try go_wp2_with (first|((with_reducible refine ai (f:=82) rfl ?_);refine eL 17 Tryz.func82 (cF.calls k1 _ _ ag ak bO b1 _ (kC bD) bT.out A5.out) ?_;rintro e gM ⟨rfl,hb⟩;refine⟨_,rfl,?_⟩;replace b2:=bj b2 hb;replace HB:=hB HB hb;obtain⟨⟨_,_⟩,_,_⟩:=z2 b2;have dX:(0≤(b1:Int))=True:=oT;have dY:(b1<(ag.length:Int))=True:=oT;obtain⟨b3,dI,dJ,dK,dL,dM,dN,bV,d4,d5,d6,d7,d8,d9,dA,dB,dC,dD,dE,dF⟩:=ft bD HB b1 oa oa;cases bV))
    replace b2:=am (av b2.out);replace HB:=am (au HB.out);have gI:(0≤(b1:Int))=True:=oT;have gJ:(b1<(ag.length:Int))=True:=oT;obtain⟨dG,bX,bY,bZ,d1,d2,d3,dO,b4,b5,b6,b7,b8,b9,bE,bF,bG,bH,bI,bJ⟩:=fy bD.out b1 oa oa;have dQ:=b9;have dR:=b8;have dS:=b7;have dT:=b6;have dU:=b5;have dV:=b4;obtain rfl:b3=dG:=(by injection dO);replace b4:=cB HB b4;replace b5:=cB HB b5;replace b6:=cB HB b6;replace b7:=cB HB b7;replace b8:=cB HB b8;replace b9:=cB HB b9;have bK:=ae.mk bF;have bQ:=ae.mk bE;clear bF bE;have bL:=ae.mk bH;have bR:=ae.mk bG;clear bH bG;have bM:=ae.mk bJ;have bS:=ae.mk bI;clear bJ bI;have gK:(0≤(bC:Int))=True:=oT;have gL:(bC<(l1.length:Int))=True:=oT;obtain⟨dH,dP,bB⟩:=Kd.eX gD.out bC oa oa;have dW:=bB
    cases dP
    replace bB:=cB HB bB;refine mn 11 (fun w'=>w'.cell? ⟨bP,0,none⟩=some (.slice (some b3) ag.length aW)∧w'.cell? ⟨bP,1,none⟩=some (.int .i64 ak)∧w'.cell? (b3.add ((b1).toNat*6))=some (.int .i64 ((af ag b1).f0))∧w'.cell? ⟨(b3.add ((b1).toNat*6)).block,(b3.add ((b1).toNat*6)).off+1,none⟩=some (.int .i64 ((af ag b1).f1))∧w'.cell? ⟨(b3.add ((b1).toNat*6)).block,(b3.add ((b1).toNat*6)).off+2,none⟩=some (.int .i64 ((af ag b1).f2))∧w'.cell? ⟨(b3.add ((b1).toNat*6)).block,(b3.add ((b1).toNat*6)).off+3,none⟩=some (.slice bX ((af ag b1).f3).length bY)∧w'.cell? ⟨(b3.add ((b1).toNat*6)).block,(b3.add ((b1).toNat*6)).off+4,none⟩=some (.slice bZ ((af ag b1).f4).length d1)∧w'.cell? ⟨(b3.add ((b1).toNat*6)).block,(b3.add ((b1).toNat*6)).off+5,none⟩=some (.slice d2 ((af ag b1).f5).length d3)∧w'.cell? (dH.add (bC).toNat)=some (.string (iZ ByteArray.empty l1 bC))) cK.acz cK.aaT oH (fun hHeld ax eF=> ?_);generalize gM.drew=gW at b2 HB bK bL bM b4 b5 b6 b7 b8 b9 bB hHeld⊢;refine bx 0 27 ax ?_;refine bx 2 29 ax ?_;refine bx 5 32 ax ?_;refine bx 6 33 ax ?_;refine bx 7 34 ax ?_;refine fS 1 28 ax eF hHeld ?_;refine bx 3 30 ax ?_;refine fS 4 31 ax eF hHeld ?_;refine fS 8 35 ax eF hHeld ?_;refine kM 9 36 ax (fun K hK=> ?_);refine lG 36 Tryz.func98 (fa.calls k1 ((af ag b1).f0) ((af ag b1).f1) ((af ag b1).f2) _ _ ((af ag b1).f3) _ _ ((af ag b1).f4) _ _ ((af ag b1).f5) (iZ ByteArray.empty l1 bC) bN _ (kC bK) bQ.out (kC bL) bR.out (kC bM) bS.out gF.out) ?_;rintro e gX ⟨rfl,hb⟩;refine⟨_,rfl,?_⟩;replace b2:=bj b2 hb;replace HB:=hB HB hb;refine eY hK 36 oH (fun hHeld=> ?_);clear hK K;refine bx 10 6 ax ?_;refine lY ax ?_
    try go_wp2
    go_ret2
    exact⟨oE,oB⟩
   rw[if_neg bW]at H;have gB:(bN==0)=false:=beq_eq_false_iff_ne.mpr bW;have gC:(bN !=0)=true:=bne_iff_ne.mpr bW;have H':=ae.mk H;clear H;obtain⟨⟨_,_⟩,_,_⟩:=z2 b2
   try go_wp2_with (first|((with_reducible refine ai (f:=82) rfl ?_);refine eL 17 Tryz.func82 (cF.calls k1 _ _ ag ak bO b1 _ (kC bD) bT.out A5.out) ?_;rintro e gN ⟨rfl,hb⟩;refine⟨_,rfl,?_⟩;replace b2:=bj b2 hb;replace HB:=hB HB hb;obtain⟨⟨_,_⟩,_,_⟩:=z2 b2;have dX:(0≤(b1:Int))=True:=oT;have dY:(b1<(ag.length:Int))=True:=oT;obtain⟨b3,dI,dJ,dK,dL,dM,dN,bV,d4,d5,d6,d7,d8,d9,dA,dB,dC,dD,dE,dF⟩:=ft bD HB b1 oa oa;cases bV))
   replace b2:=am (av b2.out);replace HB:=am (au HB.out);have gI:(0≤(b1:Int))=True:=oT;have gJ:(b1<(ag.length:Int))=True:=oT;obtain⟨dG,bX,bY,bZ,d1,d2,d3,dO,b4,b5,b6,b7,b8,b9,bE,bF,bG,bH,bI,bJ⟩:=fy bD.out b1 oa oa;have dQ:=b9;have dR:=b8;have dS:=b7;have dT:=b6;have dU:=b5;have dV:=b4;obtain rfl:b3=dG:=(by injection dO);replace b4:=cB HB b4;replace b5:=cB HB b5;replace b6:=cB HB b6;replace b7:=cB HB b7;replace b8:=cB HB b8;replace b9:=cB HB b9;have bK:=ae.mk bF;have bQ:=ae.mk bE;clear bF bE;have bL:=ae.mk bH;have bR:=ae.mk bG;clear bH bG;have bM:=ae.mk bJ;have bS:=ae.mk bI;clear bJ bI;have gK:(0≤(bC:Int))=True:=oT;have gL:(bC<(l1.length:Int))=True:=oT;obtain⟨dH,dP,bB⟩:=Kd.eX gD.out bC oa oa;have dW:=bB
   cases dP
   replace bB:=cB HB bB;refine mn 11 (fun w'=>w'.cell? ⟨bP,0,none⟩=some (.slice (some b3) ag.length aW)∧w'.cell? ⟨bP,1,none⟩=some (.int .i64 ak)∧w'.cell? (b3.add ((b1).toNat*6))=some (.int .i64 ((af ag b1).f0))∧w'.cell? ⟨(b3.add ((b1).toNat*6)).block,(b3.add ((b1).toNat*6)).off+1,none⟩=some (.int .i64 ((af ag b1).f1))∧w'.cell? ⟨(b3.add ((b1).toNat*6)).block,(b3.add ((b1).toNat*6)).off+2,none⟩=some (.int .i64 ((af ag b1).f2))∧w'.cell? ⟨(b3.add ((b1).toNat*6)).block,(b3.add ((b1).toNat*6)).off+3,none⟩=some (.slice bX ((af ag b1).f3).length bY)∧w'.cell? ⟨(b3.add ((b1).toNat*6)).block,(b3.add ((b1).toNat*6)).off+4,none⟩=some (.slice bZ ((af ag b1).f4).length d1)∧w'.cell? ⟨(b3.add ((b1).toNat*6)).block,(b3.add ((b1).toNat*6)).off+5,none⟩=some (.slice d2 ((af ag b1).f5).length d3)∧w'.cell? (dH.add (bC).toNat)=some (.string (iZ ByteArray.empty l1 bC))) cK.acz cK.aaT oH (fun hHeld ax eF=> ?_);generalize gN.drew=gY at b2 HB bK bL bM b4 b5 b6 b7 b8 b9 bB hHeld⊢;refine bx 0 27 ax ?_;refine bx 2 29 ax ?_;refine bx 5 32 ax ?_;refine bx 6 33 ax ?_;refine bx 7 34 ax ?_;refine fS 1 28 ax eF hHeld ?_;refine bx 3 30 ax ?_;refine fS 4 31 ax eF hHeld ?_;refine fS 8 35 ax eF hHeld ?_;refine kM 9 36 ax (fun K hK=> ?_);refine lG 36 Tryz.func98 (fa.calls k1 ((af ag b1).f0) ((af ag b1).f1) ((af ag b1).f2) _ _ ((af ag b1).f3) _ _ ((af ag b1).f4) _ _ ((af ag b1).f5) (iZ ByteArray.empty l1 bC) bN _ (kC bK) bQ.out (kC bL) bR.out (kC bM) bS.out gF.out) ?_;rintro e gZ ⟨rfl,hb⟩;refine⟨_,rfl,?_⟩;replace b2:=bj b2 hb;replace HB:=hB HB hb;refine eY hK 36 oH (fun hHeld=> ?_);clear hK K;refine bx 10 6 ax ?_;refine lY ax ?_
   try go_wp2
   go_roundg k1
   case measure=>have:=gE.out;omega
   case rel=>exact⟨(bN),(wrap64 (bC+1)),oS,oS,H',⟨by have:=gE.out;omega⟩,⟨oF b2⟩,⟨oB⟩⟩

def b_.l0:Nat→Int→Int→List (aZ)→Int→List (aZ)→Int→Option ((List (aZ))×Int)
 |0,_,_,_,_,_,_=>none
 |k+1,x1,x6,b1,b5,b2,b4=>if x6<(b1.length:Int)then(if 0≤x6 then(if((af b1 x6).f0)=x1 then(b_.l0 k x1 (wrap64 (x6+1)) b1 b5 b2 b4)else((cZ.f ((af b1 x6).f0) ((af b1 x6).f1) ((af b1 x6).f2) ((af b1 x6).f3) ((af b1 x6).f4) ((af b1 x6).f5)).bind fun b3=>(if b2.length<1466015503701 then(b_.l0 k x1 (wrap64 (x6+1)) b1 b5 (b2++[(⟨b3.1,b3.2.1,b3.2.2.1,b3.2.2.2.1,b3.2.2.2.2.1,b3.2.2.2.2.2⟩:aZ)]) b4)else(none))))else(none))else(some (b2,b4))
def b_.f (k:Nat) (ag:List (aZ)) (ak:Int) (a1:Int):Option ((List (aZ))×Int):=b_.l0 k a1 0 ag ak ([]:List (aZ)) ak
def b_.T6:Bool×List (List Nat×List Nat):=(true,[([],[]),([0],[0]),([],[]),([2],[2]),([],[]),([3,4],[3,4]),([5],[5]),([6],[6]),([7],[7]),([1,8,7],[1,8]),([0,1,2,3,4,5,6,7,8,9],[]),([10,9,9,0,1,2,3,4,5,6,7,8,9],[9,10])])
def b_.B6:List Nat:=[0,1,0,4,0,28,60,124,252,511,1023,2047]
theorem b_.tab6:gy .any (opsOf Tryz.f43 6)=b_.T6:=by kernel_rfl
theorem b_.lP:eR b_.T6.2 b_.B6=true:=by kernel_rfl
theorem b_.calls (k:Nat) (bl:Option Addr) (aW:Nat) (ag:List (aZ)) (ak:Int) (a1:Int) (r1:List (aZ)) (r2:Int) (w:World) (cg:Kd.C fv w bl ag.length ag) (ch:ag.length≤aW) (h:b_.f k ag ak a1=some (r1,r2)):
  Calls Tryz.prog 43 #[.agg #[.slice bl ag.length aW,.int .i64 ak],.int .i64 a1] w fun e w'=>∃iY:Value,e= .returned (.agg #[iY,.int .i64 r2])∧Kd.S fv 58 w' w.heap.size (fun _=>True) iY r1∧Below w.heap.size w w':=by
 have m7:=Tryz.underlying28;have m8:=Tryz.underlying58;have dG:=ae.mk cg;have jM:=ae.mk ch;clear cg ch;have HB:=am (Below.refl w.heap.size w);unfold b_.f at h;have H:=h;clear h;have H':=ae.mk H;clear H
 go_enter Tryz.func43,Tryz.ntmps43
 go_wp2_with (first|((with_reducible refine aj (N:=2) rfl ?_);refine dp 2 #[.slice bl ag.length aW,.int .i64 ak] 28 ?_;intro dH hg w3 hbox hb;have b3:=am (hbox);have jN:=dn hg;replace HB:=hB HB hb;clear hb hbox hg)|((with_reducible refine aj (N:=4) rfl ?_);refine dp 4 #[.slice none 0 0,.int .i64 0] 28 ?_;intro bQ hg w4 hbox hb;have b4:=am (hbox);have jO:=dn hg;have bC:=eN hg b3;have bD:=eO hg b3;replace b3:=bj b3 hb;replace HB:=hB HB hb;clear hb hbox hg;have m9:=bC.out;have mA:=bD.out;obtain⟨⟨_,_⟩,_,_⟩:=z2 b3)|((with_reducible refine aj (N:=5) rfl ?_);refine dp 5 #[.slice none 0 0,.int .i64 0] 28 ?_;intro bM hg w7 hbox hb;have b5:=am (hbox);have jP:=dn hg;have b9:=eN hg b3;have bB:=eO hg b3;have bE:=eN hg b4;have bF:=eO hg b4;replace b3:=bj b3 hb;replace b4:=bj b4 hb;replace HB:=hB HB hb;clear hb hbox hg;have mB:=bB.out;have mC:=b9.out;have mD:=bF.out;have mE:=bE.out;obtain⟨⟨_,_⟩,_,_⟩:=z2 b5))
 go_loopg [6] k (fun kq v6 w'=>∃(b2:Int) (b7:List (aZ)) (b6:Value),v6= .int .i64 b2∧ae (b_.l0 kq a1 b2 ag ak b7 ak=some (r1,r2))∧ae (kq≤k)∧ae (Kd.S fv 58 w' w.heap.size (fun _=>True) b6 b7)∧ae (w'.heap[dH]? =some (.cells #[(.slice bl ag.length aW),.int .i64 ak] 28 (0,0)))∧ae (w'.heap[bQ]? =some (.cells #[(.slice none 0 0),.int .i64 0] 28 (0,0)))∧ae (w'.heap[bM]? =some (.cells #[b6,.int .i64 ak] 28 (0,0)))∧ae (Below w.heap.size w w'))
 case atStart=>exact⟨(0),(([]:List (aZ))),(.slice none 0 0),oS,H',⟨Nat.le_refl _⟩,⟨by first|exact Kd.ie _ _ _ _ _|exact Kd.ig _ _ _ _ _|exact Kd.ij _ _ _ _ _|exact Kd.ic _ _ _ _ _|exact Kd.fD _ _ _ _ _⟩,⟨oF b3⟩,⟨oF b4⟩,⟨oP b5⟩,⟨oB⟩⟩
 case round=>
  clear H';obtain⟨b2,b7,b6,rfl,HA,dK,b1,b3,b4,b5,HB⟩:=hrel
  cases gk with
  |zero=>exact absurd HA.out (by simp[b_.l0])
  |succ k1=>
   have H:=HA.out;clear HA;simp only[b_.l0]at H;replace H:=jd H;rcases H with⟨j4,H⟩|⟨j4,H⟩;rotate_left
   ·simp only[Option.some.injEq,Prod.mk.injEq]at H;obtain⟨rfl,rfl⟩:=H;have jQ:=bC.out;have jR:=bD.out;have jS:=b9.out;have jT:=bB.out;obtain⟨⟨_,_⟩,_,_⟩:=z2 b3;have jU:=bF.out;have jV:=bE.out;obtain⟨⟨_,_⟩,_,_⟩:=z2 b5;obtain⟨gB,gC,jC⟩:=Kd.gf b1.out;subst jC;obtain⟨⟨_,_⟩,_,_⟩:=z2 b4
    go_wp2
    refine bodyPost_ret (results_cell_row rfl _ _ bQ 28 #[.slice gB b7.length gC,.int .i64 ak] (0,0) _ rfl (oP b4) Tryz.underlying28 rfl (by kernel_rfl)) rfl ?_;exact⟨_,oE,by(with_reducible repeat(first|apply Kd.eo|apply Kd.et|apply Kd.eI));exact Kd.eu (Kd.cV (p:=⟨bQ,1,none⟩) (Kd.cV (p:=⟨bQ,0,none⟩) (Kd.jl b1.out b4.out (by decide)) (fun _ hk=>hk.2) (.slice gB b7.length gC)) (fun _ hk=>hk.2) (.int .i64 ak)) (fun _ hk=>trivial),oB⟩
   obtain⟨jW,H⟩:=cX H
   by_cases bU:((af ag b2).f0)=a1
   ·rw[if_pos bU]at H;have j5:(((af ag b2).f0)==a1)=true:=beq_iff_eq.mpr bU;have j6:(((af ag b2).f0) !=a1)=false:=bne_eq_false_iff_eq.mpr bU;clear bU;have H':=ae.mk H;clear H;have jX:=bC.out;have jY:=bD.out;have jZ:=b9.out;have m1:=bB.out;obtain⟨⟨_,_⟩,_,_⟩:=z2 b3;have jD:(0≤(b2:Int))=True:=oT;have jE:(b2<(ag.length:Int))=True:=oT;obtain⟨b8,gD,gE,gF,gG,gH,gI,dJ,dM,dN,dO,dP,dQ,dR,dS,dT,dU,dV,dW,dX⟩:=ft dG HB b2 oa oa
    cases dJ
    go_wp2
    go_roundg k1
    case measure=>have:=dK.out;omega
    case rel=>exact⟨(wrap64 (b2+1)),(b7),(b6),oS,H',⟨by have:=dK.out;omega⟩,⟨by(with_reducible repeat(first|apply Kd.eo|apply Kd.et|apply Kd.eI));exact b1.out⟩,⟨oF b3⟩,⟨oF b4⟩,⟨oF b5⟩,⟨oB⟩⟩
   rw[if_neg bU]at H;have j5:(((af ag b2).f0)==a1)=false:=beq_eq_false_iff_ne.mpr bU;have j6:(((af ag b2).f0) !=a1)=true:=bne_iff_ne.mpr bU;replace H:=bA H;obtain⟨⟨bV,bW,bX,bN,bO,bP⟩,jK,H⟩:=H
   try dsimp only at H
   obtain⟨jA,H⟩:=lp H;have j7:=ae.mk jA;clear jA;obtain⟨dI,dj⟩:∃y_:List (aZ),y_=(b7++[(⟨bV,bW,bX,bN,bO,bP⟩:aZ)]):=⟨_,rfl⟩;replace H:(b_.l0 k1 a1 (wrap64 (b2+1)) ag ak dI ak)=some (r1,r2):=oY;have j8:=ae.mk dj;clear dj;have H':=ae.mk H;clear H;have m2:=bC.out;have m3:=bD.out;have m4:=b9.out;have m5:=bB.out;obtain⟨⟨_,_⟩,_,_⟩:=z2 b3;have jD:(0≤(b2:Int))=True:=oT;have jE:(b2<(ag.length:Int))=True:=oT;obtain⟨b8,gD,gE,gF,gG,gH,gI,dJ,dM,dN,dO,dP,dQ,dR,dS,dT,dU,dV,dW,dX⟩:=ft dG HB b2 oa oa
   cases dJ
   try go_wp2
   replace b1:=am (Kd.eI b1.out);replace b3:=am (av b3.out);replace b4:=am (av b4.out);replace b5:=am (av b5.out);replace HB:=am (au HB.out);have mF:(0≤(b2:Int))=True:=oT;have mG:(b2<(ag.length:Int))=True:=oT;obtain⟨j9,gJ,gK,gL,gM,gN,gO,jF,bG,bH,bI,bJ,bK,bL,d1,d2,d3,d4,d5,d6⟩:=fy dG.out b2 oa oa;have d7:=bL;have d8:=bK;have d9:=bJ;have dA:=bI;have dB:=bH;have dC:=bG;obtain rfl:b8=j9:=(by injection jF);replace bG:=cB HB bG;replace bH:=cB HB bH;replace bI:=cB HB bI;replace bJ:=cB HB bJ;replace bK:=cB HB bK;replace bL:=cB HB bL;have dD:=ae.mk d2;have dY:=ae.mk d1;clear d2 d1;have dE:=ae.mk d4;have dZ:=ae.mk d3;clear d4 d3;have dF:=ae.mk d6;have gA:=ae.mk d5;clear d6 d5;refine qd (n:=12) (S:=fun w'=>w'.cell? ⟨bM,0,none⟩=some (b6)∧w'.cell? ⟨bM,1,none⟩=some (.int .i64 ak)∧w'.cell? ⟨dH,0,none⟩=some (.slice (some b8) ag.length aW)∧w'.cell? ⟨dH,1,none⟩=some (.int .i64 ak)∧w'.cell? (b8.add ((b2).toNat*6))=some (.int .i64 ((af ag b2).f0))∧w'.cell? ⟨(b8.add ((b2).toNat*6)).block,(b8.add ((b2).toNat*6)).off+1,none⟩=some (.int .i64 ((af ag b2).f1))∧w'.cell? ⟨(b8.add ((b2).toNat*6)).block,(b8.add ((b2).toNat*6)).off+2,none⟩=some (.int .i64 ((af ag b2).f2))∧w'.cell? ⟨(b8.add ((b2).toNat*6)).block,(b8.add ((b2).toNat*6)).off+3,none⟩=some (.slice gJ ((af ag b2).f3).length gK)∧w'.cell? ⟨(b8.add ((b2).toNat*6)).block,(b8.add ((b2).toNat*6)).off+4,none⟩=some (.slice gL ((af ag b2).f4).length gM)∧w'.cell? ⟨(b8.add ((b2).toNat*6)).block,(b8.add ((b2).toNat*6)).off+5,none⟩=some (.slice gN ((af ag b2).f5).length gO)) (ds:=[11]) (lb 12 0) (by kernel_rfl) rfl rfl oH (fun hHeld=> ?_);refine qi b_.tab6 b_.lP (fun ax eF=> ?_);generalize wr.drew=mM at b1 b3 b4 b5 HB dD dE dF bG bH bI bJ bK bL hHeld⊢;refine bx 0 25 ax ?_;refine bx 2 27 ax ?_;refine bx 4 29 ax ?_;refine fS 1 26 ax eF hHeld ?_;refine fS 3 28 ax eF hHeld ?_;refine bx 5 30 ax ?_;refine fS 6 31 ax eF hHeld ?_;refine kM 7 32 ax (fun K hK=> ?_);refine lG 32 Tryz.func83 (cZ.calls ((af ag b2).f0) ((af ag b2).f1) ((af ag b2).f2) _ _ ((af ag b2).f3) _ _ ((af ag b2).f4) _ _ ((af ag b2).f5) bV bW bX bN bO bP _ (kC dD) dY.out (kC dE) dZ.out (kC dF) gA.out jK.out) ?_;rintro e mN ⟨mH,mI,mJ,rfl,jB,gP,gQ,hb⟩;refine⟨_,rfl,?_⟩;have bR:=am (Kd.ar jB (ah oB));have bS:=am (Kd.ar gP (ah oB));have bT:=am (Kd.ar gQ (ah oB));replace b1:=tv (uE b1 hb) (Kd.cM jB) (Kd.cM gP) (Kd.cM gQ);replace b3:=bj b3 hb;replace b4:=bj b4 hb;replace b5:=bj b5 hb;replace HB:=hB HB hb
   (try clear gP)
   (try clear gQ)
   obtain⟨gR,gS,gT⟩:=Kd.aw bR.out
   (first|subst gT|(injection gT with jf lB jg;have bY:=jf.symm;have bZ:=jg.symm;clear jf lB jg;subst bY;subst bZ))
   obtain⟨gU,gV,gW⟩:=Kd.aw bS.out
   (first|subst gW|(injection gW with jf lB jg;have bY:=jf.symm;have bZ:=jg.symm;clear jf lB jg;subst bY;subst bZ))
   obtain⟨gX,gY,gZ⟩:=Kd.aw bT.out
   (first|subst gZ|(injection gZ with jf lB jg;have bY:=jf.symm;have bZ:=jg.symm;clear jf lB jg;subst bY;subst bZ))
   refine eY hK 32 oH (fun hHeld=> ?_);clear hK K;refine kM 8 33 ax (fun K hK=> ?_);refine rB (w1:= ?_) (v:= ?_) (by rfl) rfl ?_ ?_;rotate_left 2
   ·go_simp
    constructor
    ·rfl
    ·rfl
   refine eY hK 33 ⟨(an (aC b5.out _) 0).trans rfl,(an (aC b5.out _) 1).trans rfl,(an (aC b3.out _) 0).trans rfl,(an (aC b3.out _) 1).trans rfl,(World.cell?_alloc_lt _ _ _ (World.block_lt_of_cell? _ _ ((cB HB dC)))).trans ((cB HB dC)),(World.cell?_alloc_lt _ _ _ (World.block_lt_of_cell? _ _ ((cB HB dB)))).trans ((cB HB dB)),(World.cell?_alloc_lt _ _ _ (World.block_lt_of_cell? _ _ ((cB HB dA)))).trans ((cB HB dA)),(World.cell?_alloc_lt _ _ _ (World.block_lt_of_cell? _ _ ((cB HB d9)))).trans ((cB HB d9)),(World.cell?_alloc_lt _ _ _ (World.block_lt_of_cell? _ _ ((cB HB d8)))).trans ((cB HB d8)),(World.cell?_alloc_lt _ _ _ (World.block_lt_of_cell? _ _ ((cB HB d7)))).trans ((cB HB d7))⟩ (fun hHeld=> ?_);clear hK K;refine kM 9 34 ax (fun K hK=> ?_);refine Kd.ng fv (w0:=w) w.heap.size (by rfl) (.tmp 26) (.tmp 33) 26 58 (.agg #[(.int .i64 0),(.int .i64 0),(.int .i64 0),(.slice none 0 0),(.slice none 0 0),(.slice none 0 0)]) 96 rfl Tryz.underlying26 kX rfl (by decide) (by omega) b6 b7 (⟨bV,bW,bX,bN,bO,bP⟩:aZ) [.int .i64 bV,.int .i64 bW,.int .i64 bX,.slice gR bN.length gS,.slice gU bO.length gV,.slice gX bP.length gY] (fun _=>True) (fun k_=>some k_=(.slice gR bN.length gS:Value).ownBlock∨some k_=(.slice gU bO.length gV:Value).ownBlock∨some k_=(.slice gX bP.length gY:Value).ownBlock) rfl rfl ?aP (fun k_ eY=>eY.elim (fun h_=>((Kd.bf (ok':=fun k_=>((fun _=>True)) k_∧some k_≠(b6:Value).ownBlock) (Kd.ct (bR.out) (Kd.fx b1.out) (by decide)) (fun k_ hk=>⟨trivial,hk.2⟩))).1 k_ h_.symm) (fun h_=>h_.elim (fun h_=>((Kd.bf (ok':=fun k_=>((fun _=>True)) k_∧some k_≠(b6:Value).ownBlock) (Kd.ct (bS.out) (Kd.fx b1.out) (by decide)) (fun k_ hk=>⟨trivial,hk.2⟩))).1 k_ h_.symm) (fun h_=>((Kd.bf (ok':=fun k_=>((fun _=>True)) k_∧some k_≠(b6:Value).ownBlock) (Kd.ct (bT.out) (Kd.fx b1.out) (by decide)) (fun k_ hk=>⟨trivial,hk.2⟩))).1 k_ h_.symm))) ?aF ?aO ?aB ?aS ?aL ?_
   (case aP=>exact nz _ _ _ (⟨bV,bW,bX,bN,bO,bP⟩:aZ) (Kd.bf (Kd.iG rfl (Kd.bf (ok':=fun k_=>((fun _=>True)) k_∧some k_≠(b6:Value).ownBlock) (Kd.ct (bR.out) (Kd.fx b1.out) (by decide)) (fun k_ hk=>⟨trivial,hk.2⟩))) (fun _ h_=>Or.inl h_)) (Kd.bf (Kd.iG rfl (Kd.bf (ok':=fun k_=>((fun _=>True)) k_∧some k_≠(b6:Value).ownBlock) (Kd.ct (bS.out) (Kd.fx b1.out) (by decide)) (fun k_ hk=>⟨trivial,hk.2⟩))) (fun _ h_=>Or.inr (Or.inl h_))) (Kd.bf (Kd.iG rfl (Kd.bf (ok':=fun k_=>((fun _=>True)) k_∧some k_≠(b6:Value).ownBlock) (Kd.ct (bT.out) (Kd.fx b1.out) (by decide)) (fun k_ hk=>⟨trivial,hk.2⟩))) (fun _ h_=>Or.inr (Or.inr (h_)))))
   (case aB=>exact oB)
   (case aF=>exact(fun _ _=>trivial))
   (case aO=>exact(by(with_reducible repeat(first|apply Kd.eo|apply Kd.et|apply Kd.eI));exact Kd.eu b1.out (fun k_ hk=>⟨trivial,fun e_=>e_.elim (fun h_=>hk.1.1.2 h_) (fun h_=>h_.elim (fun h_=>hk.1.2 h_) (fun h_=>hk.2 h_))⟩)))
   (case aS=>exact(ah oB))
   (case aL=>have:=j7.out;omega)
   intro mK jL ho hb hg hat;rw[←j8.out]at ho;have dL:=am (ho);replace b3:=lO b3 hg (Kd.tL b1.out b3.out (by decide));replace b4:=lO b4 hg (Kd.tL b1.out b4.out (by decide));replace b5:=lO b5 hg (Kd.tL b1.out b5.out (by decide));replace HB:=am (hb);clear b1;clear bR;clear bS;clear bT;clear ho hb hg hat;obtain⟨j1,j2,j3⟩:=Kd.gf dL.out
   (first|subst j3|(injection j3 with jf lB jg;have bY:=jf.symm;have bZ:=jg.symm;clear jf lB jg;subst bY;subst bZ))
   refine eY hK 34 oH (fun hHeld=> ?_);clear hK K;refine bx 10 35 ax ?_;refine xH (i:=11) (N:=none) (lb 12 4095) rfl rfl (pq ax.out (by kernel_rfl)) (by decide) (fun K hK=> ?_);have mL:jL.cell? ⟨bM,0,none⟩=some (b6):=(an b5.out 0).trans rfl;have m6:=az b5.out 0;have jG:=b9.out;have jH:=bE.out;have jI:=bB.out;have jJ:=bF.out;refine rC (w1:= ?_) (by rfl) rfl ?_ ?_;rotate_left
   ·go_simp
    rfl
   refine hK.out _ _ ?_;clear hK K;refine lY ax ?_
   try go_wp2
   go_roundg k1
   case measure=>have:=dK.out;omega
   case rel=>exact⟨(wrap64 (b2+1)),(dI),(.slice j1 dI.length j2),oS,H',⟨by have:=dK.out;omega⟩,⟨by(with_reducible repeat(first|apply Kd.eo|apply Kd.et|apply Kd.eI));exact Kd.eu (Kd.cV (p:=⟨bM,0,none⟩) (Kd.jl dL.out b5.out (by decide)) (fun _ hk=>hk.2) (.slice j1 dI.length j2)) (fun _ hk=>trivial)⟩,⟨oF b3⟩,⟨oF b4⟩,⟨oP b5⟩,⟨oB⟩⟩

def bw.l0:Nat→List (db)→Int→Int→Option (Int)
 |0,_,_,_=>none
 |k+1,x0,x1,x5=>if x5<(x0.length:Int)then(if 0≤x5 then((ba.f k x1).bind fun b1=>(if((al x0 x5).f0).toList=b1.toList then(if((al x0 x5).f1)=(wrap64 (x1+1))then(bw.l0 k x0 (wrap64 ((wrap64 (x1+1))+1)) (wrap64 (x5+1)))else(some (-1)))else(some (-1))))else(none))else(some x1)
def bw.f (k:Nat) (l0:List (db)) (a1:Int):Option (Int):=bw.l0 k l0 a1 0
def bw.T4:Bool×List (List Nat×List Nat):=(true,[([],[]),([],[]),([0,1],[0,1]),([2],[2]),([3],[3]),([],[]),([5],[5]),([4,6],[4,6])])
def bw.B4:List Nat:=[0,0,3,7,15,0,32,127]
theorem bw.wD:gy .any (opsOf Tryz.f76 4)=bw.T4:=by kernel_rfl
theorem bw.rO:eR bw.T4.2 bw.B4=true:=by kernel_rfl
theorem bw.calls (k:Nat) (A0:Option Addr) (c0:Nat) (l0:List (db)) (a1:Int) (r:Int) (w:World) (hr0:Kd.C iA w A0 l0.length l0) (hc0:l0.length≤c0) (h:bw.f k l0 a1=some r):
  Calls Tryz.prog 76 #[.slice A0 l0.length c0,.int .i64 a1] w fun e w'=>e= .returned (.int .i64 r)∧Below w.heap.size w w':=by
 have bE:=ae.mk hr0;have bR:=ae.mk hc0;clear hr0 hc0;have HB:=am (Below.refl w.heap.size w);unfold bw.f at h;have H:=h;clear h;have H':=ae.mk H;clear H
 go_enter Tryz.func76,Tryz.ntmps76
 go_wp2
 go_loopg [1,5] k (fun kq v1 v5 w'=>∃(b5:Int) (b1:Int),v1= .int .i64 b5∧v5= .int .i64 b1∧ae (bw.l0 kq l0 b5 b1=some r)∧ae (kq≤k)∧ae (Below w.heap.size w w'))
 case atStart=>exact⟨(a1),(0),oS,oS,H',⟨Nat.le_refl _⟩,⟨oB⟩⟩
 case round=>
  clear H';obtain⟨b5,b1,rfl,rfl,HA,bI,HB⟩:=hrel
  cases gk with
  |zero=>exact absurd HA.out (by simp[bw.l0])
  |succ k1=>
   have H:=HA.out;clear HA;simp only[bw.l0]at H;replace H:=jd H;rcases H with⟨bJ,H⟩|⟨bJ,H⟩;rotate_left
   ·obtain rfl:=Option.some.inj H
    go_wp2
    go_ret
    exact⟨oE,oB⟩
   obtain⟨bQ,H⟩:=cX H;replace H:=bA H;obtain⟨b8,A5,H⟩:=H
   try dsimp only at H
   by_cases c6:((al l0 b1).f0).toList=b8.toList
   rotate_left
   ·rw[if_neg c6]at H;have bK:(((al l0 b1).f0).toList==b8.toList)=false:=beq_eq_false_iff_ne.mpr c6;have bL:(((al l0 b1).f0).toList !=b8.toList)=true:=bne_iff_ne.mpr c6;obtain rfl:=Option.some.inj H
    try go_wp2
    replace HB:=am (au HB.out);have bG:(0≤(b1:Int))=True:=oT;have bH:(b1<(l0.length:Int))=True:=oT;obtain⟨b4,b9,b2,b3⟩:=cT bE.out b1 oa oa;have bB:=b3;have bC:=b2
    cases b9
    replace b2:=cB HB b2;replace b3:=cB HB b3;refine mn 8 (fun w'=>w'.cell? (b4.add ((b1).toNat*2))=some (.string ((al l0 b1).f0))∧w'.cell? ⟨(b4.add ((b1).toNat*2)).block,(b4.add ((b1).toNat*2)).off+1,none⟩=some (.int .i64 ((al l0 b1).f1))) bw.wD bw.rO oH (fun hHeld ax eF=> ?_);generalize wr.drew=bS at HB b2 b3 hHeld⊢;refine bx 0 12 ax ?_;refine bx 1 13 ax ?_;refine bx 2 14 ax ?_;refine bx 3 15 ax ?_;refine bx 5 17 ax ?_;refine fS 4 16 ax eF hHeld ?_;refine kM 6 18 ax (fun K hK=> ?_);refine lG 18 Tryz.func115 (ba.calls k1 b5 b8 _ A5.out) ?_;rintro e bT ⟨rfl,hb⟩;refine⟨_,rfl,?_⟩;replace HB:=hB HB hb;refine eY hK 18 oH (fun hHeld=> ?_);clear hK K;refine bx 7 19 ax ?_;refine lY ax ?_
    try go_wp2
    go_ret
    exact⟨oE,oB⟩
   rw[if_pos c6]at H;have bK:(((al l0 b1).f0).toList==b8.toList)=true:=beq_iff_eq.mpr c6;have bL:(((al l0 b1).f0).toList !=b8.toList)=false:=bne_eq_false_iff_eq.mpr c6;clear c6
   by_cases c7:((al l0 b1).f1)=(wrap64 (b5+1))
   rotate_left
   ·rw[if_neg c7]at H;have bM:(((al l0 b1).f1)==(wrap64 (b5+1)))=false:=beq_eq_false_iff_ne.mpr c7;have bN:(((al l0 b1).f1) !=(wrap64 (b5+1)))=true:=bne_iff_ne.mpr c7;obtain rfl:=Option.some.inj H
    try go_wp2
    replace HB:=am (au HB.out);have bG:(0≤(b1:Int))=True:=oT;have bH:(b1<(l0.length:Int))=True:=oT;obtain⟨b4,b9,b2,b3⟩:=cT bE.out b1 oa oa;have bB:=b3;have bC:=b2
    cases b9
    replace b2:=cB HB b2;replace b3:=cB HB b3;refine mn 8 (fun w'=>w'.cell? (b4.add ((b1).toNat*2))=some (.string ((al l0 b1).f0))∧w'.cell? ⟨(b4.add ((b1).toNat*2)).block,(b4.add ((b1).toNat*2)).off+1,none⟩=some (.int .i64 ((al l0 b1).f1))) bw.wD bw.rO oH (fun hHeld ax eF=> ?_);generalize wr.drew=bU at HB b2 b3 hHeld⊢;refine bx 0 12 ax ?_;refine bx 1 13 ax ?_;refine bx 2 14 ax ?_;refine bx 3 15 ax ?_;refine bx 5 17 ax ?_;refine fS 4 16 ax eF hHeld ?_;refine kM 6 18 ax (fun K hK=> ?_);refine lG 18 Tryz.func115 (ba.calls k1 b5 b8 _ A5.out) ?_;rintro e bV ⟨rfl,hb⟩;refine⟨_,rfl,?_⟩;replace HB:=hB HB hb;refine eY hK 18 oH (fun hHeld=> ?_);clear hK K;refine bx 7 19 ax ?_;refine lY ax ?_;have bO:(0≤(b1:Int))=True:=oT;have bP:(b1<(l0.length:Int))=True:=oT;obtain⟨bD,bF,b6,b7⟩:=cT bE.out b1 oa oa;obtain rfl:b4=bD:=(by injection bF);replace b6:=cB HB b6;replace b7:=cB HB b7
    try go_wp2
    go_ret
    exact⟨oE,oB⟩
   rw[if_pos c7]at H;have bM:(((al l0 b1).f1)==(wrap64 (b5+1)))=true:=beq_iff_eq.mpr c7;have bN:(((al l0 b1).f1) !=(wrap64 (b5+1)))=false:=bne_eq_false_iff_eq.mpr c7;clear c7;have H':=ae.mk H;clear H
   try go_wp2
   replace HB:=am (au HB.out);have bG:(0≤(b1:Int))=True:=oT;have bH:(b1<(l0.length:Int))=True:=oT;obtain⟨b4,b9,b2,b3⟩:=cT bE.out b1 oa oa;have bB:=b3;have bC:=b2
   cases b9
   replace b2:=cB HB b2;replace b3:=cB HB b3;refine mn 8 (fun w'=>w'.cell? (b4.add ((b1).toNat*2))=some (.string ((al l0 b1).f0))∧w'.cell? ⟨(b4.add ((b1).toNat*2)).block,(b4.add ((b1).toNat*2)).off+1,none⟩=some (.int .i64 ((al l0 b1).f1))) bw.wD bw.rO oH (fun hHeld ax eF=> ?_);generalize wr.drew=w8 at HB b2 b3 hHeld⊢;refine bx 0 12 ax ?_;refine bx 1 13 ax ?_;refine bx 2 14 ax ?_;refine bx 3 15 ax ?_;refine bx 5 17 ax ?_;refine fS 4 16 ax eF hHeld ?_;refine kM 6 18 ax (fun K hK=> ?_);refine lG 18 Tryz.func115 (ba.calls k1 b5 b8 _ A5.out) ?_;rintro e w9 ⟨rfl,hb⟩;refine⟨_,rfl,?_⟩;replace HB:=hB HB hb;refine eY hK 18 oH (fun hHeld=> ?_);clear hK K;refine bx 7 19 ax ?_;refine lY ax ?_;have bO:(0≤(b1:Int))=True:=oT;have bP:(b1<(l0.length:Int))=True:=oT;obtain⟨bD,bF,b6,b7⟩:=cT bE.out b1 oa oa;obtain rfl:b4=bD:=(by injection bF);replace b6:=cB HB b6;replace b7:=cB HB b7
   try go_wp2
   go_roundg k1
   case measure=>have:=bI.out;omega
   case rel=>exact⟨(wrap64 ((wrap64 (b5+1))+1)),(wrap64 (b1+1)),oS,oS,H',⟨by have:=bI.out;omega⟩,⟨oB⟩⟩
end Go.Proofs.YtlecajlnjmbilaaGreatDoor.P
