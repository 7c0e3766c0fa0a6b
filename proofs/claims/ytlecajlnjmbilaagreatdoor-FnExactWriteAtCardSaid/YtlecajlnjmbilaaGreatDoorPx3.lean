-- Printed walks.
import Derived.Test.YtlecajlnjmbilaaGreatDoorPx1
import Derived.Test.YtlecajlnjmbilaaGreatDoorPx2
set_option linter.all false
set_option maxHeartbeats 8000000
set_option maxRecDepth 100000
namespace Go.Proofs.YtlecajlnjmbilaaGreatDoor.P
open Go.RowKit Go.Proofs.ae.au Go.Proofs.ae.ba Go.Proofs.ae.bg
attribute [local go_sem] gh gi iR iS ft fu gj gl

def aM.l0:Nat→List (eh)→Int→Int→Option (Int)
 |0,_,_,_=>none
 |k+1,x0,x1,x5=>if x5<(x0.length:Int)then(if 0≤x5 then((aY.f k x1).bind fun b1=>(if((an x0 x5).f0).toList=b1.toList then((aY.f k (wrap64 (x1+1))).bind fun b2=>(if((an x0 x5).f1).toList=b2.toList then(aM.l0 k x0 (wrap64 ((wrap64 (x1+1))+1)) (wrap64 (x5+1)))else(some (-1))))else(some (-1))))else(none))else(some x1)
def aM.f (k:Nat) (l0:List (eh)) (a1:Int):Option (Int):=aM.l0 k l0 a1 0
def aM.T4:Bool×List (List Nat×List Nat):=(true,[([],[]),([],[]),([0,1],[0,1]),([2],[2]),([3],[3]),([],[]),([5],[5]),([4,6],[4,6])])
def aM.B4:List Nat:=[0,0,3,7,15,0,32,127]
theorem aM.vw:gf .any (opsOf Tryz.f77 4)=aM.T4:=by kernel_rfl
theorem aM.rh:eL aM.T4.2 aM.B4=true:=by kernel_rfl
def aM.T7:Bool×List (List Nat×List Nat):=(true,[([],[]),([],[]),([0,1],[0,1]),([2],[2]),([3],[3]),([],[]),([5],[5]),([4,6],[4,6])])
def aM.B7:List Nat:=[0,0,3,7,15,0,32,127]
theorem aM.qA:gf .any (opsOf Tryz.f77 7)=aM.T7:=by kernel_rfl
theorem aM.ny:eL aM.T7.2 aM.B7=true:=by kernel_rfl
theorem aM.calls (k:Nat) (A0:Option Addr) (c0:Nat) (l0:List (eh)) (a1:Int) (r:Int) (w:World) (hr0:Kd.C iU w A0 l0.length l0) (hc0:l0.length≤c0) (h:aM.f k l0 a1=some r):
  Calls Tryz.prog 77 #[.slice A0 l0.length c0,.int .i64 a1] w fun e w'=>e= .returned (.int .i64 r)∧Below w.heap.size w w':=by
 have bF:=ab.mk hr0;have bW:=ab.mk hc0;clear hr0 hc0;have HB:=am (Below.refl w.heap.size w);unfold aM.f at h;have H:=h;clear h;have H':=ab.mk H;clear H
 go_enter Tryz.func77,Tryz.ntmps77
 go_wp2
 go_loopg [1,5] k (fun kq v1 v5 w'=>∃(b7:Int) (b1:Int),v1= .int .i64 b7∧v5= .int .i64 b1∧ab (aM.l0 kq l0 b7 b1=some r)∧ab (kq≤k)∧ab (Below w.heap.size w w'))
 case atStart=>exact⟨(a1),(0),oS,oS,H',⟨Nat.le_refl _⟩,⟨oB⟩⟩
 case round=>
  clear H';obtain⟨b7,b1,rfl,rfl,HA,bL,HB⟩:=hrel
  cases gk with
  |zero=>exact absurd HA.out (by simp[aM.l0])
  |succ k1=>
   have H:=HA.out;clear HA;simp only[aM.l0]at H;replace H:=iH H;rcases H with⟨bM,H⟩|⟨bM,H⟩;rotate_left
   ·obtain rfl:=Option.some.inj H
    go_wp2
    go_ret
    exact⟨oE,oB⟩
   obtain⟨bV,H⟩:=cU H;replace H:=bA H;obtain⟨b8,A5,H⟩:=H
   try dsimp only at H
   by_cases c6:((an l0 b1).f0).toList=b8.toList
   rotate_left
   ·rw[if_neg c6]at H;have bN:(((an l0 b1).f0).toList==b8.toList)=false:=beq_eq_false_iff_ne.mpr c6;have bO:(((an l0 b1).f0).toList !=b8.toList)=true:=bne_iff_ne.mpr c6;obtain rfl:=Option.some.inj H
    try go_wp2
    replace HB:=am (ar HB.out);have bJ:(0≤(b1:Int))=True:=oT;have bK:(b1<(l0.length:Int))=True:=oT;obtain⟨b4,bB,b2,b3⟩:=dw bF.out b1 oa oa;have bC:=b3;have bD:=b2
    cases bB
    replace b2:=cB HB b2;replace b3:=cB HB b3;refine mq 8 (fun w'=>w'.cell? (b4.add ((b1).toNat*2))=some (.string ((an l0 b1).f0))∧w'.cell? ⟨(b4.add ((b1).toNat*2)).block,(b4.add ((b1).toNat*2)).off+1,none⟩=some (.string ((an l0 b1).f1))) aM.vw aM.rh oH (fun hHeld av ey=> ?_);generalize wr.drew=bX at HB b2 b3 hHeld⊢;refine b_ 0 12 av ?_;refine b_ 1 13 av ?_;refine b_ 2 14 av ?_;refine b_ 3 15 av ?_;refine b_ 5 17 av ?_;refine fJ 4 16 av ey hHeld ?_;refine kF 6 18 av (fun K hK=> ?_);refine lU 18 Tryz.func115 (aY.calls k1 b7 b8 _ A5.out) ?_;rintro e bY ⟨rfl,hb⟩;refine⟨_,rfl,?_⟩;replace HB:=hB HB hb;refine fV hK 18 oH (fun hHeld=> ?_);clear hK K;refine b_ 7 19 av ?_;refine lX av ?_
    try go_wp2
    go_ret
    exact⟨oE,oB⟩
   rw[if_pos c6]at H;have bN:(((an l0 b1).f0).toList==b8.toList)=true:=beq_iff_eq.mpr c6;have bO:(((an l0 b1).f0).toList !=b8.toList)=false:=bne_eq_false_iff_eq.mpr c6;clear c6;replace H:=bA H;obtain⟨b9,A7,H⟩:=H
   try dsimp only at H
   by_cases c8:((an l0 b1).f1).toList=b9.toList
   rotate_left
   ·rw[if_neg c8]at H;have bP:(((an l0 b1).f1).toList==b9.toList)=false:=beq_eq_false_iff_ne.mpr c8;have bQ:(((an l0 b1).f1).toList !=b9.toList)=true:=bne_iff_ne.mpr c8;obtain rfl:=Option.some.inj H
    try go_wp2
    replace HB:=am (ar HB.out);have bJ:(0≤(b1:Int))=True:=oT;have bK:(b1<(l0.length:Int))=True:=oT;obtain⟨b4,bB,b2,b3⟩:=dw bF.out b1 oa oa;have bC:=b3;have bD:=b2
    cases bB
    replace b2:=cB HB b2;replace b3:=cB HB b3;refine mq 8 (fun w'=>w'.cell? (b4.add ((b1).toNat*2))=some (.string ((an l0 b1).f0))∧w'.cell? ⟨(b4.add ((b1).toNat*2)).block,(b4.add ((b1).toNat*2)).off+1,none⟩=some (.string ((an l0 b1).f1))) aM.vw aM.rh oH (fun hHeld av ey=> ?_);generalize wr.drew=bZ at HB b2 b3 hHeld⊢;refine b_ 0 12 av ?_;refine b_ 1 13 av ?_;refine b_ 2 14 av ?_;refine b_ 3 15 av ?_;refine b_ 5 17 av ?_;refine fJ 4 16 av ey hHeld ?_;refine kF 6 18 av (fun K hK=> ?_);refine lU 18 Tryz.func115 (aY.calls k1 b7 b8 _ A5.out) ?_;rintro e bT ⟨rfl,hb⟩;refine⟨_,rfl,?_⟩;replace HB:=hB HB hb;refine fV hK 18 oH (fun hHeld=> ?_);clear hK K;refine b_ 7 19 av ?_;refine lX av ?_
    try go_wp2
    replace HB:=am (ar HB.out);have bR:(0≤(b1:Int))=True:=oT;have bS:(b1<(l0.length:Int))=True:=oT;obtain⟨bE,bG,b5,b6⟩:=dw bF.out b1 oa oa;have bH:=b6;have bI:=b5;obtain rfl:b4=bE:=(by injection bG);replace b5:=cB HB b5;replace b6:=cB HB b6;refine mq 8 (fun w'=>w'.cell? (b4.add ((b1).toNat*2))=some (.string ((an l0 b1).f0))∧w'.cell? ⟨(b4.add ((b1).toNat*2)).block,(b4.add ((b1).toNat*2)).off+1,none⟩=some (.string ((an l0 b1).f1))) aM.qA aM.ny oH (fun hHeld av ey=> ?_);generalize bT.drew=d1 at HB b5 b6 hHeld⊢;refine b_ 0 22 av ?_;refine b_ 1 23 av ?_;refine b_ 2 24 av ?_;refine b_ 3 25 av ?_;refine b_ 5 27 av ?_;refine fJ 4 26 av ey hHeld ?_;refine kF 6 28 av (fun K hK=> ?_);refine lU 28 Tryz.func115 (aY.calls k1 (wrap64 (b7+1)) b9 _ A7.out) ?_;rintro e d2 ⟨rfl,hb⟩;refine⟨_,rfl,?_⟩;replace HB:=hB HB hb;refine fV hK 28 oH (fun hHeld=> ?_);clear hK K;refine b_ 7 29 av ?_;refine lX av ?_
    try go_wp2
    go_ret
    exact⟨oE,oB⟩
   rw[if_pos c8]at H;have bP:(((an l0 b1).f1).toList==b9.toList)=true:=beq_iff_eq.mpr c8;have bQ:(((an l0 b1).f1).toList !=b9.toList)=false:=bne_eq_false_iff_eq.mpr c8;clear c8;have H':=ab.mk H;clear H
   try go_wp2
   replace HB:=am (ar HB.out);have bJ:(0≤(b1:Int))=True:=oT;have bK:(b1<(l0.length:Int))=True:=oT;obtain⟨b4,bB,b2,b3⟩:=dw bF.out b1 oa oa;have bC:=b3;have bD:=b2
   cases bB
   replace b2:=cB HB b2;replace b3:=cB HB b3;refine mq 8 (fun w'=>w'.cell? (b4.add ((b1).toNat*2))=some (.string ((an l0 b1).f0))∧w'.cell? ⟨(b4.add ((b1).toNat*2)).block,(b4.add ((b1).toNat*2)).off+1,none⟩=some (.string ((an l0 b1).f1))) aM.vw aM.rh oH (fun hHeld av ey=> ?_);generalize wr.drew=w9 at HB b2 b3 hHeld⊢;refine b_ 0 12 av ?_;refine b_ 1 13 av ?_;refine b_ 2 14 av ?_;refine b_ 3 15 av ?_;refine b_ 5 17 av ?_;refine fJ 4 16 av ey hHeld ?_;refine kF 6 18 av (fun K hK=> ?_);refine lU 18 Tryz.func115 (aY.calls k1 b7 b8 _ A5.out) ?_;rintro e bU ⟨rfl,hb⟩;refine⟨_,rfl,?_⟩;replace HB:=hB HB hb;refine fV hK 18 oH (fun hHeld=> ?_);clear hK K;refine b_ 7 19 av ?_;refine lX av ?_
   try go_wp2
   replace HB:=am (ar HB.out);have bR:(0≤(b1:Int))=True:=oT;have bS:(b1<(l0.length:Int))=True:=oT;obtain⟨bE,bG,b5,b6⟩:=dw bF.out b1 oa oa;have bH:=b6;have bI:=b5;obtain rfl:b4=bE:=(by injection bG);replace b5:=cB HB b5;replace b6:=cB HB b6;refine mq 8 (fun w'=>w'.cell? (b4.add ((b1).toNat*2))=some (.string ((an l0 b1).f0))∧w'.cell? ⟨(b4.add ((b1).toNat*2)).block,(b4.add ((b1).toNat*2)).off+1,none⟩=some (.string ((an l0 b1).f1))) aM.qA aM.ny oH (fun hHeld av ey=> ?_);generalize bU.drew=d3 at HB b5 b6 hHeld⊢;refine b_ 0 22 av ?_;refine b_ 1 23 av ?_;refine b_ 2 24 av ?_;refine b_ 3 25 av ?_;refine b_ 5 27 av ?_;refine fJ 4 26 av ey hHeld ?_;refine kF 6 28 av (fun K hK=> ?_);refine lU 28 Tryz.func115 (aY.calls k1 (wrap64 (b7+1)) b9 _ A7.out) ?_;rintro e d4 ⟨rfl,hb⟩;refine⟨_,rfl,?_⟩;replace HB:=hB HB hb;refine fV hK 28 oH (fun hHeld=> ?_);clear hK K;refine b_ 7 29 av ?_;refine lX av ?_
   try go_wp2
   go_roundg k1
   case measure=>have:=bL.out;omega
   case rel=>exact⟨(wrap64 ((wrap64 (b7+1))+1)),(wrap64 (b1+1)),oS,oS,H',⟨by have:=bL.out;omega⟩,⟨oB⟩⟩

def cL.l0:Nat→List ByteArray→Int→Int→List (bh)→Int→Option (Int×Int)
 |0,_,_,_,_,_=>none
 |k+1,x1,x6,x7,b1,b3=>if x7<(x1.length:Int)then((cF.f k b1 b3 x6).bind fun b2=>(if b2<0 then(some (0,2))else(if 0≤b2 then(if b2<(b1.length:Int)then(if((af b1 b2).f1)=2 then(if 0≤x7 then((eF.f k ((af b1 b2).f0) ((af b1 b2).f1) ((af b1 b2).f2) ((af b1 b2).f3) ((af b1 b2).f4) ((af b1 b2).f5) (lq ByteArray.empty x1 x7)).bind fun b4=>(if b4=0 then(some (0,2))else(cL.l0 k x1 b4 (wrap64 (x7+1)) b1 b3)))else(none))else(some (0,3)))else(none))else(none))))else(some (x6,0))
def cL.f (k:Nat) (ag:List (bh)) (ak:Int) (l1:List ByteArray):Option (Int×Int):=cL.l0 k l1 1 0 ag ak
def cL.T10:Bool×List (List Nat×List Nat):=(true,[([],[]),([0],[0]),([],[]),([1,2],[1,2]),([3],[3]),([],[]),([],[]),([5,6],[5,6]),([7],[7]),([4,8],[4,8]),([9,9,0,1,2,3,4,5,6,7,8,9],[9])])
def cL.B10:List Nat:=[0,1,0,7,15,0,0,96,224,511,1023]
theorem cL.acs:gf .any (opsOf Tryz.f118 10)=cL.T10:=by kernel_rfl
theorem cL.aaU:eL cL.T10.2 cL.B10=true:=by kernel_rfl
theorem cL.calls (k:Nat) (bj:Option Addr) (aW:Nat) (ag:List (bh)) (ak:Int) (A1:Option Addr) (c1:Nat) (l1:List ByteArray) (r1:Int) (r2:Int) (w:World) (ch:Kd.C fD w bj ag.length ag) (ck:ag.length≤aW) (hr1:Kd.C Kd.string w A1 l1.length l1) (hc1:l1.length≤c1) (h:cL.f k ag ak l1=some (r1,r2)):
  Calls Tryz.prog 118 #[.agg #[.slice bj ag.length aW,.int .i64 ak],.slice A1 l1.length c1] w fun e w'=>e= .returned (.tuple #[.int .i64 r1,.int .i64 r2])∧Below w.heap.size w w':=by
 have gR:=Tryz.underlying28;have gS:=Tryz.underlying58;have bD:=ab.mk ch;have bT:=ab.mk ck;clear ch ck;have gD:=ab.mk hr1;have gU:=ab.mk hc1;clear hr1 hc1;have HB:=am (Below.refl w.heap.size w);unfold cL.f at h;have H:=h;clear h;have H':=ab.mk H;clear H
 go_enter Tryz.func118,Tryz.ntmps118
 go_wp2_with (first|((with_reducible refine ai (N:=2) rfl ?_);refine di 2 #[.slice bj ag.length aW,.int .i64 ak] 28 ?_;intro bP hg w3 hbox hb;have b2:=am (hbox);have gO:=dh hg;replace HB:=hB HB hb;clear hb hbox hg))
 go_loopg [6,7] k (fun kq v6 v7 w'=>∃(bO:Int) (bC:Int),v6= .int .i64 bO∧v7= .int .i64 bC∧ab (cL.l0 kq l1 bO bC ag ak=some (r1,r2))∧ab (kq≤k)∧ab (w'.heap[bP]? =some (.cells #[(.slice bj ag.length aW),.int .i64 ak] 28 (0,0)))∧ab (Below w.heap.size w w'))
 case atStart=>exact⟨(1),(0),oS,oS,H',⟨Nat.le_refl _⟩,⟨oF b2⟩,⟨oB⟩⟩
 case round=>
  clear H'
  try clear c1
  obtain⟨bO,bC,rfl,rfl,HA,gE,b2,HB⟩:=hrel
  cases gk with
  |zero=>exact absurd HA.out (by simp[cL.l0])
  |succ k1=>
   have H:=HA.out;clear HA;simp only[cL.l0]at H;replace H:=iH H;rcases H with⟨gG,H⟩|⟨gG,H⟩;rotate_left
   ·simp only[Option.some.injEq,Prod.mk.injEq]at H;obtain⟨rfl,rfl⟩:=H
    go_wp2
    go_ret2
    exact⟨oE,oB⟩
   replace H:=bA H;obtain⟨b1,A5,H⟩:=H
   try dsimp only at H
   replace H:=iH H;rcases H with⟨gH,H⟩|⟨gH,H⟩
   ·simp only[Option.some.injEq,Prod.mk.injEq]at H;obtain⟨rfl,rfl⟩:=H;obtain⟨⟨_,_⟩,_,_⟩:=z2 b2
    go_wp2_with (first|((with_reducible refine aj (f:=82) rfl ?_);refine eI 17 Tryz.func82 (cF.calls k1 _ _ ag ak bO b1 _ (kC bD) bT.out A5.out) ?_;rintro e w8 ⟨rfl,hb⟩;refine⟨_,rfl,?_⟩;replace b2:=bn b2 hb;replace HB:=hB HB hb))
    go_ret2
    exact⟨oE,oB⟩
   obtain⟨gT,H⟩:=cU H;obtain⟨gP,H⟩:=cU H
   by_cases bU:((af ag b1).f1)=2
   rotate_left
   ·rw[if_neg bU]at H;have dZ:(((af ag b1).f1)==2)=false:=beq_eq_false_iff_ne.mpr bU;have gA:(((af ag b1).f1) !=2)=true:=bne_iff_ne.mpr bU;simp only[Option.some.injEq,Prod.mk.injEq]at H;obtain⟨rfl,rfl⟩:=H;obtain⟨⟨_,_⟩,_,_⟩:=z2 b2
    go_wp2_with (first|((with_reducible refine aj (f:=82) rfl ?_);refine eI 17 Tryz.func82 (cF.calls k1 _ _ ag ak bO b1 _ (kC bD) bT.out A5.out) ?_;rintro e gV ⟨rfl,hb⟩;refine⟨_,rfl,?_⟩;replace b2:=bn b2 hb;replace HB:=hB HB hb;obtain⟨⟨_,_⟩,_,_⟩:=z2 b2;have dX:(0≤(b1:Int))=True:=oT;have dY:(b1<(ag.length:Int))=True:=oT;obtain⟨b3,dI,dJ,dK,dL,dM,dN,bV,d4,d5,d6,d7,d8,d9,dA,dB,dC,dD,dE,dF⟩:=fc bD HB b1 oa oa;cases bV))
    go_ret2
    exact⟨oE,oB⟩
   rw[if_pos bU]at H;have dZ:(((af ag b1).f1)==2)=true:=beq_iff_eq.mpr bU;have gA:(((af ag b1).f1) !=2)=false:=bne_eq_false_iff_eq.mpr bU;clear bU;obtain⟨gQ,H⟩:=cU H;replace H:=bA H;obtain⟨bN,gF,H⟩:=H
   try dsimp only at H
   by_cases bW:bN=0
   ·rw[if_pos bW]at H;have gB:(bN==0)=true:=beq_iff_eq.mpr bW;have gC:(bN !=0)=false:=bne_eq_false_iff_eq.mpr bW;clear bW;simp only[Option.some.injEq,Prod.mk.injEq]at H;obtain⟨rfl,rfl⟩:=H;obtain⟨⟨_,_⟩,_,_⟩:=z2 b2
    try go_wp2_with (first|((with_reducible refine aj (f:=82) rfl ?_);refine eI 17 Tryz.func82 (cF.calls k1 _ _ ag ak bO b1 _ (kC bD) bT.out A5.out) ?_;rintro e gM ⟨rfl,hb⟩;refine⟨_,rfl,?_⟩;replace b2:=bn b2 hb;replace HB:=hB HB hb;obtain⟨⟨_,_⟩,_,_⟩:=z2 b2;have dX:(0≤(b1:Int))=True:=oT;have dY:(b1<(ag.length:Int))=True:=oT;obtain⟨b3,dI,dJ,dK,dL,dM,dN,bV,d4,d5,d6,d7,d8,d9,dA,dB,dC,dD,dE,dF⟩:=fc bD HB b1 oa oa;cases bV))
    replace b2:=am (ao b2.out);replace HB:=am (ar HB.out);have gI:(0≤(b1:Int))=True:=oT;have gJ:(b1<(ag.length:Int))=True:=oT;obtain⟨dG,bX,bY,bZ,d1,d2,d3,dO,b4,b5,b6,b7,b8,b9,bE,bF,bG,bH,bI,bJ⟩:=fl bD.out b1 oa oa;have dQ:=b9;have dR:=b8;have dS:=b7;have dT:=b6;have dU:=b5;have dV:=b4;obtain rfl:b3=dG:=(by injection dO);replace b4:=cB HB b4;replace b5:=cB HB b5;replace b6:=cB HB b6;replace b7:=cB HB b7;replace b8:=cB HB b8;replace b9:=cB HB b9;have bK:=ab.mk bF;have bQ:=ab.mk bE;clear bF bE;have bL:=ab.mk bH;have bR:=ab.mk bG;clear bH bG;have bM:=ab.mk bJ;have bS:=ab.mk bI;clear bJ bI;have gK:(0≤(bC:Int))=True:=oT;have gL:(bC<(l1.length:Int))=True:=oT;obtain⟨dH,dP,bB⟩:=Kd.gw gD.out bC oa oa;have dW:=bB
    cases dP
    replace bB:=cB HB bB;refine mq 11 (fun w'=>w'.cell? ⟨bP,0,none⟩=some (.slice (some b3) ag.length aW)∧w'.cell? ⟨bP,1,none⟩=some (.int .i64 ak)∧w'.cell? (b3.add ((b1).toNat*6))=some (.int .i64 ((af ag b1).f0))∧w'.cell? ⟨(b3.add ((b1).toNat*6)).block,(b3.add ((b1).toNat*6)).off+1,none⟩=some (.int .i64 ((af ag b1).f1))∧w'.cell? ⟨(b3.add ((b1).toNat*6)).block,(b3.add ((b1).toNat*6)).off+2,none⟩=some (.int .i64 ((af ag b1).f2))∧w'.cell? ⟨(b3.add ((b1).toNat*6)).block,(b3.add ((b1).toNat*6)).off+3,none⟩=some (.slice bX ((af ag b1).f3).length bY)∧w'.cell? ⟨(b3.add ((b1).toNat*6)).block,(b3.add ((b1).toNat*6)).off+4,none⟩=some (.slice bZ ((af ag b1).f4).length d1)∧w'.cell? ⟨(b3.add ((b1).toNat*6)).block,(b3.add ((b1).toNat*6)).off+5,none⟩=some (.slice d2 ((af ag b1).f5).length d3)∧w'.cell? (dH.add (bC).toNat)=some (.string (lq ByteArray.empty l1 bC))) cL.acs cL.aaU oH (fun hHeld av ey=> ?_);generalize gM.drew=gW at b2 HB bK bL bM b4 b5 b6 b7 b8 b9 bB hHeld⊢;refine b_ 0 27 av ?_;refine b_ 2 29 av ?_;refine b_ 5 32 av ?_;refine b_ 6 33 av ?_;refine b_ 7 34 av ?_;refine fJ 1 28 av ey hHeld ?_;refine b_ 3 30 av ?_;refine fJ 4 31 av ey hHeld ?_;refine fJ 8 35 av ey hHeld ?_;refine kF 9 36 av (fun K hK=> ?_);refine lU 36 Tryz.func98 (eF.calls k1 ((af ag b1).f0) ((af ag b1).f1) ((af ag b1).f2) _ _ ((af ag b1).f3) _ _ ((af ag b1).f4) _ _ ((af ag b1).f5) (lq ByteArray.empty l1 bC) bN _ (kC bK) bQ.out (kC bL) bR.out (kC bM) bS.out gF.out) ?_;rintro e gX ⟨rfl,hb⟩;refine⟨_,rfl,?_⟩;replace b2:=bn b2 hb;replace HB:=hB HB hb;refine fV hK 36 oH (fun hHeld=> ?_);clear hK K;refine b_ 10 6 av ?_;refine lX av ?_
    try go_wp2
    go_ret2
    exact⟨oE,oB⟩
   rw[if_neg bW]at H;have gB:(bN==0)=false:=beq_eq_false_iff_ne.mpr bW;have gC:(bN !=0)=true:=bne_iff_ne.mpr bW;have H':=ab.mk H;clear H;obtain⟨⟨_,_⟩,_,_⟩:=z2 b2
   try go_wp2_with (first|((with_reducible refine aj (f:=82) rfl ?_);refine eI 17 Tryz.func82 (cF.calls k1 _ _ ag ak bO b1 _ (kC bD) bT.out A5.out) ?_;rintro e gN ⟨rfl,hb⟩;refine⟨_,rfl,?_⟩;replace b2:=bn b2 hb;replace HB:=hB HB hb;obtain⟨⟨_,_⟩,_,_⟩:=z2 b2;have dX:(0≤(b1:Int))=True:=oT;have dY:(b1<(ag.length:Int))=True:=oT;obtain⟨b3,dI,dJ,dK,dL,dM,dN,bV,d4,d5,d6,d7,d8,d9,dA,dB,dC,dD,dE,dF⟩:=fc bD HB b1 oa oa;cases bV))
   replace b2:=am (ao b2.out);replace HB:=am (ar HB.out);have gI:(0≤(b1:Int))=True:=oT;have gJ:(b1<(ag.length:Int))=True:=oT;obtain⟨dG,bX,bY,bZ,d1,d2,d3,dO,b4,b5,b6,b7,b8,b9,bE,bF,bG,bH,bI,bJ⟩:=fl bD.out b1 oa oa;have dQ:=b9;have dR:=b8;have dS:=b7;have dT:=b6;have dU:=b5;have dV:=b4;obtain rfl:b3=dG:=(by injection dO);replace b4:=cB HB b4;replace b5:=cB HB b5;replace b6:=cB HB b6;replace b7:=cB HB b7;replace b8:=cB HB b8;replace b9:=cB HB b9;have bK:=ab.mk bF;have bQ:=ab.mk bE;clear bF bE;have bL:=ab.mk bH;have bR:=ab.mk bG;clear bH bG;have bM:=ab.mk bJ;have bS:=ab.mk bI;clear bJ bI;have gK:(0≤(bC:Int))=True:=oT;have gL:(bC<(l1.length:Int))=True:=oT;obtain⟨dH,dP,bB⟩:=Kd.gw gD.out bC oa oa;have dW:=bB
   cases dP
   replace bB:=cB HB bB;refine mq 11 (fun w'=>w'.cell? ⟨bP,0,none⟩=some (.slice (some b3) ag.length aW)∧w'.cell? ⟨bP,1,none⟩=some (.int .i64 ak)∧w'.cell? (b3.add ((b1).toNat*6))=some (.int .i64 ((af ag b1).f0))∧w'.cell? ⟨(b3.add ((b1).toNat*6)).block,(b3.add ((b1).toNat*6)).off+1,none⟩=some (.int .i64 ((af ag b1).f1))∧w'.cell? ⟨(b3.add ((b1).toNat*6)).block,(b3.add ((b1).toNat*6)).off+2,none⟩=some (.int .i64 ((af ag b1).f2))∧w'.cell? ⟨(b3.add ((b1).toNat*6)).block,(b3.add ((b1).toNat*6)).off+3,none⟩=some (.slice bX ((af ag b1).f3).length bY)∧w'.cell? ⟨(b3.add ((b1).toNat*6)).block,(b3.add ((b1).toNat*6)).off+4,none⟩=some (.slice bZ ((af ag b1).f4).length d1)∧w'.cell? ⟨(b3.add ((b1).toNat*6)).block,(b3.add ((b1).toNat*6)).off+5,none⟩=some (.slice d2 ((af ag b1).f5).length d3)∧w'.cell? (dH.add (bC).toNat)=some (.string (lq ByteArray.empty l1 bC))) cL.acs cL.aaU oH (fun hHeld av ey=> ?_);generalize gN.drew=gY at b2 HB bK bL bM b4 b5 b6 b7 b8 b9 bB hHeld⊢;refine b_ 0 27 av ?_;refine b_ 2 29 av ?_;refine b_ 5 32 av ?_;refine b_ 6 33 av ?_;refine b_ 7 34 av ?_;refine fJ 1 28 av ey hHeld ?_;refine b_ 3 30 av ?_;refine fJ 4 31 av ey hHeld ?_;refine fJ 8 35 av ey hHeld ?_;refine kF 9 36 av (fun K hK=> ?_);refine lU 36 Tryz.func98 (eF.calls k1 ((af ag b1).f0) ((af ag b1).f1) ((af ag b1).f2) _ _ ((af ag b1).f3) _ _ ((af ag b1).f4) _ _ ((af ag b1).f5) (lq ByteArray.empty l1 bC) bN _ (kC bK) bQ.out (kC bL) bR.out (kC bM) bS.out gF.out) ?_;rintro e gZ ⟨rfl,hb⟩;refine⟨_,rfl,?_⟩;replace b2:=bn b2 hb;replace HB:=hB HB hb;refine fV hK 36 oH (fun hHeld=> ?_);clear hK K;refine b_ 10 6 av ?_;refine lX av ?_
   try go_wp2
   go_roundg k1
   case measure=>have:=gE.out;omega
   case rel=>exact⟨(bN),(wrap64 (bC+1)),oS,oS,H',⟨by have:=gE.out;omega⟩,⟨oF b2⟩,⟨oB⟩⟩

def bw.l0:Nat→List (eb)→Int→Int→Option (Int)
 |0,_,_,_=>none
 |k+1,x0,x1,x5=>if x5<(x0.length:Int)then(if 0≤x5 then((aY.f k x1).bind fun b1=>(if((al x0 x5).f0).toList=b1.toList then(if((al x0 x5).f1)=(wrap64 (x1+1))then(bw.l0 k x0 (wrap64 ((wrap64 (x1+1))+1)) (wrap64 (x5+1)))else(some (-1)))else(some (-1))))else(none))else(some x1)
def bw.f (k:Nat) (l0:List (eb)) (a1:Int):Option (Int):=bw.l0 k l0 a1 0
def bw.T4:Bool×List (List Nat×List Nat):=(true,[([],[]),([],[]),([0,1],[0,1]),([2],[2]),([3],[3]),([],[]),([5],[5]),([4,6],[4,6])])
def bw.B4:List Nat:=[0,0,3,7,15,0,32,127]
theorem bw.vw:gf .any (opsOf Tryz.f76 4)=bw.T4:=by kernel_rfl
theorem bw.rh:eL bw.T4.2 bw.B4=true:=by kernel_rfl
theorem bw.calls (k:Nat) (A0:Option Addr) (c0:Nat) (l0:List (eb)) (a1:Int) (r:Int) (w:World) (hr0:Kd.C iT w A0 l0.length l0) (hc0:l0.length≤c0) (h:bw.f k l0 a1=some r):
  Calls Tryz.prog 76 #[.slice A0 l0.length c0,.int .i64 a1] w fun e w'=>e= .returned (.int .i64 r)∧Below w.heap.size w w':=by
 have bE:=ab.mk hr0;have bR:=ab.mk hc0;clear hr0 hc0;have HB:=am (Below.refl w.heap.size w);unfold bw.f at h;have H:=h;clear h;have H':=ab.mk H;clear H
 go_enter Tryz.func76,Tryz.ntmps76
 go_wp2
 go_loopg [1,5] k (fun kq v1 v5 w'=>∃(b5:Int) (b1:Int),v1= .int .i64 b5∧v5= .int .i64 b1∧ab (bw.l0 kq l0 b5 b1=some r)∧ab (kq≤k)∧ab (Below w.heap.size w w'))
 case atStart=>exact⟨(a1),(0),oS,oS,H',⟨Nat.le_refl _⟩,⟨oB⟩⟩
 case round=>
  clear H';obtain⟨b5,b1,rfl,rfl,HA,bI,HB⟩:=hrel
  cases gk with
  |zero=>exact absurd HA.out (by simp[bw.l0])
  |succ k1=>
   have H:=HA.out;clear HA;simp only[bw.l0]at H;replace H:=iH H;rcases H with⟨bJ,H⟩|⟨bJ,H⟩;rotate_left
   ·obtain rfl:=Option.some.inj H
    go_wp2
    go_ret
    exact⟨oE,oB⟩
   obtain⟨bQ,H⟩:=cU H;replace H:=bA H;obtain⟨b8,A5,H⟩:=H
   try dsimp only at H
   by_cases c6:((al l0 b1).f0).toList=b8.toList
   rotate_left
   ·rw[if_neg c6]at H;have bK:(((al l0 b1).f0).toList==b8.toList)=false:=beq_eq_false_iff_ne.mpr c6;have bL:(((al l0 b1).f0).toList !=b8.toList)=true:=bne_iff_ne.mpr c6;obtain rfl:=Option.some.inj H
    try go_wp2
    replace HB:=am (ar HB.out);have bG:(0≤(b1:Int))=True:=oT;have bH:(b1<(l0.length:Int))=True:=oT;obtain⟨b4,b9,b2,b3⟩:=cV bE.out b1 oa oa;have bB:=b3;have bC:=b2
    cases b9
    replace b2:=cB HB b2;replace b3:=cB HB b3;refine mq 8 (fun w'=>w'.cell? (b4.add ((b1).toNat*2))=some (.string ((al l0 b1).f0))∧w'.cell? ⟨(b4.add ((b1).toNat*2)).block,(b4.add ((b1).toNat*2)).off+1,none⟩=some (.int .i64 ((al l0 b1).f1))) bw.vw bw.rh oH (fun hHeld av ey=> ?_);generalize wr.drew=bS at HB b2 b3 hHeld⊢;refine b_ 0 12 av ?_;refine b_ 1 13 av ?_;refine b_ 2 14 av ?_;refine b_ 3 15 av ?_;refine b_ 5 17 av ?_;refine fJ 4 16 av ey hHeld ?_;refine kF 6 18 av (fun K hK=> ?_);refine lU 18 Tryz.func115 (aY.calls k1 b5 b8 _ A5.out) ?_;rintro e bT ⟨rfl,hb⟩;refine⟨_,rfl,?_⟩;replace HB:=hB HB hb;refine fV hK 18 oH (fun hHeld=> ?_);clear hK K;refine b_ 7 19 av ?_;refine lX av ?_
    try go_wp2
    go_ret
    exact⟨oE,oB⟩
   rw[if_pos c6]at H;have bK:(((al l0 b1).f0).toList==b8.toList)=true:=beq_iff_eq.mpr c6;have bL:(((al l0 b1).f0).toList !=b8.toList)=false:=bne_eq_false_iff_eq.mpr c6;clear c6
   by_cases c7:((al l0 b1).f1)=(wrap64 (b5+1))
   rotate_left
   ·rw[if_neg c7]at H;have bM:(((al l0 b1).f1)==(wrap64 (b5+1)))=false:=beq_eq_false_iff_ne.mpr c7;have bN:(((al l0 b1).f1) !=(wrap64 (b5+1)))=true:=bne_iff_ne.mpr c7;obtain rfl:=Option.some.inj H
    try go_wp2
    replace HB:=am (ar HB.out);have bG:(0≤(b1:Int))=True:=oT;have bH:(b1<(l0.length:Int))=True:=oT;obtain⟨b4,b9,b2,b3⟩:=cV bE.out b1 oa oa;have bB:=b3;have bC:=b2
    cases b9
    replace b2:=cB HB b2;replace b3:=cB HB b3;refine mq 8 (fun w'=>w'.cell? (b4.add ((b1).toNat*2))=some (.string ((al l0 b1).f0))∧w'.cell? ⟨(b4.add ((b1).toNat*2)).block,(b4.add ((b1).toNat*2)).off+1,none⟩=some (.int .i64 ((al l0 b1).f1))) bw.vw bw.rh oH (fun hHeld av ey=> ?_);generalize wr.drew=bU at HB b2 b3 hHeld⊢;refine b_ 0 12 av ?_;refine b_ 1 13 av ?_;refine b_ 2 14 av ?_;refine b_ 3 15 av ?_;refine b_ 5 17 av ?_;refine fJ 4 16 av ey hHeld ?_;refine kF 6 18 av (fun K hK=> ?_);refine lU 18 Tryz.func115 (aY.calls k1 b5 b8 _ A5.out) ?_;rintro e bV ⟨rfl,hb⟩;refine⟨_,rfl,?_⟩;replace HB:=hB HB hb;refine fV hK 18 oH (fun hHeld=> ?_);clear hK K;refine b_ 7 19 av ?_;refine lX av ?_;have bO:(0≤(b1:Int))=True:=oT;have bP:(b1<(l0.length:Int))=True:=oT;obtain⟨bD,bF,b6,b7⟩:=cV bE.out b1 oa oa;obtain rfl:b4=bD:=(by injection bF);replace b6:=cB HB b6;replace b7:=cB HB b7
    try go_wp2
    go_ret
    exact⟨oE,oB⟩
   rw[if_pos c7]at H;have bM:(((al l0 b1).f1)==(wrap64 (b5+1)))=true:=beq_iff_eq.mpr c7;have bN:(((al l0 b1).f1) !=(wrap64 (b5+1)))=false:=bne_eq_false_iff_eq.mpr c7;clear c7;have H':=ab.mk H;clear H
   try go_wp2
   replace HB:=am (ar HB.out);have bG:(0≤(b1:Int))=True:=oT;have bH:(b1<(l0.length:Int))=True:=oT;obtain⟨b4,b9,b2,b3⟩:=cV bE.out b1 oa oa;have bB:=b3;have bC:=b2
   cases b9
   replace b2:=cB HB b2;replace b3:=cB HB b3;refine mq 8 (fun w'=>w'.cell? (b4.add ((b1).toNat*2))=some (.string ((al l0 b1).f0))∧w'.cell? ⟨(b4.add ((b1).toNat*2)).block,(b4.add ((b1).toNat*2)).off+1,none⟩=some (.int .i64 ((al l0 b1).f1))) bw.vw bw.rh oH (fun hHeld av ey=> ?_);generalize wr.drew=w8 at HB b2 b3 hHeld⊢;refine b_ 0 12 av ?_;refine b_ 1 13 av ?_;refine b_ 2 14 av ?_;refine b_ 3 15 av ?_;refine b_ 5 17 av ?_;refine fJ 4 16 av ey hHeld ?_;refine kF 6 18 av (fun K hK=> ?_);refine lU 18 Tryz.func115 (aY.calls k1 b5 b8 _ A5.out) ?_;rintro e w9 ⟨rfl,hb⟩;refine⟨_,rfl,?_⟩;replace HB:=hB HB hb;refine fV hK 18 oH (fun hHeld=> ?_);clear hK K;refine b_ 7 19 av ?_;refine lX av ?_;have bO:(0≤(b1:Int))=True:=oT;have bP:(b1<(l0.length:Int))=True:=oT;obtain⟨bD,bF,b6,b7⟩:=cV bE.out b1 oa oa;obtain rfl:b4=bD:=(by injection bF);replace b6:=cB HB b6;replace b7:=cB HB b7
   try go_wp2
   go_roundg k1
   case measure=>have:=bI.out;omega
   case rel=>exact⟨(wrap64 ((wrap64 (b5+1))+1)),(wrap64 (b1+1)),oS,oS,H',⟨by have:=bI.out;omega⟩,⟨oB⟩⟩

def cC.l0:Nat→List (eb)→List (eb)→Int→Option (Bool)
 |0,_,_,_=>none
 |k+1,x0,x1,x5=>if x5<(x0.length:Int)then(if 0≤x5 then(if x5<(x1.length:Int)then((kt.f ((al x0 x5).f0) ((al x0 x5).f1) ((al x1 x5).f0) ((al x1 x5).f1)).bind fun b1=>(if b1=true then(cC.l0 k x0 x1 (wrap64 (x5+1)))else(some false)))else(none))else(none))else(some true)
def cC.f (k:Nat) (l0:List (eb)) (l1:List (eb)):Option (Bool):=if(l0.length:Int)=(l1.length:Int)then(cC.l0 k l0 l1 0)else(some false)
def cC.T6:Bool×List (List Nat×List Nat):=(true,[([],[]),([],[]),([0,1],[0,1]),([2],[2]),([],[]),([],[]),([4,5],[4,5]),([6],[6]),([3,7],[3,7]),([8],[8])])
def cC.B6:List Nat:=[0,0,3,7,0,0,48,112,255,511]
theorem cC.tab6:gf .any (opsOf Tryz.f113 6)=cC.T6:=by kernel_rfl
theorem cC.ma:eL cC.T6.2 cC.B6=true:=by kernel_rfl
theorem cC.calls (k:Nat) (A0:Option Addr) (c0:Nat) (l0:List (eb)) (A1:Option Addr) (c1:Nat) (l1:List (eb)) (r:Bool) (w:World) (hr0:Kd.C iT w A0 l0.length l0) (hc0:l0.length≤c0) (hr1:Kd.C iT w A1 l1.length l1) (hc1:l1.length≤c1) (h:cC.f k l0 l1=some r):
  Calls Tryz.prog 113 #[.slice A0 l0.length c0,.slice A1 l1.length c1] w fun e w'=>e= .returned (.bool r)∧Below w.heap.size w w':=by
 have bQ:=Tryz.underlying75;have bF:=ab.mk hr0;have bU:=ab.mk hc0;clear hr0 hc0;have bG:=ab.mk hr1;have bV:=ab.mk hc1;clear hr1 hc1;have HB:=am (Below.refl w.heap.size w);unfold cC.f at h;have H:=h;clear h
 by_cases c3:(l0.length:Int)=(l1.length:Int)
 rotate_left
 ·rw[if_neg c3]at H;have bI:((l0.length:Int)==(l1.length:Int))=false:=beq_eq_false_iff_ne.mpr c3;have bJ:((l0.length:Int) !=(l1.length:Int))=true:=bne_iff_ne.mpr c3
  have bK:(l0.length==l1.length)=false:=by first|simpa using c3|(simp at c3⊢;omega)
  obtain rfl:=Option.some.inj H
  go_enter Tryz.func113,Tryz.ntmps113
  go_wp2
  go_ret
  exact⟨oE,oB⟩
 rw[if_pos c3]at H;have bI:((l0.length:Int)==(l1.length:Int))=true:=beq_iff_eq.mpr c3;have bJ:((l0.length:Int) !=(l1.length:Int))=false:=bne_eq_false_iff_eq.mpr c3
 have bK:(l0.length==l1.length)=true:=by first|simpa using c3|(simp at c3⊢;omega)
 clear c3;have H':=ab.mk H;clear H
 go_enter Tryz.func113,Tryz.ntmps113
 go_wp2
 go_loopg [5] k (fun kq v5 w'=>∃(b1:Int),v5= .int .i64 b1∧ab (cC.l0 kq l0 l1 b1=some r)∧ab (kq≤k)∧ab (Below w.heap.size w w'))
 case atStart=>exact⟨(0),oS,H',⟨Nat.le_refl _⟩,⟨oB⟩⟩
 case round=>
  clear H'
  try clear c1
  try clear c3
  obtain⟨b1,rfl,HA,bH,HB⟩:=hrel
  cases gk with
  |zero=>exact absurd HA.out (by simp[cC.l0])
  |succ k1=>
   have H:=HA.out;clear HA;simp only[cC.l0]at H;replace H:=iH H;rcases H with⟨bL,H⟩|⟨bL,H⟩;rotate_left
   ·obtain rfl:=Option.some.inj H
    go_wp2
    go_ret
    exact⟨oE,oB⟩
   obtain⟨bR,H⟩:=cU H;obtain⟨bS,H⟩:=cU H;replace H:=bA H;obtain⟨bT,A7,H⟩:=H
   try dsimp only at H
   replace H:=ll H;rcases H with⟨rfl,H⟩|⟨rfl,H⟩;rotate_left
   ·obtain rfl:=Option.some.inj H
    try go_wp2
    replace HB:=am (ar HB.out);have bM:(0≤(b1:Int))=True:=oT;have bN:(b1<(l0.length:Int))=True:=oT;obtain⟨b6,b8,b2,b3⟩:=cV bF.out b1 oa oa;have bB:=b3;have bC:=b2
    cases b8
    replace b2:=cB HB b2;replace b3:=cB HB b3;have bO:(0≤(b1:Int))=True:=oT;have bP:(b1<(l1.length:Int))=True:=oT;obtain⟨b7,b9,b4,b5⟩:=cV bG.out b1 oa oa;have bD:=b5;have bE:=b4
    cases b9
    replace b4:=cB HB b4;replace b5:=cB HB b5;refine mq 10 (fun w'=>w'.cell? (b6.add ((b1).toNat*2))=some (.string ((al l0 b1).f0))∧w'.cell? ⟨(b6.add ((b1).toNat*2)).block,(b6.add ((b1).toNat*2)).off+1,none⟩=some (.int .i64 ((al l0 b1).f1))∧w'.cell? (b7.add ((b1).toNat*2))=some (.string ((al l1 b1).f0))∧w'.cell? ⟨(b7.add ((b1).toNat*2)).block,(b7.add ((b1).toNat*2)).off+1,none⟩=some (.int .i64 ((al l1 b1).f1))) cC.tab6 cC.ma oH (fun hHeld av ey=> ?_);generalize wr.drew=bW at HB b2 b3 b4 b5 hHeld⊢;refine b_ 0 17 av ?_;refine b_ 1 18 av ?_;refine b_ 2 19 av ?_;refine b_ 4 21 av ?_;refine b_ 5 22 av ?_;refine b_ 6 23 av ?_;refine fJ 3 20 av ey hHeld ?_;refine fJ 7 24 av ey hHeld ?_;refine kF 8 25 av (fun K hK=> ?_);refine lU 25 Tryz.func137 (kt.calls ((al l0 b1).f0) ((al l0 b1).f1) ((al l1 b1).f0) ((al l1 b1).f1) false _ A7.out) ?_;rintro e bX ⟨rfl,hb⟩;refine⟨_,rfl,?_⟩;replace HB:=hB HB hb;refine fV hK 25 oH (fun hHeld=> ?_);clear hK K;refine b_ 9 26 av ?_;refine lX av ?_
    try go_wp2
    go_ret
    exact⟨oE,oB⟩
   have H':=ab.mk H;clear H
   try go_wp2
   replace HB:=am (ar HB.out);have bM:(0≤(b1:Int))=True:=oT;have bN:(b1<(l0.length:Int))=True:=oT;obtain⟨b6,b8,b2,b3⟩:=cV bF.out b1 oa oa;have bB:=b3;have bC:=b2
   cases b8
   replace b2:=cB HB b2;replace b3:=cB HB b3;have bO:(0≤(b1:Int))=True:=oT;have bP:(b1<(l1.length:Int))=True:=oT;obtain⟨b7,b9,b4,b5⟩:=cV bG.out b1 oa oa;have bD:=b5;have bE:=b4
   cases b9
   replace b4:=cB HB b4;replace b5:=cB HB b5;refine mq 10 (fun w'=>w'.cell? (b6.add ((b1).toNat*2))=some (.string ((al l0 b1).f0))∧w'.cell? ⟨(b6.add ((b1).toNat*2)).block,(b6.add ((b1).toNat*2)).off+1,none⟩=some (.int .i64 ((al l0 b1).f1))∧w'.cell? (b7.add ((b1).toNat*2))=some (.string ((al l1 b1).f0))∧w'.cell? ⟨(b7.add ((b1).toNat*2)).block,(b7.add ((b1).toNat*2)).off+1,none⟩=some (.int .i64 ((al l1 b1).f1))) cC.tab6 cC.ma oH (fun hHeld av ey=> ?_);generalize wr.drew=w9 at HB b2 b3 b4 b5 hHeld⊢;refine b_ 0 17 av ?_;refine b_ 1 18 av ?_;refine b_ 2 19 av ?_;refine b_ 4 21 av ?_;refine b_ 5 22 av ?_;refine b_ 6 23 av ?_;refine fJ 3 20 av ey hHeld ?_;refine fJ 7 24 av ey hHeld ?_;refine kF 8 25 av (fun K hK=> ?_);refine lU 25 Tryz.func137 (kt.calls ((al l0 b1).f0) ((al l0 b1).f1) ((al l1 b1).f0) ((al l1 b1).f1) true _ A7.out) ?_;rintro e bY ⟨rfl,hb⟩;refine⟨_,rfl,?_⟩;replace HB:=hB HB hb;refine fV hK 25 oH (fun hHeld=> ?_);clear hK K;refine b_ 9 26 av ?_;refine lX av ?_
   try go_wp2
   go_roundg k1
   case measure=>have:=bH.out;omega
   case rel=>exact⟨(wrap64 (b1+1)),oS,H',⟨by have:=bH.out;omega⟩,⟨oB⟩⟩
end Go.Proofs.YtlecajlnjmbilaaGreatDoor.P
