-- Printed walks.
import Derived.Test.YtlecajlnjmbilaaGreatDoorPx1
import Derived.Test.YtlecajlnjmbilaaGreatDoorPx2
set_option linter.all false
set_option maxHeartbeats 8000000
set_option maxRecDepth 100000
namespace Go.Proofs.YtlecajlnjmbilaaGreatDoor.P
open Go.RowKit Go.Proofs.ab.aq Go.Proofs.ab.aM Go.Proofs.ab.aT Go.Proofs.Tryz
attribute [local go_sem] gn gp iF iG fC fD gq gr

def dt.l0:Nat→List (ke)→Int→Int→Option (Int)
 |0,_,_,_=>none
 |k+1,x0,x1,x5=>if x5<(x0.length:Int)then(if 0≤x5 then((iv.f ((hO x0 x5).f0) ((hO x0 x5).f1) x1).bind fun b1=>(if b1<0 then(some (-1))else(dt.l0 k x0 b1 (wrap64 (x5+1)))))else(none))else(some x1)
def dt.f (k:Nat) (l0:List (ke)) (a1:Int):Option (Int):=if(wrap64 (a1-(l0.length:Int)))<0 then(some (-1))else(dt.l0 k l0 (wrap64 (a1-(l0.length:Int))) 0)
theorem dt.calls (k:Nat) (A0:Option Addr) (c0:Nat) (l0:List (ke)) (a1:Int) (r:Int) (w:World) (hr0:Kd.C qI w A0 l0.length l0) (hc0:l0.length≤c0) (h:dt.f k l0 a1=some r):
  Calls Tryz.prog 110 #[.slice A0 l0.length c0,.int .i64 a1] w fun e w'=>e= .returned (.int .i64 r)∧Below w.heap.size w w':=by
 have bG:=underlying133;have b9:=ae.mk hr0;have bI:=ae.mk hc0;clear hr0 hc0;have HB:=am (Below.refl w.heap.size w);unfold dt.f at h;have H:=h;clear h;replace H:=iM H;rcases H with⟨b7,H⟩|⟨b7,H⟩
 ·obtain rfl:=Option.some.inj H
  go_enter func110,ntmps110
  go_wp2
  go_ret
  exact⟨oE,oB⟩
 have H':=ae.mk H;clear H
 go_enter func110,ntmps110
 go_wp2
 go_loopg [1,5] k (fun kq v1 v5 w'=>∃(b2:Int) (b1:Int),v1= .int .i64 b2∧v5= .int .i64 b1∧ae (dt.l0 kq l0 b2 b1=some r)∧ae (kq≤k)∧ae (Below w.heap.size w w'))
 case atStart=>exact⟨(wrap64 (a1-(l0.length:Int))),(0),oS,oS,H',⟨Nat.le_refl _⟩,⟨oB⟩⟩
 case round=>
  clear H'
  try clear b7
  obtain⟨b2,b1,rfl,rfl,HA,bB,HB⟩:=hrel
  cases gk with
  |zero=>exact absurd HA.out (by simp[dt.l0])
  |succ k1=>
   have H:=HA.out;clear HA;simp only[dt.l0]at H;replace H:=iM H;rcases H with⟨bC,H⟩|⟨bC,H⟩;rotate_left
   ·obtain rfl:=Option.some.inj H
    go_wp2
    go_ret
    exact⟨oE,oB⟩
   obtain⟨bH,H⟩:=cO H;replace H:=bA H;obtain⟨b3,A6,H⟩:=H
   try dsimp only at H
   replace H:=iM H;rcases H with⟨bD,H⟩|⟨bD,H⟩
   ·obtain rfl:=Option.some.inj H;have bE:(0≤(b1:Int))=True:=oT;have bF:(b1<(l0.length:Int))=True:=oT;obtain⟨b8,b4,b5,b6⟩:=tp b9 HB b1 oa oa
    cases b4
    go_wp2_with (first|((with_reducible refine ak (f:=134) rfl ?_);refine fe 23 func134 (iv.calls ((hO l0 b1).f0) ((hO l0 b1).f1) b2 b3 _ A6.out) ?_;rintro e w8 ⟨rfl,hb⟩;refine⟨_,rfl,?_⟩;replace HB:=hB HB hb))
    go_ret
    exact⟨oE,oB⟩
   have H':=ae.mk H;clear H;have bE:(0≤(b1:Int))=True:=oT;have bF:(b1<(l0.length:Int))=True:=oT;obtain⟨b8,b4,b5,b6⟩:=tp b9 HB b1 oa oa
   cases b4
   go_wp2_with (first|((with_reducible refine ak (f:=134) rfl ?_);refine fe 23 func134 (iv.calls ((hO l0 b1).f0) ((hO l0 b1).f1) b2 b3 _ A6.out) ?_;rintro e w9 ⟨rfl,hb⟩;refine⟨_,rfl,?_⟩;replace HB:=hB HB hb))
   go_roundg k1
   case measure=>have:=bB.out;omega
   case rel=>exact⟨(b3),(wrap64 (b1+1)),oS,oS,H',⟨by have:=bB.out;omega⟩,⟨oB⟩⟩

def cT.l0:Nat→List (ct)→Int→Int→Option (Int×(List (ct)))
 |0,_,_,_=>none
 |k+1,x0,x1,x5=>if x5<(x0.length:Int)then((bd.f k x1).bind fun b2=>(if 0≤x5 then((some (x0.set (x5:Int).toNat (⟨b2,(an x0 x5).f1⟩:ct):List (ct))).bind fun b1=>((bd.f k (wrap64 (x1+1))).bind fun b3=>(cT.l0 k (b1.set (x5:Int).toNat (⟨(an b1 x5).f0,b3⟩:ct)) (wrap64 ((wrap64 (x1+1))+1)) (wrap64 (x5+1)))))else(none)))else(some (x1,x0))
def cT.f (k:Nat) (l0:List (ct)) (a1:Int):Option (Int×(List (ct))):=cT.l0 k l0 a1 0
theorem cT.calls (k:Nat) (kP:Nat→Prop) (iD:Value) (l0:List (ct)) (a1:Int) (r1:Int) (r2:List (ct)) (w0 w:World) (hB:Below w0.heap.size w0 w) (ho0:Kd.R fa 82 w w0.heap.size kP iD l0) (h:cT.f k l0 a1=some (r1,r2)):
  Calls Tryz.prog 74 #[iD,.int .i64 a1] w fun e w'=>e= .returned (.int .i64 r1)∧Kd.R fa 82 w' w0.heap.size (fun k_=>(kP k_∨w.heap.size≤k_)) iD r2∧Below w0.heap.size w0 w'∧Kept w w' (fun k_=>kP k_):=by
 have dE:=am (show Kd.R fa 82 w w0.heap.size (fun k_=>(kP k_∨w.heap.size≤k_)) iD l0 from Kd.bn ho0 (fun k_ hk=>(.inl hk)));have HK:=am (Kept.refl w (fun k_=>kP k_));have HW0:=ae.mk hB.size;have HB:=ae.mk hB;clear hB;unfold cT.f at h;have H:=h;clear h;have H':=ae.mk H;clear H
 go_enter func74,ntmps74
 go_wp2
 go_loopg [1,5] k (fun kq v1 v5 w'=>∃(b3:List (ct)) (b6:Int) (b1:Int),v1= .int .i64 b6∧v5= .int .i64 b1∧ae (cT.l0 kq b3 b6 b1=some (r1,r2))∧ae (kq≤k)∧ae (Kd.R fa 82 w' w0.heap.size (fun k_=>(kP k_∨w.heap.size≤k_)) iD b3)∧ae (Kept w w' (fun k_=>kP k_))∧ae (Below w0.heap.size w0 w'))
 case atStart=>exact⟨(l0),(a1),(0),oS,oS,H',⟨Nat.le_refl _⟩,⟨oR dE⟩,⟨oK⟩,⟨oB⟩⟩
 case round=>
  clear H';obtain⟨b3,b6,b1,rfl,rfl,HA,d3,b2,HK,HB⟩:=hrel
  cases gk with
  |zero=>exact absurd HA.out (by simp[cT.l0])
  |succ k1=>
   have H:=HA.out;clear HA;simp only[cT.l0]at H;replace H:=iM H;rcases H with⟨dA,H⟩|⟨dA,H⟩;rotate_left
   ·simp only[Option.some.injEq,Prod.mk.injEq]at H;obtain⟨rfl,rfl⟩:=H;obtain⟨dQ,dR,dB⟩:=Kd.ax b2.out;subst dB
    go_wp2
    go_ret
    exact⟨oE,oR b2,oB,oK⟩
   replace H:=bA H;obtain⟨b8,A4,H⟩:=H
   try dsimp only at H
   obtain⟨dS,H⟩:=cO H;obtain⟨b5,cX⟩:∃y_:List (ct),y_=(b3.set (b1:Int).toNat (⟨b8,(an b3 b1).f1⟩:ct)):=⟨_,rfl⟩;replace H:((bd.f k1 (wrap64 (b6+1))).bind fun b7=>(cT.l0 k1 (b5.set (b1:Int).toNat (⟨(an b5 b1).f0,b7⟩:ct)) (wrap64 ((wrap64 (b6+1))+1)) (wrap64 (b1+1))))=some (r1,r2):=oY;have d1:=ae.mk cX;clear cX;replace H:=bA H;obtain⟨b7,A7,H⟩:=H
   try dsimp only at H
   obtain⟨bE,cX⟩:∃y_:List (ct),y_=(b5.set (b1:Int).toNat (⟨(an b5 b1).f0,b7⟩:ct)):=⟨_,rfl⟩;replace H:(cT.l0 k1 bE (wrap64 ((wrap64 (b6+1))+1)) (wrap64 (b1+1)))=some (r1,r2):=oY;have d2:=ae.mk cX;clear cX;have H':=ae.mk H;clear H;obtain⟨dV,bL,dF⟩:=Kd.ax b2.out;subst dF
   go_wp2_with (first|((with_reducible refine ak (f:=115) rfl ?_);refine fe 15 func115 (bd.calls k1 b6 b8 _ A4.out) ?_;rintro e b9 ⟨rfl,hb⟩;refine⟨_,rfl,?_⟩;replace b2:=ga b2 hb;replace HK:=am (Kept.below (S:=(fun k_=>kP k_)) oK hb);replace HB:=hB HB hb;(try clear hk);have p6:0≤(b1:Int):=oa;have q6:(b1:Int)<((b3.length:Int):Int):=oa;obtain⟨b4,dW,d4,d5,dG,dX,d6⟩:=Kd.kA b2.out (by omega);(first|cases d4|(injection d4 with gz nj nn;(first|subst gz|(injection gz with gz;subst gz));subst nn;clear nj));have d7:=ae.mk d5;have dY:=ae.mk d6;clear d5 dG d6;have dH:=am (show(kP b4∨w.heap.size≤b4)from(b2.out.1 _ rfl));obtain⟨dZ,dC,d8,bF,bG⟩:=Kd.gm b2.out z82 (b1:Int) p6 q6;obtain rfl:=ff d8;have dI:b9.cell? ⟨b4,(b1:Int).toNat*2,none⟩=some (.string ((an b3 b1).f0)):=bF 0 _ rfl;have dJ:b9.cell? ⟨b4,(b1:Int).toNat*2+1,none⟩=some (.string ((an b3 b1).f1)):=bF 1 _ rfl;have dK:b9.frozen? ⟨b4,(b1:Int).toNat*2,none⟩=false:=bG 0;have dL:b9.frozen? ⟨b4,(b1:Int).toNat*2+1,none⟩=false:=bG 1;clear dC bF bG d8;replace p6:=eq_true p6;replace q6:=eq_true q6;have bQ:=am (show Kd.R fa 82 b9 w0.heap.size (fun k_=>(kP k_∨w.heap.size≤k_)) (.slice (some ⟨b4,0,none⟩) b3.length bL) b3 from(oR b2));obtain⟨dT,bM,bR,bC,bN⟩:=Kd.gm bQ.out z82 (b1:Int) oa (by have h_:(b1:Int)<((b3.length:Int):Int):=oa;first|exact h_|(have e_:=(Kd.aH b2.out).1;omega)|simpa using h_);obtain rfl:=ff bR;have bH:=Kd.lR bQ.out (b1:Int) oa (by have h_:(b1:Int)<((b3.length:Int):Int):=oa;first|exact h_|(have e_:=(Kd.aH b2.out).1;omega)|simpa using h_) (seg:=[.string b8]) (j:=0) bM bC (show 1≤2 from by decide) (x':=(⟨b8,(an b3 b1).f1⟩:ct)) (iI _ _ _ (⟨b8,(an b3 b1).f1⟩:ct)) (fun _ hk=>hk);have bS:=bC 0 _ rfl;(try simp only[show(fa).sz=2 from rfl,Nat.mul_one,Nat.add_zero]at bS);have bT:=bN 0;(try simp only[show(fa).sz=2 from rfl,Nat.mul_one,Nat.add_zero]at bT);clear bM bC bN bR)|((with_reducible refine eK (t:=9) (p:=17) rfl ?_);refine eE (t:=9) (p:=17) (v:= ?vo_w12) (w1:=(b9.setCell ⟨b4,(b1:Int).toNat*2,none⟩ (.string b8))) ?hg ?ho ?hn ?hr ?_;(case ho=>rfl);(case hg=>rfl);(case hn=>rfl);(case hr=>first|(go_simp;done)|(go_simp;rfl));intro bU hw;have hg:b9.grownBy bU (some b4):=(by rw[hw];exact bH.2);have lG:Kd.R fa 82 bU w0.heap.size (fun k_=>(kP k_∨w.heap.size≤k_)) (.slice (some ⟨b4,0,none⟩) b3.length bL) b5:=(by rw[hw,d1.out];exact bH.1);clear bH;replace b2:=am (lG);replace HK:=am (Kept.lQ (S:=(fun k_=>kP k_)) hg oK (fun k_ e_=>(b2.out.1 k_ e_)));replace HB:=am ((by rw[hw];exact aD (HB.out) d7.out:Below w0.heap.size w0 bU));clear hg hw lG)|((with_reducible refine ak (f:=115) rfl ?_);refine fe 23 func115 (bd.calls k1 (wrap64 (b6+1)) b7 _ A7.out) ?_;rintro e bB ⟨rfl,hb⟩;refine⟨_,rfl,?_⟩;replace b2:=ga b2 hb;replace HK:=am (Kept.below (S:=(fun k_=>kP k_)) oK hb);replace HB:=hB HB hb;(try clear hk);have p8:(0≤(b1:Int))=True:=oT;have q8:((b1:Int)<((b3.length:Int):Int))=True:=oT;obtain⟨gA,dD,d9,bI,bJ⟩:=Kd.gm b2.out z82 (b1:Int) oa oa;obtain rfl:=ff d9;have dM:bB.cell? ⟨b4,(b1:Int).toNat*2,none⟩=some (.string ((an b5 b1).f0)):=bI 0 _ rfl;have dN:bB.cell? ⟨b4,(b1:Int).toNat*2+1,none⟩=some (.string ((an b5 b1).f1)):=bI 1 _ rfl;have dO:bB.frozen? ⟨b4,(b1:Int).toNat*2,none⟩=false:=bJ 0;have dP:bB.frozen? ⟨b4,(b1:Int).toNat*2+1,none⟩=false:=bJ 1;clear dD bI bJ d9;have bV:=am (show Kd.R fa 82 bB w0.heap.size (fun k_=>(kP k_∨w.heap.size≤k_)) (.slice (some ⟨b4,0,none⟩) b3.length bL) b5 from(oR b2));obtain⟨dU,bO,bW,bD,bP⟩:=Kd.gm bV.out z82 (b1:Int) oa (by have h_:(b1:Int)<((b3.length:Int):Int):=oa;first|exact h_|(have e_:=(Kd.aH b2.out).1;omega)|simpa using h_);obtain rfl:=ff bW;have bK:=Kd.lR bV.out (b1:Int) oa (by have h_:(b1:Int)<((b3.length:Int):Int):=oa;first|exact h_|(have e_:=(Kd.aH b2.out).1;omega)|simpa using h_) (seg:=[.string b7]) (j:=1) bO bD (show 2≤2 from by decide) (x':=(⟨(an b5 b1).f0,b7⟩:ct)) (iI _ _ _ (⟨(an b5 b1).f0,b7⟩:ct)) (fun _ hk=>hk);have bX:=bD 1 _ rfl;(try simp only[show(fa).sz=2 from rfl,Nat.mul_one,Nat.add_zero]at bX);have bY:=bP 1;(try simp only[show(fa).sz=2 from rfl,Nat.mul_one,Nat.add_zero]at bY);clear bO bD bP bW)|((with_reducible refine eK (t:=9) (p:=25) rfl ?_);refine eE (t:=9) (p:=25) (v:= ?vo_w15) (w1:=(bB.setCell ⟨b4,(b1:Int).toNat*2+1,none⟩ (.string b7))) ?hg ?ho ?hn ?hr ?_;(case ho=>rfl);(case hg=>rfl);(case hn=>rfl);(case hr=>first|(go_simp;done)|(go_simp;rfl));intro bZ hw;have hg:bB.grownBy bZ (some b4):=(by rw[hw];exact bK.2);have lG:Kd.R fa 82 bZ w0.heap.size (fun k_=>(kP k_∨w.heap.size≤k_)) (.slice (some ⟨b4,0,none⟩) b3.length bL) bE:=(by rw[hw,d2.out];exact bK.1);clear bK;replace b2:=am (lG);replace HK:=am (Kept.lQ (S:=(fun k_=>kP k_)) hg oK (fun k_ e_=>(b2.out.1 k_ e_)));replace HB:=am ((by rw[hw];exact aD (HB.out) d7.out:Below w0.heap.size w0 bZ));clear hg hw lG))
   go_roundg k1
   case measure=>have:=d3.out;omega
   case rel=>exact⟨(bE),(wrap64 ((wrap64 (b6+1))+1)),(wrap64 (b1+1)),oS,oS,H',⟨by have:=d3.out;omega⟩,⟨oR b2⟩,⟨oK⟩,⟨oB⟩⟩

def dg.l0:Nat→List (ey)→Int→Int→Option (Int×(List (ey)))
 |0,_,_,_=>none
 |k+1,x0,x1,x5=>if x5<(x0.length:Int)then((bd.f k x1).bind fun b2=>(if 0≤x5 then((some (x0.set (x5:Int).toNat (⟨b2,(al x0 x5).f1⟩:ey):List (ey))).bind fun b1=>(dg.l0 k (b1.set (x5:Int).toNat (⟨(al b1 x5).f0,wrap64 (x1+1)⟩:ey)) (wrap64 ((wrap64 (x1+1))+1)) (wrap64 (x5+1))))else(none)))else(some (x1,x0))
def dg.f (k:Nat) (l0:List (ey)) (a1:Int):Option (Int×(List (ey))):=dg.l0 k l0 a1 0
theorem dg.calls (k:Nat) (kP:Nat→Prop) (iD:Value) (l0:List (ey)) (a1:Int) (r1:Int) (r2:List (ey)) (w0 w:World) (hB:Below w0.heap.size w0 w) (ho0:Kd.R jc 75 w w0.heap.size kP iD l0) (h:dg.f k l0 a1=some (r1,r2)):
  Calls Tryz.prog 73 #[iD,.int .i64 a1] w fun e w'=>e= .returned (.int .i64 r1)∧Kd.R jc 75 w' w0.heap.size (fun k_=>(kP k_∨w.heap.size≤k_)) iD r2∧Below w0.heap.size w0 w'∧Kept w w' (fun k_=>kP k_):=by
 have dB:=am (show Kd.R jc 75 w w0.heap.size (fun k_=>(kP k_∨w.heap.size≤k_)) iD l0 from Kd.bn ho0 (fun k_ hk=>(.inl hk)));have HK:=am (Kept.refl w (fun k_=>kP k_));have HW0:=ae.mk hB.size;have HB:=ae.mk hB;clear hB;unfold dg.f at h;have H:=h;clear h;have H':=ae.mk H;clear H
 go_enter func73,ntmps73
 go_wp2
 go_loopg [1,5] k (fun kq v1 v5 w'=>∃(b2:List (ey)) (b5:Int) (b1:Int),v1= .int .i64 b5∧v5= .int .i64 b1∧ae (dg.l0 kq b2 b5 b1=some (r1,r2))∧ae (kq≤k)∧ae (Kd.R jc 75 w' w0.heap.size (fun k_=>(kP k_∨w.heap.size≤k_)) iD b2)∧ae (Kept w w' (fun k_=>kP k_))∧ae (Below w0.heap.size w0 w'))
 case atStart=>exact⟨(l0),(a1),(0),oS,oS,H',⟨Nat.le_refl _⟩,⟨oR dB⟩,⟨oK⟩,⟨oB⟩⟩
 case round=>
  clear H';obtain⟨b2,b5,b1,rfl,rfl,HA,bZ,b3,HK,HB⟩:=hrel
  cases gk with
  |zero=>exact absurd HA.out (by simp[dg.l0])
  |succ k1=>
   have H:=HA.out;clear HA;simp only[dg.l0]at H;replace H:=iM H;rcases H with⟨d7,H⟩|⟨d7,H⟩;rotate_left
   ·simp only[Option.some.injEq,Prod.mk.injEq]at H;obtain⟨rfl,rfl⟩:=H;obtain⟨dN,dO,d8⟩:=Kd.ax b3.out;subst d8
    go_wp2
    go_ret
    exact⟨oE,oR b3,oB,oK⟩
   replace H:=bA H;obtain⟨b8,A4,H⟩:=H
   try dsimp only at H
   obtain⟨dP,H⟩:=cO H;obtain⟨b6,cX⟩:∃y_:List (ey),y_=(b2.set (b1:Int).toNat (⟨b8,(al b2 b1).f1⟩:ey)):=⟨_,rfl⟩;replace H:(dg.l0 k1 (b6.set (b1:Int).toNat (⟨(al b6 b1).f0,wrap64 (b5+1)⟩:ey)) (wrap64 ((wrap64 (b5+1))+1)) (wrap64 (b1+1)))=some (r1,r2):=oY;have bX:=ae.mk cX;clear cX;obtain⟨bC,cX⟩:∃y_:List (ey),y_=(b6.set (b1:Int).toNat (⟨(al b6 b1).f0,wrap64 (b5+1)⟩:ey)):=⟨_,rfl⟩;replace H:(dg.l0 k1 bC (wrap64 ((wrap64 (b5+1))+1)) (wrap64 (b1+1)))=some (r1,r2):=oY;have bY:=ae.mk cX;clear cX;have H':=ae.mk H;clear H;obtain⟨dS,bJ,dC⟩:=Kd.ax b3.out;subst dC
   go_wp2_with (first|((with_reducible refine ak (f:=115) rfl ?_);refine fe 15 func115 (bd.calls k1 b5 b8 _ A4.out) ?_;rintro e w9 ⟨rfl,hb⟩;refine⟨_,rfl,?_⟩;replace b3:=ga b3 hb;replace HK:=am (Kept.below (S:=(fun k_=>kP k_)) oK hb);replace HB:=hB HB hb;(try clear hk);have p6:0≤(b1:Int):=oa;have q6:(b1:Int)<((b2.length:Int):Int):=oa;obtain⟨b4,dT,d1,d2,dD,dU,d3⟩:=Kd.kA b3.out (by omega);(first|cases d1|(injection d1 with gz nj nn;(first|subst gz|(injection gz with gz;subst gz));subst nn;clear nj));have d4:=ae.mk d2;have dV:=ae.mk d3;clear d2 dD d3;have dE:=am (show(kP b4∨w.heap.size≤b4)from(b3.out.1 _ rfl));obtain⟨dW,d9,d5,bD,bE⟩:=Kd.gm b3.out z75 (b1:Int) p6 q6;obtain rfl:=lL d5;have dF:w9.cell? ⟨b4,(b1:Int).toNat*2,none⟩=some (.string ((al b2 b1).f0)):=bD 0 _ rfl;have dG:w9.cell? ⟨b4,(b1:Int).toNat*2+1,none⟩=some (.int .i64 ((al b2 b1).f1)):=bD 1 _ rfl;have dH:w9.frozen? ⟨b4,(b1:Int).toNat*2,none⟩=false:=bE 0;have dI:w9.frozen? ⟨b4,(b1:Int).toNat*2+1,none⟩=false:=bE 1;clear d9 bD bE d5;replace p6:=eq_true p6;replace q6:=eq_true q6;have bO:=am (show Kd.R jc 75 w9 w0.heap.size (fun k_=>(kP k_∨w.heap.size≤k_)) (.slice (some ⟨b4,0,none⟩) b2.length bJ) b2 from(oR b3));obtain⟨dQ,bK,bP,b9,bL⟩:=Kd.gm bO.out z75 (b1:Int) oa (by have h_:(b1:Int)<((b2.length:Int):Int):=oa;first|exact h_|(have e_:=(Kd.aH b3.out).1;omega)|simpa using h_);obtain rfl:=lL bP;have bF:=Kd.lR bO.out (b1:Int) oa (by have h_:(b1:Int)<((b2.length:Int):Int):=oa;first|exact h_|(have e_:=(Kd.aH b3.out).1;omega)|simpa using h_) (seg:=[.string b8]) (j:=0) bK b9 (show 1≤2 from by decide) (x':=(⟨b8,(al b2 b1).f1⟩:ey)) (qQ _ _ _ (⟨b8,(al b2 b1).f1⟩:ey)) (fun _ hk=>hk);have bQ:=b9 0 _ rfl;(try simp only[show(jc).sz=2 from rfl,Nat.mul_one,Nat.add_zero]at bQ);have bR:=bL 0;(try simp only[show(jc).sz=2 from rfl,Nat.mul_one,Nat.add_zero]at bR);clear bK b9 bL bP)|((with_reducible refine eK (t:=9) (p:=17) rfl ?_);refine eE (t:=9) (p:=17) (v:= ?adx) (w1:=(w9.setCell ⟨b4,(b1:Int).toNat*2,none⟩ (.string b8))) ?hg ?ho ?hn ?hr ?_;(case ho=>rfl);(case hg=>rfl);(case hn=>rfl);(case hr=>first|(go_simp;done)|(go_simp;rfl));intro b7 hw;have hg:w9.grownBy b7 (some b4):=(by rw[hw];exact bF.2);have lG:Kd.R jc 75 b7 w0.heap.size (fun k_=>(kP k_∨w.heap.size≤k_)) (.slice (some ⟨b4,0,none⟩) b2.length bJ) b6:=(by rw[hw,bX.out];exact bF.1);clear bF;replace b3:=am (lG);replace HK:=am (Kept.lQ (S:=(fun k_=>kP k_)) hg oK (fun k_ e_=>(b3.out.1 k_ e_)));replace HB:=am ((by rw[hw];exact aD (HB.out) d4.out:Below w0.heap.size w0 b7));clear hg hw lG;have p7:(0≤(b1:Int))=True:=oT;have q7:((b1:Int)<((b2.length:Int):Int))=True:=oT;obtain⟨dX,dA,d6,bG,bH⟩:=Kd.gm b3.out z75 (b1:Int) oa oa;obtain rfl:=lL d6;have dJ:b7.cell? ⟨b4,(b1:Int).toNat*2,none⟩=some (.string ((al b6 b1).f0)):=bG 0 _ rfl;have dK:b7.cell? ⟨b4,(b1:Int).toNat*2+1,none⟩=some (.int .i64 ((al b6 b1).f1)):=bG 1 _ rfl;have dL:b7.frozen? ⟨b4,(b1:Int).toNat*2,none⟩=false:=bH 0;have dM:b7.frozen? ⟨b4,(b1:Int).toNat*2+1,none⟩=false:=bH 1;clear dA bG bH d6;have bS:=am (show Kd.R jc 75 b7 w0.heap.size (fun k_=>(kP k_∨w.heap.size≤k_)) (.slice (some ⟨b4,0,none⟩) b2.length bJ) b6 from(oR b3));obtain⟨dR,bM,bT,bB,bN⟩:=Kd.gm bS.out z75 (b1:Int) oa (by have h_:(b1:Int)<((b2.length:Int):Int):=oa;first|exact h_|(have e_:=(Kd.aH b3.out).1;omega)|simpa using h_);obtain rfl:=lL bT;have bI:=Kd.lR bS.out (b1:Int) oa (by have h_:(b1:Int)<((b2.length:Int):Int):=oa;first|exact h_|(have e_:=(Kd.aH b3.out).1;omega)|simpa using h_) (seg:=[.int .i64 (wrap64 (b5+1))]) (j:=1) bM bB (show 2≤2 from by decide) (x':=(⟨(al b6 b1).f0,wrap64 (b5+1)⟩:ey)) (qQ _ _ _ (⟨(al b6 b1).f0,wrap64 (b5+1)⟩:ey)) (fun _ hk=>hk);have bU:=bB 1 _ rfl;(try simp only[show(jc).sz=2 from rfl,Nat.mul_one,Nat.add_zero]at bU);have bV:=bN 1;(try simp only[show(jc).sz=2 from rfl,Nat.mul_one,Nat.add_zero]at bV);clear bM bB bN bT)|((with_reducible refine eK (t:=3) (p:=24) rfl ?_);refine eE (t:=3) (p:=24) (v:= ?wk) (w1:=(b7.setCell ⟨b4,(b1:Int).toNat*2+1,none⟩ (.int .i64 (wrap64 (b5+1))))) ?hg ?ho ?hn ?hr ?_;(case ho=>rfl);(case hg=>rfl);(case hn=>rfl);(case hr=>first|(go_simp;done)|(go_simp;rfl));intro bW hw;have hg:b7.grownBy bW (some b4):=(by rw[hw];exact bI.2);have lG:Kd.R jc 75 bW w0.heap.size (fun k_=>(kP k_∨w.heap.size≤k_)) (.slice (some ⟨b4,0,none⟩) b2.length bJ) bC:=(by rw[hw,bY.out];exact bI.1);clear bI;replace b3:=am (lG);replace HK:=am (Kept.lQ (S:=(fun k_=>kP k_)) hg oK (fun k_ e_=>(b3.out.1 k_ e_)));replace HB:=am ((by rw[hw];exact aD (HB.out) d4.out:Below w0.heap.size w0 bW));clear hg hw lG))
   go_roundg k1
   case measure=>have:=bZ.out;omega
   case rel=>exact⟨(bC),(wrap64 ((wrap64 (b5+1))+1)),(wrap64 (b1+1)),oS,oS,H',⟨by have:=bZ.out;omega⟩,⟨oR b3⟩,⟨oK⟩,⟨oB⟩⟩

theorem uU.calls (k:Nat) (s:ByteArray) (t:Bool) (w:World) (h:ay.f k s=some t):
  Calls Tryz.prog 144 #[.string s] w fun e w'=>e= .returned (.bool (!t))∧Below w.heap.size w w':=by
 have hc:=ay.calls k s t w h;clear h
 go_enter func144,ntmps144
 go_wp2_with (go_at_call 65;refine hc.mono ?_;rintro e w1 ⟨rfl,m,rfl⟩)
 go_ret
 exact⟨rfl,aJ (Below.refl _ _) m⟩
/-- The first of the names that is not right, counted from i on. -/
def badR (k:Nat):List ByteArray→Nat→Option Int
 |[],_=>some (-1)
 |x::l,i=>(ay.f k x).bind fun t=>if t=true then badR k l (i+1)else some (i:Int)
theorem aaY.calls (k:Nat) (A0:Option Addr) (c0:Nat) (l:List ByteArray) (r:Int) (w:World) (hr:Kd.C Kd.string w A0 l.length l) (hl:l.length≤9223372036854775807) (h:badR k l 0=some r):
  Calls Tryz.prog 156 #[.slice A0 l.length c0,.func (.func 144) #[] #[]] w fun e w'=>e= .returned (.int .i64 r)∧Below w.heap.size w w':=by
 have H0:=ae.mk h;clear h
 go_enter func156,ntmps156
 go_wp2
 go_loopg [5,8] l.length (fun gg _ s8 wr=>∃kk:Nat,kk≤l.length∧l.length-kk≤gg∧s8= .int .i64 kk∧ae (Below w.heap.size w wr)∧ae (badR k (l.drop kk) kk=some r))
 case atStart=>exact⟨0,Nat.zero_le _,by omega,rfl,⟨Below.refl _ w⟩,H0⟩
 case round=>
  clear H0;obtain⟨kk,hkk,hg,rfl,BW,HA⟩:=hrel
  by_cases hlt:kk<l.length
  rotate_left
  ·have hltz:¬(kk:Int)<(l.length:Int):=by omega
   obtain rfl:kk=l.length:=by omega
   have h1:=HA.out;rw[List.drop_length,badR]at h1;obtain rfl:=Option.some.inj h1
   go_wp2
   go_ret
   exact⟨rfl,BW.out⟩
  have hltz:(kk:Int)<(l.length:Int):=by omega
  have h1:=HA.out;rw[List.drop_eq_getElem_cons hlt,badR]at h1;replace h1:=bA h1;obtain⟨t,A1,h1⟩:=h1;obtain⟨ad,c,e0,hcl,hK,hcell⟩:=Kd.oV (Kd.de hr BW.out) ⟨#[]⟩ (kk:Int) (by omega) hltz
  cases e0
  have hx:l.getD (kk:Int).toNat ⟨#[]⟩=l[kk]:=by rw[Int.toNat_natCast,List.getD_eq_getElem?_getD,List.getElem?_eq_getElem hlt];rfl
  rw[hx]at hK;obtain rfl:c=[.string l[kk]]:=hK
  have h0:wr.cell? (ad.add kk)=some (.string l[kk]):=by have:=hcell 0 _ rfl;simpa [Kd.string,Kd.scalar]using this
  clear hcell hcl hx
  cases t with
  |true=>
   have H':=ae.mk h1;clear h1
   go_wp2_with (go_at_call 144;refine(uU.calls k l[kk] true _ A1.out).mono ?_;rintro e w1 ⟨rfl,hb⟩)
   go_roundg (l.length-(kk+1))
   case measure=>omega
   case rel=>exact⟨kk+1,by omega,by omega,by go_num,⟨iC BW.out BW.out.size hb⟩,H'⟩
  |false=>
   obtain rfl:=Option.some.inj h1
   go_wp2_with (go_at_call 144;refine(uU.calls k l[kk] false _ A1.out).mono ?_;rintro e w1 ⟨rfl,hb⟩)
   go_ret
   exact⟨rfl,iC BW.out BW.out.size hb⟩
theorem aaZ.calls (k:Nat) (A0:Option Addr) (c0:Nat) (l:List ByteArray) (r:Int) (w:World) (hr:Kd.C Kd.string w A0 l.length l) (hl:l.length≤9223372036854775807) (h:badR k l 0=some r):
  Calls Tryz.prog 143 #[.slice A0 l.length c0,.func (.func 144) #[] #[]] w fun e w'=>e= .returned (.bool (decide (0≤r)))∧Below w.heap.size w w':=by
 have hc:=aaY.calls k A0 c0 l r w hr hl h;clear hr h
 go_enter func143,ntmps143
 go_wp2_with (go_at_call 156;refine hc.mono ?_;rintro e w1 ⟨rfl,hb⟩)
 go_ret
 exact⟨rfl,hb⟩
def gx.f (k:Nat) (l:List ByteArray):Option Bool:=if l.length≤30 then(badR k l 0).bind fun r=>some (!decide (0≤r))else some false
theorem gx.calls (k:Nat) (A0:Option Addr) (c0:Nat) (l:List ByteArray) (r:Bool) (w:World) (hr:Kd.C Kd.string w A0 l.length l) (hc0:l.length≤c0) (h:gx.f k l=some r):
  Calls Tryz.prog 122 #[.slice A0 l.length c0] w fun e w'=>e= .returned (.bool r)∧Below w.heap.size w w':=by
 unfold gx.f at h
 split at h
 case isTrue hl=>
  replace h:=bA h;obtain⟨i,A1,h⟩:=h;obtain rfl:=Option.some.inj h;have hc:=aaZ.calls k A0 c0 l i w hr (by omega) A1.out;have hlz:decide ((l.length:Int)≤30)=true:=decide_eq_true (by omega);clear hr h hl hc0
  go_enter func122,ntmps122
  go_wp2_with (go_at_call 143;refine hc.mono ?_;rintro e w1 ⟨rfl,hb⟩)
  go_ret
  exact⟨rfl,hb⟩
 case isFalse hl=>
  obtain rfl:=Option.some.inj h;have hlz:decide ((l.length:Int)≤30)=false:=decide_eq_false (by omega);clear hr h hl hc0
  go_enter func122,ntmps122
  go_wp2
  go_ret
  exact⟨rfl,Below.refl _ _⟩
def fz.f (k:Nat) (ag:List (bm)) (aj:Int) (a1:Int):Option (Int×Int×Int×List Int×(List (ey))×(List (ct))×Bool):=(cG.f k ag aj a1).bind fun b1=>(if b1<0 then(some (0,0,0,([]:List Int),([]:List (ey)),([]:List (ct)),false))else(if 0≤b1 then(if b1<(ag.length:Int)then((du.f ((af ag b1).f0) ((af ag b1).f1) ((af ag b1).f2) ((af ag b1).f3) ((af ag b1).f4) ((af ag b1).f5)).bind fun b2=>(some (b2.1,b2.2.1,b2.2.2.1,b2.2.2.2.1,b2.2.2.2.2.1,b2.2.2.2.2.2,true)))else(none))else(none)))
theorem fz.calls (k:Nat) (bo:Option Addr) (bg:Nat) (ag:List (bm)) (aj:Int) (a1:Int) (r1:Int) (r2:Int) (r3:Int) (r4:List Int) (r5:List (ey)) (r6:List (ct)) (r7:Bool) (w:World) (cv:Kd.C fN w bo ag.length ag) (cA:ag.length≤bg) (h:fz.f k ag aj a1=some (r1,r2,r3,r4,r5,r6,r7)):
  Calls Tryz.prog 85 #[.agg #[.slice bo ag.length bg,.int .i64 aj],.int .i64 a1] w fun e w'=>∃sO sP sQ:Value,e= .returned (.tuple #[.agg #[.int .i64 r1,.int .i64 r2,.int .i64 r3,sO,sP,sQ],.bool r7])∧Kd.R (Kd.int .u8) 5 w' w.heap.size (fun _=>True) sO r4∧Kd.R jc 75 w' w.heap.size (fun _=>True) sP r5∧Kd.R fa 82 w' w.heap.size (fun _=>True) sQ r6∧Below w.heap.size w w':=by
 have dP:=underlying28;have dQ:=underlying58;have b6:=ae.mk cv;have b8:=ae.mk cA;clear cv cA;have HB:=am (Below.refl w.heap.size w);unfold fz.f at h;have H:=h;clear h;replace H:=bA H;obtain⟨b3,A3,H⟩:=H
 try dsimp only at H
 replace H:=iM H;rcases H with⟨bU,H⟩|⟨bU,H⟩
 ·simp only[Option.some.injEq,Prod.mk.injEq]at H;obtain⟨rfl,rfl,rfl,rfl,rfl,rfl,rfl⟩:=H
  go_enter func85,ntmps85
  go_wp2_with (first|((with_reducible refine ai (N:=2) rfl ?_);refine eh 2 #[.slice bo ag.length bg,.int .i64 aj] 28 ?_;intro bP hg w5 hbox hb;have b1:=am (hbox);have bQ:=eg hg;replace HB:=hB HB hb;clear hb hbox hg)|((with_reducible refine ai (N:=4) rfl ?_);refine eh 4 #[.int .i64 0,.int .i64 0,.int .i64 0,.slice none 0 0,.slice none 0 0,.slice none 0 0] 58 ?_;intro b7 hg w6 hbox hb;have b2:=am (hbox);have bR:=eg hg;have b4:=eY hg b1;have b5:=eZ hg b1;replace b1:=aQ b1 hb;replace HB:=hB HB hb;clear hb hbox hg;have dR:=b4.out;have dS:=b5.out;obtain⟨⟨_,_⟩,_,_⟩:=z2 b1)|((with_reducible refine ak (f:=82) rfl ?_);refine fe 9 func82 (cG.calls k _ _ ag aj a1 b3 _ (kC b6) b8.out A3.out) ?_;rintro e w9 ⟨rfl,hb⟩;refine⟨_,rfl,?_⟩;replace b1:=aQ b1 hb;replace b2:=aQ b2 hb;replace HB:=hB HB hb;obtain⟨⟨_,_,_,_,_,_⟩,_,_,_,_,_,_⟩:=z6 b2))
  refine bodyPost_ret (ek rfl _ _ b7 58 #[.int .i64 0,.int .i64 0,.int .i64 0,.slice none 0 0,.slice none 0 0,.slice none 0 0] (0,0) _ rfl (oP b2) underlying58 rfl (by kernel_rfl)) rfl ?_;exact⟨_,_,_,oE,by first|exact Kd.gv _ _ _ _ _|exact Kd.jj _ _ _ _ _|exact Kd.jk _ _ _ _ _|exact Kd.jg _ _ _ _ _|exact Kd.ji _ _ _ _ _,by first|exact Kd.gv _ _ _ _ _|exact Kd.jj _ _ _ _ _|exact Kd.jk _ _ _ _ _|exact Kd.jg _ _ _ _ _|exact Kd.ji _ _ _ _ _,by first|exact Kd.gv _ _ _ _ _|exact Kd.jj _ _ _ _ _|exact Kd.jk _ _ _ _ _|exact Kd.jg _ _ _ _ _|exact Kd.ji _ _ _ _ _,oB⟩
 obtain⟨dK,H⟩:=cO H;obtain⟨dL,H⟩:=cO H;replace H:=bA H;obtain⟨⟨bJ,bK,bL,bM,bN,bO⟩,dC,H⟩:=H
 try dsimp only at H
 simp only[Option.some.injEq,Prod.mk.injEq]at H;obtain⟨rfl,rfl,rfl,rfl,rfl,rfl,rfl⟩:=H
 go_enter func85,ntmps85
 go_wp2_with (first|((with_reducible refine ai (N:=2) rfl ?_);refine eh 2 #[.slice bo ag.length bg,.int .i64 aj] 28 ?_;intro bP hg dY hbox hb;have b1:=am (hbox);have bQ:=eg hg;replace HB:=hB HB hb;clear hb hbox hg)|((with_reducible refine ai (N:=4) rfl ?_);refine eh 4 #[.int .i64 0,.int .i64 0,.int .i64 0,.slice none 0 0,.slice none 0 0,.slice none 0 0] 58 ?_;intro b7 hg dZ hbox hb;have b2:=am (hbox);have bR:=eg hg;have b4:=eY hg b1;have b5:=eZ hg b1;replace b1:=aQ b1 hb;replace HB:=hB HB hb;clear hb hbox hg;have dM:=b4.out;have dN:=b5.out;obtain⟨⟨_,_⟩,_,_⟩:=z2 b1)|((with_reducible refine ak (f:=82) rfl ?_);refine fe 9 func82 (cG.calls k _ _ ag aj a1 b3 _ (kC b6) b8.out A3.out) ?_;rintro e gA ⟨rfl,hb⟩;refine⟨_,rfl,?_⟩;replace b1:=aQ b1 hb;replace b2:=aQ b2 hb;replace HB:=hB HB hb;obtain⟨⟨_,_⟩,_,_⟩:=z2 b1;have dT:(0≤(b3:Int))=True:=oT;have dU:(b3<(ag.length:Int))=True:=oT;obtain⟨dO,dD,dE,dF,dG,dH,dI,bV,d6,d7,d8,d9,dA,dB,bD,bE,bF,bG,bH,bI⟩:=fw b6 HB b3 oa oa;cases bV)|((with_reducible refine ak (f:=83) rfl ?_);refine fe 18 func83 (du.calls ((af ag b3).f0) ((af ag b3).f1) ((af ag b3).f2) _ _ ((af ag b3).f3) _ _ ((af ag b3).f4) _ _ ((af ag b3).f5) bJ bK bL bM bN bO _ (kC bE) bD.out (kC bG) bF.out (kC bI) bH.out dC.out) ?_;rintro e gB ⟨dV,dW,dX,rfl,dJ,bS,bT,hb⟩;refine⟨_,rfl,?_⟩;have b9:=am (Kd.aw dJ (ah oB));have bB:=am (Kd.aw bS (ah oB));have bC:=am (Kd.aw bT (ah oB));replace b1:=aQ b1 hb;replace b2:=aQ b2 hb;replace HB:=hB HB hb;(try clear bS);(try clear bT);obtain⟨⟨_,_,_,_,_,_⟩,_,_,_,_,_,_⟩:=z6 b2;obtain⟨bW,bX,bY⟩:=Kd.ax b9.out;subst bY;obtain⟨bZ,d1,d2⟩:=Kd.ax bB.out;subst d2;obtain⟨d3,d4,d5⟩:=Kd.ax bC.out;subst d5))
 refine bodyPost_ret (ek rfl _ _ b7 58 #[.int .i64 bJ,.int .i64 bK,.int .i64 bL,.slice bW bM.length bX,.slice bZ bN.length d1,.slice d3 bO.length d4] (0,0) _ rfl (oP b2) underlying58 rfl (by kernel_rfl)) rfl ?_;exact⟨_,_,_,oE,xH b9 b2,xH bB b2,xH bC b2,oB⟩

def eD.f (br:Int) (aj:Int) (cJ:Int) (cr:List Int) (aK:List (ey)) (cw:List (ct)):Option (Int×Int×Int×List Int×(List (ey))×(List (ct))):=(cz.f cr).bind fun b1=>((dv.f aK).bind fun b2=>((df.f cw).bind fun b3=>(some (br,aj,cJ,b1,b2,b3))))
theorem eD.calls (br:Int) (aj:Int) (cJ:Int) (fY:Option Addr) (fZ:Nat) (cr:List Int) (fQ:Option Addr) (fR:Nat) (aK:List (ey)) (fJ:Option Addr) (fK:Nat) (cw:List (ct)) (r1:Int) (r2:Int) (r3:Int) (r4:List Int) (r5:List (ey)) (r6:List (ct)) (w:World) (iP:Kd.C (Kd.int .u8) w fY cr.length cr) (iQ:cr.length≤fZ) (iR:Kd.C jc w fQ aK.length aK) (iS:aK.length≤fR) (iT:Kd.C fa w fJ cw.length cw) (iU:cw.length≤fK) (h:eD.f br aj cJ cr aK cw=some (r1,r2,r3,r4,r5,r6)):
  Calls Tryz.prog 87 #[.agg #[.int .i64 br,.int .i64 aj,.int .i64 cJ,.slice fY cr.length fZ,.slice fQ aK.length fR,.slice fJ cw.length fK]] w fun e w'=>∃sO sP sQ:Value,e= .returned (.agg #[.int .i64 r1,.int .i64 r2,.int .i64 r3,sO,sP,sQ])∧Kd.R (Kd.int .u8) 5 w' w.heap.size (fun _=>True) sO r4∧Kd.R jc 75 w' w.heap.size (fun _=>True) sP r5∧Kd.R fa 82 w' w.heap.size (fun _=>True) sQ r6∧Below w.heap.size w w':=by
 have bW:=underlying58;have bH:=ae.mk iP;have bI:=ae.mk iQ;clear iP iQ;have bJ:=ae.mk iR;have bK:=ae.mk iS;clear iR iS;have bL:=ae.mk iT;have bM:=ae.mk iU;clear iT iU;have HB:=am (Below.refl w.heap.size w);unfold eD.f at h;have H:=h;clear h;replace H:=bA H;obtain⟨b5,A2,H⟩:=H
 try dsimp only at H
 replace H:=bA H;obtain⟨b9,A3,H⟩:=H
 try dsimp only at H
 replace H:=bA H;obtain⟨bE,A4,H⟩:=H
 try dsimp only at H
 simp only[Option.some.injEq,Prod.mk.injEq]at H;obtain⟨rfl,rfl,rfl,rfl,rfl,rfl⟩:=H
 go_enter func87,ntmps87
 go_wp2_with (first|((with_reducible refine ai (N:=1) rfl ?_);refine eh 1 #[.int .i64 br,.int .i64 aj,.int .i64 cJ,.slice fY cr.length fZ,.slice fQ aK.length fR,.slice fJ cw.length fK] 58 ?_;intro bT hg w5 hbox hb;have b1:=am (hbox);have bU:=eg hg;replace HB:=hB HB hb;clear hb hbox hg)|((with_reducible refine ai (N:=2) rfl ?_);refine eh 2 #[.int .i64 0,.int .i64 0,.int .i64 0,.slice none 0 0,.slice none 0 0,.slice none 0 0] 58 ?_;intro bN hg w6 hbox hb;have b2:=am (hbox);have bV:=eg hg;have b6:=eY hg b1;have b7:=eZ hg b1;replace b1:=aQ b1 hb;replace HB:=hB HB hb;clear hb hbox hg;have bX:=b6.out;have bY:=b7.out;obtain⟨⟨_,_,_,_,_,_⟩,_,_,_,_,_,_⟩:=z6 b1)|((with_reducible refine ak (f:=119) rfl ?_);refine fe 5 func119 (cz.calls _ _ cr b5 _ (kC bH) bI.out A2.out) ?_;rintro e w9 ⟨bZ,rfl,b8,hb⟩;refine⟨_,rfl,?_⟩;have b3:=am (Kd.aw b8 (ah oB));replace b1:=aQ b1 hb;replace b2:=aQ b2 hb;replace HB:=hB HB hb;obtain⟨bB,bC,bO⟩:=Kd.ax b3.out;subst bO;obtain⟨⟨_,_,_,_,_,_⟩,_,_,_,_,_,_⟩:=z6 b1)|((with_reducible refine ak (f:=96) rfl ?_);refine fe 9 func96 (dv.calls _ _ aK b9 _ ?fl bK.out A3.out) ?_;(case fl=>exact Kd.de bJ.out oB);rintro e d3 ⟨d1,rfl,b8,hb⟩;refine⟨_,rfl,?_⟩;have b4:=am (Kd.aw b8 (ah oB));replace b3:=fq b3 b1 hb;replace b1:=oo #[.int .i64 br,.int .i64 aj,.int .i64 cJ,.slice bB b5.length bC,.slice fQ aK.length fR,.slice fJ cw.length fK] b1 hb;replace b2:=aQ b2 hb;replace HB:=hB HB hb;(try clear hk);obtain⟨bF,bG,bP⟩:=Kd.ax b4.out;subst bP;obtain⟨⟨_,_,_,_,_,_⟩,_,_,_,_,_,_⟩:=z6 b1)|((with_reducible refine ak (f:=120) rfl ?_);refine fe 13 func120 (df.calls _ _ cw bE _ ?fl bM.out A4.out) ?_;(case fl=>exact Kd.de bL.out oB);rintro e d4 ⟨d2,rfl,b8,hb⟩;refine⟨_,rfl,?_⟩;have bD:=am (Kd.aw b8 (ah oB));replace b3:=fq b3 b1 hb;replace b4:=fq b4 b1 hb;replace b1:=oo #[.int .i64 br,.int .i64 aj,.int .i64 cJ,.slice bB b5.length bC,.slice bF b9.length bG,.slice fJ cw.length fK] b1 hb;replace b2:=aQ b2 hb;replace HB:=hB HB hb;(try clear hk);obtain⟨bQ,bR,bS⟩:=Kd.ax bD.out;subst bS;obtain⟨⟨_,_,_,_,_,_⟩,_,_,_,_,_,_⟩:=z6 b1;obtain⟨⟨_,_,_,_,_,_⟩,_,_,_,_,_,_⟩:=z6 b2))
 refine bodyPost_ret (results_cell_row rfl _ _ bN 58 #[.int .i64 br,.int .i64 aj,.int .i64 cJ,.slice bB b5.length bC,.slice bF b9.length bG,.slice bQ bE.length bR] (0,0) _ rfl (oP b2) underlying58 rfl (by kernel_rfl)) rfl ?_;exact⟨_,_,_,oE,vM b3 b1 b2,vM b4 b1 b2,vM bD b1 b2,oB⟩
end Go.Proofs.YtlecajlnjmbilaaGreatDoor.P
