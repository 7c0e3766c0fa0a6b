-- Printed walks.
import Derived.Test.YtlecajlnjmbilaaGreatDoorPx10
set_option linter.all false
set_option maxHeartbeats 8000000
set_option maxRecDepth 100000
namespace Go.Proofs.YtlecajlnjmbilaaGreatDoor.P
open Go.RowKit Go.Proofs.ab.aq Go.Proofs.ab.aM Go.Proofs.ab.aT Go.Proofs.Tryz
attribute [local go_sem] gn gp iF iG fC fD gq gr

def dh.l0:Nat→List (nc)→List (bm)→Int→Option ((List (bm)))
 |0,_,_,_=>none
 |k+1,x0,x3,x4=>if x4<(x0.length:Int)then(if 0≤x4 then((jb.f k ((cI x0 x4).f0) ((cI x0 x4).f1) ((cI x0 x4).f2) ((cI x0 x4).f3) ((cI x0 x4).f4) ((cI x0 x4).f5)).bind fun b1=>(if x4<(x3.length:Int)then(dh.l0 k x0 (x3.set (x4:Int).toNat (⟨b1.1,b1.2.1,b1.2.2.1,b1.2.2.2.1,b1.2.2.2.2.1,b1.2.2.2.2.2⟩:bm)) (wrap64 (x4+1)))else(none)))else(none))else(some x3)
def dh.f (k:Nat) (l0:List (nc)):Option ((List (bm))):=if 0≤(l0.length:Int)then(if((l0.length:Int):Int).toNat≤2932031007402 then(dh.l0 k l0 (List.replicate ((l0.length:Int):Int).toNat z58) 0)else(none))else(none)
theorem dh.calls (k:Nat) (A0:Option Addr) (c0:Nat) (l0:List (nc)) (r:List (bm)) (w:World) (hr0:Kd.C k92 w A0 l0.length l0) (hc0:l0.length≤c0) (h:dh.f k l0=some r):
  Calls Tryz.prog 34 #[.slice A0 l0.length c0] w fun e w'=>∃iV:Value,e= .returned (iV)∧Kd.S fN 58 w' w.heap.size (fun _=>True) iV r∧Below w.heap.size w w':=by
 have jJ:=underlying92;have jK:=underlying58;have gO:=ae.mk hr0;have jV:=ae.mk hc0;clear hr0 hc0;have HB:=am (Below.refl w.heap.size w);unfold dh.f at h;have H:=h;clear h;obtain⟨c2,H⟩:=lu H;have dY:=eq_true c2;have dZ:decide (0≤(l0.length:Int))=true:=decide_eq_true c2;clear c2;obtain⟨c3,H⟩:=lu H;have jL:=eq_true c3;have jM:decide (((l0.length:Int):Int).toNat≤2932031007402)=true:=decide_eq_true c3;clear c3;obtain⟨bY,cX⟩:∃y_:List (bm),y_=(List.replicate ((l0.length:Int):Int).toNat z58):=⟨_,rfl⟩;replace H:(dh.l0 k l0 bY 0)=some r:=oY;have bR:=ae.mk cX;clear cX;have H':=ae.mk H;clear H
 go_enter func34,ntmps34
 go_wp2_with (first|((with_reducible refine ai (N:=7) rfl ?_);refine Kd.adk fN _ 58 rfl (N:=7) rfl 26 _ _ rfl (l0.length:Int) rfl rfl underlying26 (.agg #[(.int .i64 0),(.int .i64 0),(.int .i64 0),(.slice none 0 0),(.slice none 0 0),(.slice none 0 0)]) 96 kT rfl (by decide) (by omega) z58 (ok:=fun _=>True) (ft:=fun _=>True) (ou _ _ _ z58 (Kd.gv _ _ _ _ _) (Kd.gv _ _ _ _ _) (Kd.gv _ _ _ _ _)) (fun _ hk=>hk) trivial oa (Nat.le_trans (Nat.mul_le_mul_right _ (oa:(l0.length:Int).toNat≤2932031007402)) (by omega)) (Below.refl _ _) (Nat.le_refl _) ?_;intro gA w4 bO hb fc da;clear fc da;(first|rw[←bR.out]at bO|(simp only[Int.reduceToNat]at bO;rw[←bR.out]at bO));have dS:=am (Kd.hL bO (ah oB));replace HB:=hB HB hb;clear hb bO))
 go_loopg [4] k (fun kq v4 w'=>∃(b4:List (bm)) (b1:Int),v4= .int .i64 b1∧ae (dh.l0 kq l0 b4 b1=some r)∧ae (kq≤k)∧ae (Kd.S fN 58 w' w.heap.size (fun _=>True) gA b4)∧ae (Below w.heap.size w w'))
 case atStart=>exact⟨(bY),(0),oS,H',⟨Nat.le_refl _⟩,⟨by(with_reducible repeat(first|apply Kd.cV|apply Kd.cW|apply Kd.ei));exact dS.out⟩,⟨oB⟩⟩
 case round=>
  clear H'
  try clear c2
  try clear dY
  try clear dZ
  try clear c3
  obtain⟨b4,b1,rfl,HA,dW,b3,HB⟩:=hrel
  cases gk with
  |zero=>exact absurd HA.out (by simp[dh.l0])
  |succ k1=>
   have H:=HA.out;clear HA;simp only[dh.l0]at H;replace H:=iM H;rcases H with⟨gB,H⟩|⟨gB,H⟩;rotate_left
   ·obtain rfl:=Option.some.inj H
    go_wp2
    go_ret
    exact⟨_,oE,by(with_reducible repeat(first|apply Kd.cV|apply Kd.cW|apply Kd.ei));exact b3.out,oB⟩
   obtain⟨jN,H⟩:=cO H;replace H:=bA H;obtain⟨⟨bB,bC,bD,bL,bM,bN⟩,A8,H⟩:=H
   try dsimp only at H
   obtain⟨jO,H⟩:=cO H;obtain⟨bP,cX⟩:∃y_:List (bm),y_=(b4.set (b1:Int).toNat (⟨bB,bC,bD,bL,bM,bN⟩:bm)):=⟨_,rfl⟩;replace H:(dh.l0 k1 l0 bP (wrap64 (b1+1)))=some r:=oY;have dT:=ae.mk cX;clear cX;have H':=ae.mk H;clear H;have jP:(0≤(b1:Int))=True:=oT;have jQ:(b1<(l0.length:Int))=True:=oT;obtain⟨jH,gP,gQ,gR,gS,gT,gU,gC,gF,gG,gH,gI,gJ,gK,bS,bT,bU,bV,bW,bX⟩:=vQ gO HB b1 oa oa
   cases gC
   go_wp2_with (first|((with_reducible refine ak (f:=71) rfl ?_);refine fe 20 func71 (jb.calls k1 ((cI l0 b1).f0) ((cI l0 b1).f1) ((cI l0 b1).f2) _ _ ((cI l0 b1).f3) _ _ ((cI l0 b1).f4) _ _ ((cI l0 b1).f5) bB bC bD bL bM bN _ (kC bT) bS.out (kC bV) bU.out (kC bX) bW.out A8.out) ?_;rintro e b5 ⟨bI,bJ,bK,rfl,dX,bZ,d1,hb⟩;refine⟨_,rfl,?_⟩;have bF:=am (Kd.aw dX (ah oB));have bG:=am (Kd.aw bZ (ah oB));have bH:=am (Kd.aw d1 (ah oB));replace b3:=tk (tj b3 hb) (Kd.cQ dX) (Kd.cQ bZ) (Kd.cQ d1);replace HB:=hB HB hb;(try clear hk);(try clear bZ);(try clear d1);have d2:0≤(b1:Int):=oa;have d3:(b1:Int)<((b4.length:Int):Int):=oa;obtain⟨b2,d4,d5,d6,gD,jR,d7⟩:=Kd.v_ b3.out (by omega);(first|cases d5|(injection d5 with gz nj nn;(first|subst gz|(injection gz with gz;subst gz));subst nn;clear nj));have bE:=ae.mk d6;have jS:=ae.mk d7;clear d6 gD d7;obtain⟨_,jT,dU,d8,b6,b7,_,_⟩:=Kd.wa b3.out z58 (b1:Int) d2 d3;obtain⟨d9,dA,dB,rfl,gV,gW,gX⟩:=qc d8;have gY:b5.cell? ⟨b2,(b1:Int).toNat*6,none⟩=some (.int .i64 ((af b4 b1).f0)):=b6 0 _ rfl;have gZ:b5.cell? ⟨b2,(b1:Int).toNat*6+1,none⟩=some (.int .i64 ((af b4 b1).f1)):=b6 1 _ rfl;have j1:b5.cell? ⟨b2,(b1:Int).toNat*6+2,none⟩=some (.int .i64 ((af b4 b1).f2)):=b6 2 _ rfl;have j2:b5.cell? ⟨b2,(b1:Int).toNat*6+3,none⟩=some (d9):=b6 3 _ rfl;have j3:b5.cell? ⟨b2,(b1:Int).toNat*6+4,none⟩=some (dA):=b6 4 _ rfl;have j4:b5.cell? ⟨b2,(b1:Int).toNat*6+5,none⟩=some (dB):=b6 5 _ rfl;have j5:b5.frozen? ⟨b2,(b1:Int).toNat*6,none⟩=false:=b7 0;have j6:b5.frozen? ⟨b2,(b1:Int).toNat*6+1,none⟩=false:=b7 1;have j7:b5.frozen? ⟨b2,(b1:Int).toNat*6+2,none⟩=false:=b7 2;have j8:b5.frozen? ⟨b2,(b1:Int).toNat*6+3,none⟩=false:=b7 3;have j9:b5.frozen? ⟨b2,(b1:Int).toNat*6+4,none⟩=false:=b7 4;have jA:b5.frozen? ⟨b2,(b1:Int).toNat*6+5,none⟩=false:=b7 5;clear dU b6 b7 d8;replace d2:=eq_true d2;replace d3:=eq_true d3;have n_:=am (Kd.cS (ok':=(fun k_=>some k_≠(bI:Value).ownBlock∧some k_≠(bJ:Value).ownBlock∧some k_≠(bK:Value).ownBlock)) b3.out (fun k_ hk=>⟨hk.1.1.2,⟨hk.1.2,hk.2⟩⟩));clear b3;have b3:=n_;clear n_;have gE:=am (show Kd.S fN 58 b5 w.heap.size (fun k_=>((fun _=>True)) k_∧¬((fun k_=>some k_=(bI:Value).ownBlock∨some k_=(bJ:Value).ownBlock∨some k_=(bK:Value).ownBlock)) k_) (.slice (some ⟨b2,0,none⟩) b4.length d4) b4 from(by(with_reducible repeat(first|apply Kd.cV|apply Kd.cW|apply Kd.ei));exact Kd.cS b3.out (fun k_ hk=>⟨trivial,fun e_=>e_.elim (fun h_=>hk.1 h_) (fun h_=>h_.elim (fun h_=>hk.2.1 h_) (fun h_=>hk.2.2 h_))⟩)));obtain⟨jI,jU,dV,dC,b8,b9,dD,dE⟩:=Kd.wa gE.out z58 (b1:Int) oa (by have h_:(b1:Int)<((b4.length:Int):Int):=oa;first|exact h_|(have e_:=(Kd.kr b3.out).1;omega)|simpa using h_);obtain⟨jB,jC,jD,rfl,jE,jF,jG⟩:=qc dC;have bQ:=Kd.ad2 dE oa (by have h_:(b1:Int)<((b4.length:Int):Int):=oa;first|exact h_|(have e_:=(Kd.kr b3.out).1;omega)|simpa using h_) (seg:=[.int .i64 bB,.int .i64 bC,.int .i64 bD,bI,bJ,bK]) (j:=0) (show 6≤6 from by decide) (x':=(⟨bB,bC,bD,bL,bM,bN⟩:bm)) (ou _ _ _ (⟨bB,bC,bD,bL,bM,bN⟩:bm) (Kd.bn (Kd.jh rfl (Kd.bn (ok':=fun k_=>((fun _=>True)) k_∧k_≠b2) (Kd.cH (bF.out) (Kd.ia b3.out) (by decide)) (fun k_ hk=>⟨trivial,fun e_=>(hk.2) (by rw[e_];rfl)⟩))) (fun _ h_=>Or.inr (Or.inl h_))) (Kd.bn (Kd.jh rfl (Kd.bn (ok':=fun k_=>((fun _=>True)) k_∧k_≠b2) (Kd.cH (bG.out) (Kd.ia b3.out) (by decide)) (fun k_ hk=>⟨trivial,fun e_=>(hk.2) (by rw[e_];rfl)⟩))) (fun _ h_=>Or.inr (Or.inr (Or.inl h_)))) (Kd.bn (Kd.jh rfl (Kd.bn (ok':=fun k_=>((fun _=>True)) k_∧k_≠b2) (Kd.cH (bH.out) (Kd.ia b3.out) (by decide)) (fun k_ hk=>⟨trivial,fun e_=>(hk.2) (by rw[e_];rfl)⟩))) (fun _ h_=>Or.inr (Or.inr (Or.inr (h_)))))) (fun _ hk=>hk) (fun k_ eP=>eP.elim (fun h_=>((Kd.bn (ok':=fun k_=>((fun _=>True)) k_∧k_≠b2) (Kd.cH (bF.out) (Kd.ia b3.out) (by decide)) (fun k_ hk=>⟨trivial,fun e_=>(hk.2) (by rw[e_];rfl)⟩))).1 k_ h_.symm) (fun h_=>h_.elim (fun h_=>((Kd.bn (ok':=fun k_=>((fun _=>True)) k_∧k_≠b2) (Kd.cH (bG.out) (Kd.ia b3.out) (by decide)) (fun k_ hk=>⟨trivial,fun e_=>(hk.2) (by rw[e_];rfl)⟩))).1 k_ h_.symm) (fun h_=>((Kd.bn (ok':=fun k_=>((fun _=>True)) k_∧k_≠b2) (Kd.cH (bH.out) (Kd.ia b3.out) (by decide)) (fun k_ hk=>⟨trivial,fun e_=>(hk.2) (by rw[e_];rfl)⟩))).1 k_ h_.symm)));have dF:=b8 0 _ rfl;(try simp only[show(fN).sz=6 from rfl,Nat.mul_one,Nat.add_zero]at dF);have dG:=b9 0;(try simp only[show(fN).sz=6 from rfl,Nat.mul_one,Nat.add_zero]at dG);have dH:=b8 1 _ rfl;(try simp only[show(fN).sz=6 from rfl,Nat.mul_one,Nat.add_zero]at dH);have dI:=b9 1;(try simp only[show(fN).sz=6 from rfl,Nat.mul_one,Nat.add_zero]at dI);have dJ:=b8 2 _ rfl;(try simp only[show(fN).sz=6 from rfl,Nat.mul_one,Nat.add_zero]at dJ);have dK:=b9 2;(try simp only[show(fN).sz=6 from rfl,Nat.mul_one,Nat.add_zero]at dK);have dL:=b8 3 _ rfl;(try simp only[show(fN).sz=6 from rfl,Nat.mul_one,Nat.add_zero]at dL);have dM:=b9 3;(try simp only[show(fN).sz=6 from rfl,Nat.mul_one,Nat.add_zero]at dM);have dN:=b8 4 _ rfl;(try simp only[show(fN).sz=6 from rfl,Nat.mul_one,Nat.add_zero]at dN);have dO:=b9 4;(try simp only[show(fN).sz=6 from rfl,Nat.mul_one,Nat.add_zero]at dO);have dP:=b8 5 _ rfl;(try simp only[show(fN).sz=6 from rfl,Nat.mul_one,Nat.add_zero]at dP);have dQ:=b9 5;(try simp only[show(fN).sz=6 from rfl,Nat.mul_one,Nat.add_zero]at dQ);clear dV b8 b9 dC dD dE)|((with_reducible refine eK (t:=58) (p:=21) rfl ?_);refine eE (t:=58) (p:=21) (v:= ?wk) (w1:=((((((b5.setCell ⟨b2,(b1:Int).toNat*6,none⟩ (.int .i64 bB)).setCell ⟨b2,(b1:Int).toNat*6+1,none⟩ (.int .i64 bC)).setCell ⟨b2,(b1:Int).toNat*6+2,none⟩ (.int .i64 bD)).setCell ⟨b2,(b1:Int).toNat*6+3,none⟩ (bI)).setCell ⟨b2,(b1:Int).toNat*6+4,none⟩ (bJ)).setCell ⟨b2,(b1:Int).toNat*6+5,none⟩ (bK))) ?hg ?ho ?hn ?hr ?_;(case ho=>rfl);(case hg=>rfl);(case hn=>rfl);(case hr=>have gL:=fun(a_:Addr) (m_:Go.Mode) (W_:World)=>run_store Tryz.prog W_ a_ bI m_ (by obtain⟨A_,c_,e_⟩:=Kd.ax bF.out;rw[e_];rfl);have gM:=fun(a_:Addr) (m_:Go.Mode) (W_:World)=>run_store Tryz.prog W_ a_ bJ m_ (by obtain⟨A_,c_,e_⟩:=Kd.ax bG.out;rw[e_];rfl);have gN:=fun(a_:Addr) (m_:Go.Mode) (W_:World)=>run_store Tryz.prog W_ a_ bK m_ (by obtain⟨A_,c_,e_⟩:=Kd.ax bH.out;rw[e_];rfl);first|(go_simp;done)|(go_simp;rfl));intro dR hw;have hg:b5.grownBy dR (some b2):=(by rw[hw];exact bQ.2);have lG:Kd.S fN 58 dR w.heap.size (fun _=>True) (.slice (some ⟨b2,0,none⟩) b4.length d4) bP:=(by rw[hw,dT.out];exact bQ.1);clear bQ;replace b3:=am (lG);replace HB:=am ((by rw[hw];exact aD (aD (aD (aD (aD (aD (HB.out) bE.out) bE.out) bE.out) bE.out) bE.out) bE.out:Below w.heap.size w dR));clear bF;clear bG;clear bH;clear hg hw lG))
   go_roundg k1
   case measure=>have:=dW.out;omega
   case rel=>exact⟨(bP),(wrap64 (b1+1)),oS,H',⟨by have:=dW.out;omega⟩,⟨by(with_reducible repeat(first|apply Kd.cV|apply Kd.cW|apply Kd.ei));exact b3.out⟩,⟨oB⟩⟩

def ed.l0:Nat→List Int→Int→List (bm)→Int→Option (List Int)
 |0,_,_,_,_=>none
 |k+1,x3,x4,b1,b2=>if x4<(b1.length:Int)then((az.f k b1 b2 x3).bind fun b3=>(ed.l0 k b3 (wrap64 (x4+1)) b1 b2))else(some x3)
def ed.f (k:Nat) (ag:List (bm)) (aj:Int):Option (List Int):=(some (([]:List Int):List Int)).bind fun b1=>((cG.f k ag aj 1).bind fun b2=>(if b2<0 then(some b1)else(if b1.length<17592186044416 then(ed.l0 k (b1++[1]) 0 ag aj)else(none))))
theorem ed.calls (k:Nat) (bo:Option Addr) (bg:Nat) (ag:List (bm)) (aj:Int) (r:List Int) (w:World) (cv:Kd.C fN w bo ag.length ag) (cA:ag.length≤bg) (h:ed.f k ag aj=some r):
  Calls Tryz.prog 80 #[.agg #[.slice bo ag.length bg,.int .i64 aj]] w fun e w'=>∃iV:Value,e= .returned (iV)∧Kd.R (Kd.int .i64) 3 w' w.heap.size (fun _=>True) iV r∧Below w.heap.size w w':=by
 have bT:=underlying28;have b7:=ae.mk cv;have b8:=ae.mk cA;clear cv cA;have HB:=am (Below.refl w.heap.size w);unfold ed.f at h;have H:=h;clear h;obtain⟨b4,cX⟩:∃y_:List Int,y_=(([]:List Int)):=⟨_,rfl⟩;replace H:((cG.f k ag aj 1).bind fun b9=>(if b9<0 then(some b4)else(if b4.length<17592186044416 then(ed.l0 k (b4++[1]) 0 ag aj)else(none))))=some r:=oY;have b3:=ae.mk cX;clear cX;replace H:=bA H;obtain⟨b9,A2,H⟩:=H
 try dsimp only at H
 replace H:=iM H;rcases H with⟨bF,H⟩|⟨bF,H⟩
 ·obtain rfl:=Option.some.inj H
  go_enter func80,ntmps80
  go_wp2_with (first|((with_reducible refine ai (N:=1) rfl ?_);refine eh 1 #[.slice bo ag.length bg,.int .i64 aj] 28 ?_;intro bE hg w4 hbox hb;have b1:=am (hbox);have bJ:=eg hg;replace HB:=hB HB hb;clear hb hbox hg)|((with_reducible refine ai (N:=5) rfl ?_);refine Kd.iO (Kd.int .i64) _ 3 ?hg (N:=5) ?hd (xs:=([]:List Int)) (inner:=[]) (ok:=fun _=>True) (ft:=fun _=>True) ?hr ?hp (fun _ hk=>hk) trivial (Below.refl _ _) (Nat.le_refl _) (by simp) ?_;(case hd=>rfl);(case hg=>rfl);(case hr=>first|(go_simp;done)|(go_simp;rfl));(case hp=>exact(cK.none _ _));intro bG w5 bD hb fc da;clear fc da;(first|rw[←b3.out]at bD|(simp only[Int.reduceToNat]at bD;rw[←b3.out]at bD));have b2:=am (Kd.aw bD (ah oB));replace b1:=aQ b1 hb;replace HB:=hB HB hb;clear hb bD;obtain⟨⟨_,_⟩,_,_⟩:=z2 b1)|((with_reducible refine ak (f:=82) rfl ?_);refine fe 7 func82 (cG.calls k _ _ ag aj 1 b9 _ (kC b7) b8.out A2.out) ?_;rintro e w8 ⟨rfl,hb⟩;refine⟨_,rfl,?_⟩;replace b2:=ga b2 hb;replace b1:=aQ b1 hb;replace HB:=hB HB hb))
  go_ret
  exact⟨_,oE,oR b2,oB⟩
 obtain⟨c9,H⟩:=lu H;have bP:=ae.mk c9;clear c9;obtain⟨bH,cX⟩:∃y_:List Int,y_=(b4++[1]):=⟨_,rfl⟩;replace H:(ed.l0 k bH 0 ag aj)=some r:=oY;have bK:=ae.mk cX;clear cX;have H':=ae.mk H;clear H
 go_enter func80,ntmps80
 go_wp2_with (first|((with_reducible refine ai (N:=1) rfl ?_);refine eh 1 #[.slice bo ag.length bg,.int .i64 aj] 28 ?_;intro bE hg bY hbox hb;have b1:=am (hbox);have bJ:=eg hg;replace HB:=hB HB hb;clear hb hbox hg)|((with_reducible refine ai (N:=5) rfl ?_);refine Kd.iO (Kd.int .i64) _ 3 ?hg (N:=5) ?hd (xs:=([]:List Int)) (inner:=[]) (ok:=fun _=>True) (ft:=fun _=>True) ?hr ?hp (fun _ hk=>hk) trivial (Below.refl _ _) (Nat.le_refl _) (by simp) ?_;(case hd=>rfl);(case hg=>rfl);(case hr=>first|(go_simp;done)|(go_simp;rfl));(case hp=>exact(cK.none _ _));intro bG bZ b5 hb fc da;clear fc da;(first|rw[←b3.out]at b5|(simp only[Int.reduceToNat]at b5;rw[←b3.out]at b5));have b2:=am (Kd.aw b5 (ah oB));replace b1:=aQ b1 hb;replace HB:=hB HB hb;clear hb b5;obtain⟨⟨_,_⟩,_,_⟩:=z2 b1)|((with_reducible refine ak (f:=82) rfl ?_);refine fe 7 func82 (cG.calls k _ _ ag aj 1 b9 _ (kC b7) b8.out A2.out) ?_;rintro e d1 ⟨rfl,hb⟩;refine⟨_,rfl,?_⟩;replace b2:=ga b2 hb;replace b1:=aQ b1 hb;replace HB:=hB HB hb)|((with_reducible refine et (b:= .append) (xs:= #[.tmp 10,.tmp 11]) rfl ?_);at_builtin;refine Kd.nf (Kd.int .i64) (w0:=w) w.heap.size rfl (.tmp 10) (.tmp 11) 98 3 (.int .i64 0) 8 rfl underlying98 info3 rfl (by decide) (by omega) bG b4 1 [.int .i64 1] (fun _=>True) (fun _=>False) rfl rfl ?aP (fun _ hk=>hk.elim) ?aF ?aO ?aB ?aS ?aL ?_;(case aP=>exact rfl);(case aB=>exact oB);(case aF=>exact(fun _ _=>trivial));(case aO=>exact(oR b2));(case aS=>exact(ah oB));(case aL=>have:=bP.out;omega);intro bU d2 ho hb hg hat;rw[←bK.out]at ho;have bL:=am (ho);replace b1:=ks b1 hg (Kd.kz b2.out b1.out (by decide));replace HB:=am (hb);clear b2;clear ho hb hg hat))
 go_loopg [3,4] k (fun kq v3 v4 w'=>∃(bB:List Int) (bC:Int),v4= .int .i64 bC∧ae (ed.l0 kq bB bC ag aj=some r)∧ae (kq≤k)∧ae (Kd.R (Kd.int .i64) 3 w' w.heap.size (fun _=>True) v3 bB)∧ae (w'.heap[bE]? =some (.cells #[(.slice bo ag.length bg),.int .i64 aj] 28 (0,0)))∧ae (Below w.heap.size w w'))
 case atStart=>exact⟨(bH),(0),oS,H',⟨Nat.le_refl _⟩,⟨oR bL⟩,⟨oF b1⟩,⟨oB⟩⟩
 case round=>
  clear H'
  try clear bF
  try clear c9
  obtain⟨bB,bC,rfl,HA,bO,b6,b1,HB⟩:=hrel
  cases gk with
  |zero=>exact absurd HA.out (by simp[ed.l0])
  |succ k1=>
   have H:=HA.out;clear HA;simp only[ed.l0]at H;replace H:=iM H;rcases H with⟨bM,H⟩|⟨bM,H⟩;rotate_left
   ·obtain rfl:=Option.some.inj H;obtain⟨⟨_,_⟩,_,_⟩:=z2 b1
    go_wp2
    go_ret
    exact⟨_,oE,oR b6,oB⟩
   replace H:=bA H;obtain⟨bI,bR,H⟩:=H
   try dsimp only at H
   have H':=ae.mk H;clear H;obtain⟨⟨_,_⟩,_,_⟩:=z2 b1;obtain⟨bV,bW,bQ⟩:=Kd.ax b6.out;subst bQ
   go_wp2_with (first|((with_reducible refine ak (f:=117) rfl ?_);refine fe 22 func117 (az.calls k1 _ _ ag aj _ _ bB bI w.heap.size _ (ah oB) (kC b7) b8.out (oR b6) bR.out) ?_;rintro e d3 ⟨bX,rfl,bS,hb⟩;refine⟨_,rfl,?_⟩;have bN:=ae.mk bS;replace b6:=ga b6 hb;replace b1:=aQ b1 hb;replace HB:=hB HB hb))
   go_roundg k1
   case measure=>have:=bO.out;omega
   case rel=>exact⟨(bI),(wrap64 (bC+1)),oS,H',⟨by have:=bO.out;omega⟩,⟨mR bN⟩,⟨oF b1⟩,⟨oB⟩⟩

def jx.f (k:Nat) (ag:List (bm)) (aj:Int) (a1:ByteArray):Option (Int×Int):=(bb.f k a1).bind fun b1=>(if b1.2=true then((cN.f k ag aj b1.1).bind fun b2=>(some (b2.1,b2.2)))else(some (0,1)))
theorem jx.calls (k:Nat) (bo:Option Addr) (bg:Nat) (ag:List (bm)) (aj:Int) (a1:ByteArray) (r1:Int) (r2:Int) (w:World) (cv:Kd.C fN w bo ag.length ag) (cA:ag.length≤bg) (h:jx.f k ag aj a1=some (r1,r2)):
  Calls Tryz.prog 84 #[.agg #[.slice bo ag.length bg,.int .i64 aj],.string a1] w fun e w'=>e= .returned (.tuple #[.int .i64 r1,.int .i64 r2])∧Below w.heap.size w w':=by
 have bE:=underlying28;have b5:=ae.mk cv;have b6:=ae.mk cA;clear cv cA;have HB:=am (Below.refl w.heap.size w);unfold jx.f at h;have H:=h;clear h;replace H:=bA H;obtain⟨⟨b3,bF⟩,A3,H⟩:=H
 try dsimp only at H
 replace H:=kN H;rcases H with⟨rfl,H⟩|⟨rfl,H⟩;rotate_left
 ·simp only[Option.some.injEq,Prod.mk.injEq]at H;obtain⟨rfl,rfl⟩:=H
  go_enter func84,ntmps84
  go_wp2_with (first|((with_reducible refine ai (N:=2) rfl ?_);refine eh 2 #[.slice bo ag.length bg,.int .i64 aj] 28 ?_;intro b7 hg bG hbox hb;have b1:=am (hbox);have b8:=eg hg;replace HB:=hB HB hb;clear hb hbox hg)|((with_reducible refine ak (f:=51) rfl ?_);refine fe 10 func51 (bb.calls k a1 b3 false _ A3.out) ?_;rintro e bH ⟨b9,rfl,b4,hb⟩;refine⟨_,rfl,?_⟩;have b2:=am (Kd.aw b4 (ah oB));replace b1:=aQ b1 hb;replace HB:=hB HB hb))
  go_ret2
  exact⟨oE,oB⟩
 replace H:=bA H;obtain⟨⟨bB,bC⟩,A5,H⟩:=H
 try dsimp only at H
 simp only[Option.some.injEq,Prod.mk.injEq]at H;obtain⟨rfl,rfl⟩:=H
 go_enter func84,ntmps84
 go_wp2_with (first|((with_reducible refine ai (N:=2) rfl ?_);refine eh 2 #[.slice bo ag.length bg,.int .i64 aj] 28 ?_;intro b7 hg w6 hbox hb;have b1:=am (hbox);have b8:=eg hg;replace HB:=hB HB hb;clear hb hbox hg)|((with_reducible refine ak (f:=51) rfl ?_);refine fe 10 func51 (bb.calls k a1 b3 true _ A3.out) ?_;rintro e w7 ⟨b9,rfl,b4,hb⟩;refine⟨_,rfl,?_⟩;have b2:=am (Kd.aw b4 (ah oB));replace b1:=aQ b1 hb;replace HB:=hB HB hb;obtain⟨⟨_,_⟩,_,_⟩:=z2 b1;obtain⟨bI,bJ,bD⟩:=Kd.ax b2.out;subst bD)|((with_reducible refine ak (f:=118) rfl ?_);refine fe 17 func118 (cN.calls k _ _ ag aj _ _ b3 bB bC _ (kC b5) b6.out (kO b2) (ko b2) A5.out) ?_;rintro e bK ⟨rfl,hb⟩;refine⟨_,rfl,?_⟩;replace b2:=ga b2 hb;replace b1:=aQ b1 hb;replace HB:=hB HB hb))
 go_ret2
 exact⟨oE,oB⟩

def fi.f (k:Nat) (ag:List (bm)) (aj:Int) (a1:Int):Option (Int):=(aA.f k ag a1).bind fun b1=>(if b1<0 then(some (-1))else(some b1))
theorem fi.calls (k:Nat) (bo:Option Addr) (bg:Nat) (ag:List (bm)) (aj:Int) (a1:Int) (r:Int) (w:World) (cv:Kd.C fN w bo ag.length ag) (cA:ag.length≤bg) (h:fi.f k ag aj a1=some r):
  Calls Tryz.prog 16 #[.agg #[.slice bo ag.length bg,.int .i64 aj],.int .i64 a1] w fun e w'=>e= .returned (.int .i64 r)∧Below w.heap.size w w':=by
 have b8:=underlying28;have b2:=ae.mk cv;have b3:=ae.mk cA;clear cv cA;have HB:=am (Below.refl w.heap.size w);unfold fi.f at h;have H:=h;clear h;replace H:=bA H;obtain⟨b4,A3,H⟩:=H
 try dsimp only at H
 replace H:=iM H;rcases H with⟨b7,H⟩|⟨b7,H⟩
 ·obtain rfl:=Option.some.inj H
  go_enter func16,ntmps16
  go_wp2_with (first|((with_reducible refine ai (N:=2) rfl ?_);refine eh 2 #[.slice bo ag.length bg,.int .i64 aj] 28 ?_;intro b5 hg w5 hbox hb;have b1:=am (hbox);have b6:=eg hg;replace HB:=hB HB hb;clear hb hbox hg;obtain⟨⟨_,_⟩,_,_⟩:=z2 b1)|((with_reducible refine ak (f:=38) rfl ?_);refine fe 8 func38 (aA.calls k _ _ ag a1 b4 _ (kC b2) b3.out A3.out) ?_;rintro e w7 ⟨rfl,hb⟩;refine⟨_,rfl,?_⟩;replace b1:=aQ b1 hb;replace HB:=hB HB hb))
  go_ret
  exact⟨oE,oB⟩
 obtain rfl:=Option.some.inj H
 go_enter func16,ntmps16
 go_wp2_with (first|((with_reducible refine ai (N:=2) rfl ?_);refine eh 2 #[.slice bo ag.length bg,.int .i64 aj] 28 ?_;intro b5 hg w8 hbox hb;have b1:=am (hbox);have b6:=eg hg;replace HB:=hB HB hb;clear hb hbox hg;obtain⟨⟨_,_⟩,_,_⟩:=z2 b1)|((with_reducible refine ak (f:=38) rfl ?_);refine fe 8 func38 (aA.calls k _ _ ag a1 b4 _ (kC b2) b3.out A3.out) ?_;rintro e b9 ⟨rfl,hb⟩;refine⟨_,rfl,?_⟩;replace b1:=aQ b1 hb;replace HB:=hB HB hb))
 go_ret
 exact⟨oE,oB⟩
theorem fi.calls' (k:Nat) (bo:Option Addr) (bg n:Nat) (ag:List bm) (aj a1 r:Int) (w:World) (hn:ag.length=n) (cv:Kd.C fN w bo ag.length ag) (cA:ag.length≤bg) (h:fi.f k ag aj a1=some r):
  Calls Tryz.prog 16 #[.agg #[.slice bo n bg,.int .i64 aj],.int .i64 a1] w fun e w'=>e= .returned (.int .i64 r)∧Below w.heap.size w w':=by
 subst hn;exact fi.calls k bo bg ag aj a1 r w cv cA h
theorem pA.calls (k:Nat) (kP:Nat→Prop) (u:Value) (l0:List bm) (a0 a1 r1:Int) (r2:List bm) (w0 w:World) (hB:Below w0.heap.size w0 w) (ho0:Kd.S fN 58 w w0.heap.size kP u l0) (h:eB.f k l0 a1=some (r1,r2)):
  Calls Tryz.prog 15 #[.agg #[u,.int .i64 a0],.int .i64 a1] w fun e w'=>e= .returned (.int .i64 r1)∧Kd.S fN 58 w' w0.heap.size (fun k_=>kP k_∨w.heap.size≤k_) u r2∧Below w0.heap.size w0 w'∧Kept w w' kP:=by
 obtain⟨A,co,rfl⟩:=Kd.eM ho0;have HH:=ae.mk h;have hc:=eB.calls k kP (.slice A l0.length co) l0 a1 r1 r2 w0 (w.alloc (.cells #[.slice A l0.length co,.int .i64 a0] 28)) (hB.alloc hB.size _) (Kd.cV ho0 _) h;have HC:=ae.mk hc;have HW:=ae.mk hB.size;clear h hc hB ho0
 go_enter func15,ntmps15
 go_wp2_with (go_at_call 37;refine HC.out.mono ?_;rintro e w1 ⟨rfl,hs,hb,hk⟩)
 go_ret
 exact⟨rfl,Kd.cS hs (fun q hq=>hq.imp_right (fun h=>by simp at h;omega)),hb,(Kept.alloc (Kept.refl w kP) _).then_ hk (fun q hq=> .inl hq)⟩
mutual
def bs.j0:Nat→Bool→List (bm)→Int→Option (Bool)
 |0,_,_,_=>none
 |k+1,b3,b1,b2=>if b3=true then(some false)else(bs.l0 k 0 b1 b2)
def bs.l0:Nat→Int→List (bm)→Int→Option (Bool)
 |0,_,_,_=>none
 |k+1,x3,b1,b2=>if x3<(b1.length:Int)then(if 0≤x3 then((cL.f k ((af b1 x3).f0) ((af b1 x3).f1) ((af b1 x3).f2) ((af b1 x3).f3) ((af b1 x3).f4) ((af b1 x3).f5)).bind fun b3=>(if b3=true then(if((af b1 x3).f0)≥b2 then(some false)else(if x3>0 then(if 0≤(wrap64 (x3-1))then(if(wrap64 (x3-1))<(b1.length:Int)then(if((af b1 (wrap64 (x3-1))).f0)≥((af b1 x3).f0)then(some false)else(bs.l0 k (wrap64 (x3+1)) b1 b2))else(none))else(none))else(bs.l0 k (wrap64 (x3+1)) b1 b2)))else(some false)))else(none))else(if 0<(b1.length:Int)then(if((af b1 0).f0)=1 then(some (((af b1 0).f1)==2))else(some false))else(none))
end
def bs.f (k:Nat) (ag:List (bm)) (aj:Int):Option (Bool):=(ba.f (ag.length:Int) 1 30).bind fun b1=>(if b1=true then((ba.f aj 2 1000).bind fun b2=>(bs.j0 k (!b2) ag aj))else(bs.j0 k true ag aj))
def bs.T7:Bool×List (List Nat×List Nat):=(true,[([],[]),([0],[0]),([1],[1]),([2,1],[2]),([3],[3]),([4,3],[3,4]),([3],[3]),([6,3],[3,6]),([5,7,3],[3,5,7]),([3,8],[3,8]),([9,3],[9]),([10],[10]),([11,10],[10,11]),([12,10,10],[10,12]),([13],[13]),([14,13],[13,14]),([13],[13]),([16,13],[13,16]),([15,17,13],[13,15,17]),([18,13],[13,18]),([19,13],[13,19]),([13],[13]),([21,13],[13,21]),([20,22,13],[13,20,22]),([13,23,10],[10,13,23]),([10,24],[10,24])])
def bs.B7:List Nat:=[0,1,3,7,15,31,15,79,255,511,1023,2047,4095,8191,16383,32767,16383,81919,262143,524287,1048575,16383,2113535,8388607,16777215,33554431]
theorem bs.qL:g_ .any (opsOf Tryz.f79 7)=bs.T7:=by kernel_rfl
theorem bs.nG:eX bs.T7.2 bs.B7=true:=by kernel_rfl
theorem bs.calls (k:Nat) (bo:Option Addr) (bg:Nat) (ag:List (bm)) (aj:Int) (r:Bool) (w:World) (cv:Kd.C fN w bo ag.length ag) (cA:ag.length≤bg) (h:bs.f k ag aj=some r):
  Calls Tryz.prog 79 #[.agg #[.slice bo ag.length bg,.int .i64 aj]] w fun e w'=>e= .returned (.bool r)∧Below w.heap.size w w':=by
 have mZ:=underlying28;have zA:=underlying58;have bY:=ae.mk cv;have mG:=ae.mk cA;clear cv cA;have HB:=am (Below.refl w.heap.size w);unfold bs.f at h;have H:=h;clear h;have jD:=ae.mk H;clear H
 go_enter func79,ntmps79
 go_upto_region 1 with(first|((with_reducible refine ai (N:=1) rfl ?_);refine eh 1 #[.slice bo ag.length bg,.int .i64 aj] 28 ?_;intro bZ hg w3 hbox hb;have b2:=am (hbox);have mH:=eg hg;replace HB:=hB HB hb;clear hb hbox hg))
 (try simp only[Act.put,List.setIfInBounds_toArray,List.set_cons_zero,List.set_cons_succ])
 go_cut [15] (fun m3 wc=>∃(kq:Nat) (gL:Bool),m3= .bool gL∧ae (bs.j0 kq gL ag aj=some r)∧ae (kq≤k)∧ae (wc.heap[bZ]? =some (.cells #[(.slice bo ag.length bg),.int .i64 aj] 28 (0,0)))∧ae (Below w.heap.size w wc))
 case first=>
  have H:=jD.out;clear jD;replace H:=bA H;obtain⟨zB,A4,H⟩:=H
  try dsimp only at H
  replace H:=kN H;rcases H with⟨rfl,H⟩|⟨rfl,H⟩;rotate_left
  ·have H':=ae.mk H;clear H;obtain⟨⟨_,_⟩,_,_⟩:=z2 b2
   go_wp2_with (first|((with_reducible refine ak (f:=60) rfl ?_);refine fe 8 func60 (ba.calls (ag.length:Int) 1 30 false _ A4.out) ?_;rintro e w' ⟨rfl,⟨nd,rfl⟩⟩;refine⟨_,rfl,?_⟩))
   go_meet
   case rel=>exact⟨_,(true),oS,H',⟨by first|omega|exact Nat.le_refl _⟩,⟨oF b2⟩,⟨oB⟩⟩
  replace H:=bA H;obtain⟨jE,A6,H⟩:=H
  try dsimp only at H
  have H':=ae.mk H;clear H;obtain⟨⟨_,_⟩,_,_⟩:=z2 b2
  go_wp2_with (first|((with_reducible refine ak (f:=60) rfl ?_);refine fe 8 func60 (ba.calls (ag.length:Int) 1 30 true _ A4.out) ?_;rintro e w' ⟨rfl,⟨nd,rfl⟩⟩;refine⟨_,rfl,?_⟩)|(go_at_call 60;(with_reducible refine(ba.calls aj 2 1000 jE _ A6.out).mono ?_);rintro e w' ⟨rfl,⟨nd,rfl⟩⟩))
  go_meet
  case rel=>exact⟨_,(!jE),oS,H',⟨by first|omega|exact Nat.le_refl _⟩,⟨oF b2⟩,⟨oB⟩⟩
 case rest=>
  clear jD;obtain⟨kq,gL,rfl,HA,gT,b2,HB⟩:=hcut
  cases kq with
  |zero=>exact absurd HA.out (by simp[bs.j0])
  |succ wm=>
   have H:=HA.out;clear HA;simp only[bs.j0]at H;replace H:=kN H;rcases H with⟨rfl,H⟩|⟨rfl,H⟩
   ·obtain rfl:=Option.some.inj H
    go_wp2
    go_ret
    exact⟨oE,oB⟩
   have H':=ae.mk H;clear H
   go_wp2
   go_loopg [3] wm (fun kq v3 w'=>∃(b1:Int),v3= .int .i64 b1∧ae (bs.l0 kq b1 ag aj=some r)∧ae (kq≤wm)∧ae (w'.heap[bZ]? =some (.cells #[(.slice bo ag.length bg),.int .i64 aj] 28 (0,0)))∧ae (Below w.heap.size w w'))
   case atStart=>exact⟨(0),oS,H',⟨Nat.le_refl _⟩,⟨oF b2⟩,⟨oB⟩⟩
   case round=>
    clear H';obtain⟨b1,rfl,HA,gU,b2,HB⟩:=hrel
    cases gk with
    |zero=>exact absurd HA.out (by simp[bs.l0])
    |succ k2=>
     have H:=HA.out;clear HA;simp only[bs.l0]at H;replace H:=iM H;rcases H with⟨jL,H⟩|⟨jL,H⟩;rotate_left
     ·by_cases gV:0<(ag.length:Int)
      rotate_left
      ·rw[if_neg gV]at H;exact absurd H (by simp)
      rw[if_pos gV]at H;have mI:decide (0<(ag.length:Int))=true:=decide_eq_true gV;have mJ:decide (0<ag.length)=true:=decide_eq_true (by omega);clear gV
      by_cases dX:((af ag 0).f0)=1
      rotate_left
      ·rw[if_neg dX]at H;have jM:(((af ag 0).f0)==1)=false:=beq_eq_false_iff_ne.mpr dX;have jN:(((af ag 0).f0) !=1)=true:=bne_iff_ne.mpr dX;obtain rfl:=Option.some.inj H;obtain⟨⟨_,_⟩,_,_⟩:=z2 b2;have dQ:0≤(0:Int):=(by omega);have dR:0<(ag.length:Int):=oa;obtain⟨gW,jF,jG,jH,jI,jJ,jK,gP,bJ,bK,bL,bE,bF,bG,d4,d5,d6,d7,d8,d9⟩:=fI bY.out 0 dQ dR
       cases gP
       have jO:(0<ag.length)=True:=eq_true (by omega)
       (try rw[show((0:Int)).toNat=0 from rfl]at bJ)
       (try rw[show 0*6=0 from rfl]at bJ)
       (try rw[Addr.add_zero']at bJ)
       (try rw[show((0:Int)).toNat=0 from rfl]at bK)
       (try rw[show 0*6=0 from rfl]at bK)
       (try rw[Addr.add_zero']at bK)
       (try rw[show((0:Int)).toNat=0 from rfl]at bL)
       (try rw[show 0*6=0 from rfl]at bL)
       (try rw[Addr.add_zero']at bL)
       (try rw[show((0:Int)).toNat=0 from rfl]at bE)
       (try rw[show 0*6=0 from rfl]at bE)
       (try rw[Addr.add_zero']at bE)
       (try rw[show((0:Int)).toNat=0 from rfl]at bF)
       (try rw[show 0*6=0 from rfl]at bF)
       (try rw[Addr.add_zero']at bF)
       (try rw[show((0:Int)).toNat=0 from rfl]at bG)
       (try rw[show 0*6=0 from rfl]at bG)
       (try rw[Addr.add_zero']at bG)
       replace bJ:=cB HB bJ;replace bK:=cB HB bK;replace bL:=cB HB bL;replace bE:=cB HB bE;replace bF:=cB HB bF;replace bG:=cB HB bG;have gX:=ae.mk d5;have gY:=ae.mk d4;clear d5 d4;have gZ:=ae.mk d7;have j1:=ae.mk d6;clear d7 d6;have j2:=ae.mk d9;have j3:=ae.mk d8;clear d9 d8;replace dQ:=eq_true dQ;replace dR:=eq_true dR
       go_wp2
       go_ret
       exact⟨oE,oB⟩
      rw[if_pos dX]at H;have jM:(((af ag 0).f0)==1)=true:=beq_iff_eq.mpr dX;have jN:(((af ag 0).f0) !=1)=false:=bne_eq_false_iff_eq.mpr dX;clear dX;obtain rfl:=Option.some.inj H;obtain⟨⟨_,_⟩,_,_⟩:=z2 b2;have dQ:0≤(0:Int):=(by omega);have dR:0<(ag.length:Int):=oa;obtain⟨gW,jF,jG,jH,jI,jJ,jK,gP,bJ,bK,bL,bE,bF,bG,d4,d5,d6,d7,d8,d9⟩:=fI bY.out 0 dQ dR
      cases gP
      have jO:(0<ag.length)=True:=eq_true (by omega)
      (try rw[show((0:Int)).toNat=0 from rfl]at bJ)
      (try rw[show 0*6=0 from rfl]at bJ)
      (try rw[Addr.add_zero']at bJ)
      (try rw[show((0:Int)).toNat=0 from rfl]at bK)
      (try rw[show 0*6=0 from rfl]at bK)
      (try rw[Addr.add_zero']at bK)
      (try rw[show((0:Int)).toNat=0 from rfl]at bL)
      (try rw[show 0*6=0 from rfl]at bL)
      (try rw[Addr.add_zero']at bL)
      (try rw[show((0:Int)).toNat=0 from rfl]at bE)
      (try rw[show 0*6=0 from rfl]at bE)
      (try rw[Addr.add_zero']at bE)
      (try rw[show((0:Int)).toNat=0 from rfl]at bF)
      (try rw[show 0*6=0 from rfl]at bF)
      (try rw[Addr.add_zero']at bF)
      (try rw[show((0:Int)).toNat=0 from rfl]at bG)
      (try rw[show 0*6=0 from rfl]at bG)
      (try rw[Addr.add_zero']at bG)
      replace bJ:=cB HB bJ;replace bK:=cB HB bK;replace bL:=cB HB bL;replace bE:=cB HB bE;replace bF:=cB HB bF;replace bG:=cB HB bG;have gX:=ae.mk d5;have gY:=ae.mk d4;clear d5 d4;have gZ:=ae.mk d7;have j1:=ae.mk d6;clear d7 d6;have j2:=ae.mk d9;have j3:=ae.mk d8;clear d9 d8;replace dQ:=eq_true dQ;replace dR:=eq_true dR;have gQ:0≤(0:Int):=(by omega);have gR:0<(ag.length:Int):=oa;obtain⟨jP,m4,m5,m6,m7,m8,m9,jT,dA,dB,dC,d1,d2,d3,gE,gF,gG,gH,gI,gJ⟩:=fI bY.out 0 gQ gR;obtain rfl:gW=jP:=(by injection jT);have mK:(0<ag.length)=True:=eq_true (by omega)
      (try rw[show((0:Int)).toNat=0 from rfl]at dA)
      (try rw[show 0*6=0 from rfl]at dA)
      (try rw[Addr.add_zero']at dA)
      (try rw[show((0:Int)).toNat=0 from rfl]at dB)
      (try rw[show 0*6=0 from rfl]at dB)
      (try rw[Addr.add_zero']at dB)
      (try rw[show((0:Int)).toNat=0 from rfl]at dC)
      (try rw[show 0*6=0 from rfl]at dC)
      (try rw[Addr.add_zero']at dC)
      (try rw[show((0:Int)).toNat=0 from rfl]at d1)
      (try rw[show 0*6=0 from rfl]at d1)
      (try rw[Addr.add_zero']at d1)
      (try rw[show((0:Int)).toNat=0 from rfl]at d2)
      (try rw[show 0*6=0 from rfl]at d2)
      (try rw[Addr.add_zero']at d2)
      (try rw[show((0:Int)).toNat=0 from rfl]at d3)
      (try rw[show 0*6=0 from rfl]at d3)
      (try rw[Addr.add_zero']at d3)
      replace dA:=cB HB dA;replace dB:=cB HB dB;replace dC:=cB HB dC;replace d1:=cB HB d1;replace d2:=cB HB d2;replace d3:=cB HB d3;have jW:=ae.mk gF;have jX:=ae.mk gE;clear gF gE;have jY:=ae.mk gH;have jZ:=ae.mk gG;clear gH gG;have m1:=ae.mk gJ;have m2:=ae.mk gI;clear gJ gI;replace gQ:=eq_true gQ;replace gR:=eq_true gR;have gz:=Option.some.inj (bE.symm.trans d1);injection gz with gz nj nn;subst gz;subst nn;clear nj;have gz:=Option.some.inj (bF.symm.trans d2);injection gz with gz nj nn;subst gz;subst nn;clear nj;have gz:=Option.some.inj (bG.symm.trans d3);injection gz with gz nj nn;subst gz;subst nn;clear nj
      go_wp2
      go_ret
      exact⟨oE,oB⟩
     obtain⟨mL,H⟩:=cO H;replace H:=bA H;obtain⟨zC,gK,H⟩:=H
     try dsimp only at H
     replace H:=kN H;rcases H with⟨rfl,H⟩|⟨rfl,H⟩;rotate_left
     ·obtain rfl:=Option.some.inj H;obtain⟨⟨_,_⟩,_,_⟩:=z2 b2;have gM:(0≤(b1:Int))=True:=oT;have gN:(b1<(ag.length:Int))=True:=oT;obtain⟨b6,b7,b8,b9,bB,bC,bD,dJ,dK,dL,dM,dN,dO,dP,bM,bN,bO,bP,bQ,bR⟩:=fw bY HB b1 oa oa
      cases dJ
      try go_wp2_with (first|((with_reducible refine ai (N:=4) rfl ?_);refine eh 4 #[.int .i64 0,.int .i64 0,.int .i64 0,.slice none 0 0,.slice none 0 0,.slice none 0 0] 58 ?_;intro b3 hg mA hbox hb;have b4:=am (hbox);have dW:=eg hg;have bH:=eY hg b2;have bI:=eZ hg b2;replace b2:=aQ b2 hb;replace HB:=hB HB hb;clear hb hbox hg;have mM:=bI.out;have mN:=bH.out;obtain⟨⟨_,_,_,_,_,_⟩,_,_,_,_,_,_⟩:=z6 b4))
      generalize jy:((((((mA.setCell ⟨b3,0,none⟩ (.int .i64 ((af ag b1).f0))).setCell ⟨b3,1,none⟩ (.int .i64 ((af ag b1).f1))).setCell ⟨b3,2,none⟩ (.int .i64 ((af ag b1).f2))).setCell ⟨b3,3,none⟩ (.slice b7 ((af ag b1).f3).length b8)).setCell ⟨b3,4,none⟩ (.slice b9 ((af ag b1).f4).length bB)).setCell ⟨b3,5,none⟩ (.slice bC ((af ag b1).f5).length bD))=w52;replace b2:=w_ jy b2;replace b4:=xa #[.int .i64 ((af ag b1).f0),.int .i64 ((af ag b1).f1),.int .i64 ((af ag b1).f2),.slice b7 ((af ag b1).f3).length b8,.slice b9 ((af ag b1).f4).length bB,.slice bC ((af ag b1).f5).length bD] jy b4;replace HB:=xb jy HB;clear jy;replace b2:=am (ar b2.out);replace b4:=am (ar b4.out);replace HB:=am (au HB.out);refine mb 26 (fun w'=>w'.cell? ⟨b3,0,none⟩=some (.int .i64 ((af ag b1).f0))∧w'.cell? ⟨b3,1,none⟩=some (.int .i64 ((af ag b1).f1))∧w'.cell? ⟨b3,2,none⟩=some (.int .i64 ((af ag b1).f2))∧w'.cell? ⟨b3,3,none⟩=some (.slice b7 ((af ag b1).f3).length b8)∧w'.cell? ⟨b3,4,none⟩=some (.slice b9 ((af ag b1).f4).length bB)∧w'.cell? ⟨b3,5,none⟩=some (.slice bC ((af ag b1).f5).length bD)) bs.qL bs.nG oH (fun hHeld av eH=> ?_);generalize w52.drew=zD at b2 b4 HB hHeld⊢;refine fO 0 28 av eH hHeld ?_;refine kQ 1 29 av (fun K hK=> ?_);refine l_ 29 func116 (cL.calls k2 ((af ag b1).f0) ((af ag b1).f1) ((af ag b1).f2) _ _ ((af ag b1).f3) _ _ ((af ag b1).f4) _ _ ((af ag b1).f5) false _ (kC bN) bM.out (kC bP) bO.out (kC bR) bQ.out gK.out) ?_;rintro e zE ⟨rfl,hb⟩;refine⟨_,rfl,?_⟩;replace b2:=aQ b2 hb;replace b4:=aQ b4 hb;replace HB:=hB HB hb;refine eP hK 29 oH (fun hHeld=> ?_);clear hK K;refine bx 2 30 av ?_;refine bx 3 31 av ?_;refine fF 4 32 av ?_;refine fF 5 33 av ?_;refine fF 6 34 av ?_;refine fF 7 35 av ?_;refine fF 8 36 av ?_;refine bx 9 37 av ?_;refine bx 10 38 av ?_;refine fF 11 39 av ?_;refine fF 12 40 av ?_;refine fF 13 41 av ?_;refine fF 14 42 av ?_;refine fF 15 43 av ?_;refine fF 16 44 av ?_;refine fF 17 45 av ?_;refine fF 18 46 av ?_;refine fF 19 47 av ?_;refine fF 20 48 av ?_;refine fF 21 49 av ?_;refine fF 22 50 av ?_;refine fF 23 51 av ?_;refine fF 24 52 av ?_;refine bx 25 53 av ?_;refine lZ av ?_
      try go_wp2
      go_ret
      exact⟨oE,oB⟩
     replace H:=itH H;rcases H with⟨jQ,H⟩|⟨jQ,H⟩
     ·obtain rfl:=Option.some.inj H;obtain⟨⟨_,_⟩,_,_⟩:=z2 b2;have gM:(0≤(b1:Int))=True:=oT;have gN:(b1<(ag.length:Int))=True:=oT;obtain⟨b6,b7,b8,b9,bB,bC,bD,dJ,dK,dL,dM,dN,dO,dP,bM,bN,bO,bP,bQ,bR⟩:=fw bY HB b1 oa oa
      cases dJ
      try go_wp2_with (first|((with_reducible refine ai (N:=4) rfl ?_);refine eh 4 #[.int .i64 0,.int .i64 0,.int .i64 0,.slice none 0 0,.slice none 0 0,.slice none 0 0] 58 ?_;intro b3 hg mB hbox hb;have b4:=am (hbox);have dW:=eg hg;have bH:=eY hg b2;have bI:=eZ hg b2;replace b2:=aQ b2 hb;replace HB:=hB HB hb;clear hb hbox hg;have mO:=bI.out;have mP:=bH.out;obtain⟨⟨_,_,_,_,_,_⟩,_,_,_,_,_,_⟩:=z6 b4))
      generalize jy:((((((mB.setCell ⟨b3,0,none⟩ (.int .i64 ((af ag b1).f0))).setCell ⟨b3,1,none⟩ (.int .i64 ((af ag b1).f1))).setCell ⟨b3,2,none⟩ (.int .i64 ((af ag b1).f2))).setCell ⟨b3,3,none⟩ (.slice b7 ((af ag b1).f3).length b8)).setCell ⟨b3,4,none⟩ (.slice b9 ((af ag b1).f4).length bB)).setCell ⟨b3,5,none⟩ (.slice bC ((af ag b1).f5).length bD))=w19;replace b2:=w_ jy b2;replace b4:=xa #[.int .i64 ((af ag b1).f0),.int .i64 ((af ag b1).f1),.int .i64 ((af ag b1).f2),.slice b7 ((af ag b1).f3).length b8,.slice b9 ((af ag b1).f4).length bB,.slice bC ((af ag b1).f5).length bD] jy b4;replace HB:=xb jy HB;clear jy;replace b2:=am (ar b2.out);replace b4:=am (ar b4.out);replace HB:=am (au HB.out);refine mb 26 (fun w'=>w'.cell? ⟨b3,0,none⟩=some (.int .i64 ((af ag b1).f0))∧w'.cell? ⟨b3,1,none⟩=some (.int .i64 ((af ag b1).f1))∧w'.cell? ⟨b3,2,none⟩=some (.int .i64 ((af ag b1).f2))∧w'.cell? ⟨b3,3,none⟩=some (.slice b7 ((af ag b1).f3).length b8)∧w'.cell? ⟨b3,4,none⟩=some (.slice b9 ((af ag b1).f4).length bB)∧w'.cell? ⟨b3,5,none⟩=some (.slice bC ((af ag b1).f5).length bD)∧w'.cell? ⟨bZ,0,none⟩=some (.slice (some b6) ag.length bg)∧w'.cell? ⟨bZ,1,none⟩=some (.int .i64 aj)) bs.qL bs.nG oH (fun hHeld av eH=> ?_);generalize w19.drew=zF at b2 b4 HB hHeld⊢;refine fO 0 28 av eH hHeld ?_;refine kQ 1 29 av (fun K hK=> ?_);refine l_ 29 func116 (cL.calls k2 ((af ag b1).f0) ((af ag b1).f1) ((af ag b1).f2) _ _ ((af ag b1).f3) _ _ ((af ag b1).f4) _ _ ((af ag b1).f5) true _ (kC bN) bM.out (kC bP) bO.out (kC bR) bQ.out gK.out) ?_;rintro e zG ⟨rfl,hb⟩;refine⟨_,rfl,?_⟩;replace b2:=aQ b2 hb;replace b4:=aQ b4 hb;replace HB:=hB HB hb;refine eP hK 29 oH (fun hHeld=> ?_);clear hK K;refine bx 2 30 av ?_;refine bx 3 31 av ?_;refine bx 4 32 av ?_;refine bx 6 34 av ?_;refine fO 5 33 av eH hHeld ?_;refine fO 7 35 av eH hHeld ?_;refine bx 8 36 av ?_;refine bx 9 37 av ?_;refine bx 10 38 av ?_;refine fF 11 39 av ?_;refine fF 12 40 av ?_;refine fF 13 41 av ?_;refine fF 14 42 av ?_;refine fF 15 43 av ?_;refine fF 16 44 av ?_;refine fF 17 45 av ?_;refine fF 18 46 av ?_;refine fF 19 47 av ?_;refine fF 20 48 av ?_;refine fF 21 49 av ?_;refine fF 22 50 av ?_;refine fF 23 51 av ?_;refine fF 24 52 av ?_;refine bx 25 53 av ?_;refine lZ av ?_
      try go_wp2
      go_ret
      exact⟨oE,oB⟩
     replace H:=yJ H;rcases H with⟨jR,H⟩|⟨jR,H⟩;rotate_left
     ·have H':=ae.mk H;clear H;obtain⟨⟨_,_⟩,_,_⟩:=z2 b2;have gM:(0≤(b1:Int))=True:=oT;have gN:(b1<(ag.length:Int))=True:=oT;obtain⟨b6,b7,b8,b9,bB,bC,bD,dJ,dK,dL,dM,dN,dO,dP,bM,bN,bO,bP,bQ,bR⟩:=fw bY HB b1 oa oa
      cases dJ
      try go_wp2_with (first|((with_reducible refine ai (N:=4) rfl ?_);refine eh 4 #[.int .i64 0,.int .i64 0,.int .i64 0,.slice none 0 0,.slice none 0 0,.slice none 0 0] 58 ?_;intro b3 hg mC hbox hb;have b4:=am (hbox);have dW:=eg hg;have bH:=eY hg b2;have bI:=eZ hg b2;replace b2:=aQ b2 hb;replace HB:=hB HB hb;clear hb hbox hg;have mQ:=bI.out;have mS:=bH.out;obtain⟨⟨_,_,_,_,_,_⟩,_,_,_,_,_,_⟩:=z6 b4))
      generalize jy:((((((mC.setCell ⟨b3,0,none⟩ (.int .i64 ((af ag b1).f0))).setCell ⟨b3,1,none⟩ (.int .i64 ((af ag b1).f1))).setCell ⟨b3,2,none⟩ (.int .i64 ((af ag b1).f2))).setCell ⟨b3,3,none⟩ (.slice b7 ((af ag b1).f3).length b8)).setCell ⟨b3,4,none⟩ (.slice b9 ((af ag b1).f4).length bB)).setCell ⟨b3,5,none⟩ (.slice bC ((af ag b1).f5).length bD))=w45;replace b2:=w_ jy b2;replace b4:=xa #[.int .i64 ((af ag b1).f0),.int .i64 ((af ag b1).f1),.int .i64 ((af ag b1).f2),.slice b7 ((af ag b1).f3).length b8,.slice b9 ((af ag b1).f4).length bB,.slice bC ((af ag b1).f5).length bD] jy b4;replace HB:=xb jy HB;clear jy;replace b2:=am (ar b2.out);replace b4:=am (ar b4.out);replace HB:=am (au HB.out);refine mb 26 (fun w'=>w'.cell? ⟨b3,0,none⟩=some (.int .i64 ((af ag b1).f0))∧w'.cell? ⟨b3,1,none⟩=some (.int .i64 ((af ag b1).f1))∧w'.cell? ⟨b3,2,none⟩=some (.int .i64 ((af ag b1).f2))∧w'.cell? ⟨b3,3,none⟩=some (.slice b7 ((af ag b1).f3).length b8)∧w'.cell? ⟨b3,4,none⟩=some (.slice b9 ((af ag b1).f4).length bB)∧w'.cell? ⟨b3,5,none⟩=some (.slice bC ((af ag b1).f5).length bD)∧w'.cell? ⟨bZ,0,none⟩=some (.slice (some b6) ag.length bg)∧w'.cell? ⟨bZ,1,none⟩=some (.int .i64 aj)) bs.qL bs.nG oH (fun hHeld av eH=> ?_);generalize w45.drew=zH at b2 b4 HB hHeld⊢;refine fO 0 28 av eH hHeld ?_;refine kQ 1 29 av (fun K hK=> ?_);refine l_ 29 func116 (cL.calls k2 ((af ag b1).f0) ((af ag b1).f1) ((af ag b1).f2) _ _ ((af ag b1).f3) _ _ ((af ag b1).f4) _ _ ((af ag b1).f5) true _ (kC bN) bM.out (kC bP) bO.out (kC bR) bQ.out gK.out) ?_;rintro e zI ⟨rfl,hb⟩;refine⟨_,rfl,?_⟩;replace b2:=aQ b2 hb;replace b4:=aQ b4 hb;replace HB:=hB HB hb;refine eP hK 29 oH (fun hHeld=> ?_);clear hK K;refine bx 2 30 av ?_;refine bx 3 31 av ?_;refine bx 4 32 av ?_;refine bx 6 34 av ?_;refine fO 5 33 av eH hHeld ?_;refine fO 7 35 av eH hHeld ?_;refine bx 8 36 av ?_;refine bx 9 37 av ?_;refine bx 10 38 av ?_;refine bx 11 39 av ?_;refine bx 12 40 av ?_;refine bx 13 41 av ?_;refine fF 14 42 av ?_;refine fF 15 43 av ?_;refine fF 16 44 av ?_;refine fF 17 45 av ?_;refine fF 18 46 av ?_;refine fF 19 47 av ?_;refine fF 20 48 av ?_;refine fF 21 49 av ?_;refine fF 22 50 av ?_;refine fF 23 51 av ?_;refine bx 24 52 av ?_;refine bx 25 53 av ?_;refine lZ av ?_
      try go_wp2
      go_roundg k2
      case measure=>have:=gT.out;have:=gU.out;omega
      case rel=>exact⟨(wrap64 (b1+1)),oS,H',⟨by have:=gT.out;have:=gU.out;omega⟩,⟨oF b2⟩,⟨oB⟩⟩
     obtain⟨b5,dS⟩:∃j_:Int,(wrap64 (b1-1))=j_:=⟨_,rfl⟩
     replace H:(if 0≤(b5)then(if(b5)<(ag.length:Int)then(if((af ag (b5)).f0)≥((af ag b1).f0)then(some false)else(bs.l0 k2 (wrap64 (b1+1)) ag aj))else(none))else(none))=some r:=by first|(rw[dS]at H;exact H)|(simp only[dS]at H⊢;exact H)
     (try rw[dS]at gK)
     have mD:(IntKind.i64.wrap (b1-1))=b5:=(kR _).trans dS;obtain⟨mT,H⟩:=cO H;obtain⟨mU,H⟩:=cO H;replace H:=itH H;rcases H with⟨jS,H⟩|⟨jS,H⟩;rotate_left
     ·have H':=ae.mk H;clear H;obtain⟨⟨_,_⟩,_,_⟩:=z2 b2;have gM:(0≤(b1:Int))=True:=oT;have gN:(b1<(ag.length:Int))=True:=oT;obtain⟨b6,b7,b8,b9,bB,bC,bD,dJ,dK,dL,dM,dN,dO,dP,bM,bN,bO,bP,bQ,bR⟩:=fw bY HB b1 oa oa
      cases dJ
      try go_wp2_with (first|((with_reducible refine ai (N:=4) rfl ?_);refine eh 4 #[.int .i64 0,.int .i64 0,.int .i64 0,.slice none 0 0,.slice none 0 0,.slice none 0 0] 58 ?_;intro b3 hg mE hbox hb;have b4:=am (hbox);have dW:=eg hg;have bH:=eY hg b2;have bI:=eZ hg b2;replace b2:=aQ b2 hb;replace HB:=hB HB hb;clear hb hbox hg;have mV:=bI.out;have mW:=bH.out;obtain⟨⟨_,_,_,_,_,_⟩,_,_,_,_,_,_⟩:=z6 b4))
      generalize jy:((((((mE.setCell ⟨b3,0,none⟩ (.int .i64 ((af ag b1).f0))).setCell ⟨b3,1,none⟩ (.int .i64 ((af ag b1).f1))).setCell ⟨b3,2,none⟩ (.int .i64 ((af ag b1).f2))).setCell ⟨b3,3,none⟩ (.slice b7 ((af ag b1).f3).length b8)).setCell ⟨b3,4,none⟩ (.slice b9 ((af ag b1).f4).length bB)).setCell ⟨b3,5,none⟩ (.slice bC ((af ag b1).f5).length bD))=w38;replace b2:=w_ jy b2;replace b4:=xa #[.int .i64 ((af ag b1).f0),.int .i64 ((af ag b1).f1),.int .i64 ((af ag b1).f2),.slice b7 ((af ag b1).f3).length b8,.slice b9 ((af ag b1).f4).length bB,.slice bC ((af ag b1).f5).length bD] jy b4;replace HB:=xb jy HB;clear jy;replace b2:=am (ar b2.out);replace b4:=am (ar b4.out);replace HB:=am (au HB.out);have jU:(0≤((b5):Int))=True:=oT;have jV:((b5)<(ag.length:Int))=True:=oT;obtain⟨gO,dY,dZ,gA,gB,gC,gD,gS,bS,bT,bU,bV,bW,bX,dD,dE,dF,dG,dH,dI⟩:=fI bY.out (b5) oa oa;have j4:=bX;have j5:=bW;have j6:=bV;have j7:=bU;have j8:=bT;have j9:=bS;obtain rfl:b6=gO:=(by injection gS);replace bS:=cB HB bS;replace bT:=cB HB bT;replace bU:=cB HB bU;replace bV:=cB HB bV;replace bW:=cB HB bW;replace bX:=cB HB bX;have dT:=ae.mk dE;have jA:=ae.mk dD;clear dE dD;have dU:=ae.mk dG;have jB:=ae.mk dF;clear dG dF;have dV:=ae.mk dI;have jC:=ae.mk dH;clear dI dH;refine mb 26 (fun w'=>w'.cell? ⟨b3,0,none⟩=some (.int .i64 ((af ag b1).f0))∧w'.cell? ⟨b3,1,none⟩=some (.int .i64 ((af ag b1).f1))∧w'.cell? ⟨b3,2,none⟩=some (.int .i64 ((af ag b1).f2))∧w'.cell? ⟨b3,3,none⟩=some (.slice b7 ((af ag b1).f3).length b8)∧w'.cell? ⟨b3,4,none⟩=some (.slice b9 ((af ag b1).f4).length bB)∧w'.cell? ⟨b3,5,none⟩=some (.slice bC ((af ag b1).f5).length bD)∧w'.cell? ⟨bZ,0,none⟩=some (.slice (some b6) ag.length bg)∧w'.cell? ⟨bZ,1,none⟩=some (.int .i64 aj)∧w'.cell? (b6.add (((b5)).toNat*6))=some (.int .i64 ((af ag (b5)).f0))∧w'.cell? ⟨(b6.add (((b5)).toNat*6)).block,(b6.add (((b5)).toNat*6)).off+1,none⟩=some (.int .i64 ((af ag (b5)).f1))∧w'.cell? ⟨(b6.add (((b5)).toNat*6)).block,(b6.add (((b5)).toNat*6)).off+2,none⟩=some (.int .i64 ((af ag (b5)).f2))∧w'.cell? ⟨(b6.add (((b5)).toNat*6)).block,(b6.add (((b5)).toNat*6)).off+3,none⟩=some (.slice dY ((af ag (b5)).f3).length dZ)∧w'.cell? ⟨(b6.add (((b5)).toNat*6)).block,(b6.add (((b5)).toNat*6)).off+4,none⟩=some (.slice gA ((af ag (b5)).f4).length gB)∧w'.cell? ⟨(b6.add (((b5)).toNat*6)).block,(b6.add (((b5)).toNat*6)).off+5,none⟩=some (.slice gC ((af ag (b5)).f5).length gD)) bs.qL bs.nG oH (fun hHeld av eH=> ?_);generalize w38.drew=zJ at b2 b4 HB dT dU dV bS bT bU bV bW bX hHeld⊢;refine fO 0 28 av eH hHeld ?_;refine kQ 1 29 av (fun K hK=> ?_);refine l_ 29 func116 (cL.calls k2 ((af ag b1).f0) ((af ag b1).f1) ((af ag b1).f2) _ _ ((af ag b1).f3) _ _ ((af ag b1).f4) _ _ ((af ag b1).f5) true _ (kC bN) bM.out (kC bP) bO.out (kC bR) bQ.out gK.out) ?_;rintro e zK ⟨rfl,hb⟩;refine⟨_,rfl,?_⟩;replace b2:=aQ b2 hb;replace b4:=aQ b4 hb;replace HB:=hB HB hb;refine eP hK 29 oH (fun hHeld=> ?_);clear hK K;refine bx 2 30 av ?_;refine bx 3 31 av ?_;refine bx 4 32 av ?_;refine bx 6 34 av ?_;refine fO 5 33 av eH hHeld ?_;refine fO 7 35 av eH hHeld ?_;refine bx 8 36 av ?_;refine bx 9 37 av ?_;refine bx 10 38 av ?_;refine bx 11 39 av ?_;refine bx 12 40 av ?_;refine bx 13 41 av ?_;refine bx 14 42 av ?_;refine bx 16 44 av ?_;refine bx 17 45 av ?_;refine bx 21 49 av ?_;refine fO 15 43 av eH hHeld ?_;refine bx 18 46 av ?_;refine bx 19 47 av ?_;refine fO 20 48 av eH hHeld ?_;refine fO 22 50 av eH hHeld ?_;refine bx 23 51 av ?_;refine bx 24 52 av ?_;refine bx 25 53 av ?_;refine lZ av ?_
      try go_wp2
      go_roundg k2
      case measure=>have:=gT.out;have:=gU.out;omega
      case rel=>exact⟨(wrap64 (b1+1)),oS,H',⟨by have:=gT.out;have:=gU.out;omega⟩,⟨oF b2⟩,⟨oB⟩⟩
     obtain rfl:=Option.some.inj H;obtain⟨⟨_,_⟩,_,_⟩:=z2 b2;have gM:(0≤(b1:Int))=True:=oT;have gN:(b1<(ag.length:Int))=True:=oT;obtain⟨b6,b7,b8,b9,bB,bC,bD,dJ,dK,dL,dM,dN,dO,dP,bM,bN,bO,bP,bQ,bR⟩:=fw bY HB b1 oa oa
     cases dJ
     try go_wp2_with (first|((with_reducible refine ai (N:=4) rfl ?_);refine eh 4 #[.int .i64 0,.int .i64 0,.int .i64 0,.slice none 0 0,.slice none 0 0,.slice none 0 0] 58 ?_;intro b3 hg mF hbox hb;have b4:=am (hbox);have dW:=eg hg;have bH:=eY hg b2;have bI:=eZ hg b2;replace b2:=aQ b2 hb;replace HB:=hB HB hb;clear hb hbox hg;have mX:=bI.out;have mY:=bH.out;obtain⟨⟨_,_,_,_,_,_⟩,_,_,_,_,_,_⟩:=z6 b4))
     generalize jy:((((((mF.setCell ⟨b3,0,none⟩ (.int .i64 ((af ag b1).f0))).setCell ⟨b3,1,none⟩ (.int .i64 ((af ag b1).f1))).setCell ⟨b3,2,none⟩ (.int .i64 ((af ag b1).f2))).setCell ⟨b3,3,none⟩ (.slice b7 ((af ag b1).f3).length b8)).setCell ⟨b3,4,none⟩ (.slice b9 ((af ag b1).f4).length bB)).setCell ⟨b3,5,none⟩ (.slice bC ((af ag b1).f5).length bD))=w31;replace b2:=w_ jy b2;replace b4:=xa #[.int .i64 ((af ag b1).f0),.int .i64 ((af ag b1).f1),.int .i64 ((af ag b1).f2),.slice b7 ((af ag b1).f3).length b8,.slice b9 ((af ag b1).f4).length bB,.slice bC ((af ag b1).f5).length bD] jy b4;replace HB:=xb jy HB;clear jy;replace b2:=am (ar b2.out);replace b4:=am (ar b4.out);replace HB:=am (au HB.out);have jU:(0≤((b5):Int))=True:=oT;have jV:((b5)<(ag.length:Int))=True:=oT;obtain⟨gO,dY,dZ,gA,gB,gC,gD,gS,bS,bT,bU,bV,bW,bX,dD,dE,dF,dG,dH,dI⟩:=fI bY.out (b5) oa oa;have j4:=bX;have j5:=bW;have j6:=bV;have j7:=bU;have j8:=bT;have j9:=bS;obtain rfl:b6=gO:=(by injection gS);replace bS:=cB HB bS;replace bT:=cB HB bT;replace bU:=cB HB bU;replace bV:=cB HB bV;replace bW:=cB HB bW;replace bX:=cB HB bX;have dT:=ae.mk dE;have jA:=ae.mk dD;clear dE dD;have dU:=ae.mk dG;have jB:=ae.mk dF;clear dG dF;have dV:=ae.mk dI;have jC:=ae.mk dH;clear dI dH;refine mb 26 (fun w'=>w'.cell? ⟨b3,0,none⟩=some (.int .i64 ((af ag b1).f0))∧w'.cell? ⟨b3,1,none⟩=some (.int .i64 ((af ag b1).f1))∧w'.cell? ⟨b3,2,none⟩=some (.int .i64 ((af ag b1).f2))∧w'.cell? ⟨b3,3,none⟩=some (.slice b7 ((af ag b1).f3).length b8)∧w'.cell? ⟨b3,4,none⟩=some (.slice b9 ((af ag b1).f4).length bB)∧w'.cell? ⟨b3,5,none⟩=some (.slice bC ((af ag b1).f5).length bD)∧w'.cell? ⟨bZ,0,none⟩=some (.slice (some b6) ag.length bg)∧w'.cell? ⟨bZ,1,none⟩=some (.int .i64 aj)∧w'.cell? (b6.add (((b5)).toNat*6))=some (.int .i64 ((af ag (b5)).f0))∧w'.cell? ⟨(b6.add (((b5)).toNat*6)).block,(b6.add (((b5)).toNat*6)).off+1,none⟩=some (.int .i64 ((af ag (b5)).f1))∧w'.cell? ⟨(b6.add (((b5)).toNat*6)).block,(b6.add (((b5)).toNat*6)).off+2,none⟩=some (.int .i64 ((af ag (b5)).f2))∧w'.cell? ⟨(b6.add (((b5)).toNat*6)).block,(b6.add (((b5)).toNat*6)).off+3,none⟩=some (.slice dY ((af ag (b5)).f3).length dZ)∧w'.cell? ⟨(b6.add (((b5)).toNat*6)).block,(b6.add (((b5)).toNat*6)).off+4,none⟩=some (.slice gA ((af ag (b5)).f4).length gB)∧w'.cell? ⟨(b6.add (((b5)).toNat*6)).block,(b6.add (((b5)).toNat*6)).off+5,none⟩=some (.slice gC ((af ag (b5)).f5).length gD)) bs.qL bs.nG oH (fun hHeld av eH=> ?_);generalize w31.drew=zL at b2 b4 HB dT dU dV bS bT bU bV bW bX hHeld⊢;refine fO 0 28 av eH hHeld ?_;refine kQ 1 29 av (fun K hK=> ?_);refine l_ 29 func116 (cL.calls k2 ((af ag b1).f0) ((af ag b1).f1) ((af ag b1).f2) _ _ ((af ag b1).f3) _ _ ((af ag b1).f4) _ _ ((af ag b1).f5) true _ (kC bN) bM.out (kC bP) bO.out (kC bR) bQ.out gK.out) ?_;rintro e zM ⟨rfl,hb⟩;refine⟨_,rfl,?_⟩;replace b2:=aQ b2 hb;replace b4:=aQ b4 hb;replace HB:=hB HB hb;refine eP hK 29 oH (fun hHeld=> ?_);clear hK K;refine bx 2 30 av ?_;refine bx 3 31 av ?_;refine bx 4 32 av ?_;refine bx 6 34 av ?_;refine fO 5 33 av eH hHeld ?_;refine fO 7 35 av eH hHeld ?_;refine bx 8 36 av ?_;refine bx 9 37 av ?_;refine bx 10 38 av ?_;refine bx 11 39 av ?_;refine bx 12 40 av ?_;refine bx 13 41 av ?_;refine bx 14 42 av ?_;refine bx 16 44 av ?_;refine bx 17 45 av ?_;refine bx 21 49 av ?_;refine fO 15 43 av eH hHeld ?_;refine bx 18 46 av ?_;refine bx 19 47 av ?_;refine fO 20 48 av eH hHeld ?_;refine fO 22 50 av eH hHeld ?_;refine bx 23 51 av ?_;refine bx 24 52 av ?_;refine bx 25 53 av ?_;refine lZ av ?_
     try go_wp2
     go_ret
     exact⟨by first|rfl|(simp[eQ,eR]<;>rfl)|(simp only[←dS];first|rfl|(simp[eQ,eR]<;>rfl))|(simp[*,eQ,eR]<;>rfl),oB⟩
end Go.Proofs.YtlecajlnjmbilaaGreatDoor.P
