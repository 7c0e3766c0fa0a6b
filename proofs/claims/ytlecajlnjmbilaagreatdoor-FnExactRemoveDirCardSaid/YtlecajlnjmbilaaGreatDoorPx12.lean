-- Printed walks.
import Derived.Test.YtlecajlnjmbilaaGreatDoorPx7
import Derived.Test.YtlecajlnjmbilaaGreatDoorPx8
import Derived.Test.YtlecajlnjmbilaaGreatDoorPx9
set_option linter.all false
set_option maxHeartbeats 8000000
set_option maxRecDepth 100000
namespace Go.Proofs.YtlecajlnjmbilaaGreatDoor.P
open Go.RowKit Go.Proofs.ab.ao Go.Proofs.ab.aE Go.Proofs.ab.aI
attribute [local go_sem] fV fW im iq fh fi fX fY

def df.l0:Nat→List (nq)→Int→Int→Option (Int)
 |0,_,_,_=>none
 |k+1,x0,x1,x5=>if x5<(x0.length:Int)then(if 0≤x5 then((iP.f k ((cG x0 x5).f0) ((cG x0 x5).f1) ((cG x0 x5).f2) ((cG x0 x5).f3) ((cG x0 x5).f4) ((cG x0 x5).f5) x1).bind fun b1=>(if b1<0 then(some (-1))else(df.l0 k x0 b1 (wrap64 (x5+1)))))else(none))else(some x1)
def df.f (k:Nat) (l0:List (nq)) (a1:Int):Option (Int):=if(wrap64 (a1-(l0.length:Int)))<0 then(some (-1))else(df.l0 k l0 (wrap64 (a1-(l0.length:Int))) 0)
theorem df.calls (k:Nat) (A0:Option Addr) (c0:Nat) (l0:List (nq)) (a1:Int) (r:Int) (w:World) (hr0:Kd.C k92 w A0 l0.length l0) (hc0:l0.length≤c0) (h:df.f k l0 a1=some r):
  Calls Tryz.prog 32 #[.slice A0 l0.length c0,.int .i64 a1] w fun e w'=>e= .returned (.int .i64 r)∧Below w.heap.size w w':=by
 have bW:=Tryz.underlying92;have bQ:=ae.mk hr0;have bY:=ae.mk hc0;clear hr0 hc0;have HB:=am (Below.refl w.heap.size w);unfold df.f at h;have H:=h;clear h;replace H:=jd H;rcases H with⟨bI,H⟩|⟨bI,H⟩
 ·obtain rfl:=Option.some.inj H
  go_enter Tryz.func32,Tryz.ntmps32
  go_wp2
  go_ret
  exact⟨oE,oB⟩
 have H':=ae.mk H;clear H
 go_enter Tryz.func32,Tryz.ntmps32
 go_wp2
 go_loopg [1,5] k (fun kq v1 v5 w'=>∃(b8:Int) (b1:Int),v1= .int .i64 b8∧v5= .int .i64 b1∧ae (df.l0 kq l0 b8 b1=some r)∧ae (kq≤k)∧ae (Below w.heap.size w w'))
 case atStart=>exact⟨(wrap64 (a1-(l0.length:Int))),(0),oS,oS,H',⟨Nat.le_refl _⟩,⟨oB⟩⟩
 case round=>
  clear H'
  try clear bI
  obtain⟨b8,b1,rfl,rfl,HA,bR,HB⟩:=hrel
  cases gk with
  |zero=>exact absurd HA.out (by simp[df.l0])
  |succ k1=>
   have H:=HA.out;clear HA;simp only[df.l0]at H;replace H:=jd H;rcases H with⟨bS,H⟩|⟨bS,H⟩;rotate_left
   ·obtain rfl:=Option.some.inj H
    go_wp2
    go_ret
    exact⟨oE,oB⟩
   obtain⟨bX,H⟩:=cX H;replace H:=bA H;obtain⟨b9,A6,H⟩:=H
   try dsimp only at H
   replace H:=jd H;rcases H with⟨bT,H⟩|⟨bT,H⟩
   ·obtain rfl:=Option.some.inj H;have bU:(0≤(b1:Int))=True:=oT;have bV:(b1<(l0.length:Int))=True:=oT;obtain⟨bP,bJ,bK,bL,bM,bN,bO,bB,bC,bD,bE,bF,bG,bH,b2,b3,b4,b5,b6,b7⟩:=v_ bQ HB b1 oa oa
    cases bB
    go_wp2_with (first|((with_reducible refine ai (f:=70) rfl ?_);refine eL 23 Tryz.func70 (iP.calls k1 ((cG l0 b1).f0) ((cG l0 b1).f1) ((cG l0 b1).f2) _ _ ((cG l0 b1).f3) _ _ ((cG l0 b1).f4) _ _ ((cG l0 b1).f5) b8 b9 _ (kC b3) b2.out (kC b5) b4.out (kC b7) b6.out A6.out) ?_;rintro e w8 ⟨rfl,hb⟩;refine⟨_,rfl,?_⟩;replace HB:=hB HB hb))
    go_ret
    exact⟨oE,oB⟩
   have H':=ae.mk H;clear H;have bU:(0≤(b1:Int))=True:=oT;have bV:(b1<(l0.length:Int))=True:=oT;obtain⟨bP,bJ,bK,bL,bM,bN,bO,bB,bC,bD,bE,bF,bG,bH,b2,b3,b4,b5,b6,b7⟩:=v_ bQ HB b1 oa oa
   cases bB
   go_wp2_with (first|((with_reducible refine ai (f:=70) rfl ?_);refine eL 23 Tryz.func70 (iP.calls k1 ((cG l0 b1).f0) ((cG l0 b1).f1) ((cG l0 b1).f2) _ _ ((cG l0 b1).f3) _ _ ((cG l0 b1).f4) _ _ ((cG l0 b1).f5) b8 b9 _ (kC b3) b2.out (kC b5) b4.out (kC b7) b6.out A6.out) ?_;rintro e w9 ⟨rfl,hb⟩;refine⟨_,rfl,?_⟩;replace HB:=hB HB hb))
   go_roundg k1
   case measure=>have:=bR.out;omega
   case rel=>exact⟨(b9),(wrap64 (b1+1)),oS,oS,H',⟨by have:=bR.out;omega⟩,⟨oB⟩⟩

def dg.l0:Nat→List (nq)→List (aZ)→Int→Option ((List (aZ)))
 |0,_,_,_=>none
 |k+1,x0,x3,x4=>if x4<(x0.length:Int)then(if 0≤x4 then((jq.f k ((cG x0 x4).f0) ((cG x0 x4).f1) ((cG x0 x4).f2) ((cG x0 x4).f3) ((cG x0 x4).f4) ((cG x0 x4).f5)).bind fun b1=>(if x4<(x3.length:Int)then(dg.l0 k x0 (x3.set (x4:Int).toNat (⟨b1.1,b1.2.1,b1.2.2.1,b1.2.2.2.1,b1.2.2.2.2.1,b1.2.2.2.2.2⟩:aZ)) (wrap64 (x4+1)))else(none)))else(none))else(some x3)
def dg.f (k:Nat) (l0:List (nq)):Option ((List (aZ))):=if 0≤(l0.length:Int)then(if((l0.length:Int):Int).toNat≤2932031007402 then(dg.l0 k l0 (List.replicate ((l0.length:Int):Int).toNat z58) 0)else(none))else(none)
theorem dg.calls (k:Nat) (A0:Option Addr) (c0:Nat) (l0:List (nq)) (r:List (aZ)) (w:World) (hr0:Kd.C k92 w A0 l0.length l0) (hc0:l0.length≤c0) (h:dg.f k l0=some r):
  Calls Tryz.prog 34 #[.slice A0 l0.length c0] w fun e w'=>∃iY:Value,e= .returned (iY)∧Kd.S fv 58 w' w.heap.size (fun _=>True) iY r∧Below w.heap.size w w':=by
 have jJ:=Tryz.underlying92;have jK:=Tryz.underlying58;have gO:=ae.mk hr0;have jV:=ae.mk hc0;clear hr0 hc0;have HB:=am (Below.refl w.heap.size w);unfold dg.f at h;have H:=h;clear h;obtain⟨c2,H⟩:=lp H;have dY:=eq_true c2;have dZ:decide (0≤(l0.length:Int))=true:=decide_eq_true c2;clear c2;obtain⟨c3,H⟩:=lp H;have jL:=eq_true c3;have jM:decide (((l0.length:Int):Int).toNat≤2932031007402)=true:=decide_eq_true c3;clear c3;obtain⟨bY,dj⟩:∃y_:List (aZ),y_=(List.replicate ((l0.length:Int):Int).toNat z58):=⟨_,rfl⟩;replace H:(dg.l0 k l0 bY 0)=some r:=oY;have bR:=ae.mk dj;clear dj;have H':=ae.mk H;clear H
 go_enter Tryz.func34,Tryz.ntmps34
 go_wp2_with (first|((with_reducible refine aj (N:=7) rfl ?_);refine Kd.adb fv _ 58 rfl (N:=7) rfl 26 _ _ rfl (l0.length:Int) rfl rfl Tryz.underlying26 (.agg #[(.int .i64 0),(.int .i64 0),(.int .i64 0),(.slice none 0 0),(.slice none 0 0),(.slice none 0 0)]) 96 kX rfl (by decide) (by omega) z58 (ok:=fun _=>True) (fU:=fun _=>True) (nz _ _ _ z58 (Kd.fD _ _ _ _ _) (Kd.fD _ _ _ _ _) (Kd.fD _ _ _ _ _)) (fun _ hk=>hk) trivial oa (Nat.le_trans (Nat.mul_le_mul_right _ (oa:(l0.length:Int).toNat≤2932031007402)) (by omega)) (Below.refl _ _) (Nat.le_refl _) ?_;intro gA w4 bO hb lv eG;clear lv eG;(first|rw[←bR.out]at bO|(simp only[Int.reduceToNat]at bO;rw[←bR.out]at bO));have dS:=am (Kd.ox bO (ah oB));replace HB:=hB HB hb;clear hb bO))
 go_loopg [4] k (fun kq v4 w'=>∃(b4:List (aZ)) (b1:Int),v4= .int .i64 b1∧ae (dg.l0 kq l0 b4 b1=some r)∧ae (kq≤k)∧ae (Kd.S fv 58 w' w.heap.size (fun _=>True) gA b4)∧ae (Below w.heap.size w w'))
 case atStart=>exact⟨(bY),(0),oS,H',⟨Nat.le_refl _⟩,⟨by(with_reducible repeat(first|apply Kd.eo|apply Kd.et|apply Kd.eI));exact dS.out⟩,⟨oB⟩⟩
 case round=>
  clear H'
  try clear c2
  try clear dY
  try clear dZ
  try clear c3
  obtain⟨b4,b1,rfl,HA,dW,b3,HB⟩:=hrel
  cases gk with
  |zero=>exact absurd HA.out (by simp[dg.l0])
  |succ k1=>
   have H:=HA.out;clear HA;simp only[dg.l0]at H;replace H:=jd H;rcases H with⟨gB,H⟩|⟨gB,H⟩;rotate_left
   ·obtain rfl:=Option.some.inj H
    go_wp2
    go_ret
    exact⟨_,oE,by(with_reducible repeat(first|apply Kd.eo|apply Kd.et|apply Kd.eI));exact b3.out,oB⟩
   obtain⟨jN,H⟩:=cX H;replace H:=bA H;obtain⟨⟨bB,bC,bD,bL,bM,bN⟩,A8,H⟩:=H
   try dsimp only at H
   obtain⟨jO,H⟩:=cX H;obtain⟨bP,dj⟩:∃y_:List (aZ),y_=(b4.set (b1:Int).toNat (⟨bB,bC,bD,bL,bM,bN⟩:aZ)):=⟨_,rfl⟩;replace H:(dg.l0 k1 l0 bP (wrap64 (b1+1)))=some r:=oY;have dT:=ae.mk dj;clear dj;have H':=ae.mk H;clear H;have jP:(0≤(b1:Int))=True:=oT;have jQ:(b1<(l0.length:Int))=True:=oT;obtain⟨jH,gP,gQ,gR,gS,gT,gU,gC,gF,gG,gH,gI,gJ,gK,bS,bT,bU,bV,bW,bX⟩:=v_ gO HB b1 oa oa
   cases gC
   go_wp2_with (first|((with_reducible refine ai (f:=71) rfl ?_);refine eL 20 Tryz.func71 (jq.calls k1 ((cG l0 b1).f0) ((cG l0 b1).f1) ((cG l0 b1).f2) _ _ ((cG l0 b1).f3) _ _ ((cG l0 b1).f4) _ _ ((cG l0 b1).f5) bB bC bD bL bM bN _ (kC bT) bS.out (kC bV) bU.out (kC bX) bW.out A8.out) ?_;rintro e b5 ⟨bI,bJ,bK,rfl,dX,bZ,d1,hb⟩;refine⟨_,rfl,?_⟩;have bF:=am (Kd.ar dX (ah oB));have bG:=am (Kd.ar bZ (ah oB));have bH:=am (Kd.ar d1 (ah oB));replace b3:=tv (uE b3 hb) (Kd.cM dX) (Kd.cM bZ) (Kd.cM d1);replace HB:=hB HB hb;(try clear hk);(try clear bZ);(try clear d1);have d2:0≤(b1:Int):=oa;have d3:(b1:Int)<((b4.length:Int):Int):=oa;obtain⟨b2,d4,d5,d6,gD,jR,d7⟩:=Kd.tM b3.out (by omega);(first|cases d5|(injection d5 with js oX oZ;(first|subst js|(injection js with js;subst js));subst oZ;clear oX));have bE:=ae.mk d6;have jS:=ae.mk d7;clear d6 gD d7;obtain⟨_,jT,dU,d8,b6,b7,_,_⟩:=Kd.wv b3.out z58 (b1:Int) d2 d3;obtain⟨d9,dA,dB,rfl,gV,gW,gX⟩:=oz d8;have gY:b5.cell? ⟨b2,(b1:Int).toNat*6,none⟩=some (.int .i64 ((af b4 b1).f0)):=b6 0 _ rfl;have gZ:b5.cell? ⟨b2,(b1:Int).toNat*6+1,none⟩=some (.int .i64 ((af b4 b1).f1)):=b6 1 _ rfl;have j1:b5.cell? ⟨b2,(b1:Int).toNat*6+2,none⟩=some (.int .i64 ((af b4 b1).f2)):=b6 2 _ rfl;have j2:b5.cell? ⟨b2,(b1:Int).toNat*6+3,none⟩=some (d9):=b6 3 _ rfl;have j3:b5.cell? ⟨b2,(b1:Int).toNat*6+4,none⟩=some (dA):=b6 4 _ rfl;have j4:b5.cell? ⟨b2,(b1:Int).toNat*6+5,none⟩=some (dB):=b6 5 _ rfl;have j5:b5.frozen? ⟨b2,(b1:Int).toNat*6,none⟩=false:=b7 0;have j6:b5.frozen? ⟨b2,(b1:Int).toNat*6+1,none⟩=false:=b7 1;have j7:b5.frozen? ⟨b2,(b1:Int).toNat*6+2,none⟩=false:=b7 2;have j8:b5.frozen? ⟨b2,(b1:Int).toNat*6+3,none⟩=false:=b7 3;have j9:b5.frozen? ⟨b2,(b1:Int).toNat*6+4,none⟩=false:=b7 4;have jA:b5.frozen? ⟨b2,(b1:Int).toNat*6+5,none⟩=false:=b7 5;clear dU b6 b7 d8;replace d2:=eq_true d2;replace d3:=eq_true d3;have n_:=am (Kd.eu (ok':=(fun k_=>some k_≠(bI:Value).ownBlock∧some k_≠(bJ:Value).ownBlock∧some k_≠(bK:Value).ownBlock)) b3.out (fun k_ hk=>⟨hk.1.1.2,⟨hk.1.2,hk.2⟩⟩));clear b3;have b3:=n_;clear n_;have gE:=am (show Kd.S fv 58 b5 w.heap.size (fun k_=>((fun _=>True)) k_∧¬((fun k_=>some k_=(bI:Value).ownBlock∨some k_=(bJ:Value).ownBlock∨some k_=(bK:Value).ownBlock)) k_) (.slice (some ⟨b2,0,none⟩) b4.length d4) b4 from(by(with_reducible repeat(first|apply Kd.eo|apply Kd.et|apply Kd.eI));exact Kd.eu b3.out (fun k_ hk=>⟨trivial,fun e_=>e_.elim (fun h_=>hk.1 h_) (fun h_=>h_.elim (fun h_=>hk.2.1 h_) (fun h_=>hk.2.2 h_))⟩)));obtain⟨jI,jU,dV,dC,b8,b9,dD,dE⟩:=Kd.wv gE.out z58 (b1:Int) oa (by have h_:(b1:Int)<((b4.length:Int):Int):=oa;first|exact h_|(have e_:=(Kd.ke b3.out).1;omega)|simpa using h_);obtain⟨jB,jC,jD,rfl,jE,jF,jG⟩:=oz dC;have bQ:=Kd.adU dE oa (by have h_:(b1:Int)<((b4.length:Int):Int):=oa;first|exact h_|(have e_:=(Kd.ke b3.out).1;omega)|simpa using h_) (seg:=[.int .i64 bB,.int .i64 bC,.int .i64 bD,bI,bJ,bK]) (j:=0) (show 6≤6 from by decide) (x':=(⟨bB,bC,bD,bL,bM,bN⟩:aZ)) (nz _ _ _ (⟨bB,bC,bD,bL,bM,bN⟩:aZ) (Kd.bf (Kd.iG rfl (Kd.bf (ok':=fun k_=>((fun _=>True)) k_∧k_≠b2) (Kd.ct (bF.out) (Kd.fx b3.out) (by decide)) (fun k_ hk=>⟨trivial,fun e_=>(hk.2) (by rw[e_];rfl)⟩))) (fun _ h_=>Or.inr (Or.inl h_))) (Kd.bf (Kd.iG rfl (Kd.bf (ok':=fun k_=>((fun _=>True)) k_∧k_≠b2) (Kd.ct (bG.out) (Kd.fx b3.out) (by decide)) (fun k_ hk=>⟨trivial,fun e_=>(hk.2) (by rw[e_];rfl)⟩))) (fun _ h_=>Or.inr (Or.inr (Or.inl h_)))) (Kd.bf (Kd.iG rfl (Kd.bf (ok':=fun k_=>((fun _=>True)) k_∧k_≠b2) (Kd.ct (bH.out) (Kd.fx b3.out) (by decide)) (fun k_ hk=>⟨trivial,fun e_=>(hk.2) (by rw[e_];rfl)⟩))) (fun _ h_=>Or.inr (Or.inr (Or.inr (h_)))))) (fun _ hk=>hk) (fun k_ eY=>eY.elim (fun h_=>((Kd.bf (ok':=fun k_=>((fun _=>True)) k_∧k_≠b2) (Kd.ct (bF.out) (Kd.fx b3.out) (by decide)) (fun k_ hk=>⟨trivial,fun e_=>(hk.2) (by rw[e_];rfl)⟩))).1 k_ h_.symm) (fun h_=>h_.elim (fun h_=>((Kd.bf (ok':=fun k_=>((fun _=>True)) k_∧k_≠b2) (Kd.ct (bG.out) (Kd.fx b3.out) (by decide)) (fun k_ hk=>⟨trivial,fun e_=>(hk.2) (by rw[e_];rfl)⟩))).1 k_ h_.symm) (fun h_=>((Kd.bf (ok':=fun k_=>((fun _=>True)) k_∧k_≠b2) (Kd.ct (bH.out) (Kd.fx b3.out) (by decide)) (fun k_ hk=>⟨trivial,fun e_=>(hk.2) (by rw[e_];rfl)⟩))).1 k_ h_.symm)));have dF:=b8 0 _ rfl;(try simp only[show(fv).sz=6 from rfl,Nat.mul_one,Nat.add_zero]at dF);have dG:=b9 0;(try simp only[show(fv).sz=6 from rfl,Nat.mul_one,Nat.add_zero]at dG);have dH:=b8 1 _ rfl;(try simp only[show(fv).sz=6 from rfl,Nat.mul_one,Nat.add_zero]at dH);have dI:=b9 1;(try simp only[show(fv).sz=6 from rfl,Nat.mul_one,Nat.add_zero]at dI);have dJ:=b8 2 _ rfl;(try simp only[show(fv).sz=6 from rfl,Nat.mul_one,Nat.add_zero]at dJ);have dK:=b9 2;(try simp only[show(fv).sz=6 from rfl,Nat.mul_one,Nat.add_zero]at dK);have dL:=b8 3 _ rfl;(try simp only[show(fv).sz=6 from rfl,Nat.mul_one,Nat.add_zero]at dL);have dM:=b9 3;(try simp only[show(fv).sz=6 from rfl,Nat.mul_one,Nat.add_zero]at dM);have dN:=b8 4 _ rfl;(try simp only[show(fv).sz=6 from rfl,Nat.mul_one,Nat.add_zero]at dN);have dO:=b9 4;(try simp only[show(fv).sz=6 from rfl,Nat.mul_one,Nat.add_zero]at dO);have dP:=b8 5 _ rfl;(try simp only[show(fv).sz=6 from rfl,Nat.mul_one,Nat.add_zero]at dP);have dQ:=b9 5;(try simp only[show(fv).sz=6 from rfl,Nat.mul_one,Nat.add_zero]at dQ);clear dV b8 b9 dC dD dE)|((with_reducible refine fu (t:=58) (p:=21) rfl ?_);refine fO (t:=58) (p:=21) (v:= ?wC) (w1:=((((((b5.setCell ⟨b2,(b1:Int).toNat*6,none⟩ (.int .i64 bB)).setCell ⟨b2,(b1:Int).toNat*6+1,none⟩ (.int .i64 bC)).setCell ⟨b2,(b1:Int).toNat*6+2,none⟩ (.int .i64 bD)).setCell ⟨b2,(b1:Int).toNat*6+3,none⟩ (bI)).setCell ⟨b2,(b1:Int).toNat*6+4,none⟩ (bJ)).setCell ⟨b2,(b1:Int).toNat*6+5,none⟩ (bK))) ?hg ?ho ?hn ?hr ?_;(case ho=>rfl);(case hg=>rfl);(case hn=>rfl);(case hr=>have gL:=fun(a_:Addr) (m_:Go.Mode) (W_:World)=>run_store Tryz.prog W_ a_ bI m_ (by obtain⟨A_,c_,e_⟩:=Kd.aw bF.out;rw[e_];rfl);have gM:=fun(a_:Addr) (m_:Go.Mode) (W_:World)=>run_store Tryz.prog W_ a_ bJ m_ (by obtain⟨A_,c_,e_⟩:=Kd.aw bG.out;rw[e_];rfl);have gN:=fun(a_:Addr) (m_:Go.Mode) (W_:World)=>run_store Tryz.prog W_ a_ bK m_ (by obtain⟨A_,c_,e_⟩:=Kd.aw bH.out;rw[e_];rfl);first|(go_simp;done)|(go_simp;rfl));intro dR hw;have hg:b5.grownBy dR (some b2):=(by rw[hw];exact bQ.2);have og:Kd.S fv 58 dR w.heap.size (fun _=>True) (.slice (some ⟨b2,0,none⟩) b4.length d4) bP:=(by rw[hw,dT.out];exact bQ.1);clear bQ;replace b3:=am (og);replace HB:=am ((by rw[hw];exact aN (aN (aN (aN (aN (aN (HB.out) bE.out) bE.out) bE.out) bE.out) bE.out) bE.out:Below w.heap.size w dR));clear bF;clear bG;clear bH;clear hg hw og))
   go_roundg k1
   case measure=>have:=dW.out;omega
   case rel=>exact⟨(bP),(wrap64 (b1+1)),oS,H',⟨by have:=dW.out;omega⟩,⟨by(with_reducible repeat(first|apply Kd.eo|apply Kd.et|apply Kd.eI));exact b3.out⟩,⟨oB⟩⟩

def ef.l0:Nat→List Int→Int→List (aZ)→Int→Option (List Int)
 |0,_,_,_,_=>none
 |k+1,x3,x4,b1,b2=>if x4<(b1.length:Int)then((ay.f k b1 b2 x3).bind fun b3=>(ef.l0 k b3 (wrap64 (x4+1)) b1 b2))else(some x3)
def ef.f (k:Nat) (ag:List (aZ)) (ak:Int):Option (List Int):=(some (([]:List Int):List Int)).bind fun b1=>((cF.f k ag ak 1).bind fun b2=>(if b2<0 then(some b1)else(if b1.length<17592186044416 then(ef.l0 k (b1++[1]) 0 ag ak)else(none))))
theorem ef.calls (k:Nat) (bl:Option Addr) (aW:Nat) (ag:List (aZ)) (ak:Int) (r:List Int) (w:World) (cg:Kd.C fv w bl ag.length ag) (ch:ag.length≤aW) (h:ef.f k ag ak=some r):
  Calls Tryz.prog 80 #[.agg #[.slice bl ag.length aW,.int .i64 ak]] w fun e w'=>∃iY:Value,e= .returned (iY)∧Kd.R (Kd.int .i64) 3 w' w.heap.size (fun _=>True) iY r∧Below w.heap.size w w':=by
 have bT:=Tryz.underlying28;have b7:=ae.mk cg;have b8:=ae.mk ch;clear cg ch;have HB:=am (Below.refl w.heap.size w);unfold ef.f at h;have H:=h;clear h;obtain⟨b4,dj⟩:∃y_:List Int,y_=(([]:List Int)):=⟨_,rfl⟩;replace H:((cF.f k ag ak 1).bind fun b9=>(if b9<0 then(some b4)else(if b4.length<17592186044416 then(ef.l0 k (b4++[1]) 0 ag ak)else(none))))=some r:=oY;have b3:=ae.mk dj;clear dj;replace H:=bA H;obtain⟨b9,A2,H⟩:=H
 try dsimp only at H
 replace H:=jd H;rcases H with⟨bF,H⟩|⟨bF,H⟩
 ·obtain rfl:=Option.some.inj H
  go_enter Tryz.func80,Tryz.ntmps80
  go_wp2_with (first|((with_reducible refine aj (N:=1) rfl ?_);refine dp 1 #[.slice bl ag.length aW,.int .i64 ak] 28 ?_;intro bE hg w4 hbox hb;have b1:=am (hbox);have bJ:=dn hg;replace HB:=hB HB hb;clear hb hbox hg)|((with_reducible refine aj (N:=5) rfl ?_);refine Kd.ku (Kd.int .i64) _ 3 ?hg (N:=5) ?hd (xs:=([]:List Int)) (inner:=[]) (ok:=fun _=>True) (fU:=fun _=>True) ?hr ?hp (fun _ hk=>hk) trivial (Below.refl _ _) (Nat.le_refl _) (by simp) ?_;(case hd=>rfl);(case hg=>rfl);(case hr=>first|(go_simp;done)|(go_simp;rfl));(case hp=>exact(cW.none _ _));intro bG w5 bD hb lv eG;clear lv eG;(first|rw[←b3.out]at bD|(simp only[Int.reduceToNat]at bD;rw[←b3.out]at bD));have b2:=am (Kd.ar bD (ah oB));replace b1:=bj b1 hb;replace HB:=hB HB hb;clear hb bD;obtain⟨⟨_,_⟩,_,_⟩:=z2 b1)|((with_reducible refine ai (f:=82) rfl ?_);refine eL 7 Tryz.func82 (cF.calls k _ _ ag ak 1 b9 _ (kC b7) b8.out A2.out) ?_;rintro e w8 ⟨rfl,hb⟩;refine⟨_,rfl,?_⟩;replace b2:=ga b2 hb;replace b1:=bj b1 hb;replace HB:=hB HB hb))
  go_ret
  exact⟨_,oE,oR b2,oB⟩
 obtain⟨c9,H⟩:=lp H;have bP:=ae.mk c9;clear c9;obtain⟨bH,dj⟩:∃y_:List Int,y_=(b4++[1]):=⟨_,rfl⟩;replace H:(ef.l0 k bH 0 ag ak)=some r:=oY;have bK:=ae.mk dj;clear dj;have H':=ae.mk H;clear H
 go_enter Tryz.func80,Tryz.ntmps80
 go_wp2_with (first|((with_reducible refine aj (N:=1) rfl ?_);refine dp 1 #[.slice bl ag.length aW,.int .i64 ak] 28 ?_;intro bE hg bY hbox hb;have b1:=am (hbox);have bJ:=dn hg;replace HB:=hB HB hb;clear hb hbox hg)|((with_reducible refine aj (N:=5) rfl ?_);refine Kd.ku (Kd.int .i64) _ 3 ?hg (N:=5) ?hd (xs:=([]:List Int)) (inner:=[]) (ok:=fun _=>True) (fU:=fun _=>True) ?hr ?hp (fun _ hk=>hk) trivial (Below.refl _ _) (Nat.le_refl _) (by simp) ?_;(case hd=>rfl);(case hg=>rfl);(case hr=>first|(go_simp;done)|(go_simp;rfl));(case hp=>exact(cW.none _ _));intro bG bZ b5 hb lv eG;clear lv eG;(first|rw[←b3.out]at b5|(simp only[Int.reduceToNat]at b5;rw[←b3.out]at b5));have b2:=am (Kd.ar b5 (ah oB));replace b1:=bj b1 hb;replace HB:=hB HB hb;clear hb b5;obtain⟨⟨_,_⟩,_,_⟩:=z2 b1)|((with_reducible refine ai (f:=82) rfl ?_);refine eL 7 Tryz.func82 (cF.calls k _ _ ag ak 1 b9 _ (kC b7) b8.out A2.out) ?_;rintro e d1 ⟨rfl,hb⟩;refine⟨_,rfl,?_⟩;replace b2:=ga b2 hb;replace b1:=bj b1 hb;replace HB:=hB HB hb)|((with_reducible refine eb (b:= .append) (xs:= #[.tmp 10,.tmp 11]) rfl ?_);at_builtin;refine Kd.nr (Kd.int .i64) (w0:=w) w.heap.size rfl (.tmp 10) (.tmp 11) 98 3 (.int .i64 0) 8 rfl Tryz.underlying98 info3 rfl (by decide) (by omega) bG b4 1 [.int .i64 1] (fun _=>True) (fun _=>False) rfl rfl ?aP (fun _ hk=>hk.elim) ?aF ?aO ?aB ?aS ?aL ?_;(case aP=>exact rfl);(case aB=>exact oB);(case aF=>exact(fun _ _=>trivial));(case aO=>exact(oR b2));(case aS=>exact(ah oB));(case aL=>have:=bP.out;omega);intro bU d2 ho hb hg hat;rw[←bK.out]at ho;have bL:=am (ho);replace b1:=lO b1 hg (Kd.nC b2.out b1.out (by decide));replace HB:=am (hb);clear b2;clear ho hb hg hat))
 go_loopg [3,4] k (fun kq v3 v4 w'=>∃(bB:List Int) (bC:Int),v4= .int .i64 bC∧ae (ef.l0 kq bB bC ag ak=some r)∧ae (kq≤k)∧ae (Kd.R (Kd.int .i64) 3 w' w.heap.size (fun _=>True) v3 bB)∧ae (w'.heap[bE]? =some (.cells #[(.slice bl ag.length aW),.int .i64 ak] 28 (0,0)))∧ae (Below w.heap.size w w'))
 case atStart=>exact⟨(bH),(0),oS,H',⟨Nat.le_refl _⟩,⟨oR bL⟩,⟨oF b1⟩,⟨oB⟩⟩
 case round=>
  clear H'
  try clear bF
  try clear c9
  obtain⟨bB,bC,rfl,HA,bO,b6,b1,HB⟩:=hrel
  cases gk with
  |zero=>exact absurd HA.out (by simp[ef.l0])
  |succ k1=>
   have H:=HA.out;clear HA;simp only[ef.l0]at H;replace H:=jd H;rcases H with⟨bM,H⟩|⟨bM,H⟩;rotate_left
   ·obtain rfl:=Option.some.inj H;obtain⟨⟨_,_⟩,_,_⟩:=z2 b1
    go_wp2
    go_ret
    exact⟨_,oE,oR b6,oB⟩
   replace H:=bA H;obtain⟨bI,bR,H⟩:=H
   try dsimp only at H
   have H':=ae.mk H;clear H;obtain⟨⟨_,_⟩,_,_⟩:=z2 b1;obtain⟨bV,bW,bQ⟩:=Kd.aw b6.out;subst bQ
   go_wp2_with (first|((with_reducible refine ai (f:=117) rfl ?_);refine eL 22 Tryz.func117 (ay.calls k1 _ _ ag ak _ _ bB bI w.heap.size _ (ah oB) (kC b7) b8.out (oR b6) bR.out) ?_;rintro e d3 ⟨bX,rfl,bS,hb⟩;refine⟨_,rfl,?_⟩;have bN:=ae.mk bS;replace b6:=ga b6 hb;replace b1:=bj b1 hb;replace HB:=hB HB hb))
   go_roundg k1
   case measure=>have:=bO.out;omega
   case rel=>exact⟨(bI),(wrap64 (bC+1)),oS,H',⟨by have:=bO.out;omega⟩,⟨mR bN⟩,⟨oF b1⟩,⟨oB⟩⟩

def gm.f (k:Nat) (a0:ByteArray):Option (ByteArray×ByteArray×Bool):=(aG.f k a0).bind fun b1=>(if b1.2=true then(if(b1.1.length:Int)=0 then(some ((⟨#[]⟩:ByteArray),(⟨#[]⟩:ByteArray),false))else(if 0≤(wrap64 ((b1.1.length:Int)-1))then(if(wrap64 ((b1.1.length:Int)-1))≤(b1.1.length:Int)then((cL.f k (b1.1.take ((wrap64 ((b1.1.length:Int)-1)):Int).toNat)).bind fun b2=>(if(wrap64 ((b1.1.length:Int)-1))<(b1.1.length:Int)then(some (b2,iZ ByteArray.empty b1.1 (wrap64 ((b1.1.length:Int)-1)),true))else(none)))else(none))else(none)))else(some ((⟨#[]⟩:ByteArray),(⟨#[]⟩:ByteArray),false)))
theorem gm.calls (k:Nat) (a0:ByteArray) (r1:ByteArray) (r2:ByteArray) (r3:Bool) (w:World) (h:gm.f k a0=some (r1,r2,r3)):
  Calls Tryz.prog 39 #[.string a0] w fun e w'=>e= .returned (.tuple #[.string r1,.string r2,.bool r3])∧Below w.heap.size w w':=by
 have HB:=am (Below.refl w.heap.size w);unfold gm.f at h;have H:=h;clear h;replace H:=bA H;obtain⟨⟨b1,d7⟩,A2,H⟩:=H
 try dsimp only at H
 replace H:=ll H;rcases H with⟨rfl,H⟩|⟨rfl,H⟩;rotate_left
 ·simp only[Option.some.injEq,Prod.mk.injEq]at H;obtain⟨rfl,rfl,rfl⟩:=H
  go_enter Tryz.func39,Tryz.ntmps39
  go_wp2_with (first|(go_at_call 51;(with_reducible refine(aG.calls k a0 b1 false _ A2.out).mono ?_);rintro e bY ⟨bD,rfl,b5,hb⟩;have b2:=am (Kd.ar b5 (ah oB));replace HB:=hB HB hb))
  repeat(go_quiet (first|(go_at_call 51;(with_reducible refine(aG.calls k a0 b1 false _ A2.out).mono ?_);rintro e bY ⟨bD,rfl,b5,hb⟩;have b2:=am (Kd.ar b5 (ah oB));replace HB:=hB HB hb));try go_wp2_with (first|(go_at_call 51;(with_reducible refine(aG.calls k a0 b1 false _ A2.out).mono ?_);rintro e bY ⟨bD,rfl,b5,hb⟩;have b2:=am (Kd.ar b5 (ah oB));replace HB:=hB HB hb)))
  go_ret3
  exact⟨oE,oB⟩
 by_cases c4:(b1.length:Int)=0
 ·rw[if_pos c4]at H;have d3:((b1.length:Int)==0)=true:=beq_iff_eq.mpr c4;have d4:((b1.length:Int) !=0)=false:=bne_eq_false_iff_eq.mpr c4;clear c4;simp only[Option.some.injEq,Prod.mk.injEq]at H;obtain⟨rfl,rfl,rfl⟩:=H
  go_enter Tryz.func39,Tryz.ntmps39
  go_wp2_with (first|(go_at_call 51;(with_reducible refine(aG.calls k a0 b1 true _ A2.out).mono ?_);rintro e w5 ⟨bD,rfl,b5,hb⟩;have b2:=am (Kd.ar b5 (ah oB));replace HB:=hB HB hb;obtain⟨bZ,d1,bS⟩:=Kd.aw b2.out;subst bS))
  repeat(go_quiet (first|(go_at_call 51;(with_reducible refine(aG.calls k a0 b1 true _ A2.out).mono ?_);rintro e w5 ⟨bD,rfl,b5,hb⟩;have b2:=am (Kd.ar b5 (ah oB));replace HB:=hB HB hb;obtain⟨bZ,d1,bS⟩:=Kd.aw b2.out;subst bS));try go_wp2_with (first|(go_at_call 51;(with_reducible refine(aG.calls k a0 b1 true _ A2.out).mono ?_);rintro e w5 ⟨bD,rfl,b5,hb⟩;have b2:=am (Kd.ar b5 (ah oB));replace HB:=hB HB hb;obtain⟨bZ,d1,bS⟩:=Kd.aw b2.out;subst bS)))
  go_ret3
  exact⟨oE,oB⟩
 rw[if_neg c4]at H;have d3:((b1.length:Int)==0)=false:=beq_eq_false_iff_ne.mpr c4;have d4:((b1.length:Int) !=0)=true:=bne_iff_ne.mpr c4
 have d8:¬(b1=[]):=fun h_=>c4 (by rw[h_];rfl)
 obtain⟨b3,bM⟩:∃j_:Int,(wrap64 ((b1.length:Int)-1))=j_:=⟨_,rfl⟩
 replace H:(if 0≤(b3)then(if(b3)≤(b1.length:Int)then((cL.f k (b1.take ((b3):Int).toNat)).bind fun bJ=>(if(b3)<(b1.length:Int)then(some (bJ,iZ ByteArray.empty b1 (b3),true))else(none)))else(none))else(none))=some (r1,r2,r3):=by first|(rw[bM]at H;exact H)|(simp only[bM]at H⊢;exact H)
 (try rw[bM]at A2)
 have d5:(IntKind.i64.wrap ((b1.length:Int)-1))=b3:=(fZ _).trans bM;obtain⟨c8,H⟩:=lp H;have d9:=eq_true c8;have dA:decide (0≤(b3))=true:=decide_eq_true c8;clear c8;obtain⟨c9,H⟩:=lp H;have dB:=eq_true c9;have dC:decide ((b3)≤(b1.length:Int))=true:=decide_eq_true c9;clear c9;obtain⟨bC,dj⟩:∃y_:List ByteArray,y_=(b1.take ((b3):Int).toNat):=⟨_,rfl⟩;replace H:((cL.f k bC).bind fun bJ=>(if(b3)<(b1.length:Int)then(some (bJ,iZ ByteArray.empty b1 (b3),true))else(none)))=some (r1,r2,r3):=oY;have bI:=ae.mk dj;clear dj;replace H:=bA H;obtain⟨bJ,bU,H⟩:=H
 try dsimp only at H
 obtain⟨d6,H⟩:=cX H;simp only[Option.some.injEq,Prod.mk.injEq]at H;obtain⟨rfl,rfl,rfl⟩:=H
 go_enter Tryz.func39,Tryz.ntmps39
 go_wp2_with (first|(go_at_call 51;(with_reducible refine(aG.calls k a0 b1 true _ A2.out).mono ?_);rintro e d2 ⟨bD,rfl,b5,hb⟩;have b2:=am (Kd.ar b5 (ah oB));replace HB:=hB HB hb;obtain⟨bE,b6,bN⟩:=Kd.aw b2.out;subst bN;have bF:((b3):Int)≤((b1.length:Int):Int):=oa;obtain⟨bV,b9,_,bK,_⟩:=info_parts info9;have b4:b1.length≤b6:=(Kd.bm b2.out).2.1;have bG:Kd.C Kd.string _ bE b1.length b1:=(Kd.bm b2.out).2.2;have bH:=qf (P:=Tryz.prog) 68 9 .i64 Tryz.underlying68 b9 bE b1.length b6 (b3) oa bF b4;have b7:=Kd.rr (m:=((b3):Int).toNat) bG (by omega);have b8:bC.length=((b3):Int).toNat:=(by rw[bI.out,List.length_take];omega);rw[←bI.out]at b7;rw[←b8]at bH;have bB:=ae.mk b7;have bL:=am (show bC.length≤b6 from by omega);clear b7 bG b4 b9 bK;have bW:=ae.mk b8;clear b8;have bX:=am (show((b3):Int).toNat≤b1.length from by omega);replace bF:=eq_true bF)|(go_at_call 78;(with_reducible refine(cL.calls k _ _ bC bJ _ ?eH bL.out bU.out).mono ?_);(case eH=>repeat(first|exact(by repeat(first|(with_reducible exact bB.out)|(with_reducible refine Kd.eU ?_ _)|(with_reducible refine Kd.eV ?_ _)|(with_reducible refine Kd.fI ?_)|exact bB.out))|(with_reducible refine Kd.eU ?_ _)|(with_reducible refine Kd.eV ?_ _)|(with_reducible refine Kd.fI ?_)));rintro e w' ⟨rfl,⟨nd,rfl⟩⟩;have bO:(0≤((b3):Int))=True:=oT;have bP:((b3)<(b1.length:Int))=True:=oT;obtain⟨bT,bQ,bR⟩:=Kd.eX (Kd.bm b2.out).2.2 (b3) oa oa;cases bQ))
 try(have bO:0≤((b3):Int):=oa;have bP:(b3)<(b1.length:Int):=oa;obtain⟨bT,bQ,bR⟩:=Kd.eX (Kd.bm b2.out).2.2 (b3) bO bP;cases bQ;replace bO:=eq_true bO;replace bP:=eq_true bP)
 repeat(go_quiet (first|(go_at_call 51;(with_reducible refine(aG.calls k a0 b1 true _ A2.out).mono ?_);rintro e d2 ⟨bD,rfl,b5,hb⟩;have b2:=am (Kd.ar b5 (ah oB));replace HB:=hB HB hb;obtain⟨bE,b6,bN⟩:=Kd.aw b2.out;subst bN;have bF:((b3):Int)≤((b1.length:Int):Int):=oa;obtain⟨bV,b9,_,bK,_⟩:=info_parts info9;have b4:b1.length≤b6:=(Kd.bm b2.out).2.1;have bG:Kd.C Kd.string _ bE b1.length b1:=(Kd.bm b2.out).2.2;have bH:=qf (P:=Tryz.prog) 68 9 .i64 Tryz.underlying68 b9 bE b1.length b6 (b3) oa bF b4;have b7:=Kd.rr (m:=((b3):Int).toNat) bG (by omega);have b8:bC.length=((b3):Int).toNat:=(by rw[bI.out,List.length_take];omega);rw[←bI.out]at b7;rw[←b8]at bH;have bB:=ae.mk b7;have bL:=am (show bC.length≤b6 from by omega);clear b7 bG b4 b9 bK;have bW:=ae.mk b8;clear b8;have bX:=am (show((b3):Int).toNat≤b1.length from by omega);replace bF:=eq_true bF)|(go_at_call 78;(with_reducible refine(cL.calls k _ _ bC bJ _ ?eH bL.out bU.out).mono ?_);(case eH=>repeat(first|exact(by repeat(first|(with_reducible exact bB.out)|(with_reducible refine Kd.eU ?_ _)|(with_reducible refine Kd.eV ?_ _)|(with_reducible refine Kd.fI ?_)|exact bB.out))|(with_reducible refine Kd.eU ?_ _)|(with_reducible refine Kd.eV ?_ _)|(with_reducible refine Kd.fI ?_)));rintro e w' ⟨rfl,⟨nd,rfl⟩⟩;exact oQ));try go_wp2_with (first|(go_at_call 51;(with_reducible refine(aG.calls k a0 b1 true _ A2.out).mono ?_);rintro e d2 ⟨bD,rfl,b5,hb⟩;have b2:=am (Kd.ar b5 (ah oB));replace HB:=hB HB hb;obtain⟨bE,b6,bN⟩:=Kd.aw b2.out;subst bN;have bF:((b3):Int)≤((b1.length:Int):Int):=oa;obtain⟨bV,b9,_,bK,_⟩:=info_parts info9;have b4:b1.length≤b6:=(Kd.bm b2.out).2.1;have bG:Kd.C Kd.string _ bE b1.length b1:=(Kd.bm b2.out).2.2;have bH:=qf (P:=Tryz.prog) 68 9 .i64 Tryz.underlying68 b9 bE b1.length b6 (b3) oa bF b4;have b7:=Kd.rr (m:=((b3):Int).toNat) bG (by omega);have b8:bC.length=((b3):Int).toNat:=(by rw[bI.out,List.length_take];omega);rw[←bI.out]at b7;rw[←b8]at bH;have bB:=ae.mk b7;have bL:=am (show bC.length≤b6 from by omega);clear b7 bG b4 b9 bK;have bW:=ae.mk b8;clear b8;have bX:=am (show((b3):Int).toNat≤b1.length from by omega);replace bF:=eq_true bF)|(go_at_call 78;(with_reducible refine(cL.calls k _ _ bC bJ _ ?eH bL.out bU.out).mono ?_);(case eH=>repeat(first|exact(by repeat(first|(with_reducible exact bB.out)|(with_reducible refine Kd.eU ?_ _)|(with_reducible refine Kd.eV ?_ _)|(with_reducible refine Kd.fI ?_)|exact bB.out))|(with_reducible refine Kd.eU ?_ _)|(with_reducible refine Kd.eV ?_ _)|(with_reducible refine Kd.fI ?_)));rintro e w' ⟨rfl,⟨nd,rfl⟩⟩;have bO:(0≤((b3):Int))=True:=oT;have bP:((b3)<(b1.length:Int))=True:=oT;obtain⟨bT,bQ,bR⟩:=Kd.eX (Kd.bm b2.out).2.2 (b3) oa oa;cases bQ)))
 go_ret3
 exact⟨by first|rfl|(simp[eC,eD]<;>rfl)|(simp only[←bM];first|rfl|(simp[eC,eD]<;>rfl))|(simp[*,eC,eD]<;>rfl),oB⟩

def kt.f (k:Nat) (ag:List (aZ)) (ak:Int) (a1:ByteArray):Option (Int×Int):=(aG.f k a1).bind fun b1=>(if b1.2=true then((cK.f k ag ak b1.1).bind fun b2=>(some (b2.1,b2.2)))else(some (0,1)))
theorem kt.calls (k:Nat) (bl:Option Addr) (aW:Nat) (ag:List (aZ)) (ak:Int) (a1:ByteArray) (r1:Int) (r2:Int) (w:World) (cg:Kd.C fv w bl ag.length ag) (ch:ag.length≤aW) (h:kt.f k ag ak a1=some (r1,r2)):
  Calls Tryz.prog 84 #[.agg #[.slice bl ag.length aW,.int .i64 ak],.string a1] w fun e w'=>e= .returned (.tuple #[.int .i64 r1,.int .i64 r2])∧Below w.heap.size w w':=by
 have bE:=Tryz.underlying28;have b5:=ae.mk cg;have b6:=ae.mk ch;clear cg ch;have HB:=am (Below.refl w.heap.size w);unfold kt.f at h;have H:=h;clear h;replace H:=bA H;obtain⟨⟨b3,bF⟩,A3,H⟩:=H
 try dsimp only at H
 replace H:=ll H;rcases H with⟨rfl,H⟩|⟨rfl,H⟩;rotate_left
 ·simp only[Option.some.injEq,Prod.mk.injEq]at H;obtain⟨rfl,rfl⟩:=H
  go_enter Tryz.func84,Tryz.ntmps84
  go_wp2_with (first|((with_reducible refine aj (N:=2) rfl ?_);refine dp 2 #[.slice bl ag.length aW,.int .i64 ak] 28 ?_;intro b7 hg bG hbox hb;have b1:=am (hbox);have b8:=dn hg;replace HB:=hB HB hb;clear hb hbox hg)|((with_reducible refine ai (f:=51) rfl ?_);refine eL 10 Tryz.func51 (aG.calls k a1 b3 false _ A3.out) ?_;rintro e bH ⟨b9,rfl,b4,hb⟩;refine⟨_,rfl,?_⟩;have b2:=am (Kd.ar b4 (ah oB));replace b1:=bj b1 hb;replace HB:=hB HB hb))
  go_ret2
  exact⟨oE,oB⟩
 replace H:=bA H;obtain⟨⟨bB,bC⟩,A5,H⟩:=H
 try dsimp only at H
 simp only[Option.some.injEq,Prod.mk.injEq]at H;obtain⟨rfl,rfl⟩:=H
 go_enter Tryz.func84,Tryz.ntmps84
 go_wp2_with (first|((with_reducible refine aj (N:=2) rfl ?_);refine dp 2 #[.slice bl ag.length aW,.int .i64 ak] 28 ?_;intro b7 hg w6 hbox hb;have b1:=am (hbox);have b8:=dn hg;replace HB:=hB HB hb;clear hb hbox hg)|((with_reducible refine ai (f:=51) rfl ?_);refine eL 10 Tryz.func51 (aG.calls k a1 b3 true _ A3.out) ?_;rintro e w7 ⟨b9,rfl,b4,hb⟩;refine⟨_,rfl,?_⟩;have b2:=am (Kd.ar b4 (ah oB));replace b1:=bj b1 hb;replace HB:=hB HB hb;obtain⟨⟨_,_⟩,_,_⟩:=z2 b1;obtain⟨bI,bJ,bD⟩:=Kd.aw b2.out;subst bD)|((with_reducible refine ai (f:=118) rfl ?_);refine eL 17 Tryz.func118 (cK.calls k _ _ ag ak _ _ b3 bB bC _ (kC b5) b6.out (kO b2) (ko b2) A5.out) ?_;rintro e bK ⟨rfl,hb⟩;refine⟨_,rfl,?_⟩;replace b2:=ga b2 hb;replace b1:=bj b1 hb;replace HB:=hB HB hb))
 go_ret2
 exact⟨oE,oB⟩

def fm.f (k:Nat) (ag:List (aZ)) (ak:Int) (a1:Int):Option (Int):=(aA.f k ag a1).bind fun b1=>(if b1<0 then(some (-1))else(some b1))
theorem fm.calls (k:Nat) (bl:Option Addr) (aW:Nat) (ag:List (aZ)) (ak:Int) (a1:Int) (r:Int) (w:World) (cg:Kd.C fv w bl ag.length ag) (ch:ag.length≤aW) (h:fm.f k ag ak a1=some r):
  Calls Tryz.prog 16 #[.agg #[.slice bl ag.length aW,.int .i64 ak],.int .i64 a1] w fun e w'=>e= .returned (.int .i64 r)∧Below w.heap.size w w':=by
 have b8:=Tryz.underlying28;have b2:=ae.mk cg;have b3:=ae.mk ch;clear cg ch;have HB:=am (Below.refl w.heap.size w);unfold fm.f at h;have H:=h;clear h;replace H:=bA H;obtain⟨b4,A3,H⟩:=H
 try dsimp only at H
 replace H:=jd H;rcases H with⟨b7,H⟩|⟨b7,H⟩
 ·obtain rfl:=Option.some.inj H
  go_enter Tryz.func16,Tryz.ntmps16
  go_wp2_with (first|((with_reducible refine aj (N:=2) rfl ?_);refine dp 2 #[.slice bl ag.length aW,.int .i64 ak] 28 ?_;intro b5 hg w5 hbox hb;have b1:=am (hbox);have b6:=dn hg;replace HB:=hB HB hb;clear hb hbox hg;obtain⟨⟨_,_⟩,_,_⟩:=z2 b1)|((with_reducible refine ai (f:=38) rfl ?_);refine eL 8 Tryz.func38 (aA.calls k _ _ ag a1 b4 _ (kC b2) b3.out A3.out) ?_;rintro e w7 ⟨rfl,hb⟩;refine⟨_,rfl,?_⟩;replace b1:=bj b1 hb;replace HB:=hB HB hb))
  go_ret
  exact⟨oE,oB⟩
 obtain rfl:=Option.some.inj H
 go_enter Tryz.func16,Tryz.ntmps16
 go_wp2_with (first|((with_reducible refine aj (N:=2) rfl ?_);refine dp 2 #[.slice bl ag.length aW,.int .i64 ak] 28 ?_;intro b5 hg w8 hbox hb;have b1:=am (hbox);have b6:=dn hg;replace HB:=hB HB hb;clear hb hbox hg;obtain⟨⟨_,_⟩,_,_⟩:=z2 b1)|((with_reducible refine ai (f:=38) rfl ?_);refine eL 8 Tryz.func38 (aA.calls k _ _ ag a1 b4 _ (kC b2) b3.out A3.out) ?_;rintro e b9 ⟨rfl,hb⟩;refine⟨_,rfl,?_⟩;replace b1:=bj b1 hb;replace HB:=hB HB hb))
 go_ret
 exact⟨oE,oB⟩
theorem fm.calls' (k:Nat) (bl:Option Addr) (aW n:Nat) (ag:List aZ) (ak a1 r:Int) (w:World) (hn:ag.length=n) (cg:Kd.C fv w bl ag.length ag) (ch:ag.length≤aW) (h:fm.f k ag ak a1=some r):
  Calls Tryz.prog 16 #[.agg #[.slice bl n aW,.int .i64 ak],.int .i64 a1] w fun e w'=>e= .returned (.int .i64 r)∧Below w.heap.size w w':=by
 subst hn;exact fm.calls k bl aW ag ak a1 r w cg ch h
theorem pE.calls (k:Nat) (ld:Nat→Prop) (u:Value) (l0:List aZ) (a0 a1 r1:Int) (r2:List aZ) (w0 w:World) (hB:Below w0.heap.size w0 w) (ho0:Kd.S fv 58 w w0.heap.size ld u l0) (h:eB.f k l0 a1=some (r1,r2)):
  Calls Tryz.prog 15 #[.agg #[u,.int .i64 a0],.int .i64 a1] w fun e w'=>e= .returned (.int .i64 r1)∧Kd.S fv 58 w' w0.heap.size (fun k_=>ld k_∨w.heap.size≤k_) u r2∧Below w0.heap.size w0 w'∧Kept w w' ld:=by
 obtain⟨A,co,rfl⟩:=Kd.gf ho0;have HH:=ae.mk h;have hc:=eB.calls k ld (.slice A l0.length co) l0 a1 r1 r2 w0 (w.alloc (.cells #[.slice A l0.length co,.int .i64 a0] 28)) (hB.alloc hB.size _) (Kd.eo ho0 _) h;have HC:=ae.mk hc;have HW:=ae.mk hB.size;clear h hc hB ho0
 go_enter Tryz.func15,Tryz.ntmps15
 go_wp2_with (go_at_call 37;refine HC.out.mono ?_;rintro e w1 ⟨rfl,hs,hb,hk⟩)
 go_ret
 exact⟨rfl,Kd.eu hs (fun q hq=>hq.imp_right (fun h=>by simp at h;omega)),hb,(Kept.alloc (Kept.refl w ld) _).then_ hk (fun q hq=> .inl hq)⟩
end Go.Proofs.YtlecajlnjmbilaaGreatDoor.P
