-- Printed walks.
import Derived.Test.YtlecajlnjmbilaaGreatDoorPx7
import Derived.Test.YtlecajlnjmbilaaGreatDoorPx8
set_option linter.all false
set_option maxHeartbeats 8000000
set_option maxRecDepth 100000
namespace Go.Proofs.YtlecajlnjmbilaaGreatDoor.P
open Go.RowKit Go.Proofs.ab.ar Go.Proofs.ab.aH Go.Proofs.ab.aN Go.Proofs.Tryz
attribute [local go_sem] ib ic jc jd fU fV ie ig

mutual
def aY.l0:Nat→List Int→List Int→List (aX)→Int→Option (List Int)
 |0,_,_,_,_=>none
 |k+1,x3,x4,b2,b3=>if(x4.length:Int)>0 then(if 0<(x4.length:Int)then(if 1≤(x4.length:Int)then((some (x4.drop (1:Int).toNat:List Int)).bind fun b4=>((cT.f k b2 b3 (rd x4 0)).bind fun b1=>(if b1.2.2.2.2.2.2=true then((eg.f x3 (rd x4 0)).bind fun b5=>(aY.j1 k x3 b4 (rd x4 0) b5 b2 b3 b1.1 b1.2.1 b1.2.2.1 b1.2.2.2.1 b1.2.2.2.2.1 b1.2.2.2.2.2.1))else(aY.j1 k x3 b4 (rd x4 0) true b2 b3 b1.1 b1.2.1 b1.2.2.1 b1.2.2.2.1 b1.2.2.2.2.1 b1.2.2.2.2.2.1))))else(none))else(none))else(if x3.length<4611686018427387904 then some (ox x3)else none)
def aY.j1:Nat→List Int→List Int→Int→Bool→List (aX)→Int→Int→Int→Int→List Int→List (cA)→List (eu)→Option (List Int)
 |0,_,_,_,_,_,_,_,_,_,_,_,_=>none
 |k+1,x3,x4,x5,bB,b1,b2,b6,b4,b7,b8,b3,b9=>if bB=true then(aY.l0 k x3 x4 b1 b2)else(if x3.length<17592186044416 then((some (x3++[x5]:List Int)).bind fun b5=>(if b4=2 then(aY.l1 k b5 x4 b3 (b3.length:Int) 0 b1 b2)else(aY.l0 k b5 x4 b1 b2)))else(none))
def aY.l1:Nat→List Int→List Int→List (cA)→Int→Int→List (aX)→Int→Option (List Int)
 |0,_,_,_,_,_,_,_=>none
 |k+1,x3,x4,b4,b5,b3,b1,b2=>if b3<b5 then(if 0≤b3 then(if b3<(b4.length:Int)then(if x4.length<17592186044416 then(aY.l1 k x3 (x4++[(al b4 b3).f1]) b4 b5 (wrap64 (b3+1)) b1 b2)else(none))else(none))else(none))else(aY.l0 k x3 x4 b1 b2)
end
def aY.f (k:Nat) (ag:List (aX)) (ak:Int):Option (List Int):=aY.l0 k (([]:List Int)) (([1]:List Int)) ag ak
theorem aY.calls (k:Nat) (bh:Option Addr) (aT:Nat) (ag:List (aX)) (ak:Int) (r:List Int) (w:World) (cj:Kd.C gh w bh ag.length ag) (ck:ag.length≤aT) (h:aY.f k ag ak=some r):
  Calls Tryz.prog 124 #[.agg #[.slice bh ag.length aT,.int .i64 ak]] w fun e w'=>∃jx:Value,e= .returned (jx)∧Kd.R (Kd.int .i64) 3 w' w.heap.size (fun _=>True) jx r∧Below w.heap.size w w':=by
 have jX:=underlying28;have jY:=underlying58;have jZ:=underlying75;have gM:=ae.mk cj;have gN:=ae.mk ck;clear cj ck;have HB:=am (Below.refl w.heap.size w);unfold aY.f at h;have H:=h;clear h;obtain⟨dP,da⟩:∃y_:List Int,y_=(([]:List Int)):=⟨_,rfl⟩;replace H:(aY.l0 k dP (([1]:List Int)) ag ak)=some r:=oY;have dX:=ae.mk da;clear da;obtain⟨gF,da⟩:∃y_:List Int,y_=(([1]:List Int)):=⟨_,rfl⟩;replace H:(aY.l0 k dP gF ag ak)=some r:=oY;have dY:=ae.mk da;clear da;have H':=ae.mk H;clear H
 go_enter func124,ntmps124
 go_wp2_with (first|((with_reducible refine aj (N:=1) rfl ?_);refine cO 1 #[.slice bh ag.length aT,.int .i64 ak] 28 ?_;intro dE hg w2 hbox hb;have b1:=am (hbox);have jG:=cN hg;replace HB:=hB HB hb;clear hb hbox hg)|((with_reducible refine aj (N:=10) rfl ?_);refine Kd.kM (Kd.int .i64) _ 3 ?hg (N:=10) ?hd (xs:=([]:List Int)) (inner:=[]) (ok:=fun _=>True) (fY:=fun _=>True) ?hr ?hp (fun _ hk=>hk) trivial (Below.refl _ _) (Nat.le_refl _) (by simp) ?_;(case hd=>rfl);(case hg=>rfl);(case hr=>first|(go_simp;done)|(go_simp;rfl));(case hp=>exact(cS.none _ _));intro m1 w3 dK hb kX ek;clear kX ek;(first|rw[←dX.out]at dK|(simp only[Int.reduceToNat]at dK;rw[←dX.out]at dK));have d7:=am (Kd.an dK (ah oB));replace b1:=aJ b1 hb;replace HB:=hB HB hb;clear hb dK)|((with_reducible refine aj (N:=11) rfl ?_);refine Kd.kM (Kd.int .i64) _ 3 ?hg (N:=11) ?hd (xs:=([1]:List Int)) (inner:=[.int .i64 1]) (ok:=fun _=>True) (fY:=fun _=>True) ?hr ?hp (fun _ hk=>hk) trivial (Below.refl _ _) (Nat.le_refl _) (by simp) ?_;(case hd=>rfl);(case hg=>rfl);(case hr=>first|(go_simp;done)|(go_simp;rfl));(case hp=>exact(cS.one (show Kd.M (Kd.int .i64) _ _ _ 1 [.int .i64 1]from rfl) (cS.none _ _)));intro m2 w5 dC hb kX ek;clear kX ek;(first|rw[←dY.out]at dC|(simp only[Int.reduceToNat]at dC;rw[←dY.out]at dC));have gO:=am (Kd.an (Kd.fO dC (oG d7)) (ah oB));replace d7:=ke_ d7 dC hb;replace b1:=aJ b1 hb;replace HB:=hB HB hb;clear hb dC))
 go_loopg [3,4] k (fun kq v3 v4 w'=>∃(bG:List Int) (b4:List Int),ae (aY.l0 kq bG b4 ag ak=some r)∧ae (kq≤k)∧ae (Kd.R (Kd.int .i64) 3 w' w.heap.size (fun k_=>some k_≠(v4:Value).ownBlock) v3 bG)∧ae (Kd.Q (Kd.int .i64) 3 w' w.heap.size (fun k_=>some k_≠(v3:Value).ownBlock) v4 b4)∧ae (w'.heap[dE]? =some (.cells #[(.slice bh ag.length aT),.int .i64 ak] 28 (0,0)))∧ae (Below w.heap.size w w'))
 case atStart=>exact⟨(dP),(gF),H',⟨Nat.le_refl _⟩,⟨by(with_reducible repeat(first|apply Kd.bu|apply Kd.bx|apply Kd.bp));exact Kd.aZ d7.out (fun _ hk=>hk.2)⟩,⟨Kd.pY (by(with_reducible repeat(first|apply Kd.bu|apply Kd.bx|apply Kd.bp));exact Kd.aZ gO.out (fun _ hk=>hk.2))⟩,⟨oF b1⟩,⟨oB⟩⟩
 case round=>
  clear H';obtain⟨bG,b4,HA,bV,b3,b7,b1,HB⟩:=hrel
  cases gk with
  |zero=>exact absurd HA.out (by simp[aY.l0])
  |succ k1=>
   have H:=HA.out;clear HA;simp only[aY.l0]at H
   by_cases c7:(b4.length:Int)>0
   rotate_left
   ·rw[if_neg c7]at H;have dQ:decide (0<(b4.length:Int))=false:=decide_eq_false c7;have dR:decide (0<b4.length)=false:=decide_eq_false (by omega);clear c7
    split at H
    case isFalse=>cases H
    case isTrue aaL=>
    obtain rfl:=Option.some.inj H;obtain⟨m3,m4,gY,_⟩:=Kd.qo b7.out;subst gY;obtain⟨Aq_,cq_,rfl⟩:=Kd.ao b3.out
    go_wp2_with (go_at_call 147;refine(ab9.calls Aq_ cq_ w.heap.size (fun _=>True) bG _ (Kd.aZ (wV b3) (fun _ _=>trivial)) aaL).mono ?_;rintro e mH ⟨rfl,hs_,kX⟩)
    go_ret
    exact⟨_,oE,hs_,(oB:Below w.heap.size w _).grown kX (ah oB) (fun k_ eW=>Kd.cf hs_ k_ eW)⟩
   rw[if_pos c7]at H;have dQ:decide (0<(b4.length:Int))=true:=decide_eq_true c7;have dR:decide (0<b4.length)=true:=decide_eq_true (by omega);clear c7;obtain⟨c8,H⟩:=lC H;have gG:decide (0<(b4.length:Int))=true:=decide_eq_true c8;have gH:decide (0<b4.length)=true:=decide_eq_true (by omega);clear c8;obtain⟨c9,H⟩:=lC H;have m5:=eq_true c9;have m6:decide (1≤(b4.length:Int))=true:=decide_eq_true c9;clear c9;obtain⟨bC,da⟩:∃y_:List Int,y_=(b4.drop (1:Int).toNat):=⟨_,rfl⟩;replace H:((cT.f k1 ag ak (rd b4 0)).bind fun bE=>(if bE.2.2.2.2.2.2=true then((eg.f bG (rd b4 0)).bind fun dF=>(aY.j1 k1 bG bC (rd b4 0) dF ag ak bE.1 bE.2.1 bE.2.2.1 bE.2.2.2.1 bE.2.2.2.2.1 bE.2.2.2.2.2.1))else(aY.j1 k1 bG bC (rd b4 0) true ag ak bE.1 bE.2.1 bE.2.2.1 bE.2.2.2.1 bE.2.2.2.2.1 bE.2.2.2.2.2.1)))=some r:=oY;have dZ:=ae.mk da;clear da;replace H:=bA H;obtain⟨⟨bW,bH,bX,bI,b5,bJ,gZ⟩,jB,H⟩:=H
   try dsimp only at H
   have dS:=ae.mk H;clear H;obtain⟨m7,dG,j1,_⟩:=Kd.qo b7.out;subst j1;have dT:0≤(0:Int):=(by omega);have dU:0<(b4.length:Int):=oa;obtain⟨d4,j2,dD⟩:=Kd.kA (Kd.kN b7.out).2.2 0 dT dU
   cases j2
   have jH:(0<b4.length)=True:=eq_true (by omega)
   (try rw[show((0:Int)).toNat=0 from rfl]at dD)
   (try rw[Addr.add_zero']at dD)
   replace dT:=eq_true dT;replace dU:=eq_true dU;have gI:(1:Int)≤((b4.length:Int):Int):=oa;obtain⟨m8,gA,_,gB,_⟩:=info_parts info3;have gJ:=nM (P:=Tryz.prog) 98 3 .i64 underlying98 gA 1 gB (some d4) b4.length dG 1 (by omega) gI;have d8:=Kd.aay (k:=(1:Int).toNat) b7.out (by omega);obtain⟨d9,dH⟩:∃A1,A1=(if dG=(1:Int).toNat then(some d4)else((some d4):Option Addr).map (·.add ((1:Int).toNat*1))):=⟨_,rfl⟩;obtain⟨dA,dV⟩:∃c1,c1=dG-(1:Int).toNat:=⟨_,rfl⟩;have dW:bC.length=b4.length-(1:Int).toNat:=(by rw[dZ.out,List.length_drop]);rw[←dZ.out]at d8;rw[←dW,←dH,←dV]at gJ;replace d8:Kd.Q (Kd.int .i64) 3 wr w.heap.size (fun k_=>some k_≠(u3:Value).ownBlock) (.slice d9 bC.length dA) bC:=(by rw[dH,dV,dW];exact d8);have j3:ae ((Value.slice d9 bC.length dA).ownBlock=(.slice (some d4) b4.length dG:Value).ownBlock):=⟨by rw[dH];split<;>(cases ((some d4):Option Addr)<;>rfl)⟩;clear dW gA gB b7 dH dV;have bK:=ae.mk d8;clear d8;replace gI:=eq_true gI;have n_:=am (Kd.aZ (ok':=fun k_=>some k_≠(.slice d9 bC.length dA:Value).ownBlock) b3.out (fun k_ hk=>(by rw[j3.out];exact hk)));clear b3;have b3:=n_;clear n_;obtain⟨⟨_,_⟩,_,_⟩:=z2 b1
   go_upto_region 7 with(first|((with_reducible refine ai (f:=91) rfl ?_);refine ej 23 func91 (cT.calls k1 _ _ ag ak (rd b4 0) bW bH bX bI b5 bJ gZ _ (kC gM) gN.out jB.out) ?_;rintro e mI ⟨m9,mA,mB,rfl,jC,gV,gW,hb⟩;refine⟨_,rfl,?_⟩;have bM:=am (Kd.an jC (ah oB));have bN:=am (Kd.an gV (ah oB));have bO:=am (Kd.an gW (ah oB));replace b3:=ei b3 hb;replace bK:=rH bK hb;replace b1:=aJ b1 hb;replace HB:=hB HB hb;(try clear gV);(try clear gW))|((with_reducible refine aj (N:=6) rfl ?_);refine cO 6 #[.int .i64 0,.int .i64 0,.int .i64 0,.slice none 0 0,.slice none 0 0,.slice none 0 0] 58 ?_;intro bD hg mJ hbox hb;have b2:=am (hbox);have jI:=cN hg;have bP:=dm hg b1;have bQ:=dn hg b1;replace b3:=ei b3 hb;replace bK:=rH bK hb;replace bM:=ei bM hb;replace bN:=ei bN hb;replace bO:=ei bO hb;replace b1:=aJ b1 hb;replace HB:=hB HB hb;clear hb hbox hg;have jJ:=bQ.out;have jK:=bP.out;obtain⟨⟨_,_,_,_,_,_⟩,_,_,_,_,_,_⟩:=z6 b2;obtain⟨bY,bZ,j4⟩:=Kd.ao bM.out;subst j4;obtain⟨bR,bS,j5⟩:=Kd.ao bN.out;subst j5;obtain⟨d1,d2,j6⟩:=Kd.ao bO.out;subst j6))
   (try simp only[Act.put,List.setIfInBounds_toArray,List.set_cons_zero,List.set_cons_succ])
   go_cut [32] (fun jD wc=>∃(kq:Nat) (dB:Bool),jD= .bool dB∧ae (aY.j1 kq bG bC (rd b4 0) dB ag ak bW bH bX bI b5 bJ=some r)∧ae (kq≤k1)∧ae (Kd.R (Kd.int .i64) 3 wc w.heap.size (fun k_=>some k_≠((.slice d9 bC.length dA):Value).ownBlock) u3 bG)∧ae (Kd.Q (Kd.int .i64) 3 wc w.heap.size (fun k_=>some k_≠(u3:Value).ownBlock) (.slice d9 bC.length dA) bC)∧ae (Kd.R (Kd.int .u8) 5 wc w.heap.size (fun _=>True) (.slice bY bI.length bZ) bI)∧ae (Kd.R fI 75 wc w.heap.size (fun _=>True) (.slice bR b5.length bS) b5)∧ae (Kd.R jl 82 wc w.heap.size (fun _=>True) (.slice d1 bJ.length d2) bJ)∧ae (wc.heap[dE]? =some (.cells #[(.slice bh ag.length aT),.int .i64 ak] 28 (0,0)))∧ae (wc.heap[bD]? =some (.cells #[.int .i64 bW,.int .i64 bH,.int .i64 bX,(.slice bY bI.length bZ),(.slice bR b5.length bS),(.slice d1 bJ.length d2)] 58 (0,0)))∧ae (Below w.heap.size w wc))
   case first=>
    have H:=dS.out;clear dS;replace H:=lr H;rcases H with⟨rfl,H⟩|⟨rfl,H⟩
    ·replace H:=bA H;obtain⟨dF,jE,H⟩:=H
     try dsimp only at H
     have H':=ae.mk H;clear H;obtain⟨mC,mD,j7⟩:=Kd.ao b3.out;subst j7
     go_wp2_with (first|(go_at_call 146;(with_reducible refine(eg.calls _ _ bG (rd b4 0) dF _ (lv b3 b2) (ko b3) jE.out).mono ?_);rintro e mK ⟨rfl,hb⟩;replace b3:=ga b3 b2 hb;replace bK:=acO bK b2 hb;replace bM:=ga bM b2 hb;replace bN:=ga bN b2 hb;replace bO:=ga bO b2 hb;replace b1:=aJ b1 hb;replace b2:=pl #[.int .i64 bW,.int .i64 bH,.int .i64 bX,.slice bY bI.length bZ,.slice bR b5.length bS,.slice d1 bJ.length d2] b2 hb;replace HB:=hB HB hb;(try clear hk)))
     go_meet
     case rel=>exact⟨_,(dF),oS,H',⟨by have:=bV.out;first|omega|exact Nat.le_refl _⟩,⟨oR b3⟩,⟨by(with_reducible repeat(first|apply Kd.iG|apply Kd.iH|apply Kd.jz));exact bK.out⟩,⟨oR bM⟩,⟨oR bN⟩,⟨oR bO⟩,⟨oF b1⟩,⟨oF b2⟩,⟨oB⟩⟩
    have H':=ae.mk H;clear H
    go_wp2
    go_meet
    case rel=>exact⟨_,(true),oS,H',⟨by have:=bV.out;first|omega|exact Nat.le_refl _⟩,⟨by(with_reducible repeat(first|apply Kd.bu|apply Kd.bx|apply Kd.bp));exact Kd.aZ (Kd.hD (p:=⟨bD,5,none⟩) (Kd.hD (p:=⟨bD,4,none⟩) (Kd.hD (p:=⟨bD,3,none⟩) (Kd.hD (p:=⟨bD,2,none⟩) (Kd.hD (p:=⟨bD,1,none⟩) (Kd.hD (p:=⟨bD,0,none⟩) (Kd.aM b3.out b2.out (by decide)) (fun _ hk=>hk.2) (.int .i64 bW)) (fun _ hk=>hk.2) (.int .i64 bH)) (fun _ hk=>hk.2) (.int .i64 bX)) (fun _ hk=>hk.2) (.slice bY bI.length bZ)) (fun _ hk=>hk.2) (.slice bR b5.length bS)) (fun _ hk=>hk.2) (.slice d1 bJ.length d2)) (fun _ hk=>hk.1)⟩,⟨by(with_reducible repeat(first|apply Kd.iG|apply Kd.iH|apply Kd.jz));exact Kd.my (Kd.qj (p:=⟨bD,5,none⟩) (Kd.qj (p:=⟨bD,4,none⟩) (Kd.qj (p:=⟨bD,3,none⟩) (Kd.qj (p:=⟨bD,2,none⟩) (Kd.qj (p:=⟨bD,1,none⟩) (Kd.qj (p:=⟨bD,0,none⟩) (Kd.rP bK.out b2.out (by decide)) (fun _ hk=>hk.2) (.int .i64 bW)) (fun _ hk=>hk.2) (.int .i64 bH)) (fun _ hk=>hk.2) (.int .i64 bX)) (fun _ hk=>hk.2) (.slice bY bI.length bZ)) (fun _ hk=>hk.2) (.slice bR b5.length bS)) (fun _ hk=>hk.2) (.slice d1 bJ.length d2)) (fun _ hk=>hk.1)⟩,⟨uh bM b2⟩,⟨uh bN b2⟩,⟨uh bO b2⟩,⟨oF b1⟩,⟨oP b2⟩,⟨oB⟩⟩
   case rest=>
    clear dS
    try clear c7
    try clear dQ
    try clear dR
    try clear c8
    try clear gG
    try clear gH
    try clear c9
    obtain⟨kq,dB,rfl,HA,bT,b3,b7,b8,b6,b9,b1,b2,HB⟩:=hcut
    cases kq with
    |zero=>exact absurd HA.out (by simp[aY.j1])
    |succ vS=>
     have H:=HA.out;clear HA;simp only[aY.j1]at H;replace H:=lr H;rcases H with⟨rfl,H⟩|⟨rfl,H⟩
     ·have H':=ae.mk H;clear H
      go_wp2
      go_roundg vS
      case measure=>have:=bV.out;have:=bT.out;omega
      case rel=>exact⟨(bG),(bC),H',⟨by have:=bV.out;have:=bT.out;omega⟩,⟨oR b3⟩,⟨by(with_reducible repeat(first|apply Kd.iG|apply Kd.iH|apply Kd.jz));exact b7.out⟩,⟨oF b1⟩,⟨oB⟩⟩
     obtain⟨gK,H⟩:=lC H;have gC:=ae.mk gK;clear gK;obtain⟨d3,da⟩:∃y_:List Int,y_=(bG++[(rd b4 0)]):=⟨_,rfl⟩;replace H:(if bH=2 then(aY.l1 vS d3 bC b5 (b5.length:Int) 0 ag ak)else(aY.l0 vS d3 bC ag ak))=some r:=oY;have gD:=ae.mk da;clear da
     by_cases d6:bH=2
     rotate_left
     ·rw[if_neg d6]at H;have gP:(bH==2)=false:=beq_eq_false_iff_ne.mpr d6;have gQ:(bH !=2)=true:=bne_iff_ne.mpr d6;have H':=ae.mk H;clear H
      go_wp2_with (first|((with_reducible refine eU (b:= .append) (xs:= #[.tmp 33,.tmp 35]) rfl ?_);at_builtin;refine Kd.pb (Kd.int .i64) (w0:=w) w.heap.size rfl (.tmp 33) (.tmp 35) 98 3 (.int .i64 0) 8 rfl underlying98 info3 rfl (by decide) (by omega) u3 bG (rd b4 0) [.int .i64 (rd b4 0)] (fun k_=>some k_≠(.slice d9 bC.length dA:Value).ownBlock) (fun _=>False) rfl rfl ?aP (fun _ hk=>hk.elim) ?aF ?aO ?aB ?aS ?aL ?_;(case aP=>exact rfl);(case aB=>exact oB);(case aF=>exact(fun k_ hk=>Kd.fresh' (adH b7) k_ hk));(case aO=>exact(oR b3));(case aS=>exact(ah oB));(case aL=>have:=gC.out;omega);intro dI mL ho hb hg hat;rw[←gD.out]at ho;have dJ:=am (ho);replace b7:=am (Kd.yq (ok:=(fun _=>True)) (by(with_reducible repeat(first|apply Kd.iG|apply Kd.iH|apply Kd.jz));exact Kd.my b7.out (fun _ hk=>⟨trivial,hk⟩)) hg hat);replace b8:=am (Kd.ku (oR b8) (Kd.iC (oR b3)) (by decide) hg);replace b6:=am (Kd.ku (oR b6) (Kd.iC (oR b3)) (by decide) hg);replace b9:=am (Kd.ku (oR b9) (Kd.iC (oR b3)) (by decide) hg);replace b1:=lM b1 hg (Kd.nX b3.out b1.out (by decide));replace b2:=lM b2 hg (Kd.nX b3.out b2.out (by decide));replace HB:=am (hb);clear b3;clear ho hb hg hat;have jL:=bQ.out;have jM:=bP.out;obtain⟨⟨_,_,_,_,_,_⟩,_,_,_,_,_,_⟩:=z6 b2))
      go_roundg vS
      case measure=>have:=bV.out;have:=bT.out;omega
      case rel=>exact⟨(d3),(bC),H',⟨by have:=bV.out;have:=bT.out;omega⟩,⟨oR dJ⟩,⟨by(with_reducible repeat(first|apply Kd.iG|apply Kd.iH|apply Kd.jz));exact Kd.my b7.out (fun _ hk=>hk.2)⟩,⟨oF b1⟩,⟨oB⟩⟩
     rw[if_pos d6]at H;have gP:(bH==2)=true:=beq_iff_eq.mpr d6;have gQ:(bH !=2)=false:=bne_eq_false_iff_eq.mpr d6;clear d6;have H':=ae.mk H;clear H
     go_wp2_with (first|((with_reducible refine eU (b:= .append) (xs:= #[.tmp 33,.tmp 35]) rfl ?_);at_builtin;refine Kd.pb (Kd.int .i64) (w0:=w) w.heap.size rfl (.tmp 33) (.tmp 35) 98 3 (.int .i64 0) 8 rfl underlying98 info3 rfl (by decide) (by omega) u3 bG (rd b4 0) [.int .i64 (rd b4 0)] (fun k_=>some k_≠(.slice d9 bC.length dA:Value).ownBlock) (fun _=>False) rfl rfl ?aP (fun _ hk=>hk.elim) ?aF ?aO ?aB ?aS ?aL ?_;(case aP=>exact rfl);(case aB=>exact oB);(case aF=>exact(fun k_ hk=>Kd.fresh' (adH b7) k_ hk));(case aO=>exact(oR b3));(case aS=>exact(ah oB));(case aL=>have:=gC.out;omega);intro dI mM ho hb hg hat;rw[←gD.out]at ho;have dJ:=am (ho);replace b7:=am (Kd.yq (ok:=(fun _=>True)) (by(with_reducible repeat(first|apply Kd.iG|apply Kd.iH|apply Kd.jz));exact Kd.my b7.out (fun _ hk=>⟨trivial,hk⟩)) hg hat);replace b8:=am (Kd.ku (oR b8) (Kd.iC (oR b3)) (by decide) hg);replace b6:=am (Kd.ku (oR b6) (Kd.iC (oR b3)) (by decide) hg);replace b9:=am (Kd.ku (oR b9) (Kd.iC (oR b3)) (by decide) hg);replace b1:=lM b1 hg (Kd.nX b3.out b1.out (by decide));replace b2:=lM b2 hg (Kd.nX b3.out b2.out (by decide));replace HB:=am (hb);clear b3;clear ho hb hg hat;have jN:=bQ.out;have jO:=bP.out;obtain⟨⟨_,_,_,_,_,_⟩,_,_,_,_,_,_⟩:=z6 b2))
     go_loopg [4,43] vS (fun kq v4 jF w'=>∃(d5:List Int) (bB:Int),jF= .int .i64 bB∧ae (aY.l1 kq d3 d5 b5 (b5.length:Int) bB ag ak=some r)∧ae (kq≤vS)∧ae (Kd.R (Kd.int .i64) 3 w' w.heap.size (fun k_=>some k_≠(v4:Value).ownBlock) dI d3)∧ae (Kd.Q (Kd.int .i64) 3 w' w.heap.size (fun k_=>some k_≠(dI:Value).ownBlock) v4 d5)∧ae (Kd.R fI 75 w' w.heap.size (fun _=>True) (.slice bR b5.length bS) b5)∧ae (Kd.R (Kd.int .u8) 5 w' w.heap.size (fun _=>True) (.slice bY bI.length bZ) bI)∧ae (Kd.R fI 75 w' w.heap.size (fun _=>True) (.slice bR b5.length bS) b5)∧ae (Kd.R jl 82 w' w.heap.size (fun _=>True) (.slice d1 bJ.length d2) bJ)∧ae (w'.heap[dE]? =some (.cells #[(.slice bh ag.length aT),.int .i64 ak] 28 (0,0)))∧ae (w'.heap[bD]? =some (.cells #[.int .i64 bW,.int .i64 bH,.int .i64 bX,(.slice bY bI.length bZ),(.slice bR b5.length bS),(.slice d1 bJ.length d2)] 58 (0,0)))∧ae (Below w.heap.size w w'))
     case atStart=>exact⟨(bC),(0),oS,H',⟨Nat.le_refl _⟩,⟨oR dJ⟩,⟨by(with_reducible repeat(first|apply Kd.iG|apply Kd.iH|apply Kd.jz));exact Kd.my b7.out (fun _ hk=>hk.2)⟩,⟨oR b6⟩,⟨oR b8⟩,⟨oR b6⟩,⟨oR b9⟩,⟨oF b1⟩,⟨oF b2⟩,⟨oB⟩⟩
     case round=>
      clear H'
      try clear c7
      try clear dQ
      try clear dR
      try clear c8
      try clear gG
      try clear gH
      try clear c9
      try clear gK
      try clear d6
      obtain⟨d5,bB,rfl,HA,gE,b3,b7,bU,b8,b6,b9,b1,b2,HB⟩:=hrel
      cases gk with
      |zero=>exact absurd HA.out (by simp[aY.l1])
      |succ k3=>
       have H:=HA.out;clear HA;simp only[aY.l1]at H;replace H:=jm H;rcases H with⟨gR,H⟩|⟨gR,H⟩;rotate_left
       ·have H':=ae.mk H;clear H
        go_wp2
        go_roundg k3
        case measure=>have:=bV.out;have:=bT.out;have:=gE.out;omega
        case rel=>exact⟨(d3),(d5),H',⟨by have:=bV.out;have:=bT.out;have:=gE.out;omega⟩,⟨oR b3⟩,⟨by(with_reducible repeat(first|apply Kd.iG|apply Kd.iH|apply Kd.jz));exact b7.out⟩,⟨oF b1⟩,⟨oB⟩⟩
       obtain⟨jP,H⟩:=cU H;obtain⟨jQ,H⟩:=cU H;obtain⟨gX,H⟩:=lC H;have gS:=ae.mk gX;clear gX;obtain⟨gL,da⟩:∃y_:List Int,y_=(d5++[(al b5 bB).f1]):=⟨_,rfl⟩;replace H:(aY.l1 k3 d3 gL b5 (b5.length:Int) (wrap64 (bB+1)) ag ak)=some r:=oY;have gT:=ae.mk da;clear da;have H':=ae.mk H;clear H;have mE:(0≤(bB:Int))=True:=oT;have mF:(bB<(b5.length:Int))=True:=oT;obtain⟨jR,j8,j9,jA⟩:=cV (Kd.bd bU.out).2.2 bB oa oa
       cases j8
       go_wp2_with (first|((with_reducible refine aj (N:=9) rfl ?_);refine cO 9 #[.string (⟨#[]⟩:ByteArray),.int .i64 0] 75 ?_;intro bL hg mN hbox hb;have bF:=am (hbox);have jS:=cN hg;have dL:=dm hg b1;have dM:=dn hg b1;have dN:=dm hg b2;have dO:=dn hg b2;replace b3:=ei b3 hb;replace b7:=rH b7 hb;replace bU:=am (Kd.je (Kd.vD (oR bU) bL (Nat.le_of_eq hg.symm)) hb);replace b8:=ei b8 hb;replace b6:=am (Kd.je (Kd.vD (oR b6) bL (Nat.le_of_eq hg.symm)) hb);replace b9:=ei b9 hb;replace b1:=aJ b1 hb;replace b2:=aJ b2 hb;replace HB:=hB HB hb;clear hb hbox hg;have jT:=dM.out;have jU:=dL.out;have jV:=dO.out;have jW:=dN.out;obtain⟨⟨_,_⟩,_,_⟩:=z2 bF)|((with_reducible refine eU (b:= .append) (xs:= #[.tmp 47,.tmp 50]) rfl ?_);at_builtin;refine Kd.aaz (Kd.int .i64) (w0:=w) w.heap.size rfl (.tmp 47) (.tmp 50) 98 3 (.int .i64 0) 8 rfl underlying98 info3 rfl (by decide) (by omega) u4 d5 ((al b5 bB).f1) [.int .i64 ((al b5 bB).f1)] (fun k_=>some k_≠(dI:Value).ownBlock) (fun _=>False) rfl (by first|(go_simp;done)|(go_simp;rfl)) ?aP (fun _ hk=>hk.elim) ?aF ?aO ?aB ?aS ?aL ?_;(case aP=>exact rfl);(case aB=>exact oB);(case aF=>exact(fun k_ hk=>Kd.fresh' (lu b3 bF) k_ hk));(case aO=>exact(by(with_reducible repeat(first|apply Kd.iG|apply Kd.iH|apply Kd.jz));exact Kd.my (Kd.qj (p:=⟨bL,1,none⟩) (Kd.qj (p:=⟨bL,0,none⟩) (Kd.rP b7.out bF.out (by decide)) (fun _ hk=>hk.2) (.string ((al b5 bB).f0))) (fun _ hk=>hk.2) (.int .i64 ((al b5 bB).f1))) (fun _ hk=>hk.1)));(case aS=>exact(ah oB));(case aL=>have:=gS.out;omega);intro mG mO ho hb hg hat;rw[←gT.out]at ho;have gU:=am (ho);replace b3:=am (Kd.rU (ok:=(fun _=>True)) (by(with_reducible repeat(first|apply Kd.bu|apply Kd.bx|apply Kd.bp));exact Kd.aZ (Kd.hD (p:=⟨bL,1,none⟩) (Kd.hD (p:=⟨bL,0,none⟩) (Kd.aM b3.out bF.out (by decide)) (fun _ hk=>hk.2) (.string ((al b5 bB).f0))) (fun _ hk=>hk.2) (.int .i64 ((al b5 bB).f1))) (fun _ hk=>⟨trivial,hk.1⟩)) hg hat);replace bU:=am (Kd.ku (nR2 bU bL (fun _ hk=>hk.2)) (Kd.rV (nQ1 b7 bF)) (by decide) hg);replace b8:=am (Kd.ku (nR1 b8 bF) (Kd.rV (nQ1 b7 bF)) (by decide) hg);replace b6:=am (Kd.ku (nR2 b6 bL (fun _ hk=>hk.2)) (Kd.rV (nQ1 b7 bF)) (by decide) hg);replace b9:=am (Kd.ku (nR1 b9 bF) (Kd.rV (nQ1 b7 bF)) (by decide) hg);replace b1:=lM b1 hg (Kd.ac1 b7.out b1.out (by decide));replace b2:=lM b2 hg (Kd.ac1 b7.out b2.out (by decide));replace bF:=bp_ #[.string ((al b5 bB).f0),.int .i64 ((al b5 bB).f1)] bF hg (Kd.ac1 b7.out bF.out (by decide));replace HB:=am (hb);clear b7;clear ho hb hg hat))
       go_roundg k3
       case measure=>have:=bV.out;have:=bT.out;have:=gE.out;omega
       case rel=>exact⟨(gL),(wrap64 (bB+1)),oS,H',⟨by have:=bV.out;have:=bT.out;have:=gE.out;omega⟩,⟨by(with_reducible repeat(first|apply Kd.bu|apply Kd.bx|apply Kd.bp));exact Kd.aZ b3.out (fun _ hk=>hk.2)⟩,⟨by(with_reducible repeat(first|apply Kd.iG|apply Kd.iH|apply Kd.jz));exact gU.out⟩,⟨mR bU⟩,⟨oR b8⟩,⟨mR b6⟩,⟨oR b9⟩,⟨oF b1⟩,⟨oF b2⟩,⟨oB⟩⟩

def cK.j0:Nat→Bool→Int→Int→Int→List Int→List (cA)→List (eu)→Option (Bool)
 |0,_,_,_,_,_,_,_=>none
 |k+1,b7,b5,b1,b2,b3,b4,b6=>if b7=true then(some false)else(if b1=1 then(some ((b4.length:Int)==0))else(if b1=2 then(if(b3.length:Int)=0 then(some (decide (b2≤1)))else(some false))else(some false)))
def cK.f (k:Nat) (bo:Int) (ak:Int) (cE:Int) (ch:List Int) (aG:List (cA)) (cp:List (eu)):Option (Bool):=(bb.f bo 1 1000).bind fun b1=>(if b1=true then((bb.f cE 0 1000).bind fun b2=>(if b2=true then(if((cE==0) !=(bo==1))=true then(cK.j0 k true bo ak cE ch aG cp)else(if(ch.length:Int)>100 then(cK.j0 k true bo ak cE ch aG cp)else((eh.f k aG).bind fun b3=>(if b3=true then((dt.f k cp).bind fun b4=>(cK.j0 k (!b4) bo ak cE ch aG cp))else(cK.j0 k true bo ak cE ch aG cp)))))else(cK.j0 k true bo ak cE ch aG cp)))else(cK.j0 k true bo ak cE ch aG cp))
theorem cK.calls (k:Nat) (bo:Int) (ak:Int) (cE:Int) (fP:Option Addr) (fQ:Nat) (ch:List Int) (fE:Option Addr) (fF:Nat) (aG:List (cA)) (fG:Option Addr) (fH:Nat) (cp:List (eu)) (r:Bool) (w:World) (iL:Kd.C (Kd.int .u8) w fP ch.length ch) (iM:ch.length≤fQ) (iN:Kd.C fI w fE aG.length aG) (iO:aG.length≤fF) (iP:Kd.C jl w fG cp.length cp) (iQ:cp.length≤fH) (h:cK.f k bo ak cE ch aG cp=some r):
  Calls Tryz.prog 116 #[.agg #[.int .i64 bo,.int .i64 ak,.int .i64 cE,.slice fP ch.length fQ,.slice fE aG.length fF,.slice fG cp.length fH]] w fun e w'=>e= .returned (.bool r)∧Below w.heap.size w w':=by
 have bX:=underlying58;have bT:=ae.mk iL;have bU:=ae.mk iM;clear iL iM;have b9:=ae.mk iN;have bB:=ae.mk iO;clear iN iO;have bE:=ae.mk iP;have bF:=ae.mk iQ;clear iP iQ;have HB:=am (Below.refl w.heap.size w);unfold cK.f at h;have H:=h;clear h;have bC:=ae.mk H;clear H
 go_enter func116,ntmps116
 go_upto_region 1 with(first|((with_reducible refine aj (N:=1) rfl ?_);(try(refine cl (by rfl) ?_;dsimp only));refine cO 1 #[.int .i64 bo,.int .i64 ak,.int .i64 cE,.slice fP ch.length fQ,.slice fE aG.length fF,.slice fG cp.length fH] 58 ?_;intro bG hg w3 hbox hb;have b1:=am (hbox);have bV:=cN hg;replace HB:=hB HB hb;clear hb hbox hg))
 (try simp only[Act.put,List.setIfInBounds_toArray,List.set_cons_zero,List.set_cons_succ])
 go_cut [39] (fun bR wc=>∃(kq:Nat) (b5:Bool),bR= .bool b5∧ae (cK.j0 kq b5 bo ak cE ch aG cp=some r)∧ae (kq≤k)∧ae (wc.heap[bG]? =some (.cells #[.int .i64 bo,.int .i64 ak,.int .i64 cE,(.slice fP ch.length fQ),(.slice fE aG.length fF),(.slice fG cp.length fH)] 58 (0,0)))∧ae (Below w.heap.size w wc))
 case first=>
  have H:=bC.out;clear bC;replace H:=bA H;obtain⟨bY,A4,H⟩:=H
  try dsimp only at H
  replace H:=lr H;rcases H with⟨rfl,H⟩|⟨rfl,H⟩;rotate_left
  ·have H':=ae.mk H;clear H;obtain⟨⟨_,_,_,_,_,_⟩,_,_,_,_,_,_⟩:=z6 b1
   go_wp2_with (first|((with_reducible refine ai (f:=60) rfl ?_);refine ej 5 func60 (bb.calls bo 1 1000 false _ A4.out) ?_;rintro e w' ⟨rfl,⟨nd,rfl⟩⟩;refine⟨_,rfl,?_⟩))
   go_meet
   case rel=>exact⟨_,(true),oS,H',⟨by first|omega|exact Nat.le_refl _⟩,⟨oF b1⟩,⟨oB⟩⟩
  replace H:=bA H;obtain⟨bZ,A6,H⟩:=H
  try dsimp only at H
  replace H:=lr H;rcases H with⟨rfl,H⟩|⟨rfl,H⟩;rotate_left
  ·have H':=ae.mk H;clear H;obtain⟨⟨_,_,_,_,_,_⟩,_,_,_,_,_,_⟩:=z6 b1
   go_wp2_with (first|((with_reducible refine ai (f:=60) rfl ?_);refine ej 5 func60 (bb.calls bo 1 1000 true _ A4.out) ?_;rintro e w' ⟨rfl,⟨nd,rfl⟩⟩;refine⟨_,rfl,?_⟩)|(go_at_call 60;(with_reducible refine(bb.calls cE 0 1000 false _ A6.out).mono ?_);rintro e w' ⟨rfl,⟨nd,rfl⟩⟩))
   go_meet
   case rel=>exact⟨_,(true),oS,H',⟨by first|omega|exact Nat.le_refl _⟩,⟨oF b1⟩,⟨oB⟩⟩
  by_cases c8:((cE==0) !=(bo==1))=true
  ·rw[if_pos c8]at H;have b6:((cE==0) !=(bo==1))=true:=c8
   (try(have b7:decide ((cE==0)=(bo==1))=false:=by simpa using c8))
   (try(have b8:((cE==0)==(bo==1))=false:=by simpa using c8))
   (try(have bQ:¬((cE==0)=(bo==1)):=by simpa using c8))
   clear c8
   (first|rw[b6]|rw[b7]|rw[b8]|rw[bQ]|skip)
   have H':=ae.mk H;clear H;obtain⟨⟨_,_,_,_,_,_⟩,_,_,_,_,_,_⟩:=z6 b1
   go_wp2_with (first|((with_reducible refine ai (f:=60) rfl ?_);refine ej 5 func60 (bb.calls bo 1 1000 true _ A4.out) ?_;rintro e w' ⟨rfl,⟨nd,rfl⟩⟩;refine⟨_,rfl,?_⟩)|(go_at_call 60;(with_reducible refine(bb.calls cE 0 1000 true _ A6.out).mono ?_);rintro e w' ⟨rfl,⟨nd,rfl⟩⟩))
   go_meet
   case rel=>exact⟨_,(true),oS,H',⟨by first|omega|exact Nat.le_refl _⟩,⟨oF b1⟩,⟨oB⟩⟩
  rw[if_neg c8]at H
  have b6:((cE==0) !=(bo==1))=false:=by simpa using c8
  (try(have b7:decide ((cE==0)=(bo==1))=true:=by simpa using c8))
  (try(have b8:((cE==0)==(bo==1))=true:=by simpa using c8))
  clear c8
  (first|rw[b6]|rw[b7]|rw[b8]|skip)
  by_cases c10:(ch.length:Int)>100
  ·rw[if_pos c10]at H;have bH:decide (100<(ch.length:Int))=true:=decide_eq_true c10;have bI:decide (100<ch.length)=true:=decide_eq_true (by omega);clear c10;have H':=ae.mk H;clear H;obtain⟨⟨_,_,_,_,_,_⟩,_,_,_,_,_,_⟩:=z6 b1
   go_wp2_with (first|((with_reducible refine ai (f:=60) rfl ?_);refine ej 5 func60 (bb.calls bo 1 1000 true _ A4.out) ?_;rintro e w' ⟨rfl,⟨nd,rfl⟩⟩;refine⟨_,rfl,?_⟩)|(go_at_call 60;(with_reducible refine(bb.calls cE 0 1000 true _ A6.out).mono ?_);rintro e w' ⟨rfl,⟨nd,rfl⟩⟩))
   go_meet
   case rel=>exact⟨_,(true),oS,H',⟨by first|omega|exact Nat.le_refl _⟩,⟨oF b1⟩,⟨oB⟩⟩
  rw[if_neg c10]at H;have bH:decide (100<(ch.length:Int))=false:=decide_eq_false c10;have bI:decide (100<ch.length)=false:=decide_eq_false (by omega);clear c10;replace H:=bA H;obtain⟨d1,bP,H⟩:=H
  try dsimp only at H
  replace H:=lr H;rcases H with⟨rfl,H⟩|⟨rfl,H⟩;rotate_left
  ·have H':=ae.mk H;clear H;obtain⟨⟨_,_,_,_,_,_⟩,_,_,_,_,_,_⟩:=z6 b1
   go_wp2_with (first|((with_reducible refine ai (f:=60) rfl ?_);refine ej 5 func60 (bb.calls bo 1 1000 true _ A4.out) ?_;rintro e w' ⟨rfl,⟨nd,rfl⟩⟩;refine⟨_,rfl,?_⟩)|(go_at_call 60;(with_reducible refine(bb.calls cE 0 1000 true _ A6.out).mono ?_);rintro e w' ⟨rfl,⟨nd,rfl⟩⟩)|(go_at_call 139;(with_reducible refine(eh.calls k _ _ aG false _ (kC b9) bB.out bP.out).mono ?_);rintro e w' ⟨rfl,⟨nd,rfl⟩⟩))
   go_meet
   case rel=>exact⟨_,(true),oS,H',⟨by first|omega|exact Nat.le_refl _⟩,⟨oF b1⟩,⟨oB⟩⟩
  replace H:=bA H;obtain⟨bD,bS,H⟩:=H
  try dsimp only at H
  have H':=ae.mk H;clear H;obtain⟨⟨_,_,_,_,_,_⟩,_,_,_,_,_,_⟩:=z6 b1
  go_wp2_with (first|((with_reducible refine ai (f:=60) rfl ?_);refine ej 5 func60 (bb.calls bo 1 1000 true _ A4.out) ?_;rintro e w' ⟨rfl,⟨nd,rfl⟩⟩;refine⟨_,rfl,?_⟩)|(go_at_call 60;(with_reducible refine(bb.calls cE 0 1000 true _ A6.out).mono ?_);rintro e w' ⟨rfl,⟨nd,rfl⟩⟩)|(go_at_call 139;(with_reducible refine(eh.calls k _ _ aG true _ (kC b9) bB.out bP.out).mono ?_);rintro e w' ⟨rfl,⟨nd,rfl⟩⟩)|(go_at_call 140;(with_reducible refine(dt.calls k _ _ cp bD _ (kC bE) bF.out bS.out).mono ?_);rintro e w' ⟨rfl,⟨nd,rfl⟩⟩))
  go_meet
  case rel=>exact⟨_,(!bD),oS,H',⟨by first|omega|exact Nat.le_refl _⟩,⟨oF b1⟩,⟨oB⟩⟩
 case rest=>
  clear bC;obtain⟨kq,b5,rfl,HA,d2,b1,HB⟩:=hcut
  cases kq with
  |zero=>exact absurd HA.out (by simp[cK.j0])
  |succ xw=>
   have H:=HA.out;clear HA;simp only[cK.j0]at H;replace H:=lr H;rcases H with⟨rfl,H⟩|⟨rfl,H⟩
   ·obtain rfl:=Option.some.inj H
    go_wp2
    go_ret
    exact⟨oE,oB⟩
   by_cases b3:ak=1
   ·rw[if_pos b3]at H;have bJ:(ak==1)=true:=beq_iff_eq.mpr b3;have bK:(ak !=1)=false:=bne_eq_false_iff_eq.mpr b3;clear b3;obtain rfl:=Option.some.inj H;obtain⟨⟨_,_,_,_,_,_⟩,_,_,_,_,_,_⟩:=z6 b1
    go_wp2
    go_ret
    exact⟨oE,oB⟩
   rw[if_neg b3]at H;have bJ:(ak==1)=false:=beq_eq_false_iff_ne.mpr b3;have bK:(ak !=1)=true:=bne_iff_ne.mpr b3
   by_cases b4:ak=2
   rotate_left
   ·rw[if_neg b4]at H;have bL:(ak==2)=false:=beq_eq_false_iff_ne.mpr b4;have bM:(ak !=2)=true:=bne_iff_ne.mpr b4;obtain rfl:=Option.some.inj H;obtain⟨⟨_,_,_,_,_,_⟩,_,_,_,_,_,_⟩:=z6 b1
    go_wp2
    go_ret
    exact⟨oE,oB⟩
   rw[if_pos b4]at H;have bL:(ak==2)=true:=beq_iff_eq.mpr b4;have bM:(ak !=2)=false:=bne_eq_false_iff_eq.mpr b4;clear b4
   by_cases b2:(ch.length:Int)=0
   ·rw[if_pos b2]at H;have bN:((ch.length:Int)==0)=true:=beq_iff_eq.mpr b2;have bO:((ch.length:Int) !=0)=false:=bne_eq_false_iff_eq.mpr b2;clear b2;obtain rfl:=Option.some.inj H;obtain⟨⟨_,_,_,_,_,_⟩,_,_,_,_,_,_⟩:=z6 b1
    go_wp2
    go_ret
    exact⟨oE,oB⟩
   rw[if_neg b2]at H;have bN:((ch.length:Int)==0)=false:=beq_eq_false_iff_ne.mpr b2;have bO:((ch.length:Int) !=0)=true:=bne_iff_ne.mpr b2
   have bW:¬(ch=[]):=fun h_=>b2 (by rw[h_];rfl)
   obtain rfl:=Option.some.inj H;obtain⟨⟨_,_,_,_,_,_⟩,_,_,_,_,_,_⟩:=z6 b1
   go_wp2
   go_ret
   exact⟨oE,oB⟩

theorem adt {α:Type}{d:Kd α}{e:Nat}{W:World}{base:Nat}{ok:Nat→Prop}{v:Value}{xs:List α}(h:Kd.S d e W base ok v xs):
  ∃(rows:List (List Value)) (f:Nat→Nat),rows.length=xs.length∧(Kd.raw d.sz).R e W base (fun k=>v.ownBlock=some k) v rows∧(∀k,v.ownBlock=some k→ok k)∧
   ∀(q:Nat) (x:α),xs[q]? =some x→d.M W base (fun k=>(ok k∧some k≠v.ownBlock)∧f k=q) x (rows.getD q []):=by
 obtain⟨f,hok0,inner,ho,hr⟩:=h
 have hlen:inner.length=xs.length*d.sz:=by have:=hr.1;rw[List.length_zipIdx]at this;exact this
 have hM:∀(q:Nat) (x:α),xs[q]? =some x→d.M W base (fun k=>(ok k∧some k≠v.ownBlock)∧f k=q) x ((inner.drop (q*d.sz)).take d.sz):=fun q x hx=>hr.2 q (x,q) (Kd.ob hx)
 have hrow:∀q,q<xs.length→((List.range xs.length).map fun j=>(inner.drop (j*d.sz)).take d.sz)[q]? =some ((inner.drop (q*d.sz)).take d.sz):=fun q hq=>by
  rw[List.getElem?_map,List.getElem?_range hq];rfl
 refine⟨(List.range xs.length).map fun j=>(inner.drop (j*d.sz)).take d.sz,f,by rw[List.length_map,List.length_range],⟨fun k hk=>hk,inner,?_,?_,fun j p hj=> ?_⟩,hok0,fun q x hx=> ?_⟩
 ·rw[List.length_map,List.length_range];rw[List.length_zipIdx]at ho;exact ho
 ·rw[List.length_map,List.length_range];exact hlen
 ·rw[List.getElem?_map]at hj;obtain⟨j',hj',rfl⟩:=Option.map_eq_some_iff.1 hj;obtain⟨hl,he⟩:=List.getElem?_eq_some_iff.1 hj';rw[List.getElem_range]at he;subst he;rw[List.length_range]at hl;have hm:=d.eX (hM j _ (List.getElem?_eq_getElem hl));exact⟨rfl,d.iI hm,d.iq hm⟩
 ·have hq:q<xs.length:=(List.getElem?_eq_some_iff.1 hx).1;rw[List.getD_eq_getElem?_getD,hrow q hq];exact hM q x hx
theorem yx {α:Type}{d:Kd α}{e:Nat}{W:World}{base:Nat}{ok okr:Nat→Prop}{v:Value}{xs:List α}{rows:List (List Value)}(f:Nat→Nat)
  (hraw:(Kd.raw d.sz).R e W base okr v rows) (hlen:rows.length=xs.length) (hok:∀k,v.ownBlock=some k→ok k)
  (hM:∀(q:Nat) (x:α),xs[q]? =some x→d.M W base (fun k=>(ok k∧some k≠v.ownBlock)∧f k=q) x (rows.getD q [])):Kd.S d e W base ok v xs:=by
 obtain⟨_,inner,ho,hr⟩:=hraw;refine⟨f,hok,inner,?_,?_,fun j p hj=> ?_⟩
 ·rw[List.length_zipIdx,←hlen];exact ho
 ·rw[List.length_zipIdx,←hlen];exact hr.1
 ·rw[List.getElem?_zipIdx,Nat.zero_add]at hj;obtain⟨y,hy,rfl⟩:=Option.map_eq_some_iff.1 hj
  have hjl:j<rows.length:=by rw[hlen];exact(List.getElem?_eq_some_iff.1 hy).1
  have hrw:=(hr.2 j _ (List.getElem?_eq_getElem hjl)).1
  show d.M W base _ y ((inner.drop (j*d.sz)).take d.sz)
  rw[show(inner.drop (j*d.sz)).take d.sz=rows[j]from hrw];have:=hM j y hy;rw[List.getD_eq_getElem?_getD,List.getElem?_eq_getElem hjl]at this;exact this
theorem aaU {α:Type}(l:List α) (x:α) (j q:Nat) (hj:j≤l.length):(l.take j++[x]++l.drop j)[q]? =if q<j then l[q]? else if q=j then some x else l[q-1]? :=by
 have ht:(l.take j).length=j:=by rw[List.length_take];omega
 rw[List.append_assoc]
 by_cases h1:q<j
 ·rw[if_pos h1,List.getElem?_append_left (by omega),List.getElem?_take,if_pos h1]
 rw[if_neg h1,List.getElem?_append_right (by omega),ht]
 by_cases h2:q=j
 ·subst h2;rw[if_pos rfl,Nat.sub_self];rfl
 rw[if_neg h2,show q-j=(q-j-1)+1 by omega];simp only[List.singleton_append,List.getElem?_cons_succ,List.getElem?_drop];rw[show j+(q-j-1)=q-1 by omega]
/-- A row of structs whose element i is written over with a new one (made from N on): a row again. -/
theorem ad2 {α:Type}{d:Kd α}{e:Nat}{W W1:World}{base N:Nat}{ok okx okr okf:Nat→Prop}{v:Value}{xs:List α}{rows:List (List Value)}{f:Nat→Nat}{i:Nat}{x:α}{vs:List Value}
  (hraw:(Kd.raw d.sz).R e W1 base okr v (rows.set i vs)) (hlen:rows.length=xs.length) (hi:i<xs.length)
  (hM:∀(q:Nat) (x:α),xs[q]? =some x→d.M W base (fun k=>(ok k∧some k≠v.ownBlock)∧f k=q) x (rows.getD q [])) (hx:d.M W base okx x vs)
  (hv:∀k,v.ownBlock=some k→ok k) (hN:∀k,ok k→k<N) (hxN:∀k,okx k→N≤k) (hof:∀k,ok k∨okx k→okf k)
  (tQ:∀k,some k≠v.ownBlock→k<W.heap.size→W1.heap[k]? =W.heap[k]?):Kd.S d e W1 base okf v (xs.set i x):=by
 refine yx (fun k=>if k<N then f k else i) hraw (by rw[List.length_set,List.length_set,hlen]) (fun k hk=>hof k (.inl (hv k hk))) (fun q y hy=> ?_)
 by_cases hq:q=i
 rotate_left
 ·rw[List.getElem?_set_ne (fun e=>hq e.symm)]at hy;rw[List.getD_eq_getElem?_getD,List.getElem?_set_ne (fun e=>hq e.symm),←List.getD_eq_getElem?_getD];exact d.er (fun k hk=>⟨⟨hof k (.inl hk.1.1),hk.1.2⟩,by rw[if_pos (hN k hk.1.1)];exact hk.2⟩) (Kd.pa (hM q y hy) (fun k hk hlt=>tQ k hk.1.2 hlt))
 subst hq;rw[List.getElem?_set_self hi]at hy;injection hy with hy;subst hy;rw[List.getD_eq_getElem?_getD,List.getElem?_set_self (by omega)]
 have hne:∀k,okx k→some k≠v.ownBlock:=fun k hk he=>by have:=hN k (hv k he.symm);have:=hxN k hk;omega
 exact d.er (fun k hk=>⟨⟨hof k (.inr hk),hne k hk⟩,by rw[if_neg (by have:=hxN k hk;omega)]⟩) (Kd.pa hx (fun k hk hlt=>tQ k (hne k hk) hlt))
/-- The same where a new one is set in between. -/
theorem acz {α:Type}{d:Kd α}{e:Nat}{W W1:World}{base N N2:Nat}{ok okx okr okf:Nat→Prop}{v v1:Value}{xs:List α}{rows:List (List Value)}{f:Nat→Nat}{i:Nat}{x:α}{vs:List Value}
  (hraw:(Kd.raw d.sz).R e W1 base okr v1 (rows.take i++[vs]++rows.drop i)) (hlen:rows.length=xs.length) (hi:i≤xs.length)
  (hM:∀(q:Nat) (x:α),xs[q]? =some x→d.M W base (fun k=>(ok k∧some k≠v.ownBlock)∧f k=q) x (rows.getD q [])) (hx:d.M W base okx x vs)
  (hv:∀k,v.ownBlock=some k→ok k) (hv1:v1.ownBlock=v.ownBlock∨∃b,v1.ownBlock=some b∧N2≤b) (hN:∀k,ok k→k<N) (hxN:∀k,okx k→N≤k∧k<N2) (hNN:N≤N2) (hof:∀k,ok k∨okx k∨N2≤k→okf k)
  (tQ:∀k,some k≠v.ownBlock→k<W.heap.size→W1.heap[k]? =W.heap[k]?):Kd.S d e W1 base okf v1 (xs.take i++[x]++xs.drop i):=by
 have hl1:(rows.take i++[vs]++rows.drop i).length=(xs.take i++[x]++xs.drop i).length:=by simp only[List.length_append,List.length_take,List.length_drop,List.length_singleton,hlen]
 have hvx:∀k,okx k→some k≠v.ownBlock:=fun k hk he=>by have:=hN k (hv k he.symm);have:=(hxN k hk).1;omega
 have ael:∀k,okx k→some k≠v1.ownBlock:=fun k hk he=>by
  rcases hv1 with h|⟨b,h,hb⟩
  ·exact hvx k hk (he.trans h)
  ·rw[h]at he;injection he with he;have:=(hxN k hk).2;omega
 have ad3:∀k,ok k→some k≠v.ownBlock→some k≠v1.ownBlock:=fun k hk hne he=>by
  rcases hv1 with h|⟨b,h,hb⟩
  ·exact hne (he.trans h)
  ·rw[h]at he;injection he with he;have:=hN k hk;omega
 refine yx (fun k=>if k<N then(if f k<i then f k else f k+1)else i) hraw hl1 (fun k hk=> ?_) (fun q y hy=> ?_)
 ·rcases hv1 with h|⟨b,h,hb⟩
  ·exact hof k (.inl (hv k (h▸hk)))
  ·rw[h]at hk;injection hk with hk;exact hof k (.inr (.inr (hk▸hb)))
 ·rw[aaU xs x i q hi]at hy;rw[List.getD_eq_getElem?_getD,aaU rows vs i q (by omega)]
  by_cases h1:q<i
  ·rw[if_pos h1]at hy⊢;rw[←List.getD_eq_getElem?_getD];exact d.er (fun k hk=>⟨⟨hof k (.inl hk.1.1),ad3 k hk.1.1 hk.1.2⟩,by rw[if_pos (hN k hk.1.1),hk.2,if_pos h1]⟩) (Kd.pa (hM q y hy) (fun k hk hlt=>tQ k hk.1.2 hlt))
  rw[if_neg h1]at hy⊢
  by_cases h2:q=i
  ·rw[if_pos h2]at hy⊢;injection hy with hy;subst hy;exact d.er (fun k hk=>⟨⟨hof k (.inr (.inl hk)),ael k hk⟩,by rw[if_neg (by have:=(hxN k hk).1;omega),h2]⟩) (Kd.pa hx (fun k hk hlt=>tQ k (hvx k hk) hlt))
  rw[if_neg h2]at hy⊢;rw[←List.getD_eq_getElem?_getD];exact d.er (fun k hk=>⟨⟨hof k (.inl hk.1.1),ad3 k hk.1.1 hk.1.2⟩,by rw[if_pos (hN k hk.1.1),hk.2,if_neg (by omega)];omega⟩) (Kd.pa (hM (q-1) y hy) (fun k hk hlt=>tQ k hk.1.2 hlt))
def vT (ino:Int):List aX→Nat→Int
 |[],_=> -1
 |x::l,i=>if ino<x.f0 then(i:Int)else vT ino l (i+1)
theorem aaV.calls (ino a b c:Int) (A3 A4 A5:Option Addr) (n3 c3 n4 c4 n5 c5:Nat) (B:Nat) (W:World) (hB:B<W.heap.size) (hc:W.cell? ⟨B,0,none⟩=some (.int .i64 ino)):
  Calls Tryz.prog 101 #[.agg #[.int .i64 a,.int .i64 b,.int .i64 c,.slice A3 n3 c3,.slice A4 n4 c4,.slice A5 n5 c5],.pointer (some ⟨B,0,none⟩)] W fun e w'=>e= .returned (.bool (decide (ino<a)))∧Below W.heap.size W w':=by
 have hne:B≠W.heap.size:=by omega
 go_enter func101,ntmps101
 go_wp2
 all_goals(go_ret;exact⟨by simp_all,(Below.refl _ W).alloc (Nat.le_refl _) _⟩)
theorem aaW (l:List aX) (k:Nat) (h:k<l.length):af l (k:Int)=l[k]:=by
 simp[af,List.getD_eq_getElem?_getD,List.getElem?_eq_getElem h]
theorem ab_ (ino:Int) (l:List aX) (k j:Nat) (h:k<l.length) (hit:ino<(af l (k:Int)).f0):vT ino (l.drop k) j=(j:Int):=by
 rw[List.drop_eq_getElem_cons h,vT,if_pos (by rw[←aaW l k h];exact hit)]
theorem aaX (ino:Int) (l:List aX) (k j:Nat) (h:k<l.length) (hit:¬ino<(af l (k:Int)).f0):vT ino (l.drop k) j=vT ino (l.drop (k+1)) (j+1):=by
 rw[List.drop_eq_getElem_cons h,vT,if_neg (by rw[←aaW l k h];exact hit)]
theorem adu.calls (ino:Int) (A0:Option Addr) (c0:Nat) (l:List aX) (B:Nat) (w:World) (hr:gh.C w A0 l.length l) (hB:B<w.heap.size) (hc:w.cell? ⟨B,0,none⟩=some (.int .i64 ino)) (hl:l.length≤9223372036854775807):
  Calls Tryz.prog 100 #[.slice A0 l.length c0,.func (.func 101) #[] #[.pointer (some ⟨B,0,none⟩)]] w fun e w'=>e= .returned (.int .i64 (vT ino l 0))∧Below w.heap.size w w':=by
 go_enter func100,ntmps100
 go_wp2
 go_loopg [5,8] l.length (fun gg _ s8 wr=>∃kk:Nat,kk≤l.length∧l.length-kk≤gg∧s8= .int .i64 kk∧ae (Below w.heap.size w wr)∧ae (vT ino l 0=vT ino (l.drop kk) kk))
 case atStart=>exact⟨0,Nat.zero_le _,by omega,rfl,⟨Below.refl _ w⟩,⟨rfl⟩⟩
 case round=>
  obtain⟨kk,hkk,hg,rfl,BW,A⟩:=hrel
  by_cases hlt:kk<l.length
  rotate_left
  ·have hltz:¬(kk:Int)<(l.length:Int):=by omega
   obtain rfl:kk=l.length:=by omega
   go_wp2
   go_ret
   exact⟨by rw[A.out,List.drop_length];rfl,BW.out⟩
  have hltz:(kk:Int)<(l.length:Int):=by omega
  obtain⟨ad,A3,c3,A4,c4,A5,c5,e0,h0,h1,h2,h3,h4,h5,_⟩:=gi (Kd.cY hr BW.out) (kk:Int) (by omega) hltz
  cases e0
  rw[Int.toNat_natCast]at h0 h1 h2 h3 h4 h5;have hBw:B<wr.heap.size:=Nat.lt_of_lt_of_le hB BW.out.size;have hcw:wr.cell? ⟨B,0,none⟩=some (.int .i64 ino):=(BW.out.cell (p:=⟨B,0,none⟩) hB).trans hc
  by_cases hit:ino<(af l (kk:Int)).f0
  ·have hq:decide (ino<(af l (kk:Int)).f0)=true:=by simpa using hit
   go_wp2_with (go_at_call 101;refine(aaV.calls ino _ _ _ _ _ _ _ _ _ _ _ _ B wr hBw hcw).mono ?_;rintro e w' ⟨rfl,hb'⟩;rw[hq])
   go_ret
   exact⟨by rw[A.out,ab_ ino l kk kk hlt (by omega)];rfl,iy BW.out BW.out.size hb'⟩
  have hq:decide (ino<(af l (kk:Int)).f0)=false:=by simpa using hit
  go_wp2_with (go_at_call 101;refine(aaV.calls ino _ _ _ _ _ _ _ _ _ _ _ _ B wr hBw hcw).mono ?_;rintro e w' ⟨rfl,hb'⟩;rw[hq])
  go_roundg (l.length-(kk+1))
  case measure=>omega
  case rel=>exact⟨kk+1,by omega,by omega,by go_num,⟨iy BW.out BW.out.size hb'⟩,⟨by rw[A.out,aaX ino l kk kk hlt (by omega)]⟩⟩
theorem aaY (ino:Int) (l:List aX):∀j:Nat,vT ino l j= -1∨∃i:Nat,vT ino l j=((j+i:Nat):Int)∧i<l.length:=by
 induction l with
 |nil=>intro j;exact .inl rfl
 |cons x l ih=>
  intro j;rw[vT]
  by_cases c:ino<x.f0
  ·rw[if_pos c];exact .inr ⟨0,by simp,by simp⟩
  rw[if_neg c];rcases ih (j+1)with h1|⟨i,h1,h2⟩
  ·exact .inl h1
  ·exact .inr ⟨i+1,by rw[h1];congr 1;omega,by simpa using h2⟩
theorem vU (ino:Int) (l:List aX):∀j:Nat,ct ino l j= -1∨∃i:Nat,ct ino l j=((j+i:Nat):Int)∧i<l.length:=by
 induction l with
 |nil=>intro j;exact .inl rfl
 |cons x l ih=>
  intro j;rw[ct]
  by_cases c:x.f0=ino
  ·rw[if_pos c];exact .inr ⟨0,by simp,by simp⟩
  rw[if_neg c];rcases ih (j+1)with h1|⟨i,h1,h2⟩
  ·exact .inl h1
  ·exact .inr ⟨i+1,by rw[h1];congr 1;omega,by simpa using h2⟩
def gtP (ino:Int) (l:List aX):Nat:=if vT ino l 0<0 then l.length else(vT ino l 0).toNat
def kI (x:aX) (l:List aX):List aX:=if 0≤ct x.f0 l 0 then l.set (ct x.f0 l 0).toNat x else l.take (gtP x.f0 l)++[x]++l.drop (gtP x.f0 l)
theorem rY {W W1:World}{g:Nat}{o:Obj}{v:Value}(h:ae (W.heap[g]? =some o)) (hg:W.grownBy W1 v.ownBlock) (hn:some g≠v.ownBlock):ae (W1.heap[g]? =some o):=⟨lB h.out hg hn⟩
theorem xx {w:World}{base sz:Nat}{ok:Nat→Prop}{c' seg:List Value}(hc:c'.length=sz) (hs:seg.length=sz) (h1:∀v∈seg,v.oneCell'=true):(Kd.raw sz).M w base ok seg (c'.take 0++seg++c'.drop (0+seg.length)):=by
 have e:c'.take 0++seg++c'.drop (0+seg.length)=seg:=by rw[Nat.zero_add,hs,←hc,List.drop_length];simp
 exact⟨e,by rw[e];exact hs,by rw[e];exact h1⟩
theorem aaZ {W W1:World}{g g':Nat}{o:Obj}(h:ae (W.heap[g]? =some o)) (hg:W.grownBy W1 (some g')) (hn:¬(g=g')):ae (W1.heap[g]? =some o):=⟨lB h.out hg (by intro he;injection he with he;exact hn he)⟩
theorem aem {W:World}{g:Nat}{t:TypeId}{a0 a1 a2 a3 a4 a5:Value}(h:W.heap[g]? =some (.cells #[a0,a1,a2,a3,a4,a5] t (0,0))) (v0 v1 v2 v3 v4 v5:Value):
  ((((((W.setCell ⟨g,0,none⟩ v0).setCell ⟨g,1,none⟩ v1).setCell ⟨g,2,none⟩ v2).setCell ⟨g,3,none⟩ v3).setCell ⟨g,4,none⟩ v4).setCell ⟨g,5,none⟩ v5).heap[g]? =some (.cells #[v0,v1,v2,v3,v4,v5] t (0,0))∧
   (∀k,k≠g→((((((W.setCell ⟨g,0,none⟩ v0).setCell ⟨g,1,none⟩ v1).setCell ⟨g,2,none⟩ v2).setCell ⟨g,3,none⟩ v3).setCell ⟨g,4,none⟩ v4).setCell ⟨g,5,none⟩ v5).heap[k]? =W.heap[k]?)∧
   ((((((W.setCell ⟨g,0,none⟩ v0).setCell ⟨g,1,none⟩ v1).setCell ⟨g,2,none⟩ v2).setCell ⟨g,3,none⟩ v3).setCell ⟨g,4,none⟩ v4).setCell ⟨g,5,none⟩ v5).heap.size=W.heap.size:=
 ⟨by
  refine jf (cs:= #[v0,v1,v2,v3,v4,a5]) ?_ 5 _ rfl;refine jf (cs:= #[v0,v1,v2,v3,a4,a5]) ?_ 4 _ rfl;refine jf (cs:= #[v0,v1,v2,a3,a4,a5]) ?_ 3 _ rfl;refine jf (cs:= #[v0,v1,a2,a3,a4,a5]) ?_ 2 _ rfl;refine jf (cs:= #[v0,a1,a2,a3,a4,a5]) ?_ 1 _ rfl
  exact jf h 0 _ rfl,
 fun k hk=>by rw[Below.heap_setCell _ _ _ _ hk,Below.heap_setCell _ _ _ _ hk,Below.heap_setCell _ _ _ _ hk,Below.heap_setCell _ _ _ _ hk,Below.heap_setCell _ _ _ _ hk,Below.heap_setCell _ _ _ _ hk],by simp[World.setCell]⟩
def gr.f (k:Nat) (ag:List aX) (ak b0 b1 b2:Int) (m3:List Int) (m4:List cA) (m5:List eu):Option (List aX×Int):=(cw.f k ag ak).bind fun t=>(eK.f b0 b1 b2 m3 m4 m5).bind fun y=>if t.1.length≤1466015503700 then some (kI ⟨y.1,y.2.1,y.2.2.1,y.2.2.2.1,y.2.2.2.2.1,y.2.2.2.2.2⟩ t.1,t.2)else none
theorem gr.calls (k:Nat) (bh:Option Addr) (aT:Nat) (ag:List aX) (ak b0 b1 b2:Int) (kB:Option Addr) (kD:Nat) (m3:List Int) (kE:Option Addr) (kF:Nat) (m4:List cA) (kG:Option Addr) (kH:Nat) (m5:List eu) (r1:List aX) (r2:Int) (w:World)
  (cj:Kd.C gh w bh ag.length ag) (ck:ag.length≤aT) (rn:Kd.C (Kd.int .u8) w kB m3.length m3) (rp:m3.length≤kD) (rq:Kd.C fI w kE m4.length m4) (rr:m4.length≤kF) (ru:Kd.C jl w kG m5.length m5) (rv:m5.length≤kH) (h:gr.f k ag ak b0 b1 b2 m3 m4 m5=some (r1,r2)):
  Calls Tryz.prog 58 #[.agg #[.slice bh ag.length aT,.int .i64 ak],.agg #[.int .i64 b0,.int .i64 b1,.int .i64 b2,.slice kB m3.length kD,.slice kE m4.length kF,.slice kG m5.length kH]] w fun e w'=>∃jx:Value,e= .returned (.agg #[jx,.int .i64 r2])∧Kd.S gh 58 w' w.heap.size (fun _=>True) jx r1∧Below w.heap.size w w':=by
 unfold gr.f at h;replace h:=bA h;obtain⟨⟨t1,t2⟩,H1,h⟩:=h;replace h:=bA h;obtain⟨⟨y0,y1,y2,y3,y4,y5⟩,H2,h⟩:=h
 split at h
 case isFalse=>cases h
 case isTrue hl=>
 simp only[Option.some.injEq,Prod.mk.injEq]at h;obtain⟨bS,rfl⟩:=h;have hl':t1.length≤1466015503700:=hl;clear hl;have HL:=ae.mk hl';have bE:=ae.mk bS;clear hl' bS;have bZ:=ae.mk cj;have d1:=ae.mk ck;have d2:=ae.mk rn;have d3:=ae.mk rp;have d4:=ae.mk rq;have d5:=ae.mk rr;have d6:=ae.mk ru;have d7:=ae.mk rv;clear cj ck rn rp rq rr ru rv;have HB:=am (Below.refl w.heap.size w)
 go_enter func58,ntmps58
 go_wp2_with fail
 refine(cw.calls k _ _ ag ak t1 t2 _ (kC bZ) d1.out H1.out).mono ?_;rintro e w2 ⟨v0,rfl,hs,hb⟩;obtain⟨A,c,rfl⟩:=Kd.iA hs;have KT:=am (fW (aC (aC (jg _ _) _) _) hb);have KI:=am (fW (aC (jg _ _) _) hb);have KR:=am (fW (jg _ _) hb);simp only[World.size_alloc]at KI KR;have S1:=vr hs (w.heap.size+3) w.heap.size (by simp) (by simp only[World.size_alloc];omega)
 have n1:w.heap.size+3≤w2.heap.size:=by have:=hb.size;simpa using this
 replace HB:=am (gm (aU (aU (aU (Below.refl _ _) _) _) _) hb);clear hs hb;have zt:=z2 KT;have zi:=z6 KI;have zr:=z2 KR;have bF:=am (show((w2.setCell ⟨w.heap.size,0,none⟩ (.slice A t1.length c)).setCell ⟨w.heap.size,1,none⟩ (.int .i64 t2)).heap[w.heap.size]? =some (.cells #[.slice A t1.length c,.int .i64 t2] 28 (0,0)) by simpa using ql (ql KT.out 0 (.slice A t1.length c)) 1 (.int .i64 t2));have bG:=am (show((w2.setCell ⟨w.heap.size,0,none⟩ (.slice A t1.length c)).setCell ⟨w.heap.size,1,none⟩ (.int .i64 t2)).heap[w.heap.size+1]? =some (.cells #[.int .i64 b0,.int .i64 b1,.int .i64 b2,.slice kB m3.length kD,.slice kE m4.length kF,.slice kG m5.length kH] 58 (0,0)) by rw[Below.heap_setCell _ _ _ _ (by simp),Below.heap_setCell _ _ _ _ (by simp)];exact KI.out);have bH:=am (show((w2.setCell ⟨w.heap.size,0,none⟩ (.slice A t1.length c)).setCell ⟨w.heap.size,1,none⟩ (.int .i64 t2)).heap[w.heap.size+1+1]? =some (.cells #[.slice none 0 0,.int .i64 0] 28 (0,0)) by rw[Below.heap_setCell _ _ _ _ (by simp;omega),Below.heap_setCell _ _ _ _ (by simp;omega)];exact KR.out);have b8:=am ((HB.out.setCell (p:=⟨w.heap.size,0,none⟩) (Nat.le_refl _) (.slice A t1.length c)).setCell (p:=⟨w.heap.size,1,none⟩) (Nat.le_refl _) (.int .i64 t2));have S3:=am (Kd.eJ (p:=⟨w.heap.size,1,none⟩) (Kd.eJ (p:=⟨w.heap.size,0,none⟩) S1.out (fun k hk=>by have:=hk.1;dsimp only;omega) (.slice A t1.length c)) (fun k hk=>by have:=hk.1;dsimp only;omega) (.int .i64 t2))
 go_wp2_with fail
 have bI:((w2.setCell ⟨w.heap.size,0,none⟩ (.slice A t1.length c)).setCell ⟨w.heap.size,1,none⟩ (.int .i64 t2)).heap.size=w2.heap.size:=by simp[World.setCell]
 generalize d8:((w2.setCell ⟨w.heap.size,0,none⟩ (.slice A t1.length c)).setCell ⟨w.heap.size,1,none⟩ (.int .i64 t2))=W3 at bF bG bH b8 S3 bI⊢;clear d8 zt zi zr KT KI KR S1 HB;refine(eK.calls b0 b1 b2 _ _ m3 _ _ m4 _ _ m5 y0 y1 y2 y3 y4 y5 W3 (Kd.cY d2.out b8.out) d3.out (Kd.cY d4.out b8.out) d5.out (Kd.cY d6.out b8.out) d7.out H2.out).mono ?_;rintro e w4 ⟨v3,v4,v5,rfl,g3,g4,g5,hb⟩;have KT:=am (fW bF.out hb);have KI:=am (fW bG.out hb);have KR:=am (fW bH.out hb);have HB:=am (gm b8.out hb);have S4:=am (Kd.js S3.out hb)
 have n4:w2.heap.size≤w4.heap.size:=by have:=hb.size;omega
 have G3:=acQ g3 w2.heap.size w.heap.size (by omega) (by omega);have G4:=acQ g4 w2.heap.size w.heap.size (by omega) (by omega);have G5:=acQ g5 w2.heap.size w.heap.size (by omega) (by omega);clear hb bF bG bH b8 S3 g3 g4 g5 bI;obtain⟨A3,c3,rfl⟩:=Kd.ao G3.out;obtain⟨A4,c4,rfl⟩:=Kd.ao G4.out;obtain⟨A5,c5,rfl⟩:=Kd.ao G5.out;have zt:=z2 KT;have zi:=z6 KI
 have dI:¬(w.heap.size=w.heap.size+1):=by omega
 have dJ:¬(w.heap.size+1=w.heap.size):=by omega
 go_wp2_with fail
 obtain⟨p1,p2,p3⟩:=aem KI.out (.int .i64 y0) (.int .i64 y1) (.int .i64 y2) (.slice A3 y3.length c3) (.slice A4 y4.length c4) (.slice A5 y5.length c5);have bJ:=am ((((((HB.out.setCell (p:=⟨w.heap.size+1,0,none⟩) (by dsimp only;omega) (.int .i64 y0)).setCell (p:=⟨w.heap.size+1,1,none⟩) (by dsimp only;omega) (.int .i64 y1)).setCell (p:=⟨w.heap.size+1,2,none⟩) (by dsimp only;omega) (.int .i64 y2)).setCell (p:=⟨w.heap.size+1,3,none⟩) (by dsimp only;omega) (.slice A3 y3.length c3)).setCell (p:=⟨w.heap.size+1,4,none⟩) (by dsimp only;omega) (.slice A4 y4.length c4)).setCell (p:=⟨w.heap.size+1,5,none⟩) (by dsimp only;omega) (.slice A5 y5.length c5));generalize d9:((((((w4.setCell ⟨w.heap.size+1,0,none⟩ (.int .i64 y0)).setCell ⟨w.heap.size+1,1,none⟩ (.int .i64 y1)).setCell ⟨w.heap.size+1,2,none⟩ (.int .i64 y2)).setCell ⟨w.heap.size+1,3,none⟩ (.slice A3 y3.length c3)).setCell ⟨w.heap.size+1,4,none⟩ (.slice A4 y4.length c4)).setCell ⟨w.heap.size+1,5,none⟩ (.slice A5 y5.length c5))=W5 at p1 p2 p3 bJ⊢;have bT:=am ((p2 w.heap.size (by omega)).trans KT.out);have bU:=am ((p2 (w.heap.size+1+1) (by omega)).trans KR.out);have bV:=ae.mk p1;have S5:=am (Kd.uz S4.out (fun k hk _=>p2 k (by have:=hk.1;omega)));replace G3:=am (Kd.nW G3.out (fun k hk _=>p2 k (by have:=hk.1;omega)));replace G4:=am (Kd.nW G4.out (fun k hk _=>p2 k (by have:=hk.1;omega)));replace G5:=am (Kd.nW G5.out (fun k hk _=>p2 k (by have:=hk.1;omega)));clear d9 p1 p2 KT KI KR HB S4 zt zi
 have aa0:eH.f k t1 t2 y0=some (ct y0 t1 0):=by unfold eH.f;rw[if_pos (by have:=HL.out;omega)]
 refine(eH.calls k _ _ t1 t2 y0 _ W5 (Kd.kL S5.out).2.2 (rl S5) aa0).mono ?_;rintro e w6 ⟨rfl,hb⟩
 replace n4:w2.heap.size≤w6.heap.size∧w4.heap.size≤w6.heap.size:=by have:=hb.size;omega
 have KT:=am (fW bT.out hb);have KI:=am (fW bV.out hb);have KR:=am (fW bU.out hb);have HB:=am (gm bJ.out hb);have S6:=am (Kd.js S5.out hb);replace G3:=am (Kd.je G3.out hb);replace G4:=am (Kd.je G4.out hb);replace G5:=am (Kd.je G5.out hb);clear hb bT bV bU bJ S5 aa0 p3;have zt:=z2 KT;have zi:=z6 KI;have zr:=z2 KR;obtain⟨rows,f,hrl,hraw,hPg,hM⟩:=adt S6.out;have HX:=am (pq w6 w.heap.size (fun k=>w2.heap.size≤k∧k<w4.heap.size) (⟨y0,y1,y2,y3,y4,y5⟩:aX) G3.out G4.out G5.out);have xy:=ae.mk hraw;have HM:=ae.mk hM;have HP:=ae.mk hPg;have HRL:=ae.mk hrl;clear G3 G4 G5 hraw hM hPg hrl;rcases vU y0 t1 0 with hp|⟨i,hp,hit⟩
 case inr=>
  rw[Nat.zero_add]at hp;rw[hp];obtain⟨g,cap,ev,gb,_,_⟩:=Kd.xk S6.out (by omega);injection ev with ea en ec;subst ea;clear en ec
  have hltz:(i:Int)<(t1.length:Int):=by omega
  have bW:(0:Int)≤(i:Int):=by omega
  have dK:=HP.out g rfl
  have dA:¬(w.heap.size=g):=by omega
  have dL:¬(w.heap.size+1=g):=by omega
  have dB:¬(w.heap.size+1+1=g):=by omega
  have aa1:=am (gh.iq (gh.eX HX.out));obtain⟨c',hcl',hcm',zj,_⟩:=Kd.i_ xy.out [] (i:Int) bW hltz;have HCC:=ae.mk zj;have HCL:=ae.mk hcl';clear zj hcm' hcl'
  go_wp2_with ((with_reducible refine fu (t:=58) (p:=21) rfl ?_);refine Kd.abV (Kd.raw gh.sz) w.heap.size rfl rfl 58 (.tmp 21) (.tmp 20) rfl 58 (i:Int) 0 rows [.int .i64 y0,.int .i64 y1,.int .i64 y2,.slice A3 y3.length c3,.slice A4 y4.length c4,.slice A5 y5.length c5] (.agg [.int .i64 y0,.int .i64 y1,.int .i64 y2,.slice A3 y3.length c3,.slice A4 y4.length c4,.slice A5 y5.length c5].toArray) [.int .i64 y0,.int .i64 y1,.int .i64 y2,.slice A3 y3.length c3,.slice A4 y4.length c4,.slice A5 y5.length c5] c' _ (fun _=>False) rfl (by simp;rfl) rfl rfl (by kernel_rfl) aa1.out xy.out bW hltz HCL.out HCC.out (Nat.le_refl _) (xx HCL.out rfl aa1.out) (fun _ hk=>hk.elim) HB.out ?_;intro w7 b9 bX bD;have dC:=ae.mk b9;have dD:=ae.mk bX;have dE:=ae.mk bD;have dF:=aaZ KT bD dA;have bY:=aaZ KR bD dB;replace zt:=z2 dF;replace zr:=z2 bY;clear b9 bX bD)
  have b9:=dC.out;rw[Int.toNat_natCast]at b9;have bK:=ad2 (okf:=fun k=>w.heap.size+3≤k) (N:=w2.heap.size) b9 HRL.out hit HM.out HX.out HP.out (fun k hk=>hk.2) (fun k hk=>hk.1) (fun k hk=>by rcases hk with h|h;exact h.1;have:=h.1;omega) (fun k hne hlt=>dE.out.block k hlt hne)
  have hres:kI (⟨y0,y1,y2,y3,y4,y5⟩:aX) t1=t1.set i ⟨y0,y1,y2,y3,y4,y5⟩:=by
   unfold kI;dsimp only;rw[hp,if_pos (by omega),Int.toNat_natCast]
  rw[bE.out]at hres;rw[←hres]at bK;have dG:=ae.mk bK;clear bK b9 hres
  try simp only[Exit.inBlock,Exit.then]
  refine bodyPost_ret (results_cell_row rfl _ _ (w.heap.size+1+1) 28 #[.slice (some ⟨g,0,none⟩) t1.length c,.int .i64 t2] (0,0) _ rfl (by refine jf (cs:= #[.slice (some ⟨g,0,none⟩) t1.length c,.int .i64 0]) ?_ 1 _ rfl;refine jf (cs:= #[.slice none 0 0,.int .i64 0]) ?_ 0 _ rfl;exact bY.out) underlying28 rfl (by kernel_rfl)) rfl ?_;refine⟨_,rfl,?_,?_⟩
  ·exact Kd.eV (Kd.eJ (Kd.eJ dG.out (fun k hk=>by dsimp only;omega) _) (fun k hk=>by dsimp only;omega) _) (fun _ _=>trivial)
  ·exact(dD.out.setCell (by dsimp only;omega) _).setCell (by dsimp only;omega) _
 case inl=>
  rw[hp]
  go_wp2_with fail
  refine(adu.calls y0 A c t1 (w.heap.size+1) w6 (Kd.kL S6.out).2.2 (fM KI.out) zi.1.1 (by have:=HL.out;omega)).mono ?_;rintro e w7 ⟨rfl,hb⟩;have b4:=ae.mk hb.size;have bL:=ae.mk hb;replace KT:=am (fW KT.out hb);replace KI:=am (fW KI.out hb);replace KR:=am (fW KR.out hb);replace HB:=am (gm HB.out hb);replace xy:=am (Kd.je xy.out hb);have aa1:=am (gh.iq (gh.eX HX.out));have HVB:=am (show some w7.heap.size≠(Value.slice A t1.length c).ownBlock from fun he=>by have:=Kd.yP xy.out _ he.symm;omega);have HWB:=am (show w.heap.size≤(w7.alloc (.cells #[.int .i64 y0,.int .i64 y1,.int .i64 y2,.slice A3 y3.length c3,.slice A4 y4.length c4,.slice A5 y5.length c5] 58)).heap.size by have:=b4.out;rw[World.size_alloc];omega);have HLB:=am (show(t1.length+1)*96≤140737488355328 by have:=HL.out;omega);have NT:=am (show some w.heap.size≠(Value.slice A t1.length c).ownBlock from fun he=>by have:=(HP.out _ he.symm).1;omega);have NR:=am (show some (w.heap.size+1+1)≠(Value.slice A t1.length c).ownBlock from fun he=>by have:=(HP.out _ he.symm).1;omega);clear hb S6;have dH:=KT;replace KT:=am (aC KT.out (.cells #[.int .i64 y0,.int .i64 y1,.int .i64 y2,.slice A3 y3.length c3,.slice A4 y4.length c4,.slice A5 y5.length c5] 58));replace KR:=am (aC KR.out (.cells #[.int .i64 y0,.int .i64 y1,.int .i64 y2,.slice A3 y3.length c3,.slice A4 y4.length c4,.slice A5 y5.length c5] 58));have zt':=z2 KT;have zi:=z6 KI;have zt:=z2 dH;rcases aaY y0 t1 0 with hgt|⟨j,hgt,hjt⟩
  case inl=>
   rw[hgt];have HJ:=am (Nat.le_refl t1.length)
   go_wp2_with (go_at_call 102;refine(vL.calls A t1.length c t1.length w7.heap.size w.heap.size (fun k=>(Value.slice A t1.length c).ownBlock=some k) rows [.int .i64 y0,.int .i64 y1,.int .i64 y2,.slice A3 y3.length c3,.slice A4 y4.length c4,.slice A5 y5.length c5] w _ HJ.out HRL.out (Kd.je xy.out (aU (Below.refl _ _) _)) (jg w7 _) HVB.out rfl aa1.out (aU HB.out _) HWB.out HLB.out).mono ?_;rintro e w8 ⟨v',rfl,b5,bB,b3,b6⟩;have bM:=ae.mk b5;have bN:=ae.mk bB;have bO:=ae.mk b3;have bP:=ae.mk b6;have bQ:=rY KT b3 NT.out;have bC:=rY KR b3 NR.out;replace zt:=z2 bQ;replace zr:=z2 bC;obtain⟨A',n',c',rfl⟩:∃A' n' c',v'=Value.slice A' n' c':=(by obtain⟨A',c',hs⟩:=Kd.ao b5;exact⟨_,_,_,hs⟩);clear b5 bB b3 b6)
   have b7:=acz (okf:=fun k=>w.heap.size+3≤k) (N:=w2.heap.size) (N2:=w6.heap.size) bM.out HRL.out HJ.out HM.out HX.out HP.out (by rcases bP.out with h|⟨b,h,hb⟩;exact .inl h;exact .inr ⟨b,h,by have:=b4.out;rw[World.size_alloc]at hb;omega⟩) (fun k hk=>hk.2) (fun k hk=>⟨hk.1,by have:=hk.2;omega⟩) (by omega) (fun k hk=>by rcases hk with h|h|h;exact h.1;have:=h.1;omega;omega) (fun k hne hlt=>by rw[bO.out.block k (by have:=b4.out;rw[World.size_alloc];omega) hne,Below.heap_alloc _ _ _ (by have:=b4.out;omega)];exact bL.out.block k hlt)
   have hres:kI (⟨y0,y1,y2,y3,y4,y5⟩:aX) t1=t1.take t1.length++[⟨y0,y1,y2,y3,y4,y5⟩]++t1.drop t1.length:=by
    unfold kI gtP;dsimp only;rw[hp,if_neg (by omega)];rw[if_pos (by rw[hgt];omega)]
   rw[bE.out]at hres;rw[←hres]at b7;have bR:=ae.mk b7;clear b7 hres
   try simp only[Exit.inBlock,Exit.then]
   refine bodyPost_ret (results_cell_row rfl _ _ (w.heap.size+1+1) 28 #[.slice A' n' c',.int .i64 t2] (0,0) _ rfl (by refine jf (cs:= #[.slice A' n' c',.int .i64 0]) ?_ 1 _ rfl;refine jf (cs:= #[.slice none 0 0,.int .i64 0]) ?_ 0 _ rfl;rw[Below.heap_setCell _ _ _ _ (by simp;omega)];exact bC.out) underlying28 rfl (by kernel_rfl)) rfl ?_;refine⟨_,rfl,?_,?_⟩
   ·exact Kd.eV (Kd.eJ (Kd.eJ (Kd.eJ bR.out (fun k hk=>by dsimp only;omega) _) (fun k hk=>by dsimp only;omega) _) (fun k hk=>by dsimp only;omega) _) (fun _ _=>trivial)
   ·exact((bN.out.setCell (by dsimp only;omega) _).setCell (by dsimp only;omega) _).setCell (by dsimp only;omega) _
  case inr=>
   rw[Nat.zero_add]at hgt;rw[hgt];have HJ:=am (Nat.le_of_lt hjt)
   go_wp2_with (go_at_call 102;refine(vL.calls A t1.length c j w7.heap.size w.heap.size (fun k=>(Value.slice A t1.length c).ownBlock=some k) rows [.int .i64 y0,.int .i64 y1,.int .i64 y2,.slice A3 y3.length c3,.slice A4 y4.length c4,.slice A5 y5.length c5] w _ HJ.out HRL.out (Kd.je xy.out (aU (Below.refl _ _) _)) (jg w7 _) HVB.out rfl aa1.out (aU HB.out _) HWB.out HLB.out).mono ?_;rintro e w8 ⟨v',rfl,b5,bB,b3,b6⟩;have bM:=ae.mk b5;have bN:=ae.mk bB;have bO:=ae.mk b3;have bP:=ae.mk b6;have bQ:=rY KT b3 NT.out;have bC:=rY KR b3 NR.out;replace zt:=z2 bQ;replace zr:=z2 bC;obtain⟨A',n',c',rfl⟩:∃A' n' c',v'=Value.slice A' n' c':=(by obtain⟨A',c',hs⟩:=Kd.ao b5;exact⟨_,_,_,hs⟩);clear b5 bB b3 b6)
   have b7:=acz (okf:=fun k=>w.heap.size+3≤k) (N:=w2.heap.size) (N2:=w6.heap.size) bM.out HRL.out HJ.out HM.out HX.out HP.out (by rcases bP.out with h|⟨b,h,hb⟩;exact .inl h;exact .inr ⟨b,h,by have:=b4.out;rw[World.size_alloc]at hb;omega⟩) (fun k hk=>hk.2) (fun k hk=>⟨hk.1,by have:=hk.2;omega⟩) (by omega) (fun k hk=>by rcases hk with h|h|h;exact h.1;have:=h.1;omega;omega) (fun k hne hlt=>by rw[bO.out.block k (by have:=b4.out;rw[World.size_alloc];omega) hne,Below.heap_alloc _ _ _ (by have:=b4.out;omega)];exact bL.out.block k hlt)
   have hres:kI (⟨y0,y1,y2,y3,y4,y5⟩:aX) t1=t1.take j++[⟨y0,y1,y2,y3,y4,y5⟩]++t1.drop j:=by
    unfold kI gtP;dsimp only;rw[hp,if_neg (by omega)];rw[if_neg (by rw[hgt];omega),hgt,Int.toNat_natCast]
   rw[bE.out]at hres;rw[←hres]at b7;have bR:=ae.mk b7;clear b7 hres
   try simp only[Exit.inBlock,Exit.then]
   refine bodyPost_ret (results_cell_row rfl _ _ (w.heap.size+1+1) 28 #[.slice A' n' c',.int .i64 t2] (0,0) _ rfl (by refine jf (cs:= #[.slice A' n' c',.int .i64 0]) ?_ 1 _ rfl;refine jf (cs:= #[.slice none 0 0,.int .i64 0]) ?_ 0 _ rfl;rw[Below.heap_setCell _ _ _ _ (by simp;omega)];exact bC.out) underlying28 rfl (by kernel_rfl)) rfl ?_;refine⟨_,rfl,?_,?_⟩
   ·exact Kd.eV (Kd.eJ (Kd.eJ (Kd.eJ bR.out (fun k hk=>by dsimp only;omega) _) (fun k hk=>by dsimp only;omega) _) (fun k hk=>by dsimp only;omega) _) (fun _ _=>trivial)
   ·exact((bN.out.setCell (by dsimp only;omega) _).setCell (by dsimp only;omega) _).setCell (by dsimp only;omega) _
def df.f (k:Nat) (a0:ByteArray):Option (ByteArray×ByteArray×Bool):=(dz.f k a0).bind fun b1=>(if b1.2=true then(if(b1.1.length:Int)=0 then(some ((⟨#[]⟩:ByteArray),(⟨#[]⟩:ByteArray),false))else(if 0≤(wrap64 ((b1.1.length:Int)-1))then(if(wrap64 ((b1.1.length:Int)-1))≤(b1.1.length:Int)then((fL.f k (b1.1.take ((wrap64 ((b1.1.length:Int)-1)):Int).toNat)).bind fun b2=>(if(wrap64 ((b1.1.length:Int)-1))<(b1.1.length:Int)then(some (b2,jb ByteArray.empty b1.1 (wrap64 ((b1.1.length:Int)-1)),true))else(none)))else(none))else(none)))else(some ((⟨#[]⟩:ByteArray),(⟨#[]⟩:ByteArray),false)))
def df.T5:Bool×List (List Nat×List Nat):=(true,[([],[]),([],[]),([0,1],[0,1]),([2],[2]),([],[]),([],[]),([4,5],[4,5]),([6],[6]),([3,3,0,1,2,3],[3]),([7,8,0,1,2,3,4,5,6,7,8],[7]),([9,0,1,2,3,4,5,6,7,8,9],[])])
def df.B5:List Nat:=[0,0,3,7,0,0,48,112,15,511,1023]
theorem df.xt:ij .any (opsOf Tryz.f92 5)=df.T5:=by kernel_rfl
theorem df.sE:fa df.T5.2 df.B5=true:=by kernel_rfl
theorem df.calls (k:Nat) (a0:ByteArray) (r1:ByteArray) (r2:ByteArray) (r3:Bool) (w:World) (h:df.f k a0=some (r1,r2,r3)) (hG:yL w:=by exact gk_ oB (by first|(with_reducible assumption)|assumption)):
  Calls Tryz.prog 92 #[.string a0] w fun e w'=>e= .returned (.tuple #[.string r1,.string r2,.bool r3])∧Below w.heap.size w w':=by
 have HG:=ae.mk hG;clear hG;have HB:=am (Below.refl w.heap.size w);unfold df.f at h;have H:=h;clear h;replace H:=bA H;obtain⟨⟨b1,bZ⟩,A2,H⟩:=H
 try dsimp only at H
 replace H:=lr H;rcases H with⟨rfl,H⟩|⟨rfl,H⟩;rotate_left
 ·simp only[Option.some.injEq,Prod.mk.injEq]at H;obtain⟨rfl,rfl,rfl⟩:=H
  go_enter func92,ntmps92
  go_wp2_with (first|((with_reducible refine ai (f:=88) rfl ?_);refine ej 10 func88 (dz.calls k a0 b1 false _ A2.out) ?_;rintro e dB ⟨bH,rfl,bB,hb⟩;refine⟨_,rfl,?_⟩;have b3:=am (Kd.nY bB (ah oB));replace HB:=hB HB hb))
  go_ret3
  exact⟨oE,oB⟩
 by_cases c4:(b1.length:Int)=0
 ·rw[if_pos c4]at H;have bP:((b1.length:Int)==0)=true:=beq_iff_eq.mpr c4;have bQ:((b1.length:Int) !=0)=false:=bne_eq_false_iff_eq.mpr c4;clear c4;simp only[Option.some.injEq,Prod.mk.injEq]at H;obtain⟨rfl,rfl,rfl⟩:=H
  go_enter func92,ntmps92
  go_wp2_with (first|((with_reducible refine ai (f:=88) rfl ?_);refine ej 10 func88 (dz.calls k a0 b1 true _ A2.out) ?_;rintro e w5 ⟨bH,rfl,bB,hb⟩;refine⟨_,rfl,?_⟩;have b3:=am (Kd.nY bB (ah oB));replace HB:=hB HB hb;obtain⟨dC,dD,bU,_⟩:=Kd.qo b3.out;subst bU))
  go_ret3
  exact⟨oE,oB⟩
 rw[if_neg c4]at H;have bP:((b1.length:Int)==0)=false:=beq_eq_false_iff_ne.mpr c4;have bQ:((b1.length:Int) !=0)=true:=bne_iff_ne.mpr c4
 have d1:¬(b1=[]):=fun h_=>c4 (by rw[h_];rfl)
 obtain⟨b2,b5⟩:∃j_:Int,(wrap64 ((b1.length:Int)-1))=j_:=⟨_,rfl⟩
 replace H:(if 0≤(b2)then(if(b2)≤(b1.length:Int)then((fL.f k (b1.take ((b2):Int).toNat)).bind fun b6=>(if(b2)<(b1.length:Int)then(some (b6,jb ByteArray.empty b1 (b2),true))else(none)))else(none))else(none))=some (r1,r2,r3):=by first|(rw[b5]at H;exact H)|(simp only[b5]at H⊢;exact H)
 (try rw[b5]at A2)
 have bX:(IntKind.i64.wrap ((b1.length:Int)-1))=b2:=(kK _).trans b5;obtain⟨c8,H⟩:=lC H;have d2:=eq_true c8;have d3:decide (0≤(b2))=true:=decide_eq_true c8;clear c8;obtain⟨c9,H⟩:=lC H;have d4:=eq_true c9;have d5:decide ((b2)≤(b1.length:Int))=true:=decide_eq_true c9;clear c9;obtain⟨b9,da⟩:∃y_:List ByteArray,y_=(b1.take ((b2):Int).toNat):=⟨_,rfl⟩;replace H:((fL.f k b9).bind fun b6=>(if(b2)<(b1.length:Int)then(some (b6,jb ByteArray.empty b1 (b2),true))else(none)))=some (r1,r2,r3):=oY;have bF:=ae.mk da;clear da;replace H:=bA H;obtain⟨b6,bV,H⟩:=H
 try dsimp only at H
 obtain⟨bY,H⟩:=cU H;simp only[Option.some.injEq,Prod.mk.injEq]at H;obtain⟨rfl,rfl,rfl⟩:=H
 go_enter func92,ntmps92
 try go_wp2_with (first|((with_reducible refine ai (f:=88) rfl ?_);refine ej 10 func88 (dz.calls k a0 b1 true _ A2.out) ?_;rintro e bW ⟨bH,rfl,bB,hb⟩;refine⟨_,rfl,?_⟩;have b3:=am (Kd.nY bB (ah oB));replace HB:=hB HB hb;obtain⟨bI,bC,bR,_⟩:=Kd.qo b3.out;subst bR))
 replace b3:=am (Kd.jz b3.out);replace HB:=am (av HB.out);have bJ:((b2):Int)≤((b1.length:Int):Int):=oa;obtain⟨d6,bG,_,bM,_⟩:=info_parts info9;have b7:b1.length≤bC:=(Kd.kN b3.out).2.1;have bK:Kd.C Kd.string _ bI b1.length b1:=(Kd.kN b3.out).2.2;have bL:=qQ (P:=Tryz.prog) 68 9 .i64 underlying68 bG bI b1.length bC (b2) oa bJ b7;have bD:=Kd.sm (m:=((b2):Int).toNat) bK (by omega);have bE:b9.length=((b2):Int).toNat:=(by rw[bF.out,List.length_take];omega);rw[←bF.out]at bD;rw[←bE]at bL;have b4:=ae.mk bD;have bN:=am (show b9.length≤bC from by omega);clear bD bK b7 bG bM;have d7:=ae.mk bE;clear bE;have d8:=am (show((b2):Int).toNat≤b1.length from by omega);replace bJ:=eq_true bJ;have d9:(0≤((b2):Int))=True:=oT;have dA:((b2)<(b1.length:Int))=True:=oT;obtain⟨bO,bS,b8⟩:=Kd.fb (Kd.kN b3.out).2.2 (b2) oa oa
 cases bS
 refine np 11 (fun w'=>w'.cell? (bO.add ((b2)).toNat)=some (.string (jb ByteArray.empty b1 (b2)))) df.xt df.sE (b8) (fun hHeld ax eN=> ?_);generalize bW.drew=dE at b3 HB b4 b8 hHeld⊢;refine bz 0 23 ax ?_;refine bz 1 24 ax ?_;refine bz 2 25 ax ?_;refine bz 4 27 ax ?_;refine bz 5 28 ax ?_;refine bz 6 29 ax ?_;refine yk (i:=7) (N:=some 30) (v:= ?_) (a':= ?_) (lb 11 247) rfl rfl (vu ax.out eN.out (by kernel_rfl)) (fun _ _ _ h=>h) (Or.inl ⟨by rfl,?_⟩) hHeld ?_ ?_;rotate_left
 ·intro w' s0
  go_simp
  with_reducible rfl
 rotate_left
 ·simp only[Act.put,List.setIfInBounds_toArray,List.set_cons_zero,List.set_cons_succ,kK,oV]
  rfl
 refine lg 3 26 ax (fun K hK=> ?_);refine lO 26 func126 (fL.calls k _ _ b9 b6 _ ?eQ bN.out bV.out) ?_
 (case eQ=>repeat(first|exact(by repeat(first|(with_reducible exact b4.out)|(with_reducible refine Kd.eF ?_ _)|(with_reducible refine Kd.eG ?_ _)|(with_reducible refine Kd.ft ?_)|exact b4.out))|(with_reducible refine Kd.eF ?_ _)|(with_reducible refine Kd.eG ?_ _)|(with_reducible refine Kd.ft ?_)))
 rintro e dF ⟨rfl,hb⟩;have bT:=(hb.cell (World.block_lt_of_cell? _ _ (hHeld))).trans (hHeld);refine⟨_,rfl,?_⟩;replace b3:=rH b3 hb;replace b4:=am (Kd.cY (by repeat(first|(with_reducible exact b4.out)|(with_reducible refine Kd.eF ?_ _)|(with_reducible refine Kd.eG ?_ _)|(with_reducible refine Kd.ft ?_)|exact b4.out)) hb);replace HB:=hB HB hb;refine eW hK 26 (bT) (fun hHeld=> ?_);clear hK K;refine bz 8 2 ax ?_;refine bz 9 3 ax ?_;refine bz 10 4 ax ?_;refine mo ax ?_
 try go_wp2
 go_ret3
 exact⟨by first|rfl|(simp[ee,ef]<;>rfl)|(simp only[←b5];first|rfl|(simp[ee,ef]<;>rfl))|(simp[*,ee,ef]<;>rfl),oB⟩

def fw.l0:Nat→Int→List ByteArray→Int→Int→List (aX)→Int→Option (Int×Int)
 |0,_,_,_,_,_,_=>none
 |k+1,x8,b5,b7,b4,b2,b3=>if b4<b7 then(if 0≤b4 then(if b4<(b5.length:Int)then((cT.f k b2 b3 x8).bind fun b1=>(if b1.2.2.2.2.2.2=true then(if b1.2.1=2 then((eA.f k b1.1 b1.2.1 b1.2.2.1 b1.2.2.2.1 b1.2.2.2.2.1 b1.2.2.2.2.2.1 (jb ByteArray.empty b5 b4)).bind fun b6=>(if b6=0 then(some (0,2))else(fw.l0 k b6 b5 b7 (wrap64 (b4+1)) b2 b3)))else(some (0,3)))else(some (0,2))))else(none))else(none))else(some (x8,0))
def fw.f (k:Nat) (ag:List (aX)) (ak:Int) (a1:ByteArray):Option (Int×Int):=(dz.f k a1).bind fun b1=>(if b1.2=true then(fw.l0 k 1 b1.1 (b1.1.length:Int) 0 ag ak)else(some (0,1)))
theorem fw.calls (k:Nat) (bh:Option Addr) (aT:Nat) (ag:List (aX)) (ak:Int) (a1:ByteArray) (r1:Int) (r2:Int) (w:World) (cj:Kd.C gh w bh ag.length ag) (ck:ag.length≤aT) (h:fw.f k ag ak a1=some (r1,r2)) (hG:yL w:=by exact gk_ oB (by first|(with_reducible assumption)|assumption)):
  Calls Tryz.prog 90 #[.agg #[.slice bh ag.length aT,.int .i64 ak],.string a1] w fun e w'=>e= .returned (.tuple #[.int .i64 r1,.int .i64 r2])∧Below w.heap.size w w':=by
 have HG:=ae.mk hG;clear hG;have gP:=underlying28;have gQ:=underlying58;have bP:=ae.mk cj;have bQ:=ae.mk ck;clear cj ck;have HB:=am (Below.refl w.heap.size w);unfold fw.f at h;have H:=h;clear h;replace H:=bA H;obtain⟨⟨bC,gR⟩,A3,H⟩:=H
 try dsimp only at H
 replace H:=lr H;rcases H with⟨rfl,H⟩|⟨rfl,H⟩;rotate_left
 ·simp only[Option.some.injEq,Prod.mk.injEq]at H;obtain⟨rfl,rfl⟩:=H
  go_enter func90,ntmps90
  go_wp2_with (first|((with_reducible refine aj (N:=2) rfl ?_);refine cO 2 #[.slice bh ag.length aT,.int .i64 ak] 28 ?_;intro d3 hg j7 hbox hb;have b1:=am (hbox);have d5:=cN hg;replace HB:=hB HB hb;clear hb hbox hg)|((with_reducible refine ai (f:=88) rfl ?_);refine ej 15 func88 (dz.calls k a1 bC false _ A3.out) ?_;rintro e j8 ⟨dC,rfl,bD,hb⟩;refine⟨_,rfl,?_⟩;have bT:=am (Kd.nY bD (ah oB));replace b1:=aJ b1 hb;replace HB:=hB HB hb))
  go_ret2
  exact⟨oE,oB⟩
 have H':=ae.mk H;clear H
 go_enter func90,ntmps90
 go_wp2_with (first|((with_reducible refine aj (N:=2) rfl ?_);refine cO 2 #[.slice bh ag.length aT,.int .i64 ak] 28 ?_;intro d3 hg w5 hbox hb;have b1:=am (hbox);have d5:=cN hg;replace HB:=hB HB hb;clear hb hbox hg)|((with_reducible refine ai (f:=88) rfl ?_);refine ej 15 func88 (dz.calls k a1 bC true _ A3.out) ?_;rintro e w6 ⟨dC,rfl,bD,hb⟩;refine⟨_,rfl,?_⟩;have bT:=am (Kd.nY bD (ah oB));replace b1:=aJ b1 hb;replace HB:=hB HB hb;obtain⟨gC,gD,gE,_⟩:=Kd.qo bT.out;subst gE))
 go_loopg [8,22] k (fun kq v8 gF w'=>∃(bM:Int) (b7:Int),v8= .int .i64 bM∧gF= .int .i64 b7∧ae (fw.l0 kq bM bC (bC.length:Int) b7 ag ak=some (r1,r2))∧ae (kq≤k)∧ae (Kd.Q Kd.string 9 w' w.heap.size (fun _=>True) (.slice gC bC.length gD) bC)∧ae (w'.heap[d3]? =some (.cells #[(.slice bh ag.length aT),.int .i64 ak] 28 (0,0)))∧ae (Below w.heap.size w w'))
 case atStart=>exact⟨(1),(0),oS,oS,H',⟨Nat.le_refl _⟩,⟨by(with_reducible repeat(first|apply Kd.iG|apply Kd.iH|apply Kd.jz));exact bT.out⟩,⟨oF b1⟩,⟨oB⟩⟩
 case round=>
  clear H';obtain⟨bM,b7,rfl,rfl,HA,dA,b2,b1,HB⟩:=hrel
  cases gk with
  |zero=>exact absurd HA.out (by simp[fw.l0])
  |succ k1=>
   have H:=HA.out;clear HA;simp only[fw.l0]at H;replace H:=jm H;rcases H with⟨dD,H⟩|⟨dD,H⟩;rotate_left
   ·simp only[Option.some.injEq,Prod.mk.injEq]at H;obtain⟨rfl,rfl⟩:=H
    go_wp2
    go_ret2
    exact⟨oE,oB⟩
   obtain⟨gS,H⟩:=cU H;obtain⟨gG,H⟩:=cU H;replace H:=bA H;obtain⟨⟨bE,bB,bF,bG,bH,bI,gT⟩,d4,H⟩:=H
   try dsimp only at H
   replace H:=lr H;rcases H with⟨rfl,H⟩|⟨rfl,H⟩;rotate_left
   ·simp only[Option.some.injEq,Prod.mk.injEq]at H;obtain⟨rfl,rfl⟩:=H;have bX:(0≤(b7:Int))=True:=oT;have bY:(b7<(bC.length:Int))=True:=oT;obtain⟨bU,bN,bO⟩:=Kd.fb (Kd.kN b2.out).2.2 b7 oa oa
    cases bN
    obtain⟨⟨_,_⟩,_,_⟩:=z2 b1
    go_wp2_with (first|((with_reducible refine ai (f:=91) rfl ?_);refine ej 29 func91 (cT.calls k1 _ _ ag ak bM bE bB bF bG bH bI false _ (kC bP) bQ.out d4.out) ?_;rintro e j9 ⟨bZ,d1,d2,rfl,bD,bJ,bK,hb⟩;refine⟨_,rfl,?_⟩;have b4:=am (Kd.an bD (ah oB));have b5:=am (Kd.an bJ (ah oB));have b6:=am (Kd.an bK (ah oB));replace b2:=rH b2 hb;replace b1:=aJ b1 hb;replace HB:=hB HB hb;(try clear bJ);(try clear bK))|((with_reducible refine aj (N:=11) rfl ?_);refine cO 11 #[.int .i64 0,.int .i64 0,.int .i64 0,.slice none 0 0,.slice none 0 0,.slice none 0 0] 58 ?_;intro bV hg jA hbox hb;have b3:=am (hbox);have bW:=cN hg;have b8:=dm hg b1;have b9:=dn hg b1;replace b2:=rH b2 hb;replace b4:=ei b4 hb;replace b5:=ei b5 hb;replace b6:=ei b6 hb;replace b1:=aJ b1 hb;replace HB:=hB HB hb;clear hb hbox hg;have gH:=b9.out;have gI:=b8.out;obtain⟨⟨_,_,_,_,_,_⟩,_,_,_,_,_,_⟩:=z6 b3;obtain⟨gU,gV,dE⟩:=Kd.ao b4.out;subst dE;obtain⟨gW,gX,dF⟩:=Kd.ao b5.out;subst dF;obtain⟨gY,gZ,dG⟩:=Kd.ao b6.out;subst dG))
    go_ret2
    exact⟨oE,oB⟩
   by_cases bR:bB=2
   rotate_left
   ·rw[if_neg bR]at H;have d6:(bB==2)=false:=beq_eq_false_iff_ne.mpr bR;have d7:(bB !=2)=true:=bne_iff_ne.mpr bR;simp only[Option.some.injEq,Prod.mk.injEq]at H;obtain⟨rfl,rfl⟩:=H;have bX:(0≤(b7:Int))=True:=oT;have bY:(b7<(bC.length:Int))=True:=oT;obtain⟨bU,bN,bO⟩:=Kd.fb (Kd.kN b2.out).2.2 b7 oa oa
    cases bN
    obtain⟨⟨_,_⟩,_,_⟩:=z2 b1
    go_wp2_with (first|((with_reducible refine ai (f:=91) rfl ?_);refine ej 29 func91 (cT.calls k1 _ _ ag ak bM bE bB bF bG bH bI true _ (kC bP) bQ.out d4.out) ?_;rintro e jB ⟨bZ,d1,d2,rfl,bD,bJ,bK,hb⟩;refine⟨_,rfl,?_⟩;have b4:=am (Kd.an bD (ah oB));have b5:=am (Kd.an bJ (ah oB));have b6:=am (Kd.an bK (ah oB));replace b2:=rH b2 hb;replace b1:=aJ b1 hb;replace HB:=hB HB hb;(try clear bJ);(try clear bK))|((with_reducible refine aj (N:=11) rfl ?_);refine cO 11 #[.int .i64 0,.int .i64 0,.int .i64 0,.slice none 0 0,.slice none 0 0,.slice none 0 0] 58 ?_;intro bV hg jC hbox hb;have b3:=am (hbox);have bW:=cN hg;have b8:=dm hg b1;have b9:=dn hg b1;replace b2:=rH b2 hb;replace b4:=ei b4 hb;replace b5:=ei b5 hb;replace b6:=ei b6 hb;replace b1:=aJ b1 hb;replace HB:=hB HB hb;clear hb hbox hg;have gJ:=b9.out;have gK:=b8.out;obtain⟨⟨_,_,_,_,_,_⟩,_,_,_,_,_,_⟩:=z6 b3;obtain⟨j1,j2,dH⟩:=Kd.ao b4.out;subst dH;obtain⟨j3,j4,dI⟩:=Kd.ao b5.out;subst dI;obtain⟨j5,j6,dJ⟩:=Kd.ao b6.out;subst dJ))
    go_ret2
    exact⟨oE,oB⟩
   rw[if_pos bR]at H;have d6:(bB==2)=true:=beq_iff_eq.mpr bR;have d7:(bB !=2)=false:=bne_eq_false_iff_eq.mpr bR;clear bR;replace H:=bA H;obtain⟨bL,dB,H⟩:=H
   try dsimp only at H
   by_cases bS:bL=0
   ·rw[if_pos bS]at H;have d8:(bL==0)=true:=beq_iff_eq.mpr bS;have d9:(bL !=0)=false:=bne_eq_false_iff_eq.mpr bS;clear bS;simp only[Option.some.injEq,Prod.mk.injEq]at H;obtain⟨rfl,rfl⟩:=H;have bX:(0≤(b7:Int))=True:=oT;have bY:(b7<(bC.length:Int))=True:=oT;obtain⟨bU,bN,bO⟩:=Kd.fb (Kd.kN b2.out).2.2 b7 oa oa
    cases bN
    obtain⟨⟨_,_⟩,_,_⟩:=z2 b1
    go_wp2_with (first|((with_reducible refine ai (f:=91) rfl ?_);refine ej 29 func91 (cT.calls k1 _ _ ag ak bM bE bB bF bG bH bI true _ (kC bP) bQ.out d4.out) ?_;rintro e jD ⟨bZ,d1,d2,rfl,bD,bJ,bK,hb⟩;refine⟨_,rfl,?_⟩;have b4:=am (Kd.an bD (ah oB));have b5:=am (Kd.an bJ (ah oB));have b6:=am (Kd.an bK (ah oB));replace b2:=rH b2 hb;replace b1:=aJ b1 hb;replace HB:=hB HB hb;(try clear bJ);(try clear bK))|((with_reducible refine aj (N:=11) rfl ?_);refine cO 11 #[.int .i64 0,.int .i64 0,.int .i64 0,.slice none 0 0,.slice none 0 0,.slice none 0 0] 58 ?_;intro bV hg jE hbox hb;have b3:=am (hbox);have bW:=cN hg;have b8:=dm hg b1;have b9:=dn hg b1;replace b2:=rH b2 hb;replace b4:=ei b4 hb;replace b5:=ei b5 hb;replace b6:=ei b6 hb;replace b1:=aJ b1 hb;replace HB:=hB HB hb;clear hb hbox hg;have gL:=b9.out;have gM:=b8.out;obtain⟨⟨_,_,_,_,_,_⟩,_,_,_,_,_,_⟩:=z6 b3;obtain⟨dK,dL,dM⟩:=Kd.ao b4.out;subst dM;obtain⟨dN,dO,dP⟩:=Kd.ao b5.out;subst dP;obtain⟨dQ,dR,dS⟩:=Kd.ao b6.out;subst dS)|((with_reducible refine ai (f:=57) rfl ?_);refine ej 41 func57 (eA.calls k1 bE bB bF _ _ bG _ _ bH _ _ bI (jb ByteArray.empty bC b7) bL _ (lv b4 b3) (ko b4) (lv b5 b3) (ko b5) (lv b6 b3) (ko b6) dB.out) ?_;rintro e jF ⟨rfl,hb⟩;refine⟨_,rfl,?_⟩;replace b2:=acO b2 b3 hb;replace b4:=ga b4 b3 hb;replace b5:=ga b5 b3 hb;replace b6:=ga b6 b3 hb;replace b1:=aJ b1 hb;replace b3:=pl #[.int .i64 bE,.int .i64 bB,.int .i64 bF,.slice dK bG.length dL,.slice dN bH.length dO,.slice dQ bI.length dR] b3 hb;replace HB:=hB HB hb;(try clear hk)))
    go_ret2
    exact⟨oE,oB⟩
   rw[if_neg bS]at H;have d8:(bL==0)=false:=beq_eq_false_iff_ne.mpr bS;have d9:(bL !=0)=true:=bne_iff_ne.mpr bS;have H':=ae.mk H;clear H;have bX:(0≤(b7:Int))=True:=oT;have bY:(b7<(bC.length:Int))=True:=oT;obtain⟨bU,bN,bO⟩:=Kd.fb (Kd.kN b2.out).2.2 b7 oa oa
   cases bN
   obtain⟨⟨_,_⟩,_,_⟩:=z2 b1
   go_wp2_with (first|((with_reducible refine ai (f:=91) rfl ?_);refine ej 29 func91 (cT.calls k1 _ _ ag ak bM bE bB bF bG bH bI true _ (kC bP) bQ.out d4.out) ?_;rintro e jG ⟨bZ,d1,d2,rfl,bD,bJ,bK,hb⟩;refine⟨_,rfl,?_⟩;have b4:=am (Kd.an bD (ah oB));have b5:=am (Kd.an bJ (ah oB));have b6:=am (Kd.an bK (ah oB));replace b2:=rH b2 hb;replace b1:=aJ b1 hb;replace HB:=hB HB hb;(try clear bJ);(try clear bK))|((with_reducible refine aj (N:=11) rfl ?_);refine cO 11 #[.int .i64 0,.int .i64 0,.int .i64 0,.slice none 0 0,.slice none 0 0,.slice none 0 0] 58 ?_;intro bV hg jH hbox hb;have b3:=am (hbox);have bW:=cN hg;have b8:=dm hg b1;have b9:=dn hg b1;replace b2:=rH b2 hb;replace b4:=ei b4 hb;replace b5:=ei b5 hb;replace b6:=ei b6 hb;replace b1:=aJ b1 hb;replace HB:=hB HB hb;clear hb hbox hg;have gN:=b9.out;have gO:=b8.out;obtain⟨⟨_,_,_,_,_,_⟩,_,_,_,_,_,_⟩:=z6 b3;obtain⟨dT,dU,dV⟩:=Kd.ao b4.out;subst dV;obtain⟨dW,dX,dY⟩:=Kd.ao b5.out;subst dY;obtain⟨dZ,gA,gB⟩:=Kd.ao b6.out;subst gB)|((with_reducible refine ai (f:=57) rfl ?_);refine ej 41 func57 (eA.calls k1 bE bB bF _ _ bG _ _ bH _ _ bI (jb ByteArray.empty bC b7) bL _ (lv b4 b3) (ko b4) (lv b5 b3) (ko b5) (lv b6 b3) (ko b6) dB.out) ?_;rintro e jI ⟨rfl,hb⟩;refine⟨_,rfl,?_⟩;replace b2:=acO b2 b3 hb;replace b4:=ga b4 b3 hb;replace b5:=ga b5 b3 hb;replace b6:=ga b6 b3 hb;replace b1:=aJ b1 hb;replace b3:=pl #[.int .i64 bE,.int .i64 bB,.int .i64 bF,.slice dT bG.length dU,.slice dW bH.length dX,.slice dZ bI.length gA] b3 hb;replace HB:=hB HB hb;(try clear hk)))
   go_roundg k1
   case measure=>have:=dA.out;omega
   case rel=>exact⟨(bL),(wrap64 (b7+1)),oS,oS,H',⟨by have:=dA.out;omega⟩,⟨by(with_reducible repeat(first|apply Kd.iG|apply Kd.iH|apply Kd.jz));exact b2.out⟩,⟨oF b1⟩,⟨oB⟩⟩

def dg.l0:Nat→List (nL)→Int→Int→Option (Int)
 |0,_,_,_=>none
 |k+1,x0,x1,x5=>if x5<(x0.length:Int)then(if 0≤x5 then((iT.f k ((cJ x0 x5).f0) ((cJ x0 x5).f1) ((cJ x0 x5).f2) ((cJ x0 x5).f3) ((cJ x0 x5).f4) ((cJ x0 x5).f5) x1).bind fun b1=>(if b1<0 then(some (-1))else(dg.l0 k x0 b1 (wrap64 (x5+1)))))else(none))else(some x1)
def dg.f (k:Nat) (l0:List (nL)) (a1:Int):Option (Int):=if(wrap64 (a1-(l0.length:Int)))<0 then(some (-1))else(dg.l0 k l0 (wrap64 (a1-(l0.length:Int))) 0)
theorem dg.calls (k:Nat) (A0:Option Addr) (c0:Nat) (l0:List (nL)) (a1:Int) (r:Int) (w:World) (hr0:Kd.C k92 w A0 l0.length l0) (hc0:l0.length≤c0) (h:dg.f k l0 a1=some r):
  Calls Tryz.prog 32 #[.slice A0 l0.length c0,.int .i64 a1] w fun e w'=>e= .returned (.int .i64 r)∧Below w.heap.size w w':=by
 have bW:=underlying92;have bQ:=ae.mk hr0;have bY:=ae.mk hc0;clear hr0 hc0;have HB:=am (Below.refl w.heap.size w);unfold dg.f at h;have H:=h;clear h;replace H:=jm H;rcases H with⟨bI,H⟩|⟨bI,H⟩
 ·obtain rfl:=Option.some.inj H
  go_enter func32,ntmps32
  go_wp2
  go_ret
  exact⟨oE,oB⟩
 have H':=ae.mk H;clear H
 go_enter func32,ntmps32
 go_wp2
 go_loopg [1,5] k (fun kq v1 v5 w'=>∃(b8:Int) (b1:Int),v1= .int .i64 b8∧v5= .int .i64 b1∧ae (dg.l0 kq l0 b8 b1=some r)∧ae (kq≤k)∧ae (Below w.heap.size w w'))
 case atStart=>exact⟨(wrap64 (a1-(l0.length:Int))),(0),oS,oS,H',⟨Nat.le_refl _⟩,⟨oB⟩⟩
 case round=>
  clear H'
  try clear bI
  obtain⟨b8,b1,rfl,rfl,HA,bR,HB⟩:=hrel
  cases gk with
  |zero=>exact absurd HA.out (by simp[dg.l0])
  |succ k1=>
   have H:=HA.out;clear HA;simp only[dg.l0]at H;replace H:=jm H;rcases H with⟨bS,H⟩|⟨bS,H⟩;rotate_left
   ·obtain rfl:=Option.some.inj H
    go_wp2
    go_ret
    exact⟨oE,oB⟩
   obtain⟨bX,H⟩:=cU H;replace H:=bA H;obtain⟨b9,A6,H⟩:=H
   try dsimp only at H
   replace H:=jm H;rcases H with⟨bT,H⟩|⟨bT,H⟩
   ·obtain rfl:=Option.some.inj H;have bU:(0≤(b1:Int))=True:=oT;have bV:(b1<(l0.length:Int))=True:=oT;obtain⟨bP,bJ,bK,bL,bM,bN,bO,bB,bC,bD,bE,bF,bG,bH,b2,b3,b4,b5,b6,b7⟩:=w_ bQ HB b1 oa oa
    cases bB
    go_wp2_with (first|((with_reducible refine ai (f:=70) rfl ?_);refine ej 23 func70 (iT.calls k1 ((cJ l0 b1).f0) ((cJ l0 b1).f1) ((cJ l0 b1).f2) _ _ ((cJ l0 b1).f3) _ _ ((cJ l0 b1).f4) _ _ ((cJ l0 b1).f5) b8 b9 _ (kC b3) b2.out (kC b5) b4.out (kC b7) b6.out A6.out) ?_;rintro e w8 ⟨rfl,hb⟩;refine⟨_,rfl,?_⟩;replace HB:=hB HB hb))
    go_ret
    exact⟨oE,oB⟩
   have H':=ae.mk H;clear H;have bU:(0≤(b1:Int))=True:=oT;have bV:(b1<(l0.length:Int))=True:=oT;obtain⟨bP,bJ,bK,bL,bM,bN,bO,bB,bC,bD,bE,bF,bG,bH,b2,b3,b4,b5,b6,b7⟩:=w_ bQ HB b1 oa oa
   cases bB
   go_wp2_with (first|((with_reducible refine ai (f:=70) rfl ?_);refine ej 23 func70 (iT.calls k1 ((cJ l0 b1).f0) ((cJ l0 b1).f1) ((cJ l0 b1).f2) _ _ ((cJ l0 b1).f3) _ _ ((cJ l0 b1).f4) _ _ ((cJ l0 b1).f5) b8 b9 _ (kC b3) b2.out (kC b5) b4.out (kC b7) b6.out A6.out) ?_;rintro e w9 ⟨rfl,hb⟩;refine⟨_,rfl,?_⟩;replace HB:=hB HB hb))
   go_roundg k1
   case measure=>have:=bR.out;omega
   case rel=>exact⟨(b9),(wrap64 (b1+1)),oS,oS,H',⟨by have:=bR.out;omega⟩,⟨oB⟩⟩

def dh.l0:Nat→List (nL)→List (aX)→Int→Option ((List (aX)))
 |0,_,_,_=>none
 |k+1,x0,x3,x4=>if x4<(x0.length:Int)then(if 0≤x4 then((jw.f k ((cJ x0 x4).f0) ((cJ x0 x4).f1) ((cJ x0 x4).f2) ((cJ x0 x4).f3) ((cJ x0 x4).f4) ((cJ x0 x4).f5)).bind fun b1=>(if x4<(x3.length:Int)then(dh.l0 k x0 (x3.set (x4:Int).toNat (⟨b1.1,b1.2.1,b1.2.2.1,b1.2.2.2.1,b1.2.2.2.2.1,b1.2.2.2.2.2⟩:aX)) (wrap64 (x4+1)))else(none)))else(none))else(some x3)
def dh.f (k:Nat) (l0:List (nL)):Option ((List (aX))):=if 0≤(l0.length:Int)then(if((l0.length:Int):Int).toNat≤2932031007402 then(dh.l0 k l0 (List.replicate ((l0.length:Int):Int).toNat z58) 0)else(none))else(none)
theorem dh.calls (k:Nat) (A0:Option Addr) (c0:Nat) (l0:List (nL)) (r:List (aX)) (w:World) (hr0:Kd.C k92 w A0 l0.length l0) (hc0:l0.length≤c0) (h:dh.f k l0=some r):
  Calls Tryz.prog 34 #[.slice A0 l0.length c0] w fun e w'=>∃jx:Value,e= .returned (jx)∧Kd.S gh 58 w' w.heap.size (fun _=>True) jx r∧Below w.heap.size w w':=by
 have jJ:=underlying92;have jK:=underlying58;have gO:=ae.mk hr0;have jV:=ae.mk hc0;clear hr0 hc0;have HB:=am (Below.refl w.heap.size w);unfold dh.f at h;have H:=h;clear h
 by_cases c2:0≤(l0.length:Int)
 rotate_left
 ·rw[if_neg c2]at H;exact absurd H (by simp)
 rw[if_pos c2]at H;have dY:=eq_true c2;have dZ:decide (0≤(l0.length:Int))=true:=decide_eq_true c2;clear c2;obtain⟨c3,H⟩:=lC H;have jL:=eq_true c3;have jM:decide (((l0.length:Int):Int).toNat≤2932031007402)=true:=decide_eq_true c3;clear c3;obtain⟨bY,da⟩:∃y_:List (aX),y_=(List.replicate ((l0.length:Int):Int).toNat z58):=⟨_,rfl⟩;replace H:(dh.l0 k l0 bY 0)=some r:=oY;have bR:=ae.mk da;clear da;have H':=ae.mk H;clear H
 go_enter func34,ntmps34
 go_wp2_with (first|((with_reducible refine aj (N:=7) rfl ?_);refine Kd.ac7 gh _ 58 rfl (N:=7) rfl 26 _ _ rfl (l0.length:Int) rfl rfl underlying26 (.agg #[(.int .i64 0),(.int .i64 0),(.int .i64 0),(.slice none 0 0),(.slice none 0 0),(.slice none 0 0)]) 96 lD rfl (by decide) (by omega) z58 (ok:=fun _=>True) (fY:=fun _=>True) (pq _ _ _ z58 (Kd.eD _ _ _ _ _) (Kd.eD _ _ _ _ _) (Kd.eD _ _ _ _ _)) (fun _ hk=>hk) trivial oa (Nat.le_trans (Nat.mul_le_mul_right _ (oa:(l0.length:Int).toNat≤2932031007402)) (by omega)) (Below.refl _ _) (Nat.le_refl _) ?_;intro gA w4 bO hb kX ek;clear kX ek;(first|rw[←bR.out]at bO|(simp only[Int.reduceToNat]at bO;rw[←bR.out]at bO));have dS:=am (Kd.pn bO (ah oB));replace HB:=hB HB hb;clear hb bO))
 go_loopg [4] k (fun kq v4 w'=>∃(b4:List (aX)) (b1:Int),v4= .int .i64 b1∧ae (dh.l0 kq l0 b4 b1=some r)∧ae (kq≤k)∧ae (Kd.S gh 58 w' w.heap.size (fun _=>True) gA b4)∧ae (Below w.heap.size w w'))
 case atStart=>exact⟨(bY),(0),oS,H',⟨Nat.le_refl _⟩,⟨by(with_reducible repeat(first|apply Kd.eL|apply Kd.eR|apply Kd.fi));exact dS.out⟩,⟨oB⟩⟩
 case round=>
  clear H'
  try clear c2
  try clear dY
  try clear dZ
  try clear c3
  obtain⟨b4,b1,rfl,HA,dW,b3,HB⟩:=hrel
  cases gk with
  |zero=>exact absurd HA.out (by simp[dh.l0])
  |succ k1=>
   have H:=HA.out;clear HA;simp only[dh.l0]at H;replace H:=jm H;rcases H with⟨gB,H⟩|⟨gB,H⟩;rotate_left
   ·obtain rfl:=Option.some.inj H
    go_wp2
    go_ret
    exact⟨_,oE,by(with_reducible repeat(first|apply Kd.eL|apply Kd.eR|apply Kd.fi));exact b3.out,oB⟩
   obtain⟨jN,H⟩:=cU H;replace H:=bA H;obtain⟨⟨bB,bC,bD,bL,bM,bN⟩,A8,H⟩:=H
   try dsimp only at H
   obtain⟨jO,H⟩:=cU H;obtain⟨bP,da⟩:∃y_:List (aX),y_=(b4.set (b1:Int).toNat (⟨bB,bC,bD,bL,bM,bN⟩:aX)):=⟨_,rfl⟩;replace H:(dh.l0 k1 l0 bP (wrap64 (b1+1)))=some r:=oY;have dT:=ae.mk da;clear da;have H':=ae.mk H;clear H;have jP:(0≤(b1:Int))=True:=oT;have jQ:(b1<(l0.length:Int))=True:=oT;obtain⟨jH,gP,gQ,gR,gS,gT,gU,gC,gF,gG,gH,gI,gJ,gK,bS,bT,bU,bV,bW,bX⟩:=w_ gO HB b1 oa oa
   cases gC
   go_wp2_with (first|((with_reducible refine ai (f:=71) rfl ?_);refine ej 20 func71 (jw.calls k1 ((cJ l0 b1).f0) ((cJ l0 b1).f1) ((cJ l0 b1).f2) _ _ ((cJ l0 b1).f3) _ _ ((cJ l0 b1).f4) _ _ ((cJ l0 b1).f5) bB bC bD bL bM bN _ (kC bT) bS.out (kC bV) bU.out (kC bX) bW.out A8.out) ?_;rintro e b5 ⟨bI,bJ,bK,rfl,dX,bZ,d1,hb⟩;refine⟨_,rfl,?_⟩;have bF:=am (Kd.an dX (ah oB));have bG:=am (Kd.an bZ (ah oB));have bH:=am (Kd.an d1 (ah oB));replace b3:=rG (vw b3 hb) (Kd.cf dX) (Kd.cf bZ) (Kd.cf d1);replace HB:=hB HB hb;(try clear hk);(try clear bZ);(try clear d1);have d2:0≤(b1:Int):=oa;have d3:(b1:Int)<((b4.length:Int):Int):=oa;obtain⟨b2,d4,d5,d6,gD,jR,d7⟩:=Kd.xk b3.out (by omega);(first|cases d5|(injection d5 with iF oc od;(first|subst iF|(injection iF with iF;subst iF));subst od;clear oc));have bE:=ae.mk d6;have jS:=ae.mk d7;clear d6 gD d7;obtain⟨_,jT,dU,d8,b6,b7,_,_⟩:=Kd.xl b3.out z58 (b1:Int) d2 d3;obtain⟨d9,dA,dB,rfl,gV,gW,gX⟩:=qO d8;have gY:b5.cell? ⟨b2,(b1:Int).toNat*6,none⟩=some (.int .i64 ((af b4 b1).f0)):=b6 0 _ rfl;have gZ:b5.cell? ⟨b2,(b1:Int).toNat*6+1,none⟩=some (.int .i64 ((af b4 b1).f1)):=b6 1 _ rfl;have j1:b5.cell? ⟨b2,(b1:Int).toNat*6+2,none⟩=some (.int .i64 ((af b4 b1).f2)):=b6 2 _ rfl;have j2:b5.cell? ⟨b2,(b1:Int).toNat*6+3,none⟩=some (d9):=b6 3 _ rfl;have j3:b5.cell? ⟨b2,(b1:Int).toNat*6+4,none⟩=some (dA):=b6 4 _ rfl;have j4:b5.cell? ⟨b2,(b1:Int).toNat*6+5,none⟩=some (dB):=b6 5 _ rfl;have j5:b5.frozen? ⟨b2,(b1:Int).toNat*6,none⟩=false:=b7 0;have j6:b5.frozen? ⟨b2,(b1:Int).toNat*6+1,none⟩=false:=b7 1;have j7:b5.frozen? ⟨b2,(b1:Int).toNat*6+2,none⟩=false:=b7 2;have j8:b5.frozen? ⟨b2,(b1:Int).toNat*6+3,none⟩=false:=b7 3;have j9:b5.frozen? ⟨b2,(b1:Int).toNat*6+4,none⟩=false:=b7 4;have jA:b5.frozen? ⟨b2,(b1:Int).toNat*6+5,none⟩=false:=b7 5;clear dU b6 b7 d8;replace d2:=eq_true d2;replace d3:=eq_true d3;have n_:=am (Kd.eV (ok':=(fun k_=>some k_≠(bI:Value).ownBlock∧some k_≠(bJ:Value).ownBlock∧some k_≠(bK:Value).ownBlock)) b3.out (fun k_ hk=>⟨hk.1.1.2,⟨hk.1.2,hk.2⟩⟩));clear b3;have b3:=n_;clear n_;have gE:=am (show Kd.S gh 58 b5 w.heap.size (fun k_=>((fun _=>True)) k_∧¬((fun k_=>some k_=(bI:Value).ownBlock∨some k_=(bJ:Value).ownBlock∨some k_=(bK:Value).ownBlock)) k_) (.slice (some ⟨b2,0,none⟩) b4.length d4) b4 from(by(with_reducible repeat(first|apply Kd.eL|apply Kd.eR|apply Kd.fi));exact Kd.eV b3.out (fun k_ hk=>⟨trivial,fun e_=>e_.elim (fun h_=>hk.1 h_) (fun h_=>h_.elim (fun h_=>hk.2.1 h_) (fun h_=>hk.2.2 h_))⟩)));obtain⟨jI,jU,dV,dC,b8,b9,dD,dE⟩:=Kd.xl gE.out z58 (b1:Int) oa (by have h_:(b1:Int)<((b4.length:Int):Int):=oa;first|exact h_|(have e_:=(Kd.kL b3.out).1;omega)|simpa using h_);obtain⟨jB,jC,jD,rfl,jE,jF,jG⟩:=qO dC;have bQ:=Kd.adS dE oa (by have h_:(b1:Int)<((b4.length:Int):Int):=oa;first|exact h_|(have e_:=(Kd.kL b3.out).1;omega)|simpa using h_) (seg:=[.int .i64 bB,.int .i64 bC,.int .i64 bD,bI,bJ,bK]) (j:=0) (show 6≤6 from by decide) (x':=(⟨bB,bC,bD,bL,bM,bN⟩:aX)) (pq _ _ _ (⟨bB,bC,bD,bL,bM,bN⟩:aX) (Kd.aZ (Kd.kb rfl (Kd.aZ (ok':=fun k_=>((fun _=>True)) k_∧k_≠b2) (Kd.cI (bF.out) (Kd.iD b3.out) (by decide)) (fun k_ hk=>⟨trivial,fun e_=>(hk.2) (by rw[e_];rfl)⟩))) (fun _ h_=>Or.inr (Or.inl h_))) (Kd.aZ (Kd.kb rfl (Kd.aZ (ok':=fun k_=>((fun _=>True)) k_∧k_≠b2) (Kd.cI (bG.out) (Kd.iD b3.out) (by decide)) (fun k_ hk=>⟨trivial,fun e_=>(hk.2) (by rw[e_];rfl)⟩))) (fun _ h_=>Or.inr (Or.inr (Or.inl h_)))) (Kd.aZ (Kd.kb rfl (Kd.aZ (ok':=fun k_=>((fun _=>True)) k_∧k_≠b2) (Kd.cI (bH.out) (Kd.iD b3.out) (by decide)) (fun k_ hk=>⟨trivial,fun e_=>(hk.2) (by rw[e_];rfl)⟩))) (fun _ h_=>Or.inr (Or.inr (Or.inr (h_)))))) (fun _ hk=>hk) (fun k_ eW=>eW.elim (fun h_=>((Kd.aZ (ok':=fun k_=>((fun _=>True)) k_∧k_≠b2) (Kd.cI (bF.out) (Kd.iD b3.out) (by decide)) (fun k_ hk=>⟨trivial,fun e_=>(hk.2) (by rw[e_];rfl)⟩))).1 k_ h_.symm) (fun h_=>h_.elim (fun h_=>((Kd.aZ (ok':=fun k_=>((fun _=>True)) k_∧k_≠b2) (Kd.cI (bG.out) (Kd.iD b3.out) (by decide)) (fun k_ hk=>⟨trivial,fun e_=>(hk.2) (by rw[e_];rfl)⟩))).1 k_ h_.symm) (fun h_=>((Kd.aZ (ok':=fun k_=>((fun _=>True)) k_∧k_≠b2) (Kd.cI (bH.out) (Kd.iD b3.out) (by decide)) (fun k_ hk=>⟨trivial,fun e_=>(hk.2) (by rw[e_];rfl)⟩))).1 k_ h_.symm)));have dF:=b8 0 _ rfl;(try simp only[show(gh).sz=6 from rfl,Nat.mul_one,Nat.add_zero]at dF);have dG:=b9 0;(try simp only[show(gh).sz=6 from rfl,Nat.mul_one,Nat.add_zero]at dG);have dH:=b8 1 _ rfl;(try simp only[show(gh).sz=6 from rfl,Nat.mul_one,Nat.add_zero]at dH);have dI:=b9 1;(try simp only[show(gh).sz=6 from rfl,Nat.mul_one,Nat.add_zero]at dI);have dJ:=b8 2 _ rfl;(try simp only[show(gh).sz=6 from rfl,Nat.mul_one,Nat.add_zero]at dJ);have dK:=b9 2;(try simp only[show(gh).sz=6 from rfl,Nat.mul_one,Nat.add_zero]at dK);have dL:=b8 3 _ rfl;(try simp only[show(gh).sz=6 from rfl,Nat.mul_one,Nat.add_zero]at dL);have dM:=b9 3;(try simp only[show(gh).sz=6 from rfl,Nat.mul_one,Nat.add_zero]at dM);have dN:=b8 4 _ rfl;(try simp only[show(gh).sz=6 from rfl,Nat.mul_one,Nat.add_zero]at dN);have dO:=b9 4;(try simp only[show(gh).sz=6 from rfl,Nat.mul_one,Nat.add_zero]at dO);have dP:=b8 5 _ rfl;(try simp only[show(gh).sz=6 from rfl,Nat.mul_one,Nat.add_zero]at dP);have dQ:=b9 5;(try simp only[show(gh).sz=6 from rfl,Nat.mul_one,Nat.add_zero]at dQ);clear dV b8 b9 dC dD dE)|((with_reducible refine fu (t:=58) (p:=21) rfl ?_);refine fj (t:=58) (p:=21) (v:= ?xu) (w1:=((((((b5.setCell ⟨b2,(b1:Int).toNat*6,none⟩ (.int .i64 bB)).setCell ⟨b2,(b1:Int).toNat*6+1,none⟩ (.int .i64 bC)).setCell ⟨b2,(b1:Int).toNat*6+2,none⟩ (.int .i64 bD)).setCell ⟨b2,(b1:Int).toNat*6+3,none⟩ (bI)).setCell ⟨b2,(b1:Int).toNat*6+4,none⟩ (bJ)).setCell ⟨b2,(b1:Int).toNat*6+5,none⟩ (bK))) ?hg ?ho ?hn ?hr ?_;(case ho=>rfl);(case hg=>rfl);(case hn=>rfl);(case hr=>have gL:=fun(a_:Addr) (m_:Go.Mode) (W_:World)=>run_store Tryz.prog W_ a_ bI m_ (by obtain⟨A_,c_,e_⟩:=Kd.ao bF.out;rw[e_];rfl);have gM:=fun(a_:Addr) (m_:Go.Mode) (W_:World)=>run_store Tryz.prog W_ a_ bJ m_ (by obtain⟨A_,c_,e_⟩:=Kd.ao bG.out;rw[e_];rfl);have gN:=fun(a_:Addr) (m_:Go.Mode) (W_:World)=>run_store Tryz.prog W_ a_ bK m_ (by obtain⟨A_,c_,e_⟩:=Kd.ao bH.out;rw[e_];rfl);first|(go_simp;done)|(go_simp;rfl));intro dR hw;have hg:b5.grownBy dR (some b2):=(by rw[hw];exact bQ.2);have ny:Kd.S gh 58 dR w.heap.size (fun _=>True) (.slice (some ⟨b2,0,none⟩) b4.length d4) bP:=(by rw[hw,dT.out];exact bQ.1);clear bQ;replace b3:=am (ny);replace HB:=am ((by rw[hw];exact aI (aI (aI (aI (aI (aI (HB.out) bE.out) bE.out) bE.out) bE.out) bE.out) bE.out:Below w.heap.size w dR));clear bF;clear bG;clear bH;clear hg hw ny))
   go_roundg k1
   case measure=>have:=dW.out;omega
   case rel=>exact⟨(bP),(wrap64 (b1+1)),oS,H',⟨by have:=dW.out;omega⟩,⟨by(with_reducible repeat(first|apply Kd.eL|apply Kd.eR|apply Kd.fi));exact b3.out⟩,⟨oB⟩⟩
end Go.Proofs.YtlecajlnjmbilaaGreatDoor.P
