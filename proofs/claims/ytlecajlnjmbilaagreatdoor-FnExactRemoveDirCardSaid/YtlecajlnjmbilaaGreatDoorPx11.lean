-- Printed walks.
import Derived.Test.YtlecajlnjmbilaaGreatDoorPx8
import Derived.Test.YtlecajlnjmbilaaGreatDoorPx9
set_option linter.all false
set_option maxHeartbeats 8000000
set_option maxRecDepth 100000
namespace Go.Proofs.YtlecajlnjmbilaaGreatDoor.P
open Go.RowKit Go.Proofs.ab.ao Go.Proofs.ab.aE Go.Proofs.ab.aI
attribute [local go_sem] fV fW im iq fh fi fX fY

mutual
def aV.l0:Nat→List Int→List Int→List (aZ)→Int→Option (List Int)
 |0,_,_,_,_=>none
 |k+1,x3,x4,b2,b3=>if(x4.length:Int)>0 then(if 0<(x4.length:Int)then(if 1≤(x4.length:Int)then((some (x4.drop (1:Int).toNat:List Int)).bind fun b4=>((cO.f k b2 b3 (rd x4 0)).bind fun b1=>(if b1.2.2.2.2.2.2=true then((eg.f x3 (rd x4 0)).bind fun b5=>(aV.j1 k x3 b4 (rd x4 0) b5 b2 b3 b1.1 b1.2.1 b1.2.2.1 b1.2.2.2.1 b1.2.2.2.2.1 b1.2.2.2.2.2.1))else(aV.j1 k x3 b4 (rd x4 0) true b2 b3 b1.1 b1.2.1 b1.2.2.1 b1.2.2.2.1 b1.2.2.2.2.1 b1.2.2.2.2.2.1))))else(none))else(none))else(if x3.length<4611686018427387904 then some (nM x3)else none)
def aV.j1:Nat→List Int→List Int→Int→Bool→List (aZ)→Int→Int→Int→Int→List Int→List (db)→List (ey)→Option (List Int)
 |0,_,_,_,_,_,_,_,_,_,_,_,_=>none
 |k+1,x3,x4,x5,bB,b1,b2,b6,b4,b7,b8,b3,b9=>if bB=true then(aV.l0 k x3 x4 b1 b2)else(if x3.length<17592186044416 then((some (x3++[x5]:List Int)).bind fun b5=>(if b4=2 then(aV.l1 k b5 x4 b3 (b3.length:Int) 0 b1 b2)else(aV.l0 k b5 x4 b1 b2)))else(none))
def aV.l1:Nat→List Int→List Int→List (db)→Int→Int→List (aZ)→Int→Option (List Int)
 |0,_,_,_,_,_,_,_=>none
 |k+1,x3,x4,b4,b5,b3,b1,b2=>if b3<b5 then(if 0≤b3 then(if b3<(b4.length:Int)then(if x4.length<17592186044416 then(aV.l1 k x3 (x4++[(al b4 b3).f1]) b4 b5 (wrap64 (b3+1)) b1 b2)else(none))else(none))else(none))else(aV.l0 k x3 x4 b1 b2)
end
def aV.f (k:Nat) (ag:List (aZ)) (ak:Int):Option (List Int):=aV.l0 k (([]:List Int)) (([1]:List Int)) ag ak
theorem aV.calls (k:Nat) (bl:Option Addr) (aW:Nat) (ag:List (aZ)) (ak:Int) (r:List Int) (w:World) (cg:Kd.C fv w bl ag.length ag) (ch:ag.length≤aW) (h:aV.f k ag ak=some r):
  Calls Tryz.prog 124 #[.agg #[.slice bl ag.length aW,.int .i64 ak]] w fun e w'=>∃iY:Value,e= .returned (iY)∧Kd.R (Kd.int .i64) 3 w' w.heap.size (fun _=>True) iY r∧Below w.heap.size w w':=by
 have jX:=Tryz.underlying28;have jY:=Tryz.underlying58;have jZ:=Tryz.underlying75;have gM:=ae.mk cg;have gN:=ae.mk ch;clear cg ch;have HB:=am (Below.refl w.heap.size w);unfold aV.f at h;have H:=h;clear h;obtain⟨dP,dj⟩:∃y_:List Int,y_=(([]:List Int)):=⟨_,rfl⟩;replace H:(aV.l0 k dP (([1]:List Int)) ag ak)=some r:=oY;have dX:=ae.mk dj;clear dj;obtain⟨gF,dj⟩:∃y_:List Int,y_=(([1]:List Int)):=⟨_,rfl⟩;replace H:(aV.l0 k dP gF ag ak)=some r:=oY;have dY:=ae.mk dj;clear dj;have H':=ae.mk H;clear H
 go_enter Tryz.func124,Tryz.ntmps124
 go_wp2_with (first|((with_reducible refine aj (N:=1) rfl ?_);refine dp 1 #[.slice bl ag.length aW,.int .i64 ak] 28 ?_;intro dE hg w2 hbox hb;have b1:=am (hbox);have jG:=dn hg;replace HB:=hB HB hb;clear hb hbox hg)|((with_reducible refine aj (N:=10) rfl ?_);refine Kd.ku (Kd.int .i64) _ 3 ?hg (N:=10) ?hd (xs:=([]:List Int)) (inner:=[]) (ok:=fun _=>True) (fU:=fun _=>True) ?hr ?hp (fun _ hk=>hk) trivial (Below.refl _ _) (Nat.le_refl _) (by simp) ?_;(case hd=>rfl);(case hg=>rfl);(case hr=>first|(go_simp;done)|(go_simp;rfl));(case hp=>exact(cW.none _ _));intro m1 w3 dK hb lv eG;clear lv eG;(first|rw[←dX.out]at dK|(simp only[Int.reduceToNat]at dK;rw[←dX.out]at dK));have d7:=am (Kd.ar dK (ah oB));replace b1:=bj b1 hb;replace HB:=hB HB hb;clear hb dK)|((with_reducible refine aj (N:=11) rfl ?_);refine Kd.ku (Kd.int .i64) _ 3 ?hg (N:=11) ?hd (xs:=([1]:List Int)) (inner:=[.int .i64 1]) (ok:=fun _=>True) (fU:=fun _=>True) ?hr ?hp (fun _ hk=>hk) trivial (Below.refl _ _) (Nat.le_refl _) (by simp) ?_;(case hd=>rfl);(case hg=>rfl);(case hr=>first|(go_simp;done)|(go_simp;rfl));(case hp=>exact(cW.one (show Kd.M (Kd.int .i64) _ _ _ 1 [.int .i64 1]from rfl) (cW.none _ _)));intro m2 w5 dC hb lv eG;clear lv eG;(first|rw[←dY.out]at dC|(simp only[Int.reduceToNat]at dC;rw[←dY.out]at dC));have gO:=am (Kd.ar (Kd.nc dC (rf d7)) (ah oB));replace d7:=ke_ d7 dC hb;replace b1:=bj b1 hb;replace HB:=hB HB hb;clear hb dC))
 go_loopg [3,4] k (fun kq v3 v4 w'=>∃(bG:List Int) (b4:List Int),ae (aV.l0 kq bG b4 ag ak=some r)∧ae (kq≤k)∧ae (Kd.R (Kd.int .i64) 3 w' w.heap.size (fun k_=>some k_≠(v4:Value).ownBlock) v3 bG)∧ae (Kd.Q (Kd.int .i64) 3 w' w.heap.size (fun k_=>some k_≠(v3:Value).ownBlock) v4 b4)∧ae (w'.heap[dE]? =some (.cells #[(.slice bl ag.length aW),.int .i64 ak] 28 (0,0)))∧ae (Below w.heap.size w w'))
 case atStart=>exact⟨(dP),(gF),H',⟨Nat.le_refl _⟩,⟨by(with_reducible repeat(first|apply Kd.cz|apply Kd.cA|apply Kd.cu));exact Kd.bf d7.out (fun _ hk=>hk.2)⟩,⟨Kd.pv (by(with_reducible repeat(first|apply Kd.cz|apply Kd.cA|apply Kd.cu));exact Kd.bf gO.out (fun _ hk=>hk.2))⟩,⟨oF b1⟩,⟨oB⟩⟩
 case round=>
  clear H';obtain⟨bG,b4,HA,bV,b3,b7,b1,HB⟩:=hrel
  cases gk with
  |zero=>exact absurd HA.out (by simp[aV.l0])
  |succ k1=>
   have H:=HA.out;clear HA;simp only[aV.l0]at H
   by_cases c7:(b4.length:Int)>0
   rotate_left
   ·rw[if_neg c7]at H;have dQ:decide (0<(b4.length:Int))=false:=decide_eq_false c7;have dR:decide (0<b4.length)=false:=decide_eq_false (by omega);clear c7
    split at H
    case isFalse=>cases H
    case isTrue adt=>
    obtain rfl:=Option.some.inj H;obtain⟨m3,m4,gY,_⟩:=Kd.pJ b7.out;subst gY;obtain⟨Aq_,cq_,rfl⟩:=Kd.aw b3.out
    go_wp2_with (go_at_call 147;refine(ab_.calls Aq_ cq_ w.heap.size (fun _=>True) bG _ (Kd.bf (vV b3) (fun _ _=>trivial)) adt).mono ?_;rintro e mH ⟨rfl,hs_,lv⟩)
    go_ret
    exact⟨_,oE,hs_,(oB:Below w.heap.size w _).grown lv (ah oB) (fun k_ eY=>Kd.cM hs_ k_ eY)⟩
   rw[if_pos c7]at H;have dQ:decide (0<(b4.length:Int))=true:=decide_eq_true c7;have dR:decide (0<b4.length)=true:=decide_eq_true (by omega);clear c7;obtain⟨c8,H⟩:=lp H;have gG:decide (0<(b4.length:Int))=true:=decide_eq_true c8;have gH:decide (0<b4.length)=true:=decide_eq_true (by omega);clear c8;obtain⟨c9,H⟩:=lp H;have m5:=eq_true c9;have m6:decide (1≤(b4.length:Int))=true:=decide_eq_true c9;clear c9;obtain⟨bC,dj⟩:∃y_:List Int,y_=(b4.drop (1:Int).toNat):=⟨_,rfl⟩;replace H:((cO.f k1 ag ak (rd b4 0)).bind fun bE=>(if bE.2.2.2.2.2.2=true then((eg.f bG (rd b4 0)).bind fun dF=>(aV.j1 k1 bG bC (rd b4 0) dF ag ak bE.1 bE.2.1 bE.2.2.1 bE.2.2.2.1 bE.2.2.2.2.1 bE.2.2.2.2.2.1))else(aV.j1 k1 bG bC (rd b4 0) true ag ak bE.1 bE.2.1 bE.2.2.1 bE.2.2.2.1 bE.2.2.2.2.1 bE.2.2.2.2.2.1)))=some r:=oY;have dZ:=ae.mk dj;clear dj;replace H:=bA H;obtain⟨⟨bW,bH,bX,bI,b5,bJ,gZ⟩,jB,H⟩:=H
   try dsimp only at H
   have dS:=ae.mk H;clear H;obtain⟨m7,dG,j1,_⟩:=Kd.pJ b7.out;subst j1;have dT:0≤(0:Int):=(by omega);have dU:0<(b4.length:Int):=oa;obtain⟨d4,j2,dD⟩:=Kd.kB (Kd.kJ b7.out).2.2 0 dT dU
   cases j2
   have jH:(0<b4.length)=True:=eq_true (by omega)
   (try rw[show((0:Int)).toNat=0 from rfl]at dD)
   (try rw[Addr.add_zero']at dD)
   replace dT:=eq_true dT;replace dU:=eq_true dU;have gI:(1:Int)≤((b4.length:Int):Int):=oa;obtain⟨m8,gA,_,gB,_⟩:=info_parts info3;have gJ:=nt (P:=Tryz.prog) 98 3 .i64 Tryz.underlying98 gA 1 gB (some d4) b4.length dG 1 (by omega) gI;have d8:=Kd.aaA (k:=(1:Int).toNat) b7.out (by omega);obtain⟨d9,dH⟩:∃A1,A1=(if dG=(1:Int).toNat then(some d4)else((some d4):Option Addr).map (·.add ((1:Int).toNat*1))):=⟨_,rfl⟩;obtain⟨dA,dV⟩:∃c1,c1=dG-(1:Int).toNat:=⟨_,rfl⟩;have dW:bC.length=b4.length-(1:Int).toNat:=(by rw[dZ.out,List.length_drop]);rw[←dZ.out]at d8;rw[←dW,←dH,←dV]at gJ;replace d8:Kd.Q (Kd.int .i64) 3 wr w.heap.size (fun k_=>some k_≠(u3:Value).ownBlock) (.slice d9 bC.length dA) bC:=(by rw[dH,dV,dW];exact d8);have j3:ae ((Value.slice d9 bC.length dA).ownBlock=(.slice (some d4) b4.length dG:Value).ownBlock):=⟨by rw[dH];split<;>(cases ((some d4):Option Addr)<;>rfl)⟩;clear dW gA gB b7 dH dV;have bK:=ae.mk d8;clear d8;replace gI:=eq_true gI;have n_:=am (Kd.bf (ok':=fun k_=>some k_≠(.slice d9 bC.length dA:Value).ownBlock) b3.out (fun k_ hk=>(by rw[j3.out];exact hk)));clear b3;have b3:=n_;clear n_;obtain⟨⟨_,_⟩,_,_⟩:=z2 b1
   go_upto_region 7 with(first|((with_reducible refine ai (f:=91) rfl ?_);refine eL 23 Tryz.func91 (cO.calls k1 _ _ ag ak (rd b4 0) bW bH bX bI b5 bJ gZ _ (kC gM) gN.out jB.out) ?_;rintro e mI ⟨m9,mA,mB,rfl,jC,gV,gW,hb⟩;refine⟨_,rfl,?_⟩;have bM:=am (Kd.ar jC (ah oB));have bN:=am (Kd.ar gV (ah oB));have bO:=am (Kd.ar gW (ah oB));replace b3:=ga b3 hb;replace bK:=qM bK hb;replace b1:=bj b1 hb;replace HB:=hB HB hb;(try clear gV);(try clear gW))|((with_reducible refine aj (N:=6) rfl ?_);refine dp 6 #[.int .i64 0,.int .i64 0,.int .i64 0,.slice none 0 0,.slice none 0 0,.slice none 0 0] 58 ?_;intro bD hg mJ hbox hb;have b2:=am (hbox);have jI:=dn hg;have bP:=eN hg b1;have bQ:=eO hg b1;replace b3:=ga b3 hb;replace bK:=qM bK hb;replace bM:=ga bM hb;replace bN:=ga bN hb;replace bO:=ga bO hb;replace b1:=bj b1 hb;replace HB:=hB HB hb;clear hb hbox hg;have jJ:=bQ.out;have jK:=bP.out;obtain⟨⟨_,_,_,_,_,_⟩,_,_,_,_,_,_⟩:=z6 b2;obtain⟨bY,bZ,j4⟩:=Kd.aw bM.out;subst j4;obtain⟨bR,bS,j5⟩:=Kd.aw bN.out;subst j5;obtain⟨d1,d2,j6⟩:=Kd.aw bO.out;subst j6))
   (try simp only[Act.put,List.setIfInBounds_toArray,List.set_cons_zero,List.set_cons_succ])
   go_cut [32] (fun jD wc=>∃(kq:Nat) (dB:Bool),jD= .bool dB∧ae (aV.j1 kq bG bC (rd b4 0) dB ag ak bW bH bX bI b5 bJ=some r)∧ae (kq≤k1)∧ae (Kd.R (Kd.int .i64) 3 wc w.heap.size (fun k_=>some k_≠((.slice d9 bC.length dA):Value).ownBlock) u3 bG)∧ae (Kd.Q (Kd.int .i64) 3 wc w.heap.size (fun k_=>some k_≠(u3:Value).ownBlock) (.slice d9 bC.length dA) bC)∧ae (Kd.R (Kd.int .u8) 5 wc w.heap.size (fun _=>True) (.slice bY bI.length bZ) bI)∧ae (Kd.R iA 75 wc w.heap.size (fun _=>True) (.slice bR b5.length bS) b5)∧ae (Kd.R jr 82 wc w.heap.size (fun _=>True) (.slice d1 bJ.length d2) bJ)∧ae (wc.heap[dE]? =some (.cells #[(.slice bl ag.length aW),.int .i64 ak] 28 (0,0)))∧ae (wc.heap[bD]? =some (.cells #[.int .i64 bW,.int .i64 bH,.int .i64 bX,(.slice bY bI.length bZ),(.slice bR b5.length bS),(.slice d1 bJ.length d2)] 58 (0,0)))∧ae (Below w.heap.size w wc))
   case first=>
    have H:=dS.out;clear dS;replace H:=ll H;rcases H with⟨rfl,H⟩|⟨rfl,H⟩
    ·replace H:=bA H;obtain⟨dF,jE,H⟩:=H
     try dsimp only at H
     have H':=ae.mk H;clear H;obtain⟨mC,mD,j7⟩:=Kd.aw b3.out;subst j7
     go_wp2_with (first|(go_at_call 146;(with_reducible refine(eg.calls _ _ bG (rd b4 0) dF _ (rh b3 b2) (ko b3) jE.out).mono ?_);rintro e mK ⟨rfl,hb⟩;replace b3:=ky b3 b2 hb;replace bK:=acR bK b2 hb;replace bM:=ky bM b2 hb;replace bN:=ky bN b2 hb;replace bO:=ky bO b2 hb;replace b1:=bj b1 hb;replace b2:=rg #[.int .i64 bW,.int .i64 bH,.int .i64 bX,.slice bY bI.length bZ,.slice bR b5.length bS,.slice d1 bJ.length d2] b2 hb;replace HB:=hB HB hb;(try clear hk)))
     go_meet
     case rel=>exact⟨_,(dF),oS,H',⟨by have:=bV.out;first|omega|exact Nat.le_refl _⟩,⟨oR b3⟩,⟨by(with_reducible repeat(first|apply Kd.iC|apply Kd.iD|apply Kd.ju));exact bK.out⟩,⟨oR bM⟩,⟨oR bN⟩,⟨oR bO⟩,⟨oF b1⟩,⟨oF b2⟩,⟨oB⟩⟩
    have H':=ae.mk H;clear H
    go_wp2
    go_meet
    case rel=>exact⟨_,(true),oS,H',⟨by have:=bV.out;first|omega|exact Nat.le_refl _⟩,⟨by(with_reducible repeat(first|apply Kd.cz|apply Kd.cA|apply Kd.cu));exact Kd.bf (Kd.cJ (p:=⟨bD,5,none⟩) (Kd.cJ (p:=⟨bD,4,none⟩) (Kd.cJ (p:=⟨bD,3,none⟩) (Kd.cJ (p:=⟨bD,2,none⟩) (Kd.cJ (p:=⟨bD,1,none⟩) (Kd.cJ (p:=⟨bD,0,none⟩) (Kd.aU b3.out b2.out (by decide)) (fun _ hk=>hk.2) (.int .i64 bW)) (fun _ hk=>hk.2) (.int .i64 bH)) (fun _ hk=>hk.2) (.int .i64 bX)) (fun _ hk=>hk.2) (.slice bY bI.length bZ)) (fun _ hk=>hk.2) (.slice bR b5.length bS)) (fun _ hk=>hk.2) (.slice d1 bJ.length d2)) (fun _ hk=>hk.1)⟩,⟨by(with_reducible repeat(first|apply Kd.iC|apply Kd.iD|apply Kd.ju));exact Kd.lZ (Kd.pF (p:=⟨bD,5,none⟩) (Kd.pF (p:=⟨bD,4,none⟩) (Kd.pF (p:=⟨bD,3,none⟩) (Kd.pF (p:=⟨bD,2,none⟩) (Kd.pF (p:=⟨bD,1,none⟩) (Kd.pF (p:=⟨bD,0,none⟩) (Kd.qT bK.out b2.out (by decide)) (fun _ hk=>hk.2) (.int .i64 bW)) (fun _ hk=>hk.2) (.int .i64 bH)) (fun _ hk=>hk.2) (.int .i64 bX)) (fun _ hk=>hk.2) (.slice bY bI.length bZ)) (fun _ hk=>hk.2) (.slice bR b5.length bS)) (fun _ hk=>hk.2) (.slice d1 bJ.length d2)) (fun _ hk=>hk.1)⟩,⟨xZ bM b2⟩,⟨xZ bN b2⟩,⟨xZ bO b2⟩,⟨oF b1⟩,⟨oP b2⟩,⟨oB⟩⟩
   case rest=>
    clear dS
    try clear c7
    try clear dQ
    try clear dR
    try clear c8
    try clear gG
    try clear gH
    try clear c9
    obtain⟨kq,dB,rfl,HA,bT,b3,b7,b8,b6,b9,b1,b2,HB⟩:=hcut
    cases kq with
    |zero=>exact absurd HA.out (by simp[aV.j1])
    |succ uX=>
     have H:=HA.out;clear HA;simp only[aV.j1]at H;replace H:=ll H;rcases H with⟨rfl,H⟩|⟨rfl,H⟩
     ·have H':=ae.mk H;clear H
      go_wp2
      go_roundg uX
      case measure=>have:=bV.out;have:=bT.out;omega
      case rel=>exact⟨(bG),(bC),H',⟨by have:=bV.out;have:=bT.out;omega⟩,⟨oR b3⟩,⟨by(with_reducible repeat(first|apply Kd.iC|apply Kd.iD|apply Kd.ju));exact b7.out⟩,⟨oF b1⟩,⟨oB⟩⟩
     obtain⟨gK,H⟩:=lp H;have gC:=ae.mk gK;clear gK;obtain⟨d3,dj⟩:∃y_:List Int,y_=(bG++[(rd b4 0)]):=⟨_,rfl⟩;replace H:(if bH=2 then(aV.l1 uX d3 bC b5 (b5.length:Int) 0 ag ak)else(aV.l0 uX d3 bC ag ak))=some r:=oY;have gD:=ae.mk dj;clear dj
     by_cases d6:bH=2
     rotate_left
     ·rw[if_neg d6]at H;have gP:(bH==2)=false:=beq_eq_false_iff_ne.mpr d6;have gQ:(bH !=2)=true:=bne_iff_ne.mpr d6;have H':=ae.mk H;clear H
      go_wp2_with (first|((with_reducible refine eb (b:= .append) (xs:= #[.tmp 33,.tmp 35]) rfl ?_);at_builtin;refine Kd.nr (Kd.int .i64) (w0:=w) w.heap.size rfl (.tmp 33) (.tmp 35) 98 3 (.int .i64 0) 8 rfl Tryz.underlying98 info3 rfl (by decide) (by omega) u3 bG (rd b4 0) [.int .i64 (rd b4 0)] (fun k_=>some k_≠(.slice d9 bC.length dA:Value).ownBlock) (fun _=>False) rfl rfl ?aP (fun _ hk=>hk.elim) ?aF ?aO ?aB ?aS ?aL ?_;(case aP=>exact rfl);(case aB=>exact oB);(case aF=>exact(fun k_ hk=>Kd.fresh' (adI b7) k_ hk));(case aO=>exact(oR b3));(case aS=>exact(ah oB));(case aL=>have:=gC.out;omega);intro dI mL ho hb hg hat;rw[←gD.out]at ho;have dJ:=am (ho);replace b7:=am (Kd.xG (ok:=(fun _=>True)) (by(with_reducible repeat(first|apply Kd.iC|apply Kd.iD|apply Kd.ju));exact Kd.lZ b7.out (fun _ hk=>⟨trivial,hk⟩)) hg hat);replace b8:=am (Kd.ks (oR b8) (Kd.iw (oR b3)) (by decide) hg);replace b6:=am (Kd.ks (oR b6) (Kd.iw (oR b3)) (by decide) hg);replace b9:=am (Kd.ks (oR b9) (Kd.iw (oR b3)) (by decide) hg);replace b1:=lO b1 hg (Kd.nC b3.out b1.out (by decide));replace b2:=lO b2 hg (Kd.nC b3.out b2.out (by decide));replace HB:=am (hb);clear b3;clear ho hb hg hat;have jL:=bQ.out;have jM:=bP.out;obtain⟨⟨_,_,_,_,_,_⟩,_,_,_,_,_,_⟩:=z6 b2))
      go_roundg uX
      case measure=>have:=bV.out;have:=bT.out;omega
      case rel=>exact⟨(d3),(bC),H',⟨by have:=bV.out;have:=bT.out;omega⟩,⟨oR dJ⟩,⟨by(with_reducible repeat(first|apply Kd.iC|apply Kd.iD|apply Kd.ju));exact Kd.lZ b7.out (fun _ hk=>hk.2)⟩,⟨oF b1⟩,⟨oB⟩⟩
     rw[if_pos d6]at H;have gP:(bH==2)=true:=beq_iff_eq.mpr d6;have gQ:(bH !=2)=false:=bne_eq_false_iff_eq.mpr d6;clear d6;have H':=ae.mk H;clear H
     go_wp2_with (first|((with_reducible refine eb (b:= .append) (xs:= #[.tmp 33,.tmp 35]) rfl ?_);at_builtin;refine Kd.nr (Kd.int .i64) (w0:=w) w.heap.size rfl (.tmp 33) (.tmp 35) 98 3 (.int .i64 0) 8 rfl Tryz.underlying98 info3 rfl (by decide) (by omega) u3 bG (rd b4 0) [.int .i64 (rd b4 0)] (fun k_=>some k_≠(.slice d9 bC.length dA:Value).ownBlock) (fun _=>False) rfl rfl ?aP (fun _ hk=>hk.elim) ?aF ?aO ?aB ?aS ?aL ?_;(case aP=>exact rfl);(case aB=>exact oB);(case aF=>exact(fun k_ hk=>Kd.fresh' (adI b7) k_ hk));(case aO=>exact(oR b3));(case aS=>exact(ah oB));(case aL=>have:=gC.out;omega);intro dI mM ho hb hg hat;rw[←gD.out]at ho;have dJ:=am (ho);replace b7:=am (Kd.xG (ok:=(fun _=>True)) (by(with_reducible repeat(first|apply Kd.iC|apply Kd.iD|apply Kd.ju));exact Kd.lZ b7.out (fun _ hk=>⟨trivial,hk⟩)) hg hat);replace b8:=am (Kd.ks (oR b8) (Kd.iw (oR b3)) (by decide) hg);replace b6:=am (Kd.ks (oR b6) (Kd.iw (oR b3)) (by decide) hg);replace b9:=am (Kd.ks (oR b9) (Kd.iw (oR b3)) (by decide) hg);replace b1:=lO b1 hg (Kd.nC b3.out b1.out (by decide));replace b2:=lO b2 hg (Kd.nC b3.out b2.out (by decide));replace HB:=am (hb);clear b3;clear ho hb hg hat;have jN:=bQ.out;have jO:=bP.out;obtain⟨⟨_,_,_,_,_,_⟩,_,_,_,_,_,_⟩:=z6 b2))
     go_loopg [4,43] uX (fun kq v4 jF w'=>∃(d5:List Int) (bB:Int),jF= .int .i64 bB∧ae (aV.l1 kq d3 d5 b5 (b5.length:Int) bB ag ak=some r)∧ae (kq≤uX)∧ae (Kd.R (Kd.int .i64) 3 w' w.heap.size (fun k_=>some k_≠(v4:Value).ownBlock) dI d3)∧ae (Kd.Q (Kd.int .i64) 3 w' w.heap.size (fun k_=>some k_≠(dI:Value).ownBlock) v4 d5)∧ae (Kd.R iA 75 w' w.heap.size (fun _=>True) (.slice bR b5.length bS) b5)∧ae (Kd.R (Kd.int .u8) 5 w' w.heap.size (fun _=>True) (.slice bY bI.length bZ) bI)∧ae (Kd.R iA 75 w' w.heap.size (fun _=>True) (.slice bR b5.length bS) b5)∧ae (Kd.R jr 82 w' w.heap.size (fun _=>True) (.slice d1 bJ.length d2) bJ)∧ae (w'.heap[dE]? =some (.cells #[(.slice bl ag.length aW),.int .i64 ak] 28 (0,0)))∧ae (w'.heap[bD]? =some (.cells #[.int .i64 bW,.int .i64 bH,.int .i64 bX,(.slice bY bI.length bZ),(.slice bR b5.length bS),(.slice d1 bJ.length d2)] 58 (0,0)))∧ae (Below w.heap.size w w'))
     case atStart=>exact⟨(bC),(0),oS,H',⟨Nat.le_refl _⟩,⟨oR dJ⟩,⟨by(with_reducible repeat(first|apply Kd.iC|apply Kd.iD|apply Kd.ju));exact Kd.lZ b7.out (fun _ hk=>hk.2)⟩,⟨oR b6⟩,⟨oR b8⟩,⟨oR b6⟩,⟨oR b9⟩,⟨oF b1⟩,⟨oF b2⟩,⟨oB⟩⟩
     case round=>
      clear H'
      try clear c7
      try clear dQ
      try clear dR
      try clear c8
      try clear gG
      try clear gH
      try clear c9
      try clear gK
      try clear d6
      obtain⟨d5,bB,rfl,HA,gE,b3,b7,bU,b8,b6,b9,b1,b2,HB⟩:=hrel
      cases gk with
      |zero=>exact absurd HA.out (by simp[aV.l1])
      |succ k3=>
       have H:=HA.out;clear HA;simp only[aV.l1]at H;replace H:=jd H;rcases H with⟨gR,H⟩|⟨gR,H⟩;rotate_left
       ·have H':=ae.mk H;clear H
        go_wp2
        go_roundg k3
        case measure=>have:=bV.out;have:=bT.out;have:=gE.out;omega
        case rel=>exact⟨(d3),(d5),H',⟨by have:=bV.out;have:=bT.out;have:=gE.out;omega⟩,⟨oR b3⟩,⟨by(with_reducible repeat(first|apply Kd.iC|apply Kd.iD|apply Kd.ju));exact b7.out⟩,⟨oF b1⟩,⟨oB⟩⟩
       obtain⟨jP,H⟩:=cX H;obtain⟨jQ,H⟩:=cX H;obtain⟨gX,H⟩:=lp H;have gS:=ae.mk gX;clear gX;obtain⟨gL,dj⟩:∃y_:List Int,y_=(d5++[(al b5 bB).f1]):=⟨_,rfl⟩;replace H:(aV.l1 k3 d3 gL b5 (b5.length:Int) (wrap64 (bB+1)) ag ak)=some r:=oY;have gT:=ae.mk dj;clear dj;have H':=ae.mk H;clear H;have mE:(0≤(bB:Int))=True:=oT;have mF:(bB<(b5.length:Int))=True:=oT;obtain⟨jR,j8,j9,jA⟩:=cT (Kd.bm bU.out).2.2 bB oa oa
       cases j8
       go_wp2_with (first|((with_reducible refine aj (N:=9) rfl ?_);refine dp 9 #[.string (⟨#[]⟩:ByteArray),.int .i64 0] 75 ?_;intro bL hg mN hbox hb;have bF:=am (hbox);have jS:=dn hg;have dL:=eN hg b1;have dM:=eO hg b1;have dN:=eN hg b2;have dO:=eO hg b2;replace b3:=ga b3 hb;replace b7:=qM b7 hb;replace bU:=am (Kd.fT (Kd.uK (oR bU) bL (Nat.le_of_eq hg.symm)) hb);replace b8:=ga b8 hb;replace b6:=am (Kd.fT (Kd.uK (oR b6) bL (Nat.le_of_eq hg.symm)) hb);replace b9:=ga b9 hb;replace b1:=bj b1 hb;replace b2:=bj b2 hb;replace HB:=hB HB hb;clear hb hbox hg;have jT:=dM.out;have jU:=dL.out;have jV:=dO.out;have jW:=dN.out;obtain⟨⟨_,_⟩,_,_⟩:=z2 bF)|((with_reducible refine eb (b:= .append) (xs:= #[.tmp 47,.tmp 50]) rfl ?_);at_builtin;refine Kd.aaB (Kd.int .i64) (w0:=w) w.heap.size rfl (.tmp 47) (.tmp 50) 98 3 (.int .i64 0) 8 rfl Tryz.underlying98 info3 rfl (by decide) (by omega) u4 d5 ((al b5 bB).f1) [.int .i64 ((al b5 bB).f1)] (fun k_=>some k_≠(dI:Value).ownBlock) (fun _=>False) rfl (by first|(go_simp;done)|(go_simp;rfl)) ?aP (fun _ hk=>hk.elim) ?aF ?aO ?aB ?aS ?aL ?_;(case aP=>exact rfl);(case aB=>exact oB);(case aF=>exact(fun k_ hk=>Kd.fresh' (nY b3 bF) k_ hk));(case aO=>exact(by(with_reducible repeat(first|apply Kd.iC|apply Kd.iD|apply Kd.ju));exact Kd.lZ (Kd.pF (p:=⟨bL,1,none⟩) (Kd.pF (p:=⟨bL,0,none⟩) (Kd.qT b7.out bF.out (by decide)) (fun _ hk=>hk.2) (.string ((al b5 bB).f0))) (fun _ hk=>hk.2) (.int .i64 ((al b5 bB).f1))) (fun _ hk=>hk.1)));(case aS=>exact(ah oB));(case aL=>have:=gS.out;omega);intro mG mO ho hb hg hat;rw[←gT.out]at ho;have gU:=am (ho);replace b3:=am (Kd.abW (ok:=(fun _=>True)) (by(with_reducible repeat(first|apply Kd.cz|apply Kd.cA|apply Kd.cu));exact Kd.bf (Kd.cJ (p:=⟨bL,1,none⟩) (Kd.cJ (p:=⟨bL,0,none⟩) (Kd.aU b3.out bF.out (by decide)) (fun _ hk=>hk.2) (.string ((al b5 bB).f0))) (fun _ hk=>hk.2) (.int .i64 ((al b5 bB).f1))) (fun _ hk=>⟨trivial,hk.1⟩)) hg hat);replace bU:=am (Kd.ks (nR2 bU bL (fun _ hk=>hk.2)) (Kd.qW (nQ1 b7 bF)) (by decide) hg);replace b8:=am (Kd.ks (nR1 b8 bF) (Kd.qW (nQ1 b7 bF)) (by decide) hg);replace b6:=am (Kd.ks (nR2 b6 bL (fun _ hk=>hk.2)) (Kd.qW (nQ1 b7 bF)) (by decide) hg);replace b9:=am (Kd.ks (nR1 b9 bF) (Kd.qW (nQ1 b7 bF)) (by decide) hg);replace b1:=lO b1 hg (Kd.ac7 b7.out b1.out (by decide));replace b2:=lO b2 hg (Kd.ac7 b7.out b2.out (by decide));replace bF:=bp_ #[.string ((al b5 bB).f0),.int .i64 ((al b5 bB).f1)] bF hg (Kd.ac7 b7.out bF.out (by decide));replace HB:=am (hb);clear b7;clear ho hb hg hat))
       go_roundg k3
       case measure=>have:=bV.out;have:=bT.out;have:=gE.out;omega
       case rel=>exact⟨(gL),(wrap64 (bB+1)),oS,H',⟨by have:=bV.out;have:=bT.out;have:=gE.out;omega⟩,⟨by(with_reducible repeat(first|apply Kd.cz|apply Kd.cA|apply Kd.cu));exact Kd.bf b3.out (fun _ hk=>hk.2)⟩,⟨by(with_reducible repeat(first|apply Kd.iC|apply Kd.iD|apply Kd.ju));exact gU.out⟩,⟨mR bU⟩,⟨oR b8⟩,⟨mR b6⟩,⟨oR b9⟩,⟨oF b1⟩,⟨oF b2⟩,⟨oB⟩⟩

def cI.j0:Nat→Bool→Int→Int→Int→List Int→List (db)→List (ey)→Option (Bool)
 |0,_,_,_,_,_,_,_=>none
 |k+1,b7,b5,b1,b2,b3,b4,b6=>if b7=true then(some false)else(if b1=1 then(some ((b4.length:Int)==0))else(if b1=2 then(if(b3.length:Int)=0 then(some (decide (b2≤1)))else(some false))else(some false)))
def cI.f (k:Nat) (bo:Int) (ak:Int) (cE:Int) (cf:List Int) (aJ:List (db)) (cr:List (ey)):Option (Bool):=(aY.f bo 1 1000).bind fun b1=>(if b1=true then((aY.f cE 0 1000).bind fun b2=>(if b2=true then(if((cE==0) !=(bo==1))=true then(cI.j0 k true bo ak cE cf aJ cr)else(if(cf.length:Int)>100 then(cI.j0 k true bo ak cE cf aJ cr)else((eh.f k aJ).bind fun b3=>(if b3=true then((du.f k cr).bind fun b4=>(cI.j0 k (!b4) bo ak cE cf aJ cr))else(cI.j0 k true bo ak cE cf aJ cr)))))else(cI.j0 k true bo ak cE cf aJ cr)))else(cI.j0 k true bo ak cE cf aJ cr))
theorem cI.calls (k:Nat) (bo:Int) (ak:Int) (cE:Int) (fP:Option Addr) (fQ:Nat) (cf:List Int) (fM:Option Addr) (fN:Nat) (aJ:List (db)) (fA:Option Addr) (fC:Nat) (cr:List (ey)) (r:Bool) (w:World) (iH:Kd.C (Kd.int .u8) w fP cf.length cf) (iI:cf.length≤fQ) (iJ:Kd.C iA w fM aJ.length aJ) (iK:aJ.length≤fN) (iL:Kd.C jr w fA cr.length cr) (iM:cr.length≤fC) (h:cI.f k bo ak cE cf aJ cr=some r):
  Calls Tryz.prog 116 #[.agg #[.int .i64 bo,.int .i64 ak,.int .i64 cE,.slice fP cf.length fQ,.slice fM aJ.length fN,.slice fA cr.length fC]] w fun e w'=>e= .returned (.bool r)∧Below w.heap.size w w':=by
 have bW:=Tryz.underlying58;have bS:=ae.mk iH;have bT:=ae.mk iI;clear iH iI;have b8:=ae.mk iJ;have b9:=ae.mk iK;clear iJ iK;have bD:=ae.mk iL;have bE:=ae.mk iM;clear iL iM;have HB:=am (Below.refl w.heap.size w);unfold cI.f at h;have H:=h;clear h;have bB:=ae.mk H;clear H
 go_enter Tryz.func116,Tryz.ntmps116
 go_upto_region 1 with(first|((with_reducible refine aj (N:=1) rfl ?_);(try(refine ck (by rfl) ?_;dsimp only));refine dp 1 #[.int .i64 bo,.int .i64 ak,.int .i64 cE,.slice fP cf.length fQ,.slice fM aJ.length fN,.slice fA cr.length fC] 58 ?_;intro bF hg w3 hbox hb;have b1:=am (hbox);have bU:=dn hg;replace HB:=hB HB hb;clear hb hbox hg))
 (try simp only[Act.put,List.setIfInBounds_toArray,List.set_cons_zero,List.set_cons_succ])
 go_cut [39] (fun bQ wc=>∃(kq:Nat) (b6:Bool),bQ= .bool b6∧ae (cI.j0 kq b6 bo ak cE cf aJ cr=some r)∧ae (kq≤k)∧ae (wc.heap[bF]? =some (.cells #[.int .i64 bo,.int .i64 ak,.int .i64 cE,(.slice fP cf.length fQ),(.slice fM aJ.length fN),(.slice fA cr.length fC)] 58 (0,0)))∧ae (Below w.heap.size w wc))
 case first=>
  have H:=bB.out;clear bB;replace H:=bA H;obtain⟨bX,A4,H⟩:=H
  try dsimp only at H
  replace H:=ll H;rcases H with⟨rfl,H⟩|⟨rfl,H⟩;rotate_left
  ·have H':=ae.mk H;clear H;obtain⟨⟨_,_,_,_,_,_⟩,_,_,_,_,_,_⟩:=z6 b1
   go_wp2_with (first|((with_reducible refine ai (f:=60) rfl ?_);refine eL 5 Tryz.func60 (aY.calls bo 1 1000 false _ A4.out) ?_;rintro e w' ⟨rfl,⟨nd,rfl⟩⟩;refine⟨_,rfl,?_⟩))
   go_meet
   case rel=>exact⟨_,(true),oS,H',⟨by first|omega|exact Nat.le_refl _⟩,⟨oF b1⟩,⟨oB⟩⟩
  replace H:=bA H;obtain⟨bY,A6,H⟩:=H
  try dsimp only at H
  replace H:=ll H;rcases H with⟨rfl,H⟩|⟨rfl,H⟩;rotate_left
  ·have H':=ae.mk H;clear H;obtain⟨⟨_,_,_,_,_,_⟩,_,_,_,_,_,_⟩:=z6 b1
   go_wp2_with (first|((with_reducible refine ai (f:=60) rfl ?_);refine eL 5 Tryz.func60 (aY.calls bo 1 1000 true _ A4.out) ?_;rintro e w' ⟨rfl,⟨nd,rfl⟩⟩;refine⟨_,rfl,?_⟩)|(go_at_call 60;(with_reducible refine(aY.calls cE 0 1000 false _ A6.out).mono ?_);rintro e w' ⟨rfl,⟨nd,rfl⟩⟩))
   go_meet
   case rel=>exact⟨_,(true),oS,H',⟨by first|omega|exact Nat.le_refl _⟩,⟨oF b1⟩,⟨oB⟩⟩
  by_cases c8:((cE==0) !=(bo==1))=true
  ·rw[if_pos c8]at H;have b3:((cE==0) !=(bo==1))=true:=c8
   (try(have bP:decide ((cE==0)=(bo==1))=false:=by simpa using c8))
   (try(have b7:((cE==0)==(bo==1))=false:=by simpa using c8))
   (try(have bZ:¬((cE==0)=(bo==1)):=by simpa using c8))
   clear c8
   (first|rw[b3]|rw[b7]|(simp only[fZ,iX];rw[b3])|skip)
   have H':=ae.mk H;clear H;obtain⟨⟨_,_,_,_,_,_⟩,_,_,_,_,_,_⟩:=z6 b1
   go_wp2_with (first|((with_reducible refine ai (f:=60) rfl ?_);refine eL 5 Tryz.func60 (aY.calls bo 1 1000 true _ A4.out) ?_;rintro e w' ⟨rfl,⟨nd,rfl⟩⟩;refine⟨_,rfl,?_⟩)|(go_at_call 60;(with_reducible refine(aY.calls cE 0 1000 true _ A6.out).mono ?_);rintro e w' ⟨rfl,⟨nd,rfl⟩⟩))
   go_meet
   case rel=>exact⟨_,(true),oS,H',⟨by first|omega|exact Nat.le_refl _⟩,⟨oF b1⟩,⟨oB⟩⟩
  rw[if_neg c8]at H
  have b3:((cE==0) !=(bo==1))=false:=by simpa using c8
  (try(have bP:decide ((cE==0)=(bo==1))=true:=by simpa using c8))
  (try(have b7:((cE==0)==(bo==1))=true:=by simpa using c8))
  clear c8
  (first|rw[b3]|rw[b7]|(simp only[fZ,iX];rw[b3])|skip)
  by_cases c10:(cf.length:Int)>100
  ·rw[if_pos c10]at H;have bG:decide (100<(cf.length:Int))=true:=decide_eq_true c10;have bH:decide (100<cf.length)=true:=decide_eq_true (by omega);clear c10;have H':=ae.mk H;clear H;obtain⟨⟨_,_,_,_,_,_⟩,_,_,_,_,_,_⟩:=z6 b1
   go_wp2_with (first|((with_reducible refine ai (f:=60) rfl ?_);refine eL 5 Tryz.func60 (aY.calls bo 1 1000 true _ A4.out) ?_;rintro e w' ⟨rfl,⟨nd,rfl⟩⟩;refine⟨_,rfl,?_⟩)|(go_at_call 60;(with_reducible refine(aY.calls cE 0 1000 true _ A6.out).mono ?_);rintro e w' ⟨rfl,⟨nd,rfl⟩⟩))
   go_meet
   case rel=>exact⟨_,(true),oS,H',⟨by first|omega|exact Nat.le_refl _⟩,⟨oF b1⟩,⟨oB⟩⟩
  rw[if_neg c10]at H;have bG:decide (100<(cf.length:Int))=false:=decide_eq_false c10;have bH:decide (100<cf.length)=false:=decide_eq_false (by omega);clear c10;replace H:=bA H;obtain⟨d1,bO,H⟩:=H
  try dsimp only at H
  replace H:=ll H;rcases H with⟨rfl,H⟩|⟨rfl,H⟩;rotate_left
  ·have H':=ae.mk H;clear H;obtain⟨⟨_,_,_,_,_,_⟩,_,_,_,_,_,_⟩:=z6 b1
   go_wp2_with (first|((with_reducible refine ai (f:=60) rfl ?_);refine eL 5 Tryz.func60 (aY.calls bo 1 1000 true _ A4.out) ?_;rintro e w' ⟨rfl,⟨nd,rfl⟩⟩;refine⟨_,rfl,?_⟩)|(go_at_call 60;(with_reducible refine(aY.calls cE 0 1000 true _ A6.out).mono ?_);rintro e w' ⟨rfl,⟨nd,rfl⟩⟩)|(go_at_call 139;(with_reducible refine(eh.calls k _ _ aJ false _ (kC b8) b9.out bO.out).mono ?_);rintro e w' ⟨rfl,⟨nd,rfl⟩⟩))
   go_meet
   case rel=>exact⟨_,(true),oS,H',⟨by first|omega|exact Nat.le_refl _⟩,⟨oF b1⟩,⟨oB⟩⟩
  replace H:=bA H;obtain⟨bC,bR,H⟩:=H
  try dsimp only at H
  have H':=ae.mk H;clear H;obtain⟨⟨_,_,_,_,_,_⟩,_,_,_,_,_,_⟩:=z6 b1
  go_wp2_with (first|((with_reducible refine ai (f:=60) rfl ?_);refine eL 5 Tryz.func60 (aY.calls bo 1 1000 true _ A4.out) ?_;rintro e w' ⟨rfl,⟨nd,rfl⟩⟩;refine⟨_,rfl,?_⟩)|(go_at_call 60;(with_reducible refine(aY.calls cE 0 1000 true _ A6.out).mono ?_);rintro e w' ⟨rfl,⟨nd,rfl⟩⟩)|(go_at_call 139;(with_reducible refine(eh.calls k _ _ aJ true _ (kC b8) b9.out bO.out).mono ?_);rintro e w' ⟨rfl,⟨nd,rfl⟩⟩)|(go_at_call 140;(with_reducible refine(du.calls k _ _ cr bC _ (kC bD) bE.out bR.out).mono ?_);rintro e w' ⟨rfl,⟨nd,rfl⟩⟩))
  go_meet
  case rel=>exact⟨_,(!bC),oS,H',⟨by first|omega|exact Nat.le_refl _⟩,⟨oF b1⟩,⟨oB⟩⟩
 case rest=>
  clear bB;obtain⟨kq,b6,rfl,HA,d2,b1,HB⟩:=hcut
  cases kq with
  |zero=>exact absurd HA.out (by simp[cI.j0])
  |succ wE=>
   have H:=HA.out;clear HA;simp only[cI.j0]at H;replace H:=ll H;rcases H with⟨rfl,H⟩|⟨rfl,H⟩
   ·obtain rfl:=Option.some.inj H
    go_wp2
    go_ret
    exact⟨oE,oB⟩
   by_cases b4:ak=1
   ·rw[if_pos b4]at H;have bI:(ak==1)=true:=beq_iff_eq.mpr b4;have bJ:(ak !=1)=false:=bne_eq_false_iff_eq.mpr b4;clear b4;obtain rfl:=Option.some.inj H;obtain⟨⟨_,_,_,_,_,_⟩,_,_,_,_,_,_⟩:=z6 b1
    go_wp2
    go_ret
    exact⟨oE,oB⟩
   rw[if_neg b4]at H;have bI:(ak==1)=false:=beq_eq_false_iff_ne.mpr b4;have bJ:(ak !=1)=true:=bne_iff_ne.mpr b4
   by_cases b5:ak=2
   rotate_left
   ·rw[if_neg b5]at H;have bK:(ak==2)=false:=beq_eq_false_iff_ne.mpr b5;have bL:(ak !=2)=true:=bne_iff_ne.mpr b5;obtain rfl:=Option.some.inj H;obtain⟨⟨_,_,_,_,_,_⟩,_,_,_,_,_,_⟩:=z6 b1
    go_wp2
    go_ret
    exact⟨oE,oB⟩
   rw[if_pos b5]at H;have bK:(ak==2)=true:=beq_iff_eq.mpr b5;have bL:(ak !=2)=false:=bne_eq_false_iff_eq.mpr b5;clear b5
   by_cases b2:(cf.length:Int)=0
   ·rw[if_pos b2]at H;have bM:((cf.length:Int)==0)=true:=beq_iff_eq.mpr b2;have bN:((cf.length:Int) !=0)=false:=bne_eq_false_iff_eq.mpr b2;clear b2;obtain rfl:=Option.some.inj H;obtain⟨⟨_,_,_,_,_,_⟩,_,_,_,_,_,_⟩:=z6 b1
    go_wp2
    go_ret
    exact⟨oE,oB⟩
   rw[if_neg b2]at H;have bM:((cf.length:Int)==0)=false:=beq_eq_false_iff_ne.mpr b2;have bN:((cf.length:Int) !=0)=true:=bne_iff_ne.mpr b2
   have bV:¬(cf=[]):=fun h_=>b2 (by rw[h_];rfl)
   obtain rfl:=Option.some.inj H;obtain⟨⟨_,_,_,_,_,_⟩,_,_,_,_,_,_⟩:=z6 b1
   go_wp2
   go_ret
   exact⟨oE,oB⟩

theorem adx {α:Type}{d:Kd α}{e:Nat}{W:World}{base:Nat}{ok:Nat→Prop}{v:Value}{xs:List α}(h:Kd.S d e W base ok v xs):
  ∃(rows:List (List Value)) (f:Nat→Nat),rows.length=xs.length∧(Kd.raw d.sz).R e W base (fun k=>v.ownBlock=some k) v rows∧(∀k,v.ownBlock=some k→ok k)∧
   ∀(q:Nat) (x:α),xs[q]? =some x→d.M W base (fun k=>(ok k∧some k≠v.ownBlock)∧f k=q) x (rows.getD q []):=by
 obtain⟨f,hok0,inner,ho,hr⟩:=h
 have hlen:inner.length=xs.length*d.sz:=by have:=hr.1;rw[List.length_zipIdx]at this;exact this
 have hM:∀(q:Nat) (x:α),xs[q]? =some x→d.M W base (fun k=>(ok k∧some k≠v.ownBlock)∧f k=q) x ((inner.drop (q*d.sz)).take d.sz):=fun q x hx=>hr.2 q (x,q) (Kd.nf hx)
 have hrow:∀q,q<xs.length→((List.range xs.length).map fun j=>(inner.drop (j*d.sz)).take d.sz)[q]? =some ((inner.drop (q*d.sz)).take d.sz):=fun q hq=>by
  rw[List.getElem?_map,List.getElem?_range hq];rfl
 refine⟨(List.range xs.length).map fun j=>(inner.drop (j*d.sz)).take d.sz,f,by rw[List.length_map,List.length_range],⟨fun k hk=>hk,inner,?_,?_,fun j p hj=> ?_⟩,hok0,fun q x hx=> ?_⟩
 ·rw[List.length_map,List.length_range];rw[List.length_zipIdx]at ho;exact ho
 ·rw[List.length_map,List.length_range];exact hlen
 ·rw[List.getElem?_map]at hj;obtain⟨j',hj',rfl⟩:=Option.map_eq_some_iff.1 hj;obtain⟨hl,he⟩:=List.getElem?_eq_some_iff.1 hj';rw[List.getElem_range]at he;subst he;rw[List.length_range]at hl;have hm:=d.eQ (hM j _ (List.getElem?_eq_getElem hl));exact⟨rfl,d.iz hm,d.hL hm⟩
 ·have hq:q<xs.length:=(List.getElem?_eq_some_iff.1 hx).1;rw[List.getD_eq_getElem?_getD,hrow q hq];exact hM q x hx
theorem xM {α:Type}{d:Kd α}{e:Nat}{W:World}{base:Nat}{ok okr:Nat→Prop}{v:Value}{xs:List α}{rows:List (List Value)}(f:Nat→Nat)
  (hraw:(Kd.raw d.sz).R e W base okr v rows) (hlen:rows.length=xs.length) (hok:∀k,v.ownBlock=some k→ok k)
  (hM:∀(q:Nat) (x:α),xs[q]? =some x→d.M W base (fun k=>(ok k∧some k≠v.ownBlock)∧f k=q) x (rows.getD q [])):Kd.S d e W base ok v xs:=by
 obtain⟨_,inner,ho,hr⟩:=hraw;refine⟨f,hok,inner,?_,?_,fun j p hj=> ?_⟩
 ·rw[List.length_zipIdx,←hlen];exact ho
 ·rw[List.length_zipIdx,←hlen];exact hr.1
 ·rw[List.getElem?_zipIdx,Nat.zero_add]at hj;obtain⟨y,hy,rfl⟩:=Option.map_eq_some_iff.1 hj
  have hjl:j<rows.length:=by rw[hlen];exact(List.getElem?_eq_some_iff.1 hy).1
  have hrw:=(hr.2 j _ (List.getElem?_eq_getElem hjl)).1
  show d.M W base _ y ((inner.drop (j*d.sz)).take d.sz)
  rw[show(inner.drop (j*d.sz)).take d.sz=rows[j]from hrw];have:=hM j y hy;rw[List.getD_eq_getElem?_getD,List.getElem?_eq_getElem hjl]at this;exact this
theorem aa1 {α:Type}(l:List α) (x:α) (j q:Nat) (hj:j≤l.length):(l.take j++[x]++l.drop j)[q]? =if q<j then l[q]? else if q=j then some x else l[q-1]? :=by
 have ht:(l.take j).length=j:=by rw[List.length_take];omega
 rw[List.append_assoc]
 by_cases h1:q<j
 ·rw[if_pos h1,List.getElem?_append_left (by omega),List.getElem?_take,if_pos h1]
 rw[if_neg h1,List.getElem?_append_right (by omega),ht]
 by_cases h2:q=j
 ·subst h2;rw[if_pos rfl,Nat.sub_self];rfl
 rw[if_neg h2,show q-j=(q-j-1)+1 by omega];simp only[List.singleton_append,List.getElem?_cons_succ,List.getElem?_drop];rw[show j+(q-j-1)=q-1 by omega]
/-- A row of structs whose element i is written over with a new one (made from N on): a row again. -/
theorem ad7 {α:Type}{d:Kd α}{e:Nat}{W W1:World}{base N:Nat}{ok okx okr okf:Nat→Prop}{v:Value}{xs:List α}{rows:List (List Value)}{f:Nat→Nat}{i:Nat}{x:α}{vs:List Value}
  (hraw:(Kd.raw d.sz).R e W1 base okr v (rows.set i vs)) (hlen:rows.length=xs.length) (hi:i<xs.length)
  (hM:∀(q:Nat) (x:α),xs[q]? =some x→d.M W base (fun k=>(ok k∧some k≠v.ownBlock)∧f k=q) x (rows.getD q [])) (hx:d.M W base okx x vs)
  (hv:∀k,v.ownBlock=some k→ok k) (hN:∀k,ok k→k<N) (hxN:∀k,okx k→N≤k) (hof:∀k,ok k∨okx k→okf k)
  (qD:∀k,some k≠v.ownBlock→k<W.heap.size→W1.heap[k]? =W.heap[k]?):Kd.S d e W1 base okf v (xs.set i x):=by
 refine xM (fun k=>if k<N then f k else i) hraw (by rw[List.length_set,List.length_set,hlen]) (fun k hk=>hof k (.inl (hv k hk))) (fun q y hy=> ?_)
 by_cases hq:q=i
 rotate_left
 ·rw[List.getElem?_set_ne (fun e=>hq e.symm)]at hy;rw[List.getD_eq_getElem?_getD,List.getElem?_set_ne (fun e=>hq e.symm),←List.getD_eq_getElem?_getD];exact d.dy (fun k hk=>⟨⟨hof k (.inl hk.1.1),hk.1.2⟩,by rw[if_pos (hN k hk.1.1)];exact hk.2⟩) (Kd.od (hM q y hy) (fun k hk hlt=>qD k hk.1.2 hlt))
 subst hq;rw[List.getElem?_set_self hi]at hy;injection hy with hy;subst hy;rw[List.getD_eq_getElem?_getD,List.getElem?_set_self (by omega)]
 have hne:∀k,okx k→some k≠v.ownBlock:=fun k hk he=>by have:=hN k (hv k he.symm);have:=hxN k hk;omega
 exact d.dy (fun k hk=>⟨⟨hof k (.inr hk),hne k hk⟩,by rw[if_neg (by have:=hxN k hk;omega)]⟩) (Kd.od hx (fun k hk hlt=>qD k (hne k hk) hlt))
/-- The same where a new one is set in between. -/
theorem acC {α:Type}{d:Kd α}{e:Nat}{W W1:World}{base N N2:Nat}{ok okx okr okf:Nat→Prop}{v v1:Value}{xs:List α}{rows:List (List Value)}{f:Nat→Nat}{i:Nat}{x:α}{vs:List Value}
  (hraw:(Kd.raw d.sz).R e W1 base okr v1 (rows.take i++[vs]++rows.drop i)) (hlen:rows.length=xs.length) (hi:i≤xs.length)
  (hM:∀(q:Nat) (x:α),xs[q]? =some x→d.M W base (fun k=>(ok k∧some k≠v.ownBlock)∧f k=q) x (rows.getD q [])) (hx:d.M W base okx x vs)
  (hv:∀k,v.ownBlock=some k→ok k) (hv1:v1.ownBlock=v.ownBlock∨∃b,v1.ownBlock=some b∧N2≤b) (hN:∀k,ok k→k<N) (hxN:∀k,okx k→N≤k∧k<N2) (hNN:N≤N2) (hof:∀k,ok k∨okx k∨N2≤k→okf k)
  (qD:∀k,some k≠v.ownBlock→k<W.heap.size→W1.heap[k]? =W.heap[k]?):Kd.S d e W1 base okf v1 (xs.take i++[x]++xs.drop i):=by
 have hl1:(rows.take i++[vs]++rows.drop i).length=(xs.take i++[x]++xs.drop i).length:=by simp only[List.length_append,List.length_take,List.length_drop,List.length_singleton,hlen]
 have hvx:∀k,okx k→some k≠v.ownBlock:=fun k hk he=>by have:=hN k (hv k he.symm);have:=(hxN k hk).1;omega
 have aeA:∀k,okx k→some k≠v1.ownBlock:=fun k hk he=>by
  rcases hv1 with h|⟨b,h,hb⟩
  ·exact hvx k hk (he.trans h)
  ·rw[h]at he;injection he with he;have:=(hxN k hk).2;omega
 have ad8:∀k,ok k→some k≠v.ownBlock→some k≠v1.ownBlock:=fun k hk hne he=>by
  rcases hv1 with h|⟨b,h,hb⟩
  ·exact hne (he.trans h)
  ·rw[h]at he;injection he with he;have:=hN k hk;omega
 refine xM (fun k=>if k<N then(if f k<i then f k else f k+1)else i) hraw hl1 (fun k hk=> ?_) (fun q y hy=> ?_)
 ·rcases hv1 with h|⟨b,h,hb⟩
  ·exact hof k (.inl (hv k (h▸hk)))
  ·rw[h]at hk;injection hk with hk;exact hof k (.inr (.inr (hk▸hb)))
 ·rw[aa1 xs x i q hi]at hy;rw[List.getD_eq_getElem?_getD,aa1 rows vs i q (by omega)]
  by_cases h1:q<i
  ·rw[if_pos h1]at hy⊢;rw[←List.getD_eq_getElem?_getD];exact d.dy (fun k hk=>⟨⟨hof k (.inl hk.1.1),ad8 k hk.1.1 hk.1.2⟩,by rw[if_pos (hN k hk.1.1),hk.2,if_pos h1]⟩) (Kd.od (hM q y hy) (fun k hk hlt=>qD k hk.1.2 hlt))
  rw[if_neg h1]at hy⊢
  by_cases h2:q=i
  ·rw[if_pos h2]at hy⊢;injection hy with hy;subst hy;exact d.dy (fun k hk=>⟨⟨hof k (.inr (.inl hk)),aeA k hk⟩,by rw[if_neg (by have:=(hxN k hk).1;omega),h2]⟩) (Kd.od hx (fun k hk hlt=>qD k (hvx k hk) hlt))
  rw[if_neg h2]at hy⊢;rw[←List.getD_eq_getElem?_getD];exact d.dy (fun k hk=>⟨⟨hof k (.inl hk.1.1),ad8 k hk.1.1 hk.1.2⟩,by rw[if_pos (hN k hk.1.1),hk.2,if_neg (by omega)];omega⟩) (Kd.od (hM (q-1) y hy) (fun k hk hlt=>qD k hk.1.2 hlt))
def vl (ino:Int):List aZ→Nat→Int
 |[],_=> -1
 |x::l,i=>if ino<x.f0 then(i:Int)else vl ino l (i+1)
theorem aa2.calls (ino a b c:Int) (A3 A4 A5:Option Addr) (n3 c3 n4 c4 n5 c5:Nat) (B:Nat) (W:World) (hB:B<W.heap.size) (hc:W.cell? ⟨B,0,none⟩=some (.int .i64 ino)):
  Calls Tryz.prog 101 #[.agg #[.int .i64 a,.int .i64 b,.int .i64 c,.slice A3 n3 c3,.slice A4 n4 c4,.slice A5 n5 c5],.pointer (some ⟨B,0,none⟩)] W fun e w'=>e= .returned (.bool (decide (ino<a)))∧Below W.heap.size W w':=by
 have hne:B≠W.heap.size:=by omega
 go_enter Tryz.func101,Tryz.ntmps101
 go_wp2
 all_goals(go_ret;exact⟨by simp_all,(Below.refl _ W).alloc (Nat.le_refl _) _⟩)
theorem aa3 (l:List aZ) (k:Nat) (h:k<l.length):af l (k:Int)=l[k]:=by
 simp[af,List.getD_eq_getElem?_getD,List.getElem?_eq_getElem h]
theorem acb (ino:Int) (l:List aZ) (k j:Nat) (h:k<l.length) (hit:ino<(af l (k:Int)).f0):vl ino (l.drop k) j=(j:Int):=by
 rw[List.drop_eq_getElem_cons h,vl,if_pos (by rw[←aa3 l k h];exact hit)]
theorem aa4 (ino:Int) (l:List aZ) (k j:Nat) (h:k<l.length) (hit:¬ino<(af l (k:Int)).f0):vl ino (l.drop k) j=vl ino (l.drop (k+1)) (j+1):=by
 rw[List.drop_eq_getElem_cons h,vl,if_neg (by rw[←aa3 l k h];exact hit)]
theorem ady.calls (ino:Int) (A0:Option Addr) (c0:Nat) (l:List aZ) (B:Nat) (w:World) (hr:fv.C w A0 l.length l) (hB:B<w.heap.size) (hc:w.cell? ⟨B,0,none⟩=some (.int .i64 ino)) (hl:l.length≤9223372036854775807):
  Calls Tryz.prog 100 #[.slice A0 l.length c0,.func (.func 101) #[] #[.pointer (some ⟨B,0,none⟩)]] w fun e w'=>e= .returned (.int .i64 (vl ino l 0))∧Below w.heap.size w w':=by
 go_enter Tryz.func100,Tryz.ntmps100
 go_wp2
 go_loopg [5,8] l.length (fun gg _ s8 wr=>∃kk:Nat,kk≤l.length∧l.length-kk≤gg∧s8= .int .i64 kk∧ae (Below w.heap.size w wr)∧ae (vl ino l 0=vl ino (l.drop kk) kk))
 case atStart=>exact⟨0,Nat.zero_le _,by omega,rfl,⟨Below.refl _ w⟩,⟨rfl⟩⟩
 case round=>
  obtain⟨kk,hkk,hg,rfl,BW,A⟩:=hrel
  by_cases hlt:kk<l.length
  rotate_left
  ·have hltz:¬(kk:Int)<(l.length:Int):=by omega
   obtain rfl:kk=l.length:=by omega
   go_wp2
   go_ret
   exact⟨by rw[A.out,List.drop_length];rfl,BW.out⟩
  have hltz:(kk:Int)<(l.length:Int):=by omega
  obtain⟨ad,A3,c3,A4,c4,A5,c5,e0,h0,h1,h2,h3,h4,h5,_⟩:=fy (Kd.da hr BW.out) (kk:Int) (by omega) hltz
  cases e0
  rw[Int.toNat_natCast]at h0 h1 h2 h3 h4 h5;have hBw:B<wr.heap.size:=Nat.lt_of_lt_of_le hB BW.out.size;have hcw:wr.cell? ⟨B,0,none⟩=some (.int .i64 ino):=(BW.out.cell (p:=⟨B,0,none⟩) hB).trans hc
  by_cases hit:ino<(af l (kk:Int)).f0
  ·have hq:decide (ino<(af l (kk:Int)).f0)=true:=by simpa using hit
   go_wp2_with (go_at_call 101;refine(aa2.calls ino _ _ _ _ _ _ _ _ _ _ _ _ B wr hBw hcw).mono ?_;rintro e w' ⟨rfl,hb'⟩;rw[hq])
   go_ret
   exact⟨by rw[A.out,acb ino l kk kk hlt (by omega)];rfl,er BW.out BW.out.size hb'⟩
  have hq:decide (ino<(af l (kk:Int)).f0)=false:=by simpa using hit
  go_wp2_with (go_at_call 101;refine(aa2.calls ino _ _ _ _ _ _ _ _ _ _ _ _ B wr hBw hcw).mono ?_;rintro e w' ⟨rfl,hb'⟩;rw[hq])
  go_roundg (l.length-(kk+1))
  case measure=>omega
  case rel=>exact⟨kk+1,by omega,by omega,by go_num,⟨er BW.out BW.out.size hb'⟩,⟨by rw[A.out,aa4 ino l kk kk hlt (by omega)]⟩⟩
theorem aa5 (ino:Int) (l:List aZ):∀j:Nat,vl ino l j= -1∨∃i:Nat,vl ino l j=((j+i:Nat):Int)∧i<l.length:=by
 induction l with
 |nil=>intro j;exact .inl rfl
 |cons x l ih=>
  intro j;rw[vl]
  by_cases c:ino<x.f0
  ·rw[if_pos c];exact .inr ⟨0,by simp,by simp⟩
  rw[if_neg c];rcases ih (j+1)with h1|⟨i,h1,h2⟩
  ·exact .inl h1
  ·exact .inr ⟨i+1,by rw[h1];congr 1;omega,by simpa using h2⟩
theorem vm (ino:Int) (l:List aZ):∀j:Nat,cC ino l j= -1∨∃i:Nat,cC ino l j=((j+i:Nat):Int)∧i<l.length:=by
 induction l with
 |nil=>intro j;exact .inl rfl
 |cons x l ih=>
  intro j;rw[cC]
  by_cases c:x.f0=ino
  ·rw[if_pos c];exact .inr ⟨0,by simp,by simp⟩
  rw[if_neg c];rcases ih (j+1)with h1|⟨i,h1,h2⟩
  ·exact .inl h1
  ·exact .inr ⟨i+1,by rw[h1];congr 1;omega,by simpa using h2⟩
def gtP (ino:Int) (l:List aZ):Nat:=if vl ino l 0<0 then l.length else(vl ino l 0).toNat
def lN (x:aZ) (l:List aZ):List aZ:=if 0≤cC x.f0 l 0 then l.set (cC x.f0 l 0).toNat x else l.take (gtP x.f0 l)++[x]++l.drop (gtP x.f0 l)
theorem qZ {W W1:World}{g:Nat}{o:Obj}{v:Value}(h:ae (W.heap[g]? =some o)) (hg:W.grownBy W1 v.ownBlock) (hn:some g≠v.ownBlock):ae (W1.heap[g]? =some o):=⟨ow h.out hg hn⟩
theorem wG {w:World}{base sz:Nat}{ok:Nat→Prop}{c' seg:List Value}(hc:c'.length=sz) (hs:seg.length=sz) (h1:∀v∈seg,v.oneCell'=true):(Kd.raw sz).M w base ok seg (c'.take 0++seg++c'.drop (0+seg.length)):=by
 have e:c'.take 0++seg++c'.drop (0+seg.length)=seg:=by rw[Nat.zero_add,hs,←hc,List.drop_length];simp
 exact⟨e,by rw[e];exact hs,by rw[e];exact h1⟩
theorem aa6 {W W1:World}{g g':Nat}{o:Obj}(h:ae (W.heap[g]? =some o)) (hg:W.grownBy W1 (some g')) (hn:¬(g=g')):ae (W1.heap[g]? =some o):=⟨ow h.out hg (by intro he;injection he with he;exact hn he)⟩
theorem aeB {W:World}{g:Nat}{t:TypeId}{a0 a1 a2 a3 a4 a5:Value}(h:W.heap[g]? =some (.cells #[a0,a1,a2,a3,a4,a5] t (0,0))) (v0 v1 v2 v3 v4 v5:Value):
  ((((((W.setCell ⟨g,0,none⟩ v0).setCell ⟨g,1,none⟩ v1).setCell ⟨g,2,none⟩ v2).setCell ⟨g,3,none⟩ v3).setCell ⟨g,4,none⟩ v4).setCell ⟨g,5,none⟩ v5).heap[g]? =some (.cells #[v0,v1,v2,v3,v4,v5] t (0,0))∧
   (∀k,k≠g→((((((W.setCell ⟨g,0,none⟩ v0).setCell ⟨g,1,none⟩ v1).setCell ⟨g,2,none⟩ v2).setCell ⟨g,3,none⟩ v3).setCell ⟨g,4,none⟩ v4).setCell ⟨g,5,none⟩ v5).heap[k]? =W.heap[k]?)∧
   ((((((W.setCell ⟨g,0,none⟩ v0).setCell ⟨g,1,none⟩ v1).setCell ⟨g,2,none⟩ v2).setCell ⟨g,3,none⟩ v3).setCell ⟨g,4,none⟩ v4).setCell ⟨g,5,none⟩ v5).heap.size=W.heap.size:=
 ⟨by
  refine iu (cs:= #[v0,v1,v2,v3,v4,a5]) ?_ 5 _ rfl;refine iu (cs:= #[v0,v1,v2,v3,a4,a5]) ?_ 4 _ rfl;refine iu (cs:= #[v0,v1,v2,a3,a4,a5]) ?_ 3 _ rfl;refine iu (cs:= #[v0,v1,a2,a3,a4,a5]) ?_ 2 _ rfl;refine iu (cs:= #[v0,a1,a2,a3,a4,a5]) ?_ 1 _ rfl
  exact iu h 0 _ rfl,
 fun k hk=>by rw[Below.heap_setCell _ _ _ _ hk,Below.heap_setCell _ _ _ _ hk,Below.heap_setCell _ _ _ _ hk,Below.heap_setCell _ _ _ _ hk,Below.heap_setCell _ _ _ _ hk,Below.heap_setCell _ _ _ _ hk],by simp[World.setCell]⟩
def iW.f (k:Nat) (ag:List aZ) (ak b0 b1 b2:Int) (m3:List Int) (m4:List db) (m5:List ey):Option (List aZ×Int):=(cl.f k ag ak).bind fun t=>(eE.f b0 b1 b2 m3 m4 m5).bind fun y=>if t.1.length≤1466015503700 then some (lN ⟨y.1,y.2.1,y.2.2.1,y.2.2.2.1,y.2.2.2.2.1,y.2.2.2.2.2⟩ t.1,t.2)else none
theorem iW.calls (k:Nat) (bl:Option Addr) (aW:Nat) (ag:List aZ) (ak b0 b1 b2:Int) (kD:Option Addr) (kE:Nat) (m3:List Int) (kF:Option Addr) (kG:Nat) (m4:List db) (kH:Option Addr) (kI:Nat) (m5:List ey) (r1:List aZ) (r2:Int) (w:World)
  (cg:Kd.C fv w bl ag.length ag) (ch:ag.length≤aW) (qx:Kd.C (Kd.int .u8) w kD m3.length m3) (qy:m3.length≤kE) (qz:Kd.C iA w kF m4.length m4) (qA:m4.length≤kG) (qB:Kd.C jr w kH m5.length m5) (qC:m5.length≤kI) (h:iW.f k ag ak b0 b1 b2 m3 m4 m5=some (r1,r2)):
  Calls Tryz.prog 58 #[.agg #[.slice bl ag.length aW,.int .i64 ak],.agg #[.int .i64 b0,.int .i64 b1,.int .i64 b2,.slice kD m3.length kE,.slice kF m4.length kG,.slice kH m5.length kI]] w fun e w'=>∃iY:Value,e= .returned (.agg #[iY,.int .i64 r2])∧Kd.S fv 58 w' w.heap.size (fun _=>True) iY r1∧Below w.heap.size w w':=by
 unfold iW.f at h;replace h:=bA h;obtain⟨⟨t1,t2⟩,H1,h⟩:=h;replace h:=bA h;obtain⟨⟨y0,y1,y2,y3,y4,y5⟩,H2,h⟩:=h
 split at h
 case isFalse=>cases h
 case isTrue hl=>
 simp only[Option.some.injEq,Prod.mk.injEq]at h;obtain⟨bS,rfl⟩:=h;have hl':t1.length≤1466015503700:=hl;clear hl;have HL:=ae.mk hl';have bE:=ae.mk bS;clear hl' bS;have bZ:=ae.mk cg;have d1:=ae.mk ch;have d2:=ae.mk qx;have d3:=ae.mk qy;have d4:=ae.mk qz;have d5:=ae.mk qA;have d6:=ae.mk qB;have d7:=ae.mk qC;clear cg ch qx qy qz qA qB qC;have HB:=am (Below.refl w.heap.size w)
 go_enter Tryz.func58,Tryz.ntmps58
 go_wp2_with fail
 refine(cl.calls k _ _ ag ak t1 t2 _ (kC bZ) d1.out H1.out).mono ?_;rintro e w2 ⟨v0,rfl,hs,hb⟩;obtain⟨A,c,rfl⟩:=Kd.gf hs;have KT:=am (fe (aC (aC (jv _ _) _) _) hb);have KI:=am (fe (aC (jv _ _) _) hb);have KR:=am (fe (jv _ _) hb);simp only[World.size_alloc]at KI KR;have S1:=tt hs (w.heap.size+3) w.heap.size (by simp) (by simp only[World.size_alloc];omega)
 have n1:w.heap.size+3≤w2.heap.size:=by have:=hb.size;simpa using this
 replace HB:=am (fG (aK (aK (aK (Below.refl _ _) _) _) _) hb);clear hs hb;have zt:=z2 KT;have zi:=z6 KI;have zr:=z2 KR;have bF:=am (show((w2.setCell ⟨w.heap.size,0,none⟩ (.slice A t1.length c)).setCell ⟨w.heap.size,1,none⟩ (.int .i64 t2)).heap[w.heap.size]? =some (.cells #[.slice A t1.length c,.int .i64 t2] 28 (0,0)) by simpa using nA (nA KT.out 0 (.slice A t1.length c)) 1 (.int .i64 t2));have bG:=am (show((w2.setCell ⟨w.heap.size,0,none⟩ (.slice A t1.length c)).setCell ⟨w.heap.size,1,none⟩ (.int .i64 t2)).heap[w.heap.size+1]? =some (.cells #[.int .i64 b0,.int .i64 b1,.int .i64 b2,.slice kD m3.length kE,.slice kF m4.length kG,.slice kH m5.length kI] 58 (0,0)) by rw[Below.heap_setCell _ _ _ _ (by simp),Below.heap_setCell _ _ _ _ (by simp)];exact KI.out);have bH:=am (show((w2.setCell ⟨w.heap.size,0,none⟩ (.slice A t1.length c)).setCell ⟨w.heap.size,1,none⟩ (.int .i64 t2)).heap[w.heap.size+1+1]? =some (.cells #[.slice none 0 0,.int .i64 0] 28 (0,0)) by rw[Below.heap_setCell _ _ _ _ (by simp;omega),Below.heap_setCell _ _ _ _ (by simp;omega)];exact KR.out);have b8:=am ((HB.out.setCell (p:=⟨w.heap.size,0,none⟩) (Nat.le_refl _) (.slice A t1.length c)).setCell (p:=⟨w.heap.size,1,none⟩) (Nat.le_refl _) (.int .i64 t2));have S3:=am (Kd.cV (p:=⟨w.heap.size,1,none⟩) (Kd.cV (p:=⟨w.heap.size,0,none⟩) S1.out (fun k hk=>by have:=hk.1;dsimp only;omega) (.slice A t1.length c)) (fun k hk=>by have:=hk.1;dsimp only;omega) (.int .i64 t2))
 go_wp2_with fail
 have bI:((w2.setCell ⟨w.heap.size,0,none⟩ (.slice A t1.length c)).setCell ⟨w.heap.size,1,none⟩ (.int .i64 t2)).heap.size=w2.heap.size:=by simp[World.setCell]
 generalize d8:((w2.setCell ⟨w.heap.size,0,none⟩ (.slice A t1.length c)).setCell ⟨w.heap.size,1,none⟩ (.int .i64 t2))=W3 at bF bG bH b8 S3 bI⊢;clear d8 zt zi zr KT KI KR S1 HB;refine(eE.calls b0 b1 b2 _ _ m3 _ _ m4 _ _ m5 y0 y1 y2 y3 y4 y5 W3 (Kd.da d2.out b8.out) d3.out (Kd.da d4.out b8.out) d5.out (Kd.da d6.out b8.out) d7.out H2.out).mono ?_;rintro e w4 ⟨v3,v4,v5,rfl,g3,g4,g5,hb⟩;have KT:=am (fe bF.out hb);have KI:=am (fe bG.out hb);have KR:=am (fe bH.out hb);have HB:=am (fG b8.out hb);have S4:=am (Kd.jk S3.out hb)
 have n4:w2.heap.size≤w4.heap.size:=by have:=hb.size;omega
 have G3:=acT g3 w2.heap.size w.heap.size (by omega) (by omega);have G4:=acT g4 w2.heap.size w.heap.size (by omega) (by omega);have G5:=acT g5 w2.heap.size w.heap.size (by omega) (by omega);clear hb bF bG bH b8 S3 g3 g4 g5 bI;obtain⟨A3,c3,rfl⟩:=Kd.aw G3.out;obtain⟨A4,c4,rfl⟩:=Kd.aw G4.out;obtain⟨A5,c5,rfl⟩:=Kd.aw G5.out;have zt:=z2 KT;have zi:=z6 KI
 have dI:¬(w.heap.size=w.heap.size+1):=by omega
 have dJ:¬(w.heap.size+1=w.heap.size):=by omega
 go_wp2_with fail
 obtain⟨p1,p2,p3⟩:=aeB KI.out (.int .i64 y0) (.int .i64 y1) (.int .i64 y2) (.slice A3 y3.length c3) (.slice A4 y4.length c4) (.slice A5 y5.length c5);have bJ:=am ((((((HB.out.setCell (p:=⟨w.heap.size+1,0,none⟩) (by dsimp only;omega) (.int .i64 y0)).setCell (p:=⟨w.heap.size+1,1,none⟩) (by dsimp only;omega) (.int .i64 y1)).setCell (p:=⟨w.heap.size+1,2,none⟩) (by dsimp only;omega) (.int .i64 y2)).setCell (p:=⟨w.heap.size+1,3,none⟩) (by dsimp only;omega) (.slice A3 y3.length c3)).setCell (p:=⟨w.heap.size+1,4,none⟩) (by dsimp only;omega) (.slice A4 y4.length c4)).setCell (p:=⟨w.heap.size+1,5,none⟩) (by dsimp only;omega) (.slice A5 y5.length c5));generalize d9:((((((w4.setCell ⟨w.heap.size+1,0,none⟩ (.int .i64 y0)).setCell ⟨w.heap.size+1,1,none⟩ (.int .i64 y1)).setCell ⟨w.heap.size+1,2,none⟩ (.int .i64 y2)).setCell ⟨w.heap.size+1,3,none⟩ (.slice A3 y3.length c3)).setCell ⟨w.heap.size+1,4,none⟩ (.slice A4 y4.length c4)).setCell ⟨w.heap.size+1,5,none⟩ (.slice A5 y5.length c5))=W5 at p1 p2 p3 bJ⊢;have bT:=am ((p2 w.heap.size (by omega)).trans KT.out);have bU:=am ((p2 (w.heap.size+1+1) (by omega)).trans KR.out);have bV:=ae.mk p1;have S5:=am (Kd.tJ S4.out (fun k hk _=>p2 k (by have:=hk.1;omega)));replace G3:=am (Kd.nB G3.out (fun k hk _=>p2 k (by have:=hk.1;omega)));replace G4:=am (Kd.nB G4.out (fun k hk _=>p2 k (by have:=hk.1;omega)));replace G5:=am (Kd.nB G5.out (fun k hk _=>p2 k (by have:=hk.1;omega)));clear d9 p1 p2 KT KI KR HB S4 zt zi
 have aa7:ez.f k t1 t2 y0=some (cC y0 t1 0):=by unfold ez.f;rw[if_pos (by have:=HL.out;omega)]
 refine(ez.calls k _ _ t1 t2 y0 _ W5 (Kd.ke S5.out).2.2 (rl S5) aa7).mono ?_;rintro e w6 ⟨rfl,hb⟩
 replace n4:w2.heap.size≤w6.heap.size∧w4.heap.size≤w6.heap.size:=by have:=hb.size;omega
 have KT:=am (fe bT.out hb);have KI:=am (fe bV.out hb);have KR:=am (fe bU.out hb);have HB:=am (fG bJ.out hb);have S6:=am (Kd.jk S5.out hb);replace G3:=am (Kd.fT G3.out hb);replace G4:=am (Kd.fT G4.out hb);replace G5:=am (Kd.fT G5.out hb);clear hb bT bV bU bJ S5 aa7 p3;have zt:=z2 KT;have zi:=z6 KI;have zr:=z2 KR;obtain⟨rows,f,hrl,hraw,hPg,hM⟩:=adx S6.out;have HX:=am (nz w6 w.heap.size (fun k=>w2.heap.size≤k∧k<w4.heap.size) (⟨y0,y1,y2,y3,y4,y5⟩:aZ) G3.out G4.out G5.out);have wH:=ae.mk hraw;have HM:=ae.mk hM;have HP:=ae.mk hPg;have HRL:=ae.mk hrl;clear G3 G4 G5 hraw hM hPg hrl;rcases vm y0 t1 0 with hp|⟨i,hp,hit⟩
 case inr=>
  rw[Nat.zero_add]at hp;rw[hp];obtain⟨g,cap,ev,gb,_,_⟩:=Kd.tM S6.out (by omega);injection ev with ea en ec;subst ea;clear en ec
  have hltz:(i:Int)<(t1.length:Int):=by omega
  have bW:(0:Int)≤(i:Int):=by omega
  have dK:=HP.out g rfl
  have dA:¬(w.heap.size=g):=by omega
  have dL:¬(w.heap.size+1=g):=by omega
  have dB:¬(w.heap.size+1+1=g):=by omega
  have rP:=am (fv.hL (fv.eQ HX.out));obtain⟨c',hcl',hcm',sE,_⟩:=Kd.jn wH.out [] (i:Int) bW hltz;have HCC:=ae.mk sE;have HCL:=ae.mk hcl';clear sE hcm' hcl'
  go_wp2_with ((with_reducible refine fu (t:=58) (p:=21) rfl ?_);refine Kd.tG (Kd.raw fv.sz) w.heap.size rfl rfl 58 (.tmp 21) (.tmp 20) rfl 58 (i:Int) 0 rows [.int .i64 y0,.int .i64 y1,.int .i64 y2,.slice A3 y3.length c3,.slice A4 y4.length c4,.slice A5 y5.length c5] (.agg [.int .i64 y0,.int .i64 y1,.int .i64 y2,.slice A3 y3.length c3,.slice A4 y4.length c4,.slice A5 y5.length c5].toArray) [.int .i64 y0,.int .i64 y1,.int .i64 y2,.slice A3 y3.length c3,.slice A4 y4.length c4,.slice A5 y5.length c5] c' _ (fun _=>False) rfl (by simp;rfl) rfl rfl (by kernel_rfl) rP.out wH.out bW hltz HCL.out HCC.out (Nat.le_refl _) (wG HCL.out rfl rP.out) (fun _ hk=>hk.elim) HB.out ?_;intro w7 b9 bX bD;have dC:=ae.mk b9;have dD:=ae.mk bX;have dE:=ae.mk bD;have dF:=aa6 KT bD dA;have bY:=aa6 KR bD dB;replace zt:=z2 dF;replace zr:=z2 bY;clear b9 bX bD)
  have b9:=dC.out;rw[Int.toNat_natCast]at b9;have bK:=ad7 (okf:=fun k=>w.heap.size+3≤k) (N:=w2.heap.size) b9 HRL.out hit HM.out HX.out HP.out (fun k hk=>hk.2) (fun k hk=>hk.1) (fun k hk=>by rcases hk with h|h;exact h.1;have:=h.1;omega) (fun k hne hlt=>dE.out.block k hlt hne)
  have hres:lN (⟨y0,y1,y2,y3,y4,y5⟩:aZ) t1=t1.set i ⟨y0,y1,y2,y3,y4,y5⟩:=by
   unfold lN;dsimp only;rw[hp,if_pos (by omega),Int.toNat_natCast]
  rw[bE.out]at hres;rw[←hres]at bK;have dG:=ae.mk bK;clear bK b9 hres
  try simp only[Exit.inBlock,Exit.then]
  refine bodyPost_ret (results_cell_row rfl _ _ (w.heap.size+1+1) 28 #[.slice (some ⟨g,0,none⟩) t1.length c,.int .i64 t2] (0,0) _ rfl (by refine iu (cs:= #[.slice (some ⟨g,0,none⟩) t1.length c,.int .i64 0]) ?_ 1 _ rfl;refine iu (cs:= #[.slice none 0 0,.int .i64 0]) ?_ 0 _ rfl;exact bY.out) Tryz.underlying28 rfl (by kernel_rfl)) rfl ?_;refine⟨_,rfl,?_,?_⟩
  ·exact Kd.eu (Kd.cV (Kd.cV dG.out (fun k hk=>by dsimp only;omega) _) (fun k hk=>by dsimp only;omega) _) (fun _ _=>trivial)
  ·exact(dD.out.setCell (by dsimp only;omega) _).setCell (by dsimp only;omega) _
 case inl=>
  rw[hp]
  go_wp2_with fail
  refine(ady.calls y0 A c t1 (w.heap.size+1) w6 (Kd.ke S6.out).2.2 (iU KI.out) zi.1.1 (by have:=HL.out;omega)).mono ?_;rintro e w7 ⟨rfl,hb⟩;have b4:=ae.mk hb.size;have bL:=ae.mk hb;replace KT:=am (fe KT.out hb);replace KI:=am (fe KI.out hb);replace KR:=am (fe KR.out hb);replace HB:=am (fG HB.out hb);replace wH:=am (Kd.fT wH.out hb);have rP:=am (fv.hL (fv.eQ HX.out));have HVB:=am (show some w7.heap.size≠(Value.slice A t1.length c).ownBlock from fun he=>by have:=Kd.vR wH.out _ he.symm;omega);have HWB:=am (show w.heap.size≤(w7.alloc (.cells #[.int .i64 y0,.int .i64 y1,.int .i64 y2,.slice A3 y3.length c3,.slice A4 y4.length c4,.slice A5 y5.length c5] 58)).heap.size by have:=b4.out;rw[World.size_alloc];omega);have HLB:=am (show(t1.length+1)*96≤140737488355328 by have:=HL.out;omega);have NT:=am (show some w.heap.size≠(Value.slice A t1.length c).ownBlock from fun he=>by have:=(HP.out _ he.symm).1;omega);have NR:=am (show some (w.heap.size+1+1)≠(Value.slice A t1.length c).ownBlock from fun he=>by have:=(HP.out _ he.symm).1;omega);clear hb S6;have dH:=KT;replace KT:=am (aC KT.out (.cells #[.int .i64 y0,.int .i64 y1,.int .i64 y2,.slice A3 y3.length c3,.slice A4 y4.length c4,.slice A5 y5.length c5] 58));replace KR:=am (aC KR.out (.cells #[.int .i64 y0,.int .i64 y1,.int .i64 y2,.slice A3 y3.length c3,.slice A4 y4.length c4,.slice A5 y5.length c5] 58));have zt':=z2 KT;have zi:=z6 KI;have zt:=z2 dH;rcases aa5 y0 t1 0 with hgt|⟨j,hgt,hjt⟩
  case inl=>
   rw[hgt];have HJ:=am (Nat.le_refl t1.length)
   go_wp2_with (go_at_call 102;refine(uU.calls A t1.length c t1.length w7.heap.size w.heap.size (fun k=>(Value.slice A t1.length c).ownBlock=some k) rows [.int .i64 y0,.int .i64 y1,.int .i64 y2,.slice A3 y3.length c3,.slice A4 y4.length c4,.slice A5 y5.length c5] w _ HJ.out HRL.out (Kd.fT wH.out (aK (Below.refl _ _) _)) (jv w7 _) HVB.out rfl rP.out (aK HB.out _) HWB.out HLB.out).mono ?_;rintro e w8 ⟨v',rfl,b5,bB,b3,b6⟩;have bM:=ae.mk b5;have bN:=ae.mk bB;have bO:=ae.mk b3;have bP:=ae.mk b6;have bQ:=qZ KT b3 NT.out;have bC:=qZ KR b3 NR.out;replace zt:=z2 bQ;replace zr:=z2 bC;obtain⟨A',n',c',rfl⟩:∃A' n' c',v'=Value.slice A' n' c':=(by obtain⟨A',c',hs⟩:=Kd.aw b5;exact⟨_,_,_,hs⟩);clear b5 bB b3 b6)
   have b7:=acC (okf:=fun k=>w.heap.size+3≤k) (N:=w2.heap.size) (N2:=w6.heap.size) bM.out HRL.out HJ.out HM.out HX.out HP.out (by rcases bP.out with h|⟨b,h,hb⟩;exact .inl h;exact .inr ⟨b,h,by have:=b4.out;rw[World.size_alloc]at hb;omega⟩) (fun k hk=>hk.2) (fun k hk=>⟨hk.1,by have:=hk.2;omega⟩) (by omega) (fun k hk=>by rcases hk with h|h|h;exact h.1;have:=h.1;omega;omega) (fun k hne hlt=>by rw[bO.out.block k (by have:=b4.out;rw[World.size_alloc];omega) hne,Below.heap_alloc _ _ _ (by have:=b4.out;omega)];exact bL.out.block k hlt)
   have hres:lN (⟨y0,y1,y2,y3,y4,y5⟩:aZ) t1=t1.take t1.length++[⟨y0,y1,y2,y3,y4,y5⟩]++t1.drop t1.length:=by
    unfold lN gtP;dsimp only;rw[hp,if_neg (by omega)];rw[if_pos (by rw[hgt];omega)]
   rw[bE.out]at hres;rw[←hres]at b7;have bR:=ae.mk b7;clear b7 hres
   try simp only[Exit.inBlock,Exit.then]
   refine bodyPost_ret (results_cell_row rfl _ _ (w.heap.size+1+1) 28 #[.slice A' n' c',.int .i64 t2] (0,0) _ rfl (by refine iu (cs:= #[.slice A' n' c',.int .i64 0]) ?_ 1 _ rfl;refine iu (cs:= #[.slice none 0 0,.int .i64 0]) ?_ 0 _ rfl;rw[Below.heap_setCell _ _ _ _ (by simp;omega)];exact bC.out) Tryz.underlying28 rfl (by kernel_rfl)) rfl ?_;refine⟨_,rfl,?_,?_⟩
   ·exact Kd.eu (Kd.cV (Kd.cV (Kd.cV bR.out (fun k hk=>by dsimp only;omega) _) (fun k hk=>by dsimp only;omega) _) (fun k hk=>by dsimp only;omega) _) (fun _ _=>trivial)
   ·exact((bN.out.setCell (by dsimp only;omega) _).setCell (by dsimp only;omega) _).setCell (by dsimp only;omega) _
  case inr=>
   rw[Nat.zero_add]at hgt;rw[hgt];have HJ:=am (Nat.le_of_lt hjt)
   go_wp2_with (go_at_call 102;refine(uU.calls A t1.length c j w7.heap.size w.heap.size (fun k=>(Value.slice A t1.length c).ownBlock=some k) rows [.int .i64 y0,.int .i64 y1,.int .i64 y2,.slice A3 y3.length c3,.slice A4 y4.length c4,.slice A5 y5.length c5] w _ HJ.out HRL.out (Kd.fT wH.out (aK (Below.refl _ _) _)) (jv w7 _) HVB.out rfl rP.out (aK HB.out _) HWB.out HLB.out).mono ?_;rintro e w8 ⟨v',rfl,b5,bB,b3,b6⟩;have bM:=ae.mk b5;have bN:=ae.mk bB;have bO:=ae.mk b3;have bP:=ae.mk b6;have bQ:=qZ KT b3 NT.out;have bC:=qZ KR b3 NR.out;replace zt:=z2 bQ;replace zr:=z2 bC;obtain⟨A',n',c',rfl⟩:∃A' n' c',v'=Value.slice A' n' c':=(by obtain⟨A',c',hs⟩:=Kd.aw b5;exact⟨_,_,_,hs⟩);clear b5 bB b3 b6)
   have b7:=acC (okf:=fun k=>w.heap.size+3≤k) (N:=w2.heap.size) (N2:=w6.heap.size) bM.out HRL.out HJ.out HM.out HX.out HP.out (by rcases bP.out with h|⟨b,h,hb⟩;exact .inl h;exact .inr ⟨b,h,by have:=b4.out;rw[World.size_alloc]at hb;omega⟩) (fun k hk=>hk.2) (fun k hk=>⟨hk.1,by have:=hk.2;omega⟩) (by omega) (fun k hk=>by rcases hk with h|h|h;exact h.1;have:=h.1;omega;omega) (fun k hne hlt=>by rw[bO.out.block k (by have:=b4.out;rw[World.size_alloc];omega) hne,Below.heap_alloc _ _ _ (by have:=b4.out;omega)];exact bL.out.block k hlt)
   have hres:lN (⟨y0,y1,y2,y3,y4,y5⟩:aZ) t1=t1.take j++[⟨y0,y1,y2,y3,y4,y5⟩]++t1.drop j:=by
    unfold lN gtP;dsimp only;rw[hp,if_neg (by omega)];rw[if_neg (by rw[hgt];omega),hgt,Int.toNat_natCast]
   rw[bE.out]at hres;rw[←hres]at b7;have bR:=ae.mk b7;clear b7 hres
   try simp only[Exit.inBlock,Exit.then]
   refine bodyPost_ret (results_cell_row rfl _ _ (w.heap.size+1+1) 28 #[.slice A' n' c',.int .i64 t2] (0,0) _ rfl (by refine iu (cs:= #[.slice A' n' c',.int .i64 0]) ?_ 1 _ rfl;refine iu (cs:= #[.slice none 0 0,.int .i64 0]) ?_ 0 _ rfl;rw[Below.heap_setCell _ _ _ _ (by simp;omega)];exact bC.out) Tryz.underlying28 rfl (by kernel_rfl)) rfl ?_;refine⟨_,rfl,?_,?_⟩
   ·exact Kd.eu (Kd.cV (Kd.cV (Kd.cV bR.out (fun k hk=>by dsimp only;omega) _) (fun k hk=>by dsimp only;omega) _) (fun k hk=>by dsimp only;omega) _) (fun _ _=>trivial)
   ·exact((bN.out.setCell (by dsimp only;omega) _).setCell (by dsimp only;omega) _).setCell (by dsimp only;omega) _
theorem ad9 {α:Type}{d:Kd α}{e:Nat}{W:World}{base:Nat}{ok:Nat→Prop}{g n cap:Nat}{xs:List α}(h:Kd.S d e W base ok (.slice (some ⟨g,0,none⟩) n cap) xs):
  ∃(rows:List (List Value)) (f:Nat→Nat),rows.length=xs.length∧(Kd.raw d.sz).R e W base (fun k=>k=g) (.slice (some ⟨g,0,none⟩) n cap) rows∧ok g∧
   ∀(q:Nat) (x:α),xs[q]? =some x→d.M W base (fun k=>(ok k∧k≠g)∧f k=q) x (rows.getD q []):=by
 obtain⟨f,hok0,inner,ho,hr⟩:=h
 have hgo:some g=(Value.slice (some ⟨g,0,none⟩) n cap).ownBlock:=by simp[Value.ownBlock]
 have hlen:inner.length=xs.length*d.sz:=by have:=hr.1;rw[List.length_zipIdx]at this;exact this
 have hM:∀(q:Nat) (x:α),xs[q]? =some x→d.M W base (fun k=>(ok k∧k≠g)∧f k=q) x ((inner.drop (q*d.sz)).take d.sz):=fun q x hx=>
  d.dy (fun k hk=>⟨⟨hk.1.1,fun he=>hk.1.2 (by rw[he];exact hgo)⟩,hk.2⟩) (hr.2 q (x,q) (Kd.nf hx))
 have hrow:∀q,q<xs.length→((List.range xs.length).map fun j=>(inner.drop (j*d.sz)).take d.sz)[q]? =some ((inner.drop (q*d.sz)).take d.sz):=fun q hq=>by
  rw[List.getElem?_map,List.getElem?_range hq];rfl
 refine⟨(List.range xs.length).map fun j=>(inner.drop (j*d.sz)).take d.sz,f,by rw[List.length_map,List.length_range],⟨fun k hk=> ?_,inner,?_,?_,fun j p hj=> ?_⟩,hok0 g hgo.symm,fun q x hx=> ?_⟩
 ·rw[←hgo]at hk;injection hk with hk;exact hk.symm
 ·rw[List.length_map,List.length_range];rw[List.length_zipIdx]at ho;exact ho
 ·rw[List.length_map,List.length_range];exact hlen
 ·rw[List.getElem?_map]at hj;obtain⟨j',hj',rfl⟩:=Option.map_eq_some_iff.1 hj;obtain⟨hl,he⟩:=List.getElem?_eq_some_iff.1 hj';rw[List.getElem_range]at he;subst he;rw[List.length_range]at hl;have hm:=d.eQ (hM j _ (List.getElem?_eq_getElem hl));exact⟨rfl,d.iz hm,d.hL hm⟩
 ·have hq:q<xs.length:=(List.getElem?_eq_some_iff.1 hx).1;rw[List.getD_eq_getElem?_getD,hrow q hq];exact hM q x hx
theorem aea {α:Type}{d:Kd α}{e:Nat}{W W1:World}{base:Nat}{ok okr:Nat→Prop}{g m cap:Nat}{xs:List α}{rows rows':List (List Value)}{f:Nat→Nat}{ids:List Nat}(z:α)
  (hraw:(Kd.raw d.sz).R e W1 base okr (.slice (some ⟨g,0,none⟩) m cap) rows') (hnd:ids.Nodup) (pQ:∀q∈ids,q<xs.length) (hrows:rows'=ids.map (fun q=>rows.getD q []))
  (hM:∀(q:Nat) (x:α),xs[q]? =some x→d.M W base (fun k=>(ok k∧k≠g)∧f k=q) x (rows.getD q []))
  (qD:∀k,k≠g→k<W.heap.size→W1.heap[k]? =W.heap[k]?) (hg:ok g):Kd.S d e W1 base ok (.slice (some ⟨g,0,none⟩) m cap) (ids.map fun q=>xs.getD q z):=by
 subst hrows;obtain⟨_,inner,ho,hr⟩:=hraw
 have hgo:some g=(Value.slice (some ⟨g,0,none⟩) m cap).ownBlock:=by simp[Value.ownBlock]
 refine⟨fun k=>ids.idxOf (f k),fun k hk=> ?_,inner,?_,?_,fun j p hj=> ?_⟩
 ·rw[←hgo]at hk;injection hk with hk;exact hk▸hg
 ·rw[List.length_zipIdx,List.length_map];rw[List.length_map]at ho;exact ho
 ·rw[List.length_zipIdx,List.length_map];have:=hr.1;rw[List.length_map]at this;exact this
 ·rw[List.getElem?_zipIdx,Nat.zero_add]at hj;obtain⟨y,hy,rfl⟩:=Option.map_eq_some_iff.1 hj;rw[List.getElem?_map]at hy;obtain⟨q,hq,rfl⟩:=Option.map_eq_some_iff.1 hy;obtain⟨hjl,hjq⟩:=List.getElem?_eq_some_iff.1 hq;have hql:=pQ q (List.mem_of_getElem? hq);have hrw:=(hr.2 j (rows.getD q []) (by rw[List.getElem?_map,hq];rfl)).1
  show d.M W1 base _ (xs.getD q z) ((inner.drop (j*d.sz)).take d.sz)
  rw[show(inner.drop (j*d.sz)).take d.sz=rows.getD q []from hrw]
  have hx:xs[q]? =some (xs.getD q z):=by rw[List.getD_eq_getElem?_getD,List.getElem?_eq_getElem hql];rfl
  refine d.dy (fun k hk=>⟨⟨hk.1.1.1,fun he=>hk.1.1.2 (by rw[←hgo]at he;injection he)⟩,?_⟩) (d.hD (w1:=W1) (fun k hk=>qD k hk.1.1.2 hk.2.2.1) (d.fo (hM q _ hx)))
  show ids.idxOf (f k)=j
  rw[hk.1.2,←hjq];exact hnd.idxOf_getElem j hjl
def mu (ino:Int):List aZ→Nat→Int
 |[],_=> -1
 |x::l,i=>if x.f0=ino then(i:Int)else mu ino l (i+1)
theorem q_.calls (ino a b c:Int) (A3 A4 A5:Option Addr) (n3 c3 n4 c4 n5 c5:Nat) (B:Nat) (W:World) (hB:B<W.heap.size) (hc:W.cell? ⟨B,0,none⟩=some (.int .i64 ino)):
  Calls Tryz.prog 94 #[.agg #[.int .i64 a,.int .i64 b,.int .i64 c,.slice A3 n3 c3,.slice A4 n4 c4,.slice A5 n5 c5],.pointer (some ⟨B,0,none⟩)] W fun e w'=>e= .returned (.bool (a==ino))∧Below W.heap.size W w':=by
 have hne:B≠W.heap.size:=by omega
 go_enter Tryz.func94,Tryz.ntmps94
 go_wp2
 all_goals(go_ret;exact⟨by simp_all,(Below.refl _ W).alloc (Nat.le_refl _) _⟩)
theorem dropR_none (ino:Int) (l:List aZ) (i:Nat) (h:∀x∈l,x.f0≠ino):mu ino l i= -1:=by
 induction l generalizing i with
 |nil=>rfl
 |cons x l ih=>rw[mu,if_neg (h x (List.mem_cons_self ..))];exact ih (i+1) (fun y hy=>h y (List.mem_cons_of_mem _ hy))
theorem wI (l:List aZ) (k:Nat) (h:k<l.length):af l (k:Int)=l[k]:=by
 simp[af,List.getD_eq_getElem?_getD,List.getElem?_eq_getElem h]
theorem yt (ino:Int) (l:List aZ) (k j:Nat) (h:k<l.length) (hit:(af l (k:Int)).f0=ino):mu ino (l.drop k) j=(j:Int):=by
 rw[List.drop_eq_getElem_cons h,mu,if_pos (by rw[←wI l k h];exact hit)]
theorem wJ (ino:Int) (l:List aZ) (k j:Nat) (h:k<l.length) (hit:(af l (k:Int)).f0≠ino):mu ino (l.drop k) j=mu ino (l.drop (k+1)) (j+1):=by
 rw[List.drop_eq_getElem_cons h,mu,if_neg (by rw[←wI l k h];exact hit)]
theorem acd.calls (ino:Int) (A0:Option Addr) (c0:Nat) (l:List aZ) (B:Nat) (w:World) (hr:fv.C w A0 l.length l) (hB:B<w.heap.size) (hc:w.cell? ⟨B,0,none⟩=some (.int .i64 ino)) (hl:l.length≤9223372036854775807):
  Calls Tryz.prog 100 #[.slice A0 l.length c0,.func (.func 94) #[] #[.pointer (some ⟨B,0,none⟩)]] w fun e w'=>e= .returned (.int .i64 (mu ino l 0))∧Below w.heap.size w w':=by
 go_enter Tryz.func100,Tryz.ntmps100
 go_wp2
 go_loopg [5,8] l.length (fun gg _ s8 wr=>∃kk:Nat,kk≤l.length∧l.length-kk≤gg∧s8= .int .i64 kk∧ae (Below w.heap.size w wr)∧ae (mu ino l 0=mu ino (l.drop kk) kk))
 case atStart=>exact⟨0,Nat.zero_le _,by omega,rfl,⟨Below.refl _ w⟩,⟨rfl⟩⟩
 case round=>
  obtain⟨kk,hkk,hg,rfl,BW,A⟩:=hrel
  by_cases hlt:kk<l.length
  rotate_left
  ·have hltz:¬(kk:Int)<(l.length:Int):=by omega
   obtain rfl:kk=l.length:=by omega
   go_wp2
   go_ret
   exact⟨by rw[A.out,List.drop_length];rfl,BW.out⟩
  have hltz:(kk:Int)<(l.length:Int):=by omega
  obtain⟨ad,A3,c3,A4,c4,A5,c5,e0,h0,h1,h2,h3,h4,h5,_⟩:=fy (Kd.da hr BW.out) (kk:Int) (by omega) hltz
  cases e0
  rw[Int.toNat_natCast]at h0 h1 h2 h3 h4 h5;have hBw:B<wr.heap.size:=Nat.lt_of_lt_of_le hB BW.out.size;have hcw:wr.cell? ⟨B,0,none⟩=some (.int .i64 ino):=(BW.out.cell (p:=⟨B,0,none⟩) hB).trans hc
  by_cases hit:(af l (kk:Int)).f0=ino
  ·have hq:((af l (kk:Int)).f0==ino)=true:=by simpa using hit
   go_wp2_with (go_at_call 94;refine(q_.calls ino _ _ _ _ _ _ _ _ _ _ _ _ B wr hBw hcw).mono ?_;rintro e w' ⟨rfl,hb'⟩)
   go_ret
   exact⟨by rw[A.out,yt ino l kk kk hlt hit];rfl,er BW.out BW.out.size hb'⟩
  have hq:((af l (kk:Int)).f0==ino)=false:=by simpa using hit
  go_wp2_with (go_at_call 94;refine(q_.calls ino _ _ _ _ _ _ _ _ _ _ _ _ B wr hBw hcw).mono ?_;rintro e w' ⟨rfl,hb'⟩)
  go_roundg (l.length-(kk+1))
  case measure=>omega
  case rel=>exact⟨kk+1,by omega,by omega,by go_num,⟨er BW.out BW.out.size hb'⟩,⟨by rw[A.out,wJ ino l kk kk hlt hit]⟩⟩
def kv (ino:Int) (l:List aZ) (q:Nat):Bool:= !decide ((af l (q:Int)).f0=ino)
def kW (ino:Int) (l:List aZ):List aZ:=l.filter fun x=> !decide (x.f0=ino)
theorem rQ {α:Type}(l:List α) (z:α) (i:Nat) (h:i≤l.length):(List.range i).map (fun q=>l.getD q z)=l.take i:=by
 apply List.ext_getElem?
 intro j;rw[List.getElem?_map,List.getElem?_take]
 by_cases hj:j<i
 rotate_left
 ·rw[if_neg hj,List.getElem?_eq_none (by simpa using hj)];rfl
 rw[List.getElem?_range hj,if_pos hj,List.getElem?_eq_getElem (by omega)];simp[List.getD_eq_getElem?_getD,List.getElem?_eq_getElem (show j<l.length by omega)]
theorem yu (ino:Int) (l:List aZ):((List.range l.length).filter (kv ino l)).map (fun q=>l.getD q z58)=kW ino l:=by
 have h:=rQ l z58 l.length (Nat.le_refl _);rw[List.take_length]at h;unfold kW
 conv=>rhs;rw[←h]
 rw[List.filter_map]
 rfl
theorem wK (ino:Int) (l:List aZ):∀j:Nat,(mu ino l j= -1∧∀x∈l,x.f0≠ino)∨∃i:Nat,mu ino l j=((j+i:Nat):Int)∧∃h:i<l.length,l[i].f0=ino∧∀(q:Nat) (hq:q<i),l[q].f0≠ino:=by
 induction l with
 |nil=>intro j;exact .inl ⟨rfl,by simp⟩
 |cons x l ih=>
  intro j;rw[mu]
  by_cases c:x.f0=ino
  ·rw[if_pos c];exact .inr ⟨0,by simp,by simp,c,fun q hq=>by omega⟩
  rw[if_neg c];rcases ih (j+1)with⟨h1,h2⟩|⟨i,h1,h2,h3,h4⟩
  ·left
   refine⟨h1,fun y hy=> ?_⟩;rcases List.mem_cons.1 hy with rfl|hy
   ·exact c
   ·exact h2 y hy
  ·right
   refine⟨i+1,by rw[h1];congr 1;omega,by simpa using h2,by simpa using h3,fun q hq=> ?_⟩
   cases q with
   |zero=>exact c
   |succ q=>exact h4 q (by omega)
theorem pR (ino:Int) (l:List aZ) (q:Nat) (h:q<l.length):kv ino l q= !decide (l[q].f0=ino):=by
 unfold kv;rw[wI l q h]
theorem yv (ino:Int) (l:List aZ) (i:Nat) (h:i<l.length) (h1:l[i].f0=ino) (h2:∀(q:Nat) (hq:q<i),l[q].f0≠ino):(List.range (i+1)).filter (kv ino l)=List.range i:=by
 rw[List.range_succ,List.filter_append,List.filter_cons_of_neg (by rw[pR ino l i h];simp[h1]),List.filter_nil,List.append_nil]
 exact List.filter_eq_self.2 (fun q hq=>by
  have hq:=List.mem_range.1 hq;rw[pR ino l q (by omega)]
  simpa using h2 q hq)
theorem aa8 (ino:Int) (l:List aZ) (j:Nat):(List.range (j+1)).filter (kv ino l)=(List.range j).filter (kv ino l)++(if kv ino l j=true then [j]else []):=by
 rw[List.range_succ,List.filter_append]
 congr 1
 by_cases c:kv ino l j=true
 ·rw[if_pos c,List.filter_cons_of_pos c,List.filter_nil]
 rw[if_neg c,List.filter_cons_of_neg c,List.filter_nil]
theorem yw (ino:Int) (l:List aZ) (h:∀x∈l,x.f0≠ino):kW ino l=l:=List.filter_eq_self.2 (fun x hx=>by simpa using h x hx)
def wL:Value:= .agg #[.int .i64 0,.int .i64 0,.int .i64 0,.slice none 0 0,.slice none 0 0,.slice none 0 0]
theorem wM (w:World):(zeroValue 58).run Tryz.prog w= .ok wL w:=by kernel_rfl
theorem wN.calls (ino:Int) (A0:Option Addr) (c0:Nat) (l:List aZ) (B:Nat) (P0:Nat→Prop) (w0 w:World) (hB:Below w0.heap.size w0 w) (hS:Kd.S fv 58 w w0.heap.size P0 (.slice A0 l.length c0) l) (hBl:B<w.heap.size) (hc:w.cell? ⟨B,0,none⟩=some (.int .i64 ino)) (hne:¬P0 B) (hl:l.length≤9223372036854775807):
  Calls Tryz.prog 93 #[.slice A0 l.length c0,.func (.func 94) #[] #[.pointer (some ⟨B,0,none⟩)]] w fun e w'=>e= .returned (.slice A0 (kW ino l).length c0)∧Kd.S fv 58 w' w0.heap.size P0 (.slice A0 (kW ino l).length c0) (kW ino l)∧Below w0.heap.size w0 w'∧Kept w w' P0:=by
 have hr:=(Kd.ke hS).2.2;have HS:=ae.mk hS;have HB:=ae.mk hB;have HW:=ae.mk hB.size;have HN:=ae.mk hne;have hcall:=acd.calls ino A0 c0 l B w hr hBl hc hl;clear hS hB hne hr;rcases wK ino l 0 with⟨hp,hall⟩|⟨i0,hp,bB,hhit,hbef⟩
 ·rw[hp]at hcall;have HC:=ae.mk hcall;have HD:=am (yw ino l hall);clear hcall hc hall hp
  go_enter Tryz.func93,Tryz.ntmps93
  go_wp2_with (go_at_call 100;refine HC.out.mono ?_;rintro e w1 ⟨rfl,hb⟩)
  go_ret
  rw[HD.out];exact⟨rfl,Kd.jk HS.out hb,er HB.out HW.out hb,Kept.of_below hb _⟩
 ·rw[Nat.zero_add]at hp;rw[hp]at hcall;have HC:=ae.mk hcall;have pQ:=yv ino l i0 bB hhit hbef;obtain⟨g,cap,ev,gb,_,_⟩:=Kd.tM HS.out (by omega);injection ev with ea en ec;subst ea;clear en;subst ec;obtain⟨rows,f,hrl,hraw,hPg,hM⟩:=ad9 HS.out;have HM:=ae.mk hM;have HP:=ae.mk hPg
  have hBg:B≠g:=fun he=>HN.out (he▸hPg)
  have HR:=ae.mk hraw;have HI:=am (⟨by rw[pQ,List.length_range];omega,by rw[pQ,List.length_range,←rQ rows [] i0 (by omega)],hrl⟩:((List.range (i0+1)).filter (kv ino l)).length<i0+1∧rows.take ((List.range (i0+1)).filter (kv ino l)).length=((List.range (i0+1)).filter (kv ino l)).map (fun q=>rows.getD q [])∧rows.length=l.length)
  have hil:((List.range (i0+1)).filter (kv ino l)).length=i0:=by rw[pQ,List.length_range]
  have HG:=ae.mk gb;have HCC:=ae.mk hc;clear hcall hc hhit hbef hp pQ hraw hM hPg gb
  go_enter Tryz.func93,Tryz.ntmps93
  go_wp2_with (go_at_call 100;refine HC.out.mono ?_;rintro e w1 ⟨rfl,hb⟩)
  replace HR:=am (Kd.fT HR.out hb);have HK:=am (Kept.of_below hb (fun k=>k=g));replace HB:=am (er HB.out HW.out hb);clear hb HC
  go_loopg [5,6] l.length (fun gg s5 s6 wr=>∃(jj:Nat) (rws:List (List Value)),jj≤l.length∧l.length-jj≤gg∧s5= .int .i64 ((List.range jj).filter (kv ino l)).length∧s6= .int .i64 jj∧ae (((List.range jj).filter (kv ino l)).length<jj∧rws.take ((List.range jj).filter (kv ino l)).length=((List.range jj).filter (kv ino l)).map (fun q=>rows.getD q [])∧rws.length=l.length)∧ae (rws.drop jj=rows.drop jj)∧ae ((Kd.raw fv.sz).R 58 wr w0.heap.size (fun k=>k=g) (.slice (some ⟨g,0,none⟩) l.length c0) rws)∧ae (Below w0.heap.size w0 wr)∧ae (Kept w wr (fun k=>k=g)))
  case atStart=>exact⟨i0+1,rows,by omega,by omega,by rw[hil],by go_num,HI,⟨rfl⟩,HR,HB,HK⟩
  case round=>
   clear HR HB HK HI hil;obtain⟨jj,rws,hjj,hgg,rfl,rfl,HI,HD,HR,HB,HK⟩:=hrel
   by_cases hlt:jj<l.length
   rotate_left
   ·have hltz:¬(jj:Int)<(l.length:Int):=by omega
    obtain rfl:jj=l.length:=by omega
    obtain⟨hmj,htk,wF⟩:=HI.out;have hcap:=(Kd.bm HR.out).2.1;have pQ:=yu ino l;have hnd:((List.range l.length).filter (kv ino l)).Nodup:=(List.nodup_range).sublist List.filter_sublist
    have hin:∀q∈(List.range l.length).filter (kv ino l),q<l.length:=fun q hq=>List.mem_range.1 (List.mem_filter.1 hq).1
    have hdl:(kW ino l).length=((List.range l.length).filter (kv ino l)).length:=by rw[←pQ,List.length_map]
    generalize hm:((List.range l.length).filter (kv ino l)).length=m at hmj htk hdl⊢;have aeC:=ae.mk pQ;have HTK:=ae.mk htk;have HND:=ae.mk hnd;have HIN:=ae.mk hin;have HDL:=ae.mk hdl
    have hml:(m:Int)<(l.length:Int):=by omega
    have b1:(0:Int)≤(m:Int):=by omega
    clear pQ htk hnd hin hdl;obtain⟨w1,hst,bC,b7⟩:=sV (P:=Tryz.prog) (zs:=(Builtin.zeroCells wL.cells (l.length-m)).toList) (i:=m) HR.out (by omega) (by rw[Array.length_toList,size_zeroCells];rfl) (pa (by decide) _)
    have hrun:=fun ty=>sU (P:=Tryz.prog) (ty:=ty) (c:=c0-m) (show Tryz.prog.underlying 26=some (.slice 58) by kernel_rfl) (wM wr) (show l.length-m≠0 by omega) (show(storeCells ⟨g,m*6,none⟩ (Builtin.zeroCells wL.cells (l.length-m)).toList).run Tryz.prog wr= .ok () w1 from hst)
    have hk1:Kept w w1 (fun k=>k=g):=Kept.kg b7 HK.out (fun k e=> .inl (by injection e with e;exact e.symm));have bD:Below w0.heap.size w0 w1:=HB.out.grown b7 HB.out.size (fun k e=>by injection e with e;rw[←e];exact HG.out);have b2:=aea z58 bC HND.out HIN.out HTK.out HM.out (fun k hk hlt=>hk1.2 k hlt hk) HP.out;rw[aeC.out]at b2;have bE:=ae.mk b2;clear b2 hst
    go_wp2_with ((with_reducible refine eb (b:= .clear) rfl ?_);refine o_ (w1:=w1) rfl rfl rfl (v:= .tuple #[]) ?hr ?_;(case hr=>go_simp;rw[hrun 0];rfl);(intro w2 hw;subst hw))
    go_ret
    rw[HDL.out];exact⟨rfl,bE.out,bD,hk1.mono (fun k hk=>by rw[hk];exact HP.out)⟩
   have hltz:(jj:Int)<(l.length:Int):=by omega
   have hnn:(0:Int)≤(jj:Int):=by omega
   have hM:=HM.out jj l[jj] (List.getElem?_eq_getElem hlt);obtain⟨v3,v4,v5,hcs,g3,g4,g5⟩:=oz hM;obtain⟨A3,b3,rfl⟩:=Kd.aw g3;obtain⟨A4,b4,rfl⟩:=Kd.aw g4;obtain⟨A5,b5,rfl⟩:=Kd.aw g5;clear hM g3 g4 g5
   have hjr:rws.getD jj []=rows.getD jj []:=by
    have:=congrArg (fun L=>L.getD 0 []) HD.out
    simpa [List.getD_eq_getElem?_getD,List.getElem?_drop]using this
   obtain⟨c,hcl,hcm,hcc,hcf⟩:=Kd.jn HR.out [] (jj:Int) hnn hltz
   have hce:c=[.int .i64 l[jj].f0,.int .i64 l[jj].f1,.int .i64 l[jj].f2,.slice A3 l[jj].f3.length b3,.slice A4 l[jj].f4.length b4,.slice A5 l[jj].f5.length b5]:=by
    have:=hcm.1;rw[Int.toNat_natCast,hjr,hcs]at this;exact this
   have hone:=hcm.2.2;subst hce;have bJ:wr.cell? ⟨g,jj*6,none⟩=some (.int .i64 l[jj].f0):=hcc 0 _ rfl;have bK:wr.cell? ⟨g,jj*6+1,none⟩=some (.int .i64 l[jj].f1):=hcc 1 _ rfl;have bL:wr.cell? ⟨g,jj*6+2,none⟩=some (.int .i64 l[jj].f2):=hcc 2 _ rfl;have bM:wr.cell? ⟨g,jj*6+3,none⟩=some (.slice A3 l[jj].f3.length b3):=hcc 3 _ rfl;have bN:wr.cell? ⟨g,jj*6+4,none⟩=some (.slice A4 l[jj].f4.length b4):=hcc 4 _ rfl;have bO:wr.cell? ⟨g,jj*6+5,none⟩=some (.slice A5 l[jj].f5.length b5):=hcc 5 _ rfl;have hgs:=Kd.vR HR.out g (by simp[Value.ownBlock]);have hBw:B<wr.heap.size:=Nat.lt_of_lt_of_le hBl HK.out.1
   have hcw:∀o,(wr.alloc o).cell? ⟨B,0,none⟩=some (.int .i64 ino):=fun o=>cB (W:=wr.alloc o) ⟨aK (Below.refl _ _) o⟩ (cell_kept HCC.out HK.out hBg)
   have HJ:=ae.mk hjr;have HCS:=ae.mk hcs;have rP:=ae.mk hone;clear hcm hcc hcf hcl hone hjr hcs;have hst:=aa8 ino l jj;have hIx:=HI.out;obtain⟨hmj,htk,wF⟩:=hIx
   by_cases hk:l[jj].f0=ino
   ·have hq:(l[jj].f0==ino)=true:=by simpa using hk
    rw[if_neg (by rw[pR ino l jj hlt];simp[hk]),List.append_nil]at hst;have HST:=ae.mk hst;clear hk hst htk hmj wF
    go_wp2_with (go_at_call 94;refine(q_.calls ino _ _ _ _ _ _ _ _ _ _ _ _ B _ (by simp only[World.size_alloc];omega) (hcw _)).mono ?_;rintro e w2 ⟨rfl,hb⟩;rw[hq])
    go_roundg (l.length-(jj+1))
    case measure=>omega
    case rel=>
     have b6:=bold hb;refine⟨jj+1,rws,by omega,by omega,by rw[HST.out],by go_num,⟨?_⟩,⟨?_⟩,⟨Kd.fT HR.out b6⟩,⟨er HB.out HB.out.size b6⟩,⟨Kept.below HK.out b6⟩⟩
     ·rw[HST.out];have:=HI.out;exact⟨by omega,this.2⟩
     ·have:=congrArg (fun L=>L.drop 1) HD.out
      simpa [List.drop_drop,Nat.add_comm]using this
   have hq:(l[jj].f0==ino)=false:=by simpa using hk
   rw[if_pos (by rw[pR ino l jj hlt];simp[hk])]at hst;have HST:=ae.mk hst;generalize hm:((List.range jj).filter (kv ino l)).length=m at hmj htk⊢;have HTK:=ae.mk htk
   have hml:(m:Int)<(l.length:Int):=by omega
   have b1:(0:Int)≤(m:Int):=by omega
   clear hk hst htk
   go_wp2_with (first
    |(go_at_call 94;refine(q_.calls ino _ _ _ _ _ _ _ _ _ _ _ _ B _ (by simp only[World.size_alloc];omega) (hcw _)).mono ?_;rintro e w2 ⟨rfl,hb⟩;rw[hq];have KV:=vQ hb;replace hb:=bold hb;have zv:=z6 KV;have b8:=am (Kd.fT HR.out hb);have bF:=am (er HB.out HB.out.size hb);have bG:=am (Kept.below HK.out hb))
    |((with_reducible refine fu (t:=58) (p:=33) rfl ?_);obtain⟨c',hcl',hcm',sE,_⟩:=Kd.jn b8.out [] (m:Int) b1 hml;refine Kd.tG (Kd.raw fv.sz) w0.heap.size rfl rfl 58 (.tmp 33) (.tmp 32) rfl 58 (m:Int) 0 rws [.int .i64 l[jj].f0,.int .i64 l[jj].f1,.int .i64 l[jj].f2,.slice A3 l[jj].f3.length b3,.slice A4 l[jj].f4.length b4,.slice A5 l[jj].f5.length b5] (.agg [.int .i64 l[jj].f0,.int .i64 l[jj].f1,.int .i64 l[jj].f2,.slice A3 l[jj].f3.length b3,.slice A4 l[jj].f4.length b4,.slice A5 l[jj].f5.length b5].toArray) [.int .i64 l[jj].f0,.int .i64 l[jj].f1,.int .i64 l[jj].f2,.slice A3 l[jj].f3.length b3,.slice A4 l[jj].f4.length b4,.slice A5 l[jj].f5.length b5] c' (fun k=>k=g) (fun _=>False) rfl (by simp;rfl) rfl rfl (by kernel_rfl) rP.out b8.out b1 hml hcl' sE (Nat.le_refl _) ?_ (fun _ hk=>hk.elim) bF.out ?_;(first|(exact sW hcl' rfl rP.out)|skip);intro w3 b9 bH bI))
   go_roundg (l.length-(jj+1))
   case measure=>omega
   case rel=>
    rw[Int.toNat_natCast]at b9;have hT:=HTK.out
    have hlen:((List.range (jj+1)).filter (kv ino l)).length=m+1:=by rw[HST.out,List.length_append,hm];rfl
    refine⟨jj+1,rws.set m [.int .i64 l[jj].f0,.int .i64 l[jj].f1,.int .i64 l[jj].f2,.slice A3 l[jj].f3.length b3,.slice A4 l[jj].f4.length b4,.slice A5 l[jj].f5.length b5],by omega,by omega,by rw[hlen];go_num,by go_num,⟨?_⟩,⟨?_⟩,⟨b9⟩,⟨bH⟩,⟨Kept.kg bI bG.out (fun k e=> .inl (by injection e with e;exact e.symm))⟩⟩
    ·refine⟨by omega,?_,by rw[List.length_set];exact wF⟩;rw[hlen,HST.out,List.map_append,List.take_succ_eq_append_getElem (by rw[List.length_set];omega),List.getElem_set_self,List.take_set_of_le (Nat.le_refl m),hT,List.map_cons,List.map_nil,HCS.out]
    ·rw[List.drop_set_of_lt (by omega)];have:=congrArg (fun L=>L.drop 1) HD.out
     simpa [List.drop_drop,Nat.add_comm]using this
def ik.f (k:Nat) (ag:List aZ) (ak a1:Int):Option (List aZ×Int):=(cl.f k ag ak).bind fun t=>if(t.1.length:Int)≤9223372036854775807 then some (kW a1 t.1,t.2)else none
theorem ik.calls (k:Nat) (bl:Option Addr) (aW:Nat) (ag:List aZ) (ak a1:Int) (r1:List aZ) (r2:Int) (w:World) (cg:Kd.C fv w bl ag.length ag) (ch:ag.length≤aW) (h:ik.f k ag ak a1=some (r1,r2)):
  Calls Tryz.prog 49 #[.agg #[.slice bl ag.length aW,.int .i64 ak],.int .i64 a1] w fun e w'=>∃iY:Value,e= .returned (.agg #[iY,.int .i64 r2])∧Kd.S fv 58 w' w.heap.size (fun _=>True) iY r1∧Below w.heap.size w w':=by
 unfold ik.f at h;replace h:=bA h;obtain⟨⟨t1,t2⟩,H1,h⟩:=h
 split at h
 case isFalse=>cases h
 case isTrue hl=>
 simp only[Option.some.injEq,Prod.mk.injEq]at h;obtain⟨rfl,rfl⟩:=h
 have hl':t1.length≤9223372036854775807:=by dsimp only at hl;omega
 have HL:=ae.mk hl';clear hl hl';have b5:=ae.mk cg;have b6:=ae.mk ch;clear cg ch;have HB:=am (Below.refl w.heap.size w)
 go_enter Tryz.func49,Tryz.ntmps49
 go_wp2_with fail
 refine(cl.calls k _ _ ag ak t1 t2 _ (kC b5) b6.out H1.out).mono ?_;rintro e w2 ⟨v0,rfl,hs,hb⟩;obtain⟨A,c,rfl⟩:=Kd.gf hs;have KT:=am (fe (aC (aC (jv _ _) _) _) hb);have KI:=am (fe (aC (jv _ _) _) hb);have KR:=am (fe (jv _ _) hb);simp only[World.size_alloc]at KI KR;have S1:=tt hs (w.heap.size+3) w.heap.size (by simp) (by simp only[World.size_alloc];omega)
 have n1:w.heap.size+3≤w2.heap.size:=by have:=hb.size;simpa using this
 replace HB:=am (fG (aK (aK (aK (Below.refl _ _) _) _) _) hb);clear hs hb;have zt:=z2 KT;have zi:=z1 KI;have zr:=z2 KR;have W0:=am (rfl:w.heap.size=w.heap.size);have b2:=am (show((w2.setCell ⟨w.heap.size,0,none⟩ (.slice A t1.length c)).setCell ⟨w.heap.size,1,none⟩ (.int .i64 t2)).heap[w.heap.size]? =some (.cells #[.slice A t1.length c,.int .i64 t2] 28 (0,0)) by simpa using nA (nA KT.out 0 (.slice A t1.length c)) 1 (.int .i64 t2));have b1:=am (show((w2.setCell ⟨w.heap.size,0,none⟩ (.slice A t1.length c)).setCell ⟨w.heap.size,1,none⟩ (.int .i64 t2)).heap[w.heap.size+1]? =some (.cells #[.int .i64 a1] 3 (0,0)) by rw[Below.heap_setCell _ _ _ _ (by simp),Below.heap_setCell _ _ _ _ (by simp)];exact KI.out);have b3:=am (show((w2.setCell ⟨w.heap.size,0,none⟩ (.slice A t1.length c)).setCell ⟨w.heap.size,1,none⟩ (.int .i64 t2)).heap[w.heap.size+1+1]? =some (.cells #[.slice none 0 0,.int .i64 0] 28 (0,0)) by rw[Below.heap_setCell _ _ _ _ (by simp;omega),Below.heap_setCell _ _ _ _ (by simp;omega)];exact KR.out);have b4:=am ((HB.out.setCell (p:=⟨w.heap.size,0,none⟩) (Nat.le_refl _) (.slice A t1.length c)).setCell (p:=⟨w.heap.size,1,none⟩) (Nat.le_refl _) (.int .i64 t2));have S3:=am (Kd.cV (p:=⟨w.heap.size,1,none⟩) (Kd.cV (p:=⟨w.heap.size,0,none⟩) S1.out (fun k hk=>by have:=hk.1;dsimp only;omega) (.slice A t1.length c)) (fun k hk=>by have:=hk.1;dsimp only;omega) (.int .i64 t2))
 go_wp2_with fail
 refine(wN.calls a1 A c t1 (w.heap.size+1) (fun k=>w.heap.size+3≤k∧k<w2.heap.size) w _ b4.out S3.out (iU b1.out) (z1 b1).1 (by omega) HL.out).mono ?_;rintro e w4 ⟨rfl,hs,hb,hk⟩;replace KT:=nW b2 hk (fun h=>by omega);replace KR:=nW b3 hk (fun h=>by omega);have S4:=ae.mk hs;replace HB:=ae.mk hb;clear hs hb hk b2 b1 b3 b4 S3 S1 KI zi zt zr;have zt:=z2 KT;have zr:=z2 KR
 go_wp2_with fail
 try simp only[Exit.inBlock,Exit.then]
 refine bodyPost_ret (results_cell_row rfl _ _ (w.heap.size+1+1) 28 #[.slice A (kW a1 t1).length c,.int .i64 t2] (0,0) _ rfl (by refine iu (cs:= #[.slice A (kW a1 t1).length c,.int .i64 0]) ?_ 1 _ rfl;refine iu (cs:= #[.slice none 0 0,.int .i64 0]) ?_ 0 _ rfl;rw[Below.heap_setCell _ _ _ _ (by simp;omega)];exact KR.out) Tryz.underlying28 rfl (by kernel_rfl)) rfl ?_;refine⟨_,rfl,?_,?_⟩
 ·exact Kd.eu (Kd.cV (Kd.cV (Kd.cV S4.out (fun k hk=>by have:=hk.1;dsimp only;omega) _) (fun k hk=>by have:=hk.1;dsimp only;omega) _) (fun k hk=>by have:=hk.1;dsimp only;omega) _) (fun _ _=>trivial)
 ·exact((HB.out.setCell (by dsimp only;omega) _).setCell (by dsimp only;omega) _).setCell (by dsimp only;omega) _
def dh.f (k:Nat) (a0:ByteArray):Option (ByteArray×ByteArray×Bool):=(d_.f k a0).bind fun b1=>(if b1.2=true then(if(b1.1.length:Int)=0 then(some ((⟨#[]⟩:ByteArray),(⟨#[]⟩:ByteArray),false))else(if 0≤(wrap64 ((b1.1.length:Int)-1))then(if(wrap64 ((b1.1.length:Int)-1))≤(b1.1.length:Int)then((fF.f k (b1.1.take ((wrap64 ((b1.1.length:Int)-1)):Int).toNat)).bind fun b2=>(if(wrap64 ((b1.1.length:Int)-1))<(b1.1.length:Int)then(some (b2,iZ ByteArray.empty b1.1 (wrap64 ((b1.1.length:Int)-1)),true))else(none)))else(none))else(none)))else(some ((⟨#[]⟩:ByteArray),(⟨#[]⟩:ByteArray),false)))
def dh.T5:Bool×List (List Nat×List Nat):=(true,[([],[]),([],[]),([0,1],[0,1]),([2],[2]),([],[]),([],[]),([4,5],[4,5]),([6],[6]),([3,3,0,1,2,3],[3]),([7,8,0,1,2,3,4,5,6,7,8],[7]),([9,0,1,2,3,4,5,6,7,8,9],[])])
def dh.B5:List Nat:=[0,0,3,7,0,0,48,112,15,511,1023]
theorem dh.wB:gy .any (opsOf Tryz.f92 5)=dh.T5:=by kernel_rfl
theorem dh.rN:eR dh.T5.2 dh.B5=true:=by kernel_rfl
theorem dh.calls (k:Nat) (a0:ByteArray) (r1:ByteArray) (r2:ByteArray) (r3:Bool) (w:World) (h:dh.f k a0=some (r1,r2,r3)) (hG:zc w:=by exact gk_ oB (by first|(with_reducible assumption)|assumption)):
  Calls Tryz.prog 92 #[.string a0] w fun e w'=>e= .returned (.tuple #[.string r1,.string r2,.bool r3])∧Below w.heap.size w w':=by
 have HG:=ae.mk hG;clear hG;have HB:=am (Below.refl w.heap.size w);unfold dh.f at h;have H:=h;clear h;replace H:=bA H;obtain⟨⟨b1,bZ⟩,A2,H⟩:=H
 try dsimp only at H
 replace H:=ll H;rcases H with⟨rfl,H⟩|⟨rfl,H⟩;rotate_left
 ·simp only[Option.some.injEq,Prod.mk.injEq]at H;obtain⟨rfl,rfl,rfl⟩:=H
  go_enter Tryz.func92,Tryz.ntmps92
  go_wp2_with (first|((with_reducible refine ai (f:=88) rfl ?_);refine eL 10 Tryz.func88 (d_.calls k a0 b1 false _ A2.out) ?_;rintro e dB ⟨bH,rfl,bB,hb⟩;refine⟨_,rfl,?_⟩;have b3:=am (Kd.nD bB (ah oB));replace HB:=hB HB hb))
  go_ret3
  exact⟨oE,oB⟩
 by_cases c4:(b1.length:Int)=0
 ·rw[if_pos c4]at H;have bP:((b1.length:Int)==0)=true:=beq_iff_eq.mpr c4;have bQ:((b1.length:Int) !=0)=false:=bne_eq_false_iff_eq.mpr c4;clear c4;simp only[Option.some.injEq,Prod.mk.injEq]at H;obtain⟨rfl,rfl,rfl⟩:=H
  go_enter Tryz.func92,Tryz.ntmps92
  go_wp2_with (first|((with_reducible refine ai (f:=88) rfl ?_);refine eL 10 Tryz.func88 (d_.calls k a0 b1 true _ A2.out) ?_;rintro e w5 ⟨bH,rfl,bB,hb⟩;refine⟨_,rfl,?_⟩;have b3:=am (Kd.nD bB (ah oB));replace HB:=hB HB hb;obtain⟨dC,dD,bU,_⟩:=Kd.pJ b3.out;subst bU))
  go_ret3
  exact⟨oE,oB⟩
 rw[if_neg c4]at H;have bP:((b1.length:Int)==0)=false:=beq_eq_false_iff_ne.mpr c4;have bQ:((b1.length:Int) !=0)=true:=bne_iff_ne.mpr c4
 have d1:¬(b1=[]):=fun h_=>c4 (by rw[h_];rfl)
 obtain⟨b2,b5⟩:∃j_:Int,(wrap64 ((b1.length:Int)-1))=j_:=⟨_,rfl⟩
 replace H:(if 0≤(b2)then(if(b2)≤(b1.length:Int)then((fF.f k (b1.take ((b2):Int).toNat)).bind fun b6=>(if(b2)<(b1.length:Int)then(some (b6,iZ ByteArray.empty b1 (b2),true))else(none)))else(none))else(none))=some (r1,r2,r3):=by first|(rw[b5]at H;exact H)|(simp only[b5]at H⊢;exact H)
 (try rw[b5]at A2)
 have bX:(IntKind.i64.wrap ((b1.length:Int)-1))=b2:=(fZ _).trans b5;obtain⟨c8,H⟩:=lp H;have d2:=eq_true c8;have d3:decide (0≤(b2))=true:=decide_eq_true c8;clear c8;obtain⟨c9,H⟩:=lp H;have d4:=eq_true c9;have d5:decide ((b2)≤(b1.length:Int))=true:=decide_eq_true c9;clear c9;obtain⟨b9,dj⟩:∃y_:List ByteArray,y_=(b1.take ((b2):Int).toNat):=⟨_,rfl⟩;replace H:((fF.f k b9).bind fun b6=>(if(b2)<(b1.length:Int)then(some (b6,iZ ByteArray.empty b1 (b2),true))else(none)))=some (r1,r2,r3):=oY;have bF:=ae.mk dj;clear dj;replace H:=bA H;obtain⟨b6,bV,H⟩:=H
 try dsimp only at H
 obtain⟨bY,H⟩:=cX H;simp only[Option.some.injEq,Prod.mk.injEq]at H;obtain⟨rfl,rfl,rfl⟩:=H
 go_enter Tryz.func92,Tryz.ntmps92
 try go_wp2_with (first|((with_reducible refine ai (f:=88) rfl ?_);refine eL 10 Tryz.func88 (d_.calls k a0 b1 true _ A2.out) ?_;rintro e bW ⟨bH,rfl,bB,hb⟩;refine⟨_,rfl,?_⟩;have b3:=am (Kd.nD bB (ah oB));replace HB:=hB HB hb;obtain⟨bI,bC,bR,_⟩:=Kd.pJ b3.out;subst bR))
 replace b3:=am (Kd.ju b3.out);replace HB:=am (au HB.out);have bJ:((b2):Int)≤((b1.length:Int):Int):=oa;obtain⟨d6,bG,_,bM,_⟩:=info_parts info9;have b7:b1.length≤bC:=(Kd.kJ b3.out).2.1;have bK:Kd.C Kd.string _ bI b1.length b1:=(Kd.kJ b3.out).2.2;have bL:=qf (P:=Tryz.prog) 68 9 .i64 Tryz.underlying68 bG bI b1.length bC (b2) oa bJ b7;have bD:=Kd.rr (m:=((b2):Int).toNat) bK (by omega);have bE:b9.length=((b2):Int).toNat:=(by rw[bF.out,List.length_take];omega);rw[←bF.out]at bD;rw[←bE]at bL;have b4:=ae.mk bD;have bN:=am (show b9.length≤bC from by omega);clear bD bK b7 bG bM;have d7:=ae.mk bE;clear bE;have d8:=am (show((b2):Int).toNat≤b1.length from by omega);replace bJ:=eq_true bJ;have d9:(0≤((b2):Int))=True:=oT;have dA:((b2)<(b1.length:Int))=True:=oT;obtain⟨bO,bS,b8⟩:=Kd.eX (Kd.kJ b3.out).2.2 (b2) oa oa
 cases bS
 refine mn 11 (fun w'=>w'.cell? (bO.add ((b2)).toNat)=some (.string (iZ ByteArray.empty b1 (b2)))) dh.wB dh.rN (b8) (fun hHeld ax eF=> ?_);generalize bW.drew=dE at b3 HB b4 b8 hHeld⊢;refine bx 0 23 ax ?_;refine bx 1 24 ax ?_;refine bx 2 25 ax ?_;refine bx 4 27 ax ?_;refine bx 5 28 ax ?_;refine bx 6 29 ax ?_;refine xy (i:=7) (N:=some 30) (v:= ?_) (a':= ?_) (lb 11 247) rfl rfl (uC ax.out eF.out (by kernel_rfl)) (fun _ _ _ h=>h) (Or.inl ⟨by rfl,?_⟩) hHeld ?_ ?_;rotate_left
 ·intro w' s0
  go_simp
  with_reducible rfl
 rotate_left
 ·simp only[Act.put,List.setIfInBounds_toArray,List.set_cons_zero,List.set_cons_succ,fZ,iX]
  rfl
 refine kM 3 26 ax (fun K hK=> ?_);refine lG 26 Tryz.func126 (fF.calls k _ _ b9 b6 _ ?eH bN.out bV.out) ?_
 (case eH=>repeat(first|exact(by repeat(first|(with_reducible exact b4.out)|(with_reducible refine Kd.eU ?_ _)|(with_reducible refine Kd.eV ?_ _)|(with_reducible refine Kd.fI ?_)|exact b4.out))|(with_reducible refine Kd.eU ?_ _)|(with_reducible refine Kd.eV ?_ _)|(with_reducible refine Kd.fI ?_)))
 rintro e dF ⟨rfl,hb⟩;have bT:=(hb.cell (World.block_lt_of_cell? _ _ (hHeld))).trans (hHeld);refine⟨_,rfl,?_⟩;replace b3:=qM b3 hb;replace b4:=am (Kd.da (by repeat(first|(with_reducible exact b4.out)|(with_reducible refine Kd.eU ?_ _)|(with_reducible refine Kd.eV ?_ _)|(with_reducible refine Kd.fI ?_)|exact b4.out)) hb);replace HB:=hB HB hb;refine eY hK 26 (bT) (fun hHeld=> ?_);clear hK K;refine bx 8 2 ax ?_;refine bx 9 3 ax ?_;refine bx 10 4 ax ?_;refine lY ax ?_
 try go_wp2
 go_ret3
 exact⟨by first|rfl|(simp[eC,eD]<;>rfl)|(simp only[←b5];first|rfl|(simp[eC,eD]<;>rfl))|(simp[*,eC,eD]<;>rfl),oB⟩

def fj.l0:Nat→Int→List ByteArray→Int→Int→List (aZ)→Int→Option (Int×Int)
 |0,_,_,_,_,_,_=>none
 |k+1,x8,b5,b7,b4,b2,b3=>if b4<b7 then(if 0≤b4 then(if b4<(b5.length:Int)then((cO.f k b2 b3 x8).bind fun b1=>(if b1.2.2.2.2.2.2=true then(if b1.2.1=2 then((fb.f k b1.1 b1.2.1 b1.2.2.1 b1.2.2.2.1 b1.2.2.2.2.1 b1.2.2.2.2.2.1 (iZ ByteArray.empty b5 b4)).bind fun b6=>(if b6=0 then(some (0,2))else(fj.l0 k b6 b5 b7 (wrap64 (b4+1)) b2 b3)))else(some (0,3)))else(some (0,2))))else(none))else(none))else(some (x8,0))
def fj.f (k:Nat) (ag:List (aZ)) (ak:Int) (a1:ByteArray):Option (Int×Int):=(d_.f k a1).bind fun b1=>(if b1.2=true then(fj.l0 k 1 b1.1 (b1.1.length:Int) 0 ag ak)else(some (0,1)))
theorem fj.calls (k:Nat) (bl:Option Addr) (aW:Nat) (ag:List (aZ)) (ak:Int) (a1:ByteArray) (r1:Int) (r2:Int) (w:World) (cg:Kd.C fv w bl ag.length ag) (ch:ag.length≤aW) (h:fj.f k ag ak a1=some (r1,r2)) (hG:zc w:=by exact gk_ oB (by first|(with_reducible assumption)|assumption)):
  Calls Tryz.prog 90 #[.agg #[.slice bl ag.length aW,.int .i64 ak],.string a1] w fun e w'=>e= .returned (.tuple #[.int .i64 r1,.int .i64 r2])∧Below w.heap.size w w':=by
 have HG:=ae.mk hG;clear hG;have gP:=Tryz.underlying28;have gQ:=Tryz.underlying58;have bP:=ae.mk cg;have bQ:=ae.mk ch;clear cg ch;have HB:=am (Below.refl w.heap.size w);unfold fj.f at h;have H:=h;clear h;replace H:=bA H;obtain⟨⟨bC,gR⟩,A3,H⟩:=H
 try dsimp only at H
 replace H:=ll H;rcases H with⟨rfl,H⟩|⟨rfl,H⟩;rotate_left
 ·simp only[Option.some.injEq,Prod.mk.injEq]at H;obtain⟨rfl,rfl⟩:=H
  go_enter Tryz.func90,Tryz.ntmps90
  go_wp2_with (first|((with_reducible refine aj (N:=2) rfl ?_);refine dp 2 #[.slice bl ag.length aW,.int .i64 ak] 28 ?_;intro d3 hg j7 hbox hb;have b1:=am (hbox);have d5:=dn hg;replace HB:=hB HB hb;clear hb hbox hg)|((with_reducible refine ai (f:=88) rfl ?_);refine eL 15 Tryz.func88 (d_.calls k a1 bC false _ A3.out) ?_;rintro e j8 ⟨dC,rfl,bD,hb⟩;refine⟨_,rfl,?_⟩;have bT:=am (Kd.nD bD (ah oB));replace b1:=bj b1 hb;replace HB:=hB HB hb))
  go_ret2
  exact⟨oE,oB⟩
 have H':=ae.mk H;clear H
 go_enter Tryz.func90,Tryz.ntmps90
 go_wp2_with (first|((with_reducible refine aj (N:=2) rfl ?_);refine dp 2 #[.slice bl ag.length aW,.int .i64 ak] 28 ?_;intro d3 hg w5 hbox hb;have b1:=am (hbox);have d5:=dn hg;replace HB:=hB HB hb;clear hb hbox hg)|((with_reducible refine ai (f:=88) rfl ?_);refine eL 15 Tryz.func88 (d_.calls k a1 bC true _ A3.out) ?_;rintro e w6 ⟨dC,rfl,bD,hb⟩;refine⟨_,rfl,?_⟩;have bT:=am (Kd.nD bD (ah oB));replace b1:=bj b1 hb;replace HB:=hB HB hb;obtain⟨gC,gD,gE,_⟩:=Kd.pJ bT.out;subst gE))
 go_loopg [8,22] k (fun kq v8 gF w'=>∃(bM:Int) (b7:Int),v8= .int .i64 bM∧gF= .int .i64 b7∧ae (fj.l0 kq bM bC (bC.length:Int) b7 ag ak=some (r1,r2))∧ae (kq≤k)∧ae (Kd.Q Kd.string 9 w' w.heap.size (fun _=>True) (.slice gC bC.length gD) bC)∧ae (w'.heap[d3]? =some (.cells #[(.slice bl ag.length aW),.int .i64 ak] 28 (0,0)))∧ae (Below w.heap.size w w'))
 case atStart=>exact⟨(1),(0),oS,oS,H',⟨Nat.le_refl _⟩,⟨by(with_reducible repeat(first|apply Kd.iC|apply Kd.iD|apply Kd.ju));exact bT.out⟩,⟨oF b1⟩,⟨oB⟩⟩
 case round=>
  clear H';obtain⟨bM,b7,rfl,rfl,HA,dA,b2,b1,HB⟩:=hrel
  cases gk with
  |zero=>exact absurd HA.out (by simp[fj.l0])
  |succ k1=>
   have H:=HA.out;clear HA;simp only[fj.l0]at H;replace H:=jd H;rcases H with⟨dD,H⟩|⟨dD,H⟩;rotate_left
   ·simp only[Option.some.injEq,Prod.mk.injEq]at H;obtain⟨rfl,rfl⟩:=H
    go_wp2
    go_ret2
    exact⟨oE,oB⟩
   obtain⟨gS,H⟩:=cX H;obtain⟨gG,H⟩:=cX H;replace H:=bA H;obtain⟨⟨bE,bB,bF,bG,bH,bI,gT⟩,d4,H⟩:=H
   try dsimp only at H
   replace H:=ll H;rcases H with⟨rfl,H⟩|⟨rfl,H⟩;rotate_left
   ·simp only[Option.some.injEq,Prod.mk.injEq]at H;obtain⟨rfl,rfl⟩:=H;have bX:(0≤(b7:Int))=True:=oT;have bY:(b7<(bC.length:Int))=True:=oT;obtain⟨bU,bN,bO⟩:=Kd.eX (Kd.kJ b2.out).2.2 b7 oa oa
    cases bN
    obtain⟨⟨_,_⟩,_,_⟩:=z2 b1
    go_wp2_with (first|((with_reducible refine ai (f:=91) rfl ?_);refine eL 29 Tryz.func91 (cO.calls k1 _ _ ag ak bM bE bB bF bG bH bI false _ (kC bP) bQ.out d4.out) ?_;rintro e j9 ⟨bZ,d1,d2,rfl,bD,bJ,bK,hb⟩;refine⟨_,rfl,?_⟩;have b4:=am (Kd.ar bD (ah oB));have b5:=am (Kd.ar bJ (ah oB));have b6:=am (Kd.ar bK (ah oB));replace b2:=qM b2 hb;replace b1:=bj b1 hb;replace HB:=hB HB hb;(try clear bJ);(try clear bK))|((with_reducible refine aj (N:=11) rfl ?_);refine dp 11 #[.int .i64 0,.int .i64 0,.int .i64 0,.slice none 0 0,.slice none 0 0,.slice none 0 0] 58 ?_;intro bV hg jA hbox hb;have b3:=am (hbox);have bW:=dn hg;have b8:=eN hg b1;have b9:=eO hg b1;replace b2:=qM b2 hb;replace b4:=ga b4 hb;replace b5:=ga b5 hb;replace b6:=ga b6 hb;replace b1:=bj b1 hb;replace HB:=hB HB hb;clear hb hbox hg;have gH:=b9.out;have gI:=b8.out;obtain⟨⟨_,_,_,_,_,_⟩,_,_,_,_,_,_⟩:=z6 b3;obtain⟨gU,gV,dE⟩:=Kd.aw b4.out;subst dE;obtain⟨gW,gX,dF⟩:=Kd.aw b5.out;subst dF;obtain⟨gY,gZ,dG⟩:=Kd.aw b6.out;subst dG))
    go_ret2
    exact⟨oE,oB⟩
   by_cases bR:bB=2
   rotate_left
   ·rw[if_neg bR]at H;have d6:(bB==2)=false:=beq_eq_false_iff_ne.mpr bR;have d7:(bB !=2)=true:=bne_iff_ne.mpr bR;simp only[Option.some.injEq,Prod.mk.injEq]at H;obtain⟨rfl,rfl⟩:=H;have bX:(0≤(b7:Int))=True:=oT;have bY:(b7<(bC.length:Int))=True:=oT;obtain⟨bU,bN,bO⟩:=Kd.eX (Kd.kJ b2.out).2.2 b7 oa oa
    cases bN
    obtain⟨⟨_,_⟩,_,_⟩:=z2 b1
    go_wp2_with (first|((with_reducible refine ai (f:=91) rfl ?_);refine eL 29 Tryz.func91 (cO.calls k1 _ _ ag ak bM bE bB bF bG bH bI true _ (kC bP) bQ.out d4.out) ?_;rintro e jB ⟨bZ,d1,d2,rfl,bD,bJ,bK,hb⟩;refine⟨_,rfl,?_⟩;have b4:=am (Kd.ar bD (ah oB));have b5:=am (Kd.ar bJ (ah oB));have b6:=am (Kd.ar bK (ah oB));replace b2:=qM b2 hb;replace b1:=bj b1 hb;replace HB:=hB HB hb;(try clear bJ);(try clear bK))|((with_reducible refine aj (N:=11) rfl ?_);refine dp 11 #[.int .i64 0,.int .i64 0,.int .i64 0,.slice none 0 0,.slice none 0 0,.slice none 0 0] 58 ?_;intro bV hg jC hbox hb;have b3:=am (hbox);have bW:=dn hg;have b8:=eN hg b1;have b9:=eO hg b1;replace b2:=qM b2 hb;replace b4:=ga b4 hb;replace b5:=ga b5 hb;replace b6:=ga b6 hb;replace b1:=bj b1 hb;replace HB:=hB HB hb;clear hb hbox hg;have gJ:=b9.out;have gK:=b8.out;obtain⟨⟨_,_,_,_,_,_⟩,_,_,_,_,_,_⟩:=z6 b3;obtain⟨j1,j2,dH⟩:=Kd.aw b4.out;subst dH;obtain⟨j3,j4,dI⟩:=Kd.aw b5.out;subst dI;obtain⟨j5,j6,dJ⟩:=Kd.aw b6.out;subst dJ))
    go_ret2
    exact⟨oE,oB⟩
   rw[if_pos bR]at H;have d6:(bB==2)=true:=beq_iff_eq.mpr bR;have d7:(bB !=2)=false:=bne_eq_false_iff_eq.mpr bR;clear bR;replace H:=bA H;obtain⟨bL,dB,H⟩:=H
   try dsimp only at H
   by_cases bS:bL=0
   ·rw[if_pos bS]at H;have d8:(bL==0)=true:=beq_iff_eq.mpr bS;have d9:(bL !=0)=false:=bne_eq_false_iff_eq.mpr bS;clear bS;simp only[Option.some.injEq,Prod.mk.injEq]at H;obtain⟨rfl,rfl⟩:=H;have bX:(0≤(b7:Int))=True:=oT;have bY:(b7<(bC.length:Int))=True:=oT;obtain⟨bU,bN,bO⟩:=Kd.eX (Kd.kJ b2.out).2.2 b7 oa oa
    cases bN
    obtain⟨⟨_,_⟩,_,_⟩:=z2 b1
    go_wp2_with (first|((with_reducible refine ai (f:=91) rfl ?_);refine eL 29 Tryz.func91 (cO.calls k1 _ _ ag ak bM bE bB bF bG bH bI true _ (kC bP) bQ.out d4.out) ?_;rintro e jD ⟨bZ,d1,d2,rfl,bD,bJ,bK,hb⟩;refine⟨_,rfl,?_⟩;have b4:=am (Kd.ar bD (ah oB));have b5:=am (Kd.ar bJ (ah oB));have b6:=am (Kd.ar bK (ah oB));replace b2:=qM b2 hb;replace b1:=bj b1 hb;replace HB:=hB HB hb;(try clear bJ);(try clear bK))|((with_reducible refine aj (N:=11) rfl ?_);refine dp 11 #[.int .i64 0,.int .i64 0,.int .i64 0,.slice none 0 0,.slice none 0 0,.slice none 0 0] 58 ?_;intro bV hg jE hbox hb;have b3:=am (hbox);have bW:=dn hg;have b8:=eN hg b1;have b9:=eO hg b1;replace b2:=qM b2 hb;replace b4:=ga b4 hb;replace b5:=ga b5 hb;replace b6:=ga b6 hb;replace b1:=bj b1 hb;replace HB:=hB HB hb;clear hb hbox hg;have gL:=b9.out;have gM:=b8.out;obtain⟨⟨_,_,_,_,_,_⟩,_,_,_,_,_,_⟩:=z6 b3;obtain⟨dK,dL,dM⟩:=Kd.aw b4.out;subst dM;obtain⟨dN,dO,dP⟩:=Kd.aw b5.out;subst dP;obtain⟨dQ,dR,dS⟩:=Kd.aw b6.out;subst dS)|((with_reducible refine ai (f:=57) rfl ?_);refine eL 41 Tryz.func57 (fb.calls k1 bE bB bF _ _ bG _ _ bH _ _ bI (iZ ByteArray.empty bC b7) bL _ (rh b4 b3) (ko b4) (rh b5 b3) (ko b5) (rh b6 b3) (ko b6) dB.out) ?_;rintro e jF ⟨rfl,hb⟩;refine⟨_,rfl,?_⟩;replace b2:=acR b2 b3 hb;replace b4:=ky b4 b3 hb;replace b5:=ky b5 b3 hb;replace b6:=ky b6 b3 hb;replace b1:=bj b1 hb;replace b3:=rg #[.int .i64 bE,.int .i64 bB,.int .i64 bF,.slice dK bG.length dL,.slice dN bH.length dO,.slice dQ bI.length dR] b3 hb;replace HB:=hB HB hb;(try clear hk)))
    go_ret2
    exact⟨oE,oB⟩
   rw[if_neg bS]at H;have d8:(bL==0)=false:=beq_eq_false_iff_ne.mpr bS;have d9:(bL !=0)=true:=bne_iff_ne.mpr bS;have H':=ae.mk H;clear H;have bX:(0≤(b7:Int))=True:=oT;have bY:(b7<(bC.length:Int))=True:=oT;obtain⟨bU,bN,bO⟩:=Kd.eX (Kd.kJ b2.out).2.2 b7 oa oa
   cases bN
   obtain⟨⟨_,_⟩,_,_⟩:=z2 b1
   go_wp2_with (first|((with_reducible refine ai (f:=91) rfl ?_);refine eL 29 Tryz.func91 (cO.calls k1 _ _ ag ak bM bE bB bF bG bH bI true _ (kC bP) bQ.out d4.out) ?_;rintro e jG ⟨bZ,d1,d2,rfl,bD,bJ,bK,hb⟩;refine⟨_,rfl,?_⟩;have b4:=am (Kd.ar bD (ah oB));have b5:=am (Kd.ar bJ (ah oB));have b6:=am (Kd.ar bK (ah oB));replace b2:=qM b2 hb;replace b1:=bj b1 hb;replace HB:=hB HB hb;(try clear bJ);(try clear bK))|((with_reducible refine aj (N:=11) rfl ?_);refine dp 11 #[.int .i64 0,.int .i64 0,.int .i64 0,.slice none 0 0,.slice none 0 0,.slice none 0 0] 58 ?_;intro bV hg jH hbox hb;have b3:=am (hbox);have bW:=dn hg;have b8:=eN hg b1;have b9:=eO hg b1;replace b2:=qM b2 hb;replace b4:=ga b4 hb;replace b5:=ga b5 hb;replace b6:=ga b6 hb;replace b1:=bj b1 hb;replace HB:=hB HB hb;clear hb hbox hg;have gN:=b9.out;have gO:=b8.out;obtain⟨⟨_,_,_,_,_,_⟩,_,_,_,_,_,_⟩:=z6 b3;obtain⟨dT,dU,dV⟩:=Kd.aw b4.out;subst dV;obtain⟨dW,dX,dY⟩:=Kd.aw b5.out;subst dY;obtain⟨dZ,gA,gB⟩:=Kd.aw b6.out;subst gB)|((with_reducible refine ai (f:=57) rfl ?_);refine eL 41 Tryz.func57 (fb.calls k1 bE bB bF _ _ bG _ _ bH _ _ bI (iZ ByteArray.empty bC b7) bL _ (rh b4 b3) (ko b4) (rh b5 b3) (ko b5) (rh b6 b3) (ko b6) dB.out) ?_;rintro e jI ⟨rfl,hb⟩;refine⟨_,rfl,?_⟩;replace b2:=acR b2 b3 hb;replace b4:=ky b4 b3 hb;replace b5:=ky b5 b3 hb;replace b6:=ky b6 b3 hb;replace b1:=bj b1 hb;replace b3:=rg #[.int .i64 bE,.int .i64 bB,.int .i64 bF,.slice dT bG.length dU,.slice dW bH.length dX,.slice dZ bI.length gA] b3 hb;replace HB:=hB HB hb;(try clear hk)))
   go_roundg k1
   case measure=>have:=dA.out;omega
   case rel=>exact⟨(bL),(wrap64 (b7+1)),oS,oS,H',⟨by have:=dA.out;omega⟩,⟨by(with_reducible repeat(first|apply Kd.iC|apply Kd.iD|apply Kd.ju));exact b2.out⟩,⟨oF b1⟩,⟨oB⟩⟩
end Go.Proofs.YtlecajlnjmbilaaGreatDoor.P
