-- Printed walks.
import Derived.Test.YtlecajlnjmbilaaGreatDoorPx4
import Derived.Test.YtlecajlnjmbilaaGreatDoorPx5
set_option linter.all false
set_option maxHeartbeats 8000000
set_option maxRecDepth 100000
namespace Go.Proofs.YtlecajlnjmbilaaGreatDoor.P
open Go.RowKit Go.Proofs.ab.ao Go.Proofs.ab.aE Go.Proofs.ab.aI
attribute [local go_sem] fV fW im iq fh fi fX fY

mutual
def ay.l0:Nat→List Int→List Int→Int→List (aZ)→Int→Option (List Int)
 |0,_,_,_,_,_=>none
 |k+1,x1,x5,x6,b2,b3=>if x6<(x1.length:Int)then(if 0≤x6 then((fJ.f k b2 b3 (rd x1 x6)).bind fun b1=>(ay.l1 k x1 x5 x6 b1.2.2.2.2.2.2 0 b2 b3 b1.1 b1.2.1 b1.2.2.1 b1.2.2.2.1 b1.2.2.2.2.1 b1.2.2.2.2.2.1))else(none))else(some x5)
def ay.l1:Nat→List Int→List Int→Int→Bool→Int→List (aZ)→Int→Int→Int→Int→List Int→List (db)→List (ey)→Option (List Int)
 |0,_,_,_,_,_,_,_,_,_,_,_,_,_=>none
 |k+1,x1,x5,x6,x8,x9,b3,b4,b5,b1,b6,b7,b2,b8=>if x9<(b2.length:Int)then(if x8=true then(ay.j2 k x1 x5 x6 x8 x9 (b1==2) b3 b4 b5 b1 b6 b7 b2 b8)else(ay.j2 k x1 x5 x6 x8 x9 false b3 b4 b5 b1 b6 b7 b2 b8))else(ay.j2 k x1 x5 x6 x8 x9 false b3 b4 b5 b1 b6 b7 b2 b8)
def ay.j2:Nat→List Int→List Int→Int→Bool→Int→Bool→List (aZ)→Int→Int→Int→Int→List Int→List (db)→List (ey)→Option (List Int)
 |0,_,_,_,_,_,_,_,_,_,_,_,_,_,_=>none
 |k+1,x1,x5,x6,x8,x9,bC,b2,b3,b4,b5,b6,b7,b1,b8=>if bC=true then(if 0≤x9 then(if x9<(b1.length:Int)then((cF.f k b2 b3 ((al b1 x9).f1)).bind fun b9=>(if b9≥0 then((di.f k x5 ((al b1 x9).f1)).bind fun bB=>(ay.l1 k x1 bB x6 x8 (wrap64 (x9+1)) b2 b3 b4 b5 b6 b7 b1 b8))else(ay.l1 k x1 x5 x6 x8 (wrap64 (x9+1)) b2 b3 b4 b5 b6 b7 b1 b8)))else(none))else(none))else(ay.l0 k x1 x5 (wrap64 (x6+1)) b2 b3)
end
def ay.f (k:Nat) (ag:List (aZ)) (ak:Int) (l1:List Int):Option (List Int):=ay.l0 k l1 l1 0 ag ak
def ay.T5:Bool×List (List Nat×List Nat):=(true,[([],[]),([],[]),([],[]),([1,2],[1,2]),([3],[3]),([0,4],[0,4]),([5],[5]),([6],[6]),([6],[6]),([],[]),([9,7,5,0,1,2,3,4,5,6,7,9],[7,9]),([8,10,0,1,2,3,4,5,6,7,8,9,10],[8])])
def ay.B5:List Nat:=[0,0,0,6,14,31,63,127,127,0,767,2047]
theorem ay.wB:gy .any (opsOf Tryz.f117 5)=ay.T5:=by kernel_rfl
theorem ay.rN:eR ay.T5.2 ay.B5=true:=by kernel_rfl
def ay.T9:Bool×List (List Nat×List Nat):=(true,[([],[]),([],[]),([1],[1]),([],[]),([2,3],[2,3]),([4],[4]),([5],[5]),([0,6],[0,6]),([7],[7])])
def ay.B9:List Nat:=[0,0,2,0,14,30,62,127,255]
theorem ay.aaU:gy .any (opsOf Tryz.f117 9)=ay.T9:=by kernel_rfl
theorem ay.uW:eR ay.T9.2 ay.B9=true:=by kernel_rfl
theorem ay.calls (k:Nat) (bl:Option Addr) (aW:Nat) (ag:List (aZ)) (ak:Int) (A1:Option Addr) (c1:Nat) (l1:List Int) (r:List Int) (b0:Nat) (w:World) (hb0:b0≤w.heap.size) (cg:Kd.C fv w bl ag.length ag) (ch:ag.length≤aW) (ho1:Kd.R (Kd.int .i64) 3 w b0 (fun _=>True) (.slice A1 l1.length c1) l1) (h:ay.f k ag ak l1=some r):
  Calls Tryz.prog 117 #[.agg #[.slice bl ag.length aW,.int .i64 ak],.slice A1 l1.length c1] w fun e w'=>∃iY:Value,e= .returned (iY)∧Kd.R (Kd.int .i64) 3 w' b0 (fun _=>True) iY r∧Below w.heap.size w w':=by
 have b19:=Tryz.underlying28;have b1A:=Tryz.underlying58;have dO:=ae.mk cg;have dP:=ae.mk ch;clear cg ch;have zM:=am (Kd.bm ho1).2.2;have HC1:=am (Kd.bm ho1).2.1;have mF:=ae.mk ho1;have zN:=ae.mk hb0;clear ho1 hb0;have HB:=am (Below.refl w.heap.size w);have H:(ay.l0 k l1 l1 0 ag ak)=some r:=h;clear h;have H':=ae.mk H;clear H
 go_enter Tryz.func117,Tryz.ntmps117
 go_wp2_with (first|((with_reducible refine aj (N:=2) rfl ?_);refine sO ?hg (N:=2) ?hd (cs:= #[.slice bl ag.length aW,.int .i64 ak]) (t:=28) ?hr ?_;(case hd=>rfl);(case hg=>rfl);(case hr=>first|(go_simp;done)|(go_simp;rfl));intro bD hg w3 hbox hb;have bI:=hB HB hb;have bJ:=am (hbox);have bK:=am ((by rw[hg];exact(ah oB):w.heap.size≤bD));have bP:=am ((by rw[hg];exact(ah oB):w.heap.size≤bD));clear HB;have HB:=bI;have b3:=bJ;have zS:=bK;have bE:=bP;clear bI bJ bK bP;have jW:=am (Kd.fT mF.out hb);clear hb hbox hg))
 go_loopg [5,6] k (fun kq v5 v6 w'=>∃(dE:List Int) (bH:Int),v6= .int .i64 bH∧ae (ay.l0 kq l1 dE bH ag ak=some r)∧ae (kq≤k)∧ae (Kd.R (Kd.int .i64) 3 w' b0 (fun _=>True) v5 dE)∧ae (w'.heap[bD]? =some (.cells #[(.slice bl ag.length aW),.int .i64 ak] 28 (0,0)))∧ae (Below w.heap.size w w'))
 case atStart=>exact⟨(l1),(0),oS,H',⟨Nat.le_refl _⟩,⟨by(with_reducible repeat(first|apply Kd.cz|apply Kd.cA|apply Kd.cu));exact jW.out⟩,⟨oF b3⟩,⟨by repeat(first|(with_reducible first|exact HB.out|apply aK|apply aQ|apply au|refine aN ?_ bE.out)|exact HB.out)⟩⟩
 case round=>
  clear H'
  try clear c1
  try clear p2
  obtain⟨dE,bH,rfl,HA,dJ,b8,b3,HB⟩:=hrel
  cases gk with
  |zero=>exact absurd HA.out (by simp[ay.l0])
  |succ k1=>
   have H:=HA.out;clear HA;simp only[ay.l0]at H
   by_cases c6:bH<(l1.length:Int)
   rotate_left
   ·rw[if_neg c6]at H;have gG:decide (bH<(l1.length:Int))=false:=decide_eq_false c6;clear c6;obtain rfl:=Option.some.inj H
    go_wp2
    go_ret
    exact⟨_,oE,by(with_reducible repeat(first|apply Kd.cz|apply Kd.cA|apply Kd.cu));exact b8.out,by repeat(first|(with_reducible first|exact HB.out|apply aK|apply aQ|apply au|refine aN ?_ bE.out)|exact HB.out)⟩
   rw[if_pos c6]at H;have gG:decide (bH<(l1.length:Int))=true:=decide_eq_true c6;clear c6;obtain⟨c7,H⟩:=lp H;have jP:decide (0≤bH)=true:=decide_eq_true c7;clear c7;replace H:=Option.bind_eq_some_iff.mp H;obtain⟨⟨bQ,bO,bR,bL,bB,bM,bW⟩,m1,H⟩:=H;replace H:(ay.l1 k1 l1 dE bH bW 0 ag ak bQ bO bR bL bB bM)=some r:=H;have A8:=ae.mk m1;clear m1;have H':=ae.mk H;clear H
   try go_wp2
   have bI:=am (Kd.cu b8.out);have bJ:=am (av b3.out);have bK:=am (au HB.out);clear b8;clear b3;clear HB;have b8:=bI;have b3:=bJ;have HB:=bK;clear bI bJ bK;have dQ:0≤(bH:Int):=oa;have dR:bH<(l1.length:Int):=oa;obtain⟨dZ,mG,bY⟩:=Kd.kB zM.out bH dQ dR;have bC:=bY
   cases mG
   replace bY:=(HB.out.cell (World.block_lt_of_cell? w _ bY)).trans bY;replace dQ:=eq_true dQ;replace dR:=eq_true dR;refine mn 12 (fun w'=>w'.cell? ⟨bD,0,none⟩=some (.slice bl ag.length aW)∧w'.cell? ⟨bD,1,none⟩=some (.int .i64 ak)∧w'.cell? (dZ.add (bH).toNat)=some (.int .i64 (rd l1 bH))) ay.wB ay.rN oH (fun hHeld ax eF=> ?_);generalize wr.drew=w9 at b8 b3 HB bY hHeld⊢;refine bx 1 19 ax ?_;refine bx 2 20 ax ?_;refine bx 3 21 ax ?_;refine fS 0 18 ax eF hHeld ?_;refine fS 4 22 ax eF hHeld ?_;refine adR (σ:=Value×Value×Value×Nat) 2 (lb 12 1023) (fun s_=>[(23,.tuple #[.agg #[.int .i64 bQ,.int .i64 bO,.int .i64 bR,s_.1,s_.2.1,s_.2.2.1],.bool bW]),(7,.pointer (some ⟨s_.2.2.2,0,none⟩)),(17,.tuple #[.agg #[.int .i64 bQ,.int .i64 bO,.int .i64 bR,s_.1,s_.2.1,s_.2.2.1],.bool bW]),(24,.agg #[.int .i64 bQ,.int .i64 bO,.int .i64 bR,s_.1,s_.2.1,s_.2.2.1]),(25,.bool bW)]) (fun s_ w'=>(w'.cell? ⟨bD,0,none⟩=some (.slice bl ag.length aW)∧w'.cell? ⟨bD,1,none⟩=some (.int .i64 ak)∧w'.cell? (dZ.add (bH).toNat)=some (.int .i64 (rd l1 bH)))∧(Kd.R (Kd.int .u8) 5 w' w.heap.size (fun _=>True) s_.1 bL)∧(Kd.R iA 75 w' w.heap.size (fun _=>True) s_.2.1 bB)∧(Kd.R jr 82 w' w.heap.size (fun _=>True) s_.2.2.1 bM)∧(Kd.R (Kd.int .i64) 3 w' b0 (fun _=>True) u5 dE)∧(w'.heap[bD]? =some (.cells #[.slice bl ag.length aW,.int .i64 ak] 28 (0,0)))∧(w'.heap[s_.2.2.2]? =some (.cells #[.int .i64 0,.int .i64 0,.int .i64 0,.slice none 0 0,.slice none 0 0,.slice none 0 0] 58 (0,0)))∧(w.heap.size≤s_.2.2.2)∧(w.heap.size≤s_.2.2.2)∧(bD≠s_.2.2.2)∧(s_.2.2.2≠bD)∧(Below w.heap.size w w')) ?_ ?_;rotate_left
   ·intro acA;refine aev (i:=5) (j:=9) (Ni:=some 23) (Nj:=some 7) (lb 12 63) (lb 12 543) rfl rfl rfl rfl (ac8 ax.out (by kernel_rfl)) (by decide) (by decide) (fun K hK=> ?_) (fun K hK=> ?_)
    ·skip
     refine uD Tryz.func85 (by kernel_rfl) rfl #[.agg #[.slice bl ag.length aW,.int .i64 ak],.int .i64 (rd l1 bH)] (by rfl) rfl rfl oL ?_
     with_reducible refine(fJ.calls k1 _ _ ag ak (rd l1 bH) bQ bO bR bL bB bM bW _ ?eH ?me A8.out).mono ?_
     (case eH=>repeat(first|exact(Kd.da dO.out HB.out)|(with_reducible refine Kd.eU ?_ _)|(with_reducible refine Kd.eV ?_ _)|(with_reducible refine Kd.fI ?_)))
     (case me=>exact dP.out)
     rintro e zO ⟨dS,dT,dU,rfl,dN,ho1,gA,hb⟩;refine⟨_,rfl,?_⟩;have bI:=ny b8 hb;have bJ:=am (Kd.ar dN (ah (by repeat(first|(with_reducible first|exact HB.out|apply aK|apply aQ|apply au|refine aN ?_ bE.out)|exact HB.out))));have bK:=am (Kd.ar ho1 (ah (by repeat(first|(with_reducible first|exact HB.out|apply aK|apply aQ|apply au|refine aN ?_ bE.out)|exact HB.out))));have bP:=am (Kd.ar gA (ah (by repeat(first|(with_reducible first|exact HB.out|apply aK|apply aQ|apply au|refine aN ?_ bE.out)|exact HB.out))));have bS:=bj b3 hb;have bT:=am (fG (by repeat(first|(with_reducible first|exact HB.out|apply aK|apply aQ|apply au|refine aN ?_ bE.out)|exact HB.out)) hb);clear b8;clear b3;clear HB;have b8:=bI;have d1:=bJ;have d2:=bK;have d3:=bP;have b3:=bS;have HB:=bT;clear bI bJ bK bP bS bT
     (try clear hb)
     (try clear hb2)
     (try clear hk)
     (try clear hi)
     (try clear dN)
     (try clear ho1)
     (try clear gA)
     refine eY hK 23 oH (fun hHeld=> ?_);clear hK K;refine bx 6 17 ax ?_;refine bx 7 24 ax ?_;refine bx 8 25 ax ?_;refine kM 9 7 ax (fun K hK=> ?_);refine uL ?hg (N:=7) ?hd (cs:= #[.int .i64 0,.int .i64 0,.int .i64 0,.slice none 0 0,.slice none 0 0,.slice none 0 0]) (t:=58) ?hr ?_;(case hd=>rfl);(case hg=>rfl);(case hr=>first|(go_simp;done)|(go_simp;rfl));intro b2 hg zP hbox hb;have bI:=ny b8 hb;have bJ:=ny d1 hb;have bK:=ny d2 hb;have bP:=ny d3 hb;have bS:=bj b3 hb;have bT:=am (fG (by repeat(first|(with_reducible first|exact HB.out|apply aK|apply aQ|apply au|refine aN ?_ bE.out)|exact HB.out)) hb);have bU:=am (hbox);have dB:=am ((by rw[hg];exact(ah (by repeat(first|(with_reducible first|exact HB.out|apply aK|apply aQ|apply au|refine aN ?_ bE.out)|exact HB.out))):w.heap.size≤b2));have gB:=am ((by rw[hg];exact(ah (by repeat(first|(with_reducible first|exact HB.out|apply aK|apply aQ|apply au|refine aN ?_ bE.out)|exact HB.out))):w.heap.size≤b2));have gC:=am ((by rw[hg];exact Nat.ne_of_lt (iU (g:=bD) (o:= .cells #[.slice bl ag.length aW,.int .i64 ak] 28 (0,0)) (oF b3)):bD≠b2));have dV:=am ((by rw[hg];exact Nat.ne_of_gt (iU (g:=bD) (o:= .cells #[.slice bl ag.length aW,.int .i64 ak] 28 (0,0)) (oF b3)):b2≠bD));clear b8;clear d1;clear d2;clear d3;clear b3;clear HB;have b8:=bI;have d1:=bJ;have d2:=bK;have d3:=bP;have b3:=bS;have HB:=bT;have b1:=bU;have bF:=dB;have bN:=gB;have b4:=gC;have bG:=dV;clear bI bJ bK bP bS bT bU dB gB gC dV;clear hb hbox hg;refine eY hK 7 oH (fun hHeld=> ?_);clear hK K;exact aaC (by simp only[qg,Act.put,List.setIfInBounds_toArray,List.set_cons_zero,List.set_cons_succ]) (acA (dS,dT,dU,b2) _ ⟨hHeld,(vV d1),(vV d2),(vV d3),(vV b8),(oF b3),(oF b1),bF.out,bN.out,b4.out,bG.out,(by repeat(first|(with_reducible first|exact HB.out|apply aK|apply aQ|apply au|refine aN ?_ bE.out|refine aN ?_ bN.out)|exact HB.out))⟩)
    ·skip
     refine uL ?hg (N:=7) ?hd (cs:= #[.int .i64 0,.int .i64 0,.int .i64 0,.slice none 0 0,.slice none 0 0,.slice none 0 0]) (t:=58) ?hr ?_;(case hd=>rfl);(case hg=>rfl);(case hr=>first|(go_simp;done)|(go_simp;rfl));intro b2 hg zO hbox hb;have bI:=ny b8 hb;have bJ:=bj b3 hb;have bK:=am (fG (by repeat(first|(with_reducible first|exact HB.out|apply aK|apply aQ|apply au|refine aN ?_ bE.out)|exact HB.out)) hb);have bP:=am (hbox);have bS:=am ((by rw[hg];exact(ah (by repeat(first|(with_reducible first|exact HB.out|apply aK|apply aQ|apply au|refine aN ?_ bE.out)|exact HB.out))):w.heap.size≤b2));have bT:=am ((by rw[hg];exact(ah (by repeat(first|(with_reducible first|exact HB.out|apply aK|apply aQ|apply au|refine aN ?_ bE.out)|exact HB.out))):w.heap.size≤b2));have bU:=am ((by rw[hg];exact Nat.ne_of_lt (iU (g:=bD) (o:= .cells #[.slice bl ag.length aW,.int .i64 ak] 28 (0,0)) (oF b3)):bD≠b2));have dB:=am ((by rw[hg];exact Nat.ne_of_gt (iU (g:=bD) (o:= .cells #[.slice bl ag.length aW,.int .i64 ak] 28 (0,0)) (oF b3)):b2≠bD));clear b8;clear b3;clear HB;have b8:=bI;have b3:=bJ;have HB:=bK;have b1:=bP;have bF:=bS;have bN:=bT;have b4:=bU;have bG:=dB;clear bI bJ bK bP bS bT bU dB;clear hb hbox hg;refine eY hK 7 oH (fun hHeld=> ?_);clear hK K;refine kM 5 23 ax (fun K hK=> ?_);refine uD Tryz.func85 (by kernel_rfl) rfl #[.agg #[.slice bl ag.length aW,.int .i64 ak],.int .i64 (rd l1 bH)] (by rfl) rfl rfl oL ?_
     with_reducible refine(fJ.calls k1 _ _ ag ak (rd l1 bH) bQ bO bR bL bB bM bW _ ?eH ?me A8.out).mono ?_
     (case eH=>repeat(first|exact(Kd.da dO.out HB.out)|(with_reducible refine Kd.eU ?_ _)|(with_reducible refine Kd.eV ?_ _)|(with_reducible refine Kd.fI ?_)))
     (case me=>exact dP.out)
     rintro e zP ⟨dS,dT,dU,rfl,dN,ho1,gA,hb⟩;refine⟨_,rfl,?_⟩;have bI:=ny b8 hb;have bJ:=am (Kd.ar dN (ah (by repeat(first|(with_reducible first|exact HB.out|apply aK|apply aQ|apply au|refine aN ?_ bE.out|refine aN ?_ bN.out)|exact HB.out))));have bK:=am (Kd.ar ho1 (ah (by repeat(first|(with_reducible first|exact HB.out|apply aK|apply aQ|apply au|refine aN ?_ bE.out|refine aN ?_ bN.out)|exact HB.out))));have bP:=am (Kd.ar gA (ah (by repeat(first|(with_reducible first|exact HB.out|apply aK|apply aQ|apply au|refine aN ?_ bE.out|refine aN ?_ bN.out)|exact HB.out))));have bS:=bj b3 hb;have bT:=bj b1 hb;have bU:=am (fG (by repeat(first|(with_reducible first|exact HB.out|apply aK|apply aQ|apply au|refine aN ?_ bE.out|refine aN ?_ bN.out)|exact HB.out)) hb);clear b8;clear b3;clear b1;clear HB;have b8:=bI;have d1:=bJ;have d2:=bK;have d3:=bP;have b3:=bS;have b1:=bT;have HB:=bU;clear bI bJ bK bP bS bT bU
     (try clear hb)
     (try clear hb2)
     (try clear hk)
     (try clear hi)
     (try clear dN)
     (try clear ho1)
     (try clear gA)
     refine eY hK 23 oH (fun hHeld=> ?_);clear hK K;refine bx 6 17 ax ?_;refine bx 7 24 ax ?_;refine bx 8 25 ax ?_;exact aaC (by simp only[qg,Act.put,List.setIfInBounds_toArray,List.set_cons_zero,List.set_cons_succ]) (acA (dS,dT,dU,b2) _ ⟨hHeld,(vV d1),(vV d2),(vV d3),(vV b8),(oF b3),(oF b1),bF.out,bN.out,b4.out,bG.out,(by repeat(first|(with_reducible first|exact HB.out|apply aK|apply aQ|apply au|refine aN ?_ bE.out|refine aN ?_ bN.out)|exact HB.out))⟩)
   rintro⟨dS,dT,dU,b2⟩ bZ ⟨hS_,m2,m3,m4,m5,m6,m7,m8,m9,mA,mB,jQ⟩;have bI:ae (Kd.R (Kd.int .u8) 5 bZ w.heap.size (fun _=>True) dS bL):=⟨m2⟩;have bJ:ae (Kd.R iA 75 bZ w.heap.size (fun _=>True) dT bB):=⟨m3⟩;have bK:ae (Kd.R jr 82 bZ w.heap.size (fun _=>True) dU bM):=⟨m4⟩;have bP:ae (Kd.R (Kd.int .i64) 3 bZ b0 (fun _=>True) u5 dE):=⟨m5⟩;have bS:ae (bZ.heap[bD]? =some (.cells #[.slice bl ag.length aW,.int .i64 ak] 28 (0,0))):=⟨m6⟩;have bT:ae (bZ.heap[b2]? =some (.cells #[.int .i64 0,.int .i64 0,.int .i64 0,.slice none 0 0,.slice none 0 0,.slice none 0 0] 58 (0,0))):=⟨m7⟩;have bU:ae (w.heap.size≤b2):=⟨m8⟩;have dB:ae (w.heap.size≤b2):=⟨m9⟩;have gB:ae (bD≠b2):=⟨mA⟩;have gC:ae (b2≠bD):=⟨mB⟩;have dV:ae (Below w.heap.size w bZ):=⟨jQ⟩;clear b8;clear b3;clear HB;clear m2 m3 m4 m5 m6 m7 m8 m9 mA mB jQ;have d1:=bI;have d2:=bJ;have d3:=bK;have b8:=bP;have b3:=bS;have b1:=bT;have bF:=bU;have bN:=dB;have b4:=gB;have bG:=gC;have HB:=dV;clear bI bJ bK bP bS bT bU dB gB gC dV;have hHeld:bZ.cell? ⟨bD,0,none⟩=some (.slice bl ag.length aW)∧bZ.cell? ⟨bD,1,none⟩=some (.int .i64 ak)∧bZ.cell? (dZ.add (bH).toNat)=some (.int .i64 (rd l1 bH)):=hS_;obtain⟨d4,d5,jR⟩:=Kd.aw d1.out
   (first|subst jR|(injection jR with jf lB jg;have gD:=jf.symm;have gE:=jg.symm;clear jf lB jg;subst gD;subst gE))
   obtain⟨dF,d6,jS⟩:=Kd.aw d2.out
   (first|subst jS|(injection jS with jf lB jg;have gD:=jf.symm;have gE:=jg.symm;clear jf lB jg;subst gD;subst gE))
   obtain⟨d7,d8,jT⟩:=Kd.aw d3.out
   (first|subst jT|(injection jT with jf lB jg;have gD:=jf.symm;have gE:=jg.symm;clear jf lB jg;subst gD;subst gE))
   refine aaC (a':= ?_) ?_ ?_;rotate_left
   ·simp only[qg,Act.put,List.setIfInBounds_toArray,List.set_cons_zero,List.set_cons_succ]
    rfl
   refine aah (i:=10) (N:=none) (lb 12 2047) rfl rfl (pq ax.out (by kernel_rfl)) (by decide) (fun K hK=> ?_);have b1B:bZ.cell? ⟨b2,0,none⟩=some (.int .i64 0):=(an b1.out 0).trans rfl;have zT:=az b1.out 0;have mL:=b4.out;have mM:=bG.out;have b1C:bZ.cell? ⟨b2,1,none⟩=some (.int .i64 0):=(an b1.out 1).trans rfl;have zU:=az b1.out 1;have mN:=b4.out;have mO:=bG.out;have b1D:bZ.cell? ⟨b2,2,none⟩=some (.int .i64 0):=(an b1.out 2).trans rfl;have zV:=az b1.out 2;have mP:=b4.out;have mQ:=bG.out;have b1E:bZ.cell? ⟨b2,3,none⟩=some (.slice none 0 0):=(an b1.out 3).trans rfl;have zW:=az b1.out 3;have mS:=b4.out;have mT:=bG.out;have b1F:bZ.cell? ⟨b2,4,none⟩=some (.slice none 0 0):=(an b1.out 4).trans rfl;have zX:=az b1.out 4;have mU:=b4.out;have mV:=bG.out;have b1G:bZ.cell? ⟨b2,5,none⟩=some (.slice none 0 0):=(an b1.out 5).trans rfl;have zY:=az b1.out 5;have mW:=b4.out;have mX:=bG.out;refine rC (w1:= ?_) (by rfl) rfl ?_ ?_;rotate_left
   ·go_simp
    rfl
   refine hK.out _ _ ⟨((cell_far (p:=⟨b2,_,none⟩) b4.out _).trans (((cell_far (p:=⟨b2,_,none⟩) b4.out _).trans (((cell_far (p:=⟨b2,_,none⟩) b4.out _).trans (((cell_far (p:=⟨b2,_,none⟩) b4.out _).trans (((cell_far (p:=⟨b2,_,none⟩) b4.out _).trans (((cell_far (p:=⟨b2,_,none⟩) b4.out _).trans (hHeld.1)))))))))))),((cell_far (p:=⟨b2,_,none⟩) b4.out _).trans (((cell_far (p:=⟨b2,_,none⟩) b4.out _).trans (((cell_far (p:=⟨b2,_,none⟩) b4.out _).trans (((cell_far (p:=⟨b2,_,none⟩) b4.out _).trans (((cell_far (p:=⟨b2,_,none⟩) b4.out _).trans (((cell_far (p:=⟨b2,_,none⟩) b4.out _).trans (hHeld.2.1)))))))))))),((cell_far (p:=⟨b2,_,none⟩) (by first|exact Nat.ne_of_lt (Nat.lt_of_lt_of_le (by have:=World.block_lt_of_cell? _ _ bC;first|rwa [add_block]at this|exact this) bF.out)|(rw[add_block];exact Nat.ne_of_lt (Nat.lt_of_lt_of_le (by have:=World.block_lt_of_cell? _ _ bC;first|rwa [add_block]at this|exact this) bF.out))|(show(Addr.add _ _).block≠_;rw[add_block];exact Nat.ne_of_lt (Nat.lt_of_lt_of_le (by have:=World.block_lt_of_cell? _ _ bC;first|rwa [add_block]at this|exact this) bF.out))|(dsimp only;exact Nat.ne_of_lt (Nat.lt_of_lt_of_le (by have:=World.block_lt_of_cell? _ _ bC;first|rwa [add_block]at this|exact this) bF.out))) _).trans (((cell_far (p:=⟨b2,_,none⟩) (by first|exact Nat.ne_of_lt (Nat.lt_of_lt_of_le (by have:=World.block_lt_of_cell? _ _ bC;first|rwa [add_block]at this|exact this) bF.out)|(rw[add_block];exact Nat.ne_of_lt (Nat.lt_of_lt_of_le (by have:=World.block_lt_of_cell? _ _ bC;first|rwa [add_block]at this|exact this) bF.out))|(show(Addr.add _ _).block≠_;rw[add_block];exact Nat.ne_of_lt (Nat.lt_of_lt_of_le (by have:=World.block_lt_of_cell? _ _ bC;first|rwa [add_block]at this|exact this) bF.out))|(dsimp only;exact Nat.ne_of_lt (Nat.lt_of_lt_of_le (by have:=World.block_lt_of_cell? _ _ bC;first|rwa [add_block]at this|exact this) bF.out))) _).trans (((cell_far (p:=⟨b2,_,none⟩) (by first|exact Nat.ne_of_lt (Nat.lt_of_lt_of_le (by have:=World.block_lt_of_cell? _ _ bC;first|rwa [add_block]at this|exact this) bF.out)|(rw[add_block];exact Nat.ne_of_lt (Nat.lt_of_lt_of_le (by have:=World.block_lt_of_cell? _ _ bC;first|rwa [add_block]at this|exact this) bF.out))|(show(Addr.add _ _).block≠_;rw[add_block];exact Nat.ne_of_lt (Nat.lt_of_lt_of_le (by have:=World.block_lt_of_cell? _ _ bC;first|rwa [add_block]at this|exact this) bF.out))|(dsimp only;exact Nat.ne_of_lt (Nat.lt_of_lt_of_le (by have:=World.block_lt_of_cell? _ _ bC;first|rwa [add_block]at this|exact this) bF.out))) _).trans (((cell_far (p:=⟨b2,_,none⟩) (by first|exact Nat.ne_of_lt (Nat.lt_of_lt_of_le (by have:=World.block_lt_of_cell? _ _ bC;first|rwa [add_block]at this|exact this) bF.out)|(rw[add_block];exact Nat.ne_of_lt (Nat.lt_of_lt_of_le (by have:=World.block_lt_of_cell? _ _ bC;first|rwa [add_block]at this|exact this) bF.out))|(show(Addr.add _ _).block≠_;rw[add_block];exact Nat.ne_of_lt (Nat.lt_of_lt_of_le (by have:=World.block_lt_of_cell? _ _ bC;first|rwa [add_block]at this|exact this) bF.out))|(dsimp only;exact Nat.ne_of_lt (Nat.lt_of_lt_of_le (by have:=World.block_lt_of_cell? _ _ bC;first|rwa [add_block]at this|exact this) bF.out))) _).trans (((cell_far (p:=⟨b2,_,none⟩) (by first|exact Nat.ne_of_lt (Nat.lt_of_lt_of_le (by have:=World.block_lt_of_cell? _ _ bC;first|rwa [add_block]at this|exact this) bF.out)|(rw[add_block];exact Nat.ne_of_lt (Nat.lt_of_lt_of_le (by have:=World.block_lt_of_cell? _ _ bC;first|rwa [add_block]at this|exact this) bF.out))|(show(Addr.add _ _).block≠_;rw[add_block];exact Nat.ne_of_lt (Nat.lt_of_lt_of_le (by have:=World.block_lt_of_cell? _ _ bC;first|rwa [add_block]at this|exact this) bF.out))|(dsimp only;exact Nat.ne_of_lt (Nat.lt_of_lt_of_le (by have:=World.block_lt_of_cell? _ _ bC;first|rwa [add_block]at this|exact this) bF.out))) _).trans (((cell_far (p:=⟨b2,_,none⟩) (by first|exact Nat.ne_of_lt (Nat.lt_of_lt_of_le (by have:=World.block_lt_of_cell? _ _ bC;first|rwa [add_block]at this|exact this) bF.out)|(rw[add_block];exact Nat.ne_of_lt (Nat.lt_of_lt_of_le (by have:=World.block_lt_of_cell? _ _ bC;first|rwa [add_block]at this|exact this) bF.out))|(show(Addr.add _ _).block≠_;rw[add_block];exact Nat.ne_of_lt (Nat.lt_of_lt_of_le (by have:=World.block_lt_of_cell? _ _ bC;first|rwa [add_block]at this|exact this) bF.out))|(dsimp only;exact Nat.ne_of_lt (Nat.lt_of_lt_of_le (by have:=World.block_lt_of_cell? _ _ bC;first|rwa [add_block]at this|exact this) bF.out))) _).trans (hHeld.2.2))))))))))))⟩ (fun hHeld=> ?_);clear hK K;refine bx 11 8 ax ?_;refine lY ax ?_
   try go_wp2
   go_loopg [5,9] k1 (fun kq v5 v9 w'=>∃(bV:List Int) (b9:Int),v9= .int .i64 b9∧ae (ay.l1 kq l1 bV bH bW b9 ag ak bQ bO bR bL bB bM=some r)∧ae (kq≤k1)∧ae (Kd.R (Kd.int .i64) 3 w' b0 (fun _=>True) v5 bV)∧ae (Kd.R (Kd.int .u8) 5 w' w.heap.size (fun _=>True) (.slice d4 bL.length d5) bL)∧ae (Kd.R iA 75 w' w.heap.size (fun _=>True) (.slice dF bB.length d6) bB)∧ae (Kd.R jr 82 w' w.heap.size (fun _=>True) (.slice d7 bM.length d8) bM)∧ae (w'.heap[bD]? =some (.cells #[(.slice bl ag.length aW),.int .i64 ak] 28 (0,0)))∧ae (w'.heap[b2]? =some (.cells #[.int .i64 bQ,.int .i64 bO,.int .i64 bR,(.slice d4 bL.length d5),(.slice dF bB.length d6),(.slice d7 bM.length d8)] 58 (0,0)))∧ae (Below w.heap.size w w'))
   case atStart=>exact⟨(dE),(0),oS,H',⟨Nat.le_refl _⟩,⟨xZ b8 b1⟩,⟨xZ d1 b1⟩,⟨xZ d2 b1⟩,⟨xZ d3 b1⟩,⟨oF b3⟩,⟨oP b1⟩,⟨by repeat(first|(with_reducible first|exact HB.out|apply aK|apply aQ|apply au|refine aN ?_ bE.out|refine aN ?_ bN.out)|exact HB.out)⟩⟩
   case round=>
    clear H'
    try clear c1
    try clear p2
    try clear p3
    try clear q3
    try clear hx3
    try clear c6
    try clear gG
    try clear c7
    try clear jP
    try clear c8
    try clear c11
    try clear bY
    try clear p2
    try clear dQ
    try clear dR
    obtain⟨bV,b9,rfl,HA,dK,b8,b6,b5,b7,b3,b1,HB⟩:=hrel
    cases gk with
    |zero=>exact absurd HA.out (by simp[ay.l1])
    |succ k2=>
     have H:=HA.out;clear HA;simp only[ay.l1]at H;have gH:=ae.mk H;clear H
     go_upto_region 7 with(fail)
     go_cut [38] (fun zQ wc=>∃(kq:Nat) (dL:Bool),zQ= .bool dL∧ae (ay.j2 kq l1 bV bH bW b9 dL ag ak bQ bO bR bL bB bM=some r)∧ae (kq≤k2)∧ae (Kd.R (Kd.int .i64) 3 wc b0 (fun _=>True) u5 bV)∧ae (Kd.R (Kd.int .u8) 5 wc w.heap.size (fun _=>True) (.slice d4 bL.length d5) bL)∧ae (Kd.R iA 75 wc w.heap.size (fun _=>True) (.slice dF bB.length d6) bB)∧ae (Kd.R jr 82 wc w.heap.size (fun _=>True) (.slice d7 bM.length d8) bM)∧ae (wc.heap[bD]? =some (.cells #[(.slice bl ag.length aW),.int .i64 ak] 28 (0,0)))∧ae (wc.heap[b2]? =some (.cells #[.int .i64 bQ,.int .i64 bO,.int .i64 bR,(.slice d4 bL.length d5),(.slice dF bB.length d6),(.slice d7 bM.length d8)] 58 (0,0)))∧ae (Below w.heap.size w wc))
     case first=>
      have H:=gH.out;clear gH
      by_cases dW:b9<(bB.length:Int)
      rotate_left
      ·rw[if_neg dW]at H;have dD:decide (b9<(bB.length:Int))=false:=decide_eq_false dW;clear dW
       (first|rw[dD]|rw[acB]|(simp only[fZ,iX];rw[dD])|skip)
       have H':=ae.mk H;clear H;have zZ:=bG.out;have b10:=b4.out;have gO:wr.cell? ⟨b2,0,none⟩=some (.int .i64 bQ):=(an b1.out 0).trans rfl;have gP:wr.cell? ⟨b2,1,none⟩=some (.int .i64 bO):=(an b1.out 1).trans rfl;have gQ:wr.cell? ⟨b2,2,none⟩=some (.int .i64 bR):=(an b1.out 2).trans rfl;have gR:wr.cell? ⟨b2,3,none⟩=some (.slice d4 bL.length d5):=(an b1.out 3).trans rfl;have gS:wr.cell? ⟨b2,4,none⟩=some (.slice dF bB.length d6):=(an b1.out 4).trans rfl;have gT:wr.cell? ⟨b2,5,none⟩=some (.slice d7 bM.length d8):=(an b1.out 5).trans rfl;have gU:=az b1.out 0;have gV:=az b1.out 1;have gW:=az b1.out 2;have gX:=az b1.out 3;have gY:=az b1.out 4;have gZ:=az b1.out 5
       go_wp2
       go_meet
       case rel=>exact⟨_,(false),oS,H',⟨by have:=dJ.out;have:=dK.out;first|omega|exact Nat.le_refl _⟩,⟨by(with_reducible repeat(first|apply Kd.cz|apply Kd.cA|apply Kd.cu));exact b8.out⟩,⟨by(with_reducible repeat(first|apply Kd.cz|apply Kd.cA|apply Kd.cu));exact b6.out⟩,⟨by(with_reducible repeat(first|apply Kd.cz|apply Kd.cA|apply Kd.cu));exact b5.out⟩,⟨by(with_reducible repeat(first|apply Kd.cz|apply Kd.cA|apply Kd.cu));exact b7.out⟩,⟨oF b3⟩,⟨oF b1⟩,⟨by repeat(first|(with_reducible first|exact HB.out|apply aK|apply aQ|apply au|refine aN ?_ bE.out|refine aN ?_ bN.out)|exact HB.out)⟩⟩
      rw[if_pos dW]at H;have dD:decide (b9<(bB.length:Int))=true:=decide_eq_true dW;clear dW
      (first|rw[dD]|rw[acB]|(simp only[fZ,iX];rw[dD])|skip)
      by_cases gF:bW=true
      ·subst gF
       have H1:(ay.j2 k2 l1 bV bH true b9 (bO==2) ag ak bQ bO bR bL bB bM)=some r:=by rw[if_pos rfl]at H;exact H
       clear H;have H:=H1;clear H1;have H':=ae.mk H;clear H;have b11:=bG.out;have b12:=b4.out;have j1:wr.cell? ⟨b2,0,none⟩=some (.int .i64 bQ):=(an b1.out 0).trans rfl;have j2:wr.cell? ⟨b2,1,none⟩=some (.int .i64 bO):=(an b1.out 1).trans rfl;have j3:wr.cell? ⟨b2,2,none⟩=some (.int .i64 bR):=(an b1.out 2).trans rfl;have j4:wr.cell? ⟨b2,3,none⟩=some (.slice d4 bL.length d5):=(an b1.out 3).trans rfl;have j5:wr.cell? ⟨b2,4,none⟩=some (.slice dF bB.length d6):=(an b1.out 4).trans rfl;have j6:wr.cell? ⟨b2,5,none⟩=some (.slice d7 bM.length d8):=(an b1.out 5).trans rfl;have j7:=az b1.out 0;have j8:=az b1.out 1;have j9:=az b1.out 2;have jA:=az b1.out 3;have jB:=az b1.out 4;have jC:=az b1.out 5
       go_wp2
       go_meet
       case rel=>exact⟨_,((bO==2)),oS,H',⟨by have:=dJ.out;have:=dK.out;first|omega|exact Nat.le_refl _⟩,⟨by(with_reducible repeat(first|apply Kd.cz|apply Kd.cA|apply Kd.cu));exact b8.out⟩,⟨by(with_reducible repeat(first|apply Kd.cz|apply Kd.cA|apply Kd.cu));exact b6.out⟩,⟨by(with_reducible repeat(first|apply Kd.cz|apply Kd.cA|apply Kd.cu));exact b5.out⟩,⟨by(with_reducible repeat(first|apply Kd.cz|apply Kd.cA|apply Kd.cu));exact b7.out⟩,⟨oF b3⟩,⟨oF b1⟩,⟨by repeat(first|(with_reducible first|exact HB.out|apply aK|apply aQ|apply au|refine aN ?_ bE.out|refine aN ?_ bN.out)|exact HB.out)⟩⟩
      replace gF:=Bool.eq_false_iff.mpr gF;subst gF
      have H1:(ay.j2 k2 l1 bV bH false b9 false ag ak bQ bO bR bL bB bM)=some r:=by rw[if_neg (show¬(false=true) by decide)]at H;exact H
      clear H;have H:=H1;clear H1;have H':=ae.mk H;clear H;have b13:=bG.out;have b14:=b4.out;have jD:wr.cell? ⟨b2,0,none⟩=some (.int .i64 bQ):=(an b1.out 0).trans rfl;have jE:wr.cell? ⟨b2,1,none⟩=some (.int .i64 bO):=(an b1.out 1).trans rfl;have jF:wr.cell? ⟨b2,2,none⟩=some (.int .i64 bR):=(an b1.out 2).trans rfl;have jG:wr.cell? ⟨b2,3,none⟩=some (.slice d4 bL.length d5):=(an b1.out 3).trans rfl;have jH:wr.cell? ⟨b2,4,none⟩=some (.slice dF bB.length d6):=(an b1.out 4).trans rfl;have jI:wr.cell? ⟨b2,5,none⟩=some (.slice d7 bM.length d8):=(an b1.out 5).trans rfl;have jJ:=az b1.out 0;have jK:=az b1.out 1;have jL:=az b1.out 2;have jM:=az b1.out 3;have jN:=az b1.out 4;have jO:=az b1.out 5
      go_wp2
      go_meet
      case rel=>exact⟨_,(false),oS,H',⟨by have:=dJ.out;have:=dK.out;first|omega|exact Nat.le_refl _⟩,⟨by(with_reducible repeat(first|apply Kd.cz|apply Kd.cA|apply Kd.cu));exact b8.out⟩,⟨by(with_reducible repeat(first|apply Kd.cz|apply Kd.cA|apply Kd.cu));exact b6.out⟩,⟨by(with_reducible repeat(first|apply Kd.cz|apply Kd.cA|apply Kd.cu));exact b5.out⟩,⟨by(with_reducible repeat(first|apply Kd.cz|apply Kd.cA|apply Kd.cu));exact b7.out⟩,⟨oF b3⟩,⟨oF b1⟩,⟨by repeat(first|(with_reducible first|exact HB.out|apply aK|apply aQ|apply au|refine aN ?_ bE.out|refine aN ?_ bN.out)|exact HB.out)⟩⟩
     case rest=>
      clear gH
      try clear c1
      try clear c2
      try clear p2
      try clear p3
      try clear q3
      try clear hx3
      try clear c6
      try clear gG
      try clear c7
      try clear jP
      try clear c8
      try clear c11
      try clear dW
      try clear dD
      try clear acB
      try clear gF
      try clear c25
      try clear c27
      try clear c29
      try clear j1
      try clear j2
      try clear j3
      try clear j4
      try clear j5
      try clear j6
      try clear jD
      try clear jE
      try clear jF
      try clear jG
      try clear jH
      try clear jI
      try clear gO
      try clear gP
      try clear gQ
      try clear gR
      try clear gS
      try clear gT
      try clear j7
      try clear j8
      try clear j9
      try clear jA
      try clear jB
      try clear jC
      try clear jJ
      try clear jK
      try clear jL
      try clear jM
      try clear jN
      try clear jO
      try clear gU
      try clear gV
      try clear gW
      try clear gX
      try clear gY
      try clear gZ
      try clear bY
      try clear p2
      try clear p3
      try clear dQ
      try clear q3
      try clear dR
      obtain⟨kq,dL,rfl,HA,dM,b8,b6,b5,b7,b3,b1,HB⟩:=hcut
      cases kq with
      |zero=>exact absurd HA.out (by simp[ay.j2])
      |succ py=>
       have H:=HA.out;clear HA;simp only[ay.j2]at H
       by_cases gN:dL=true
       rotate_left
       ·replace gN:=Bool.eq_false_iff.mpr gN;subst gN
        have H1:(ay.l0 py l1 bV (wrap64 (bH+1)) ag ak)=some r:=by rw[if_neg (show¬(false=true) by decide)]at H;exact H
        clear H;have H:=H1;clear H1;have H':=ae.mk H;clear H
        go_wp2
        go_roundg py
        case measure=>have:=dJ.out;have:=dK.out;have:=dM.out;omega
        case rel=>exact⟨(bV),(wrap64 (bH+1)),oS,H',⟨by have:=dJ.out;have:=dK.out;have:=dM.out;omega⟩,⟨by(with_reducible repeat(first|apply Kd.cz|apply Kd.cA|apply Kd.cu));exact b8.out⟩,⟨oF b3⟩,⟨by repeat(first|(with_reducible first|exact HB.out|apply aK|apply aQ|apply au|refine aN ?_ bE.out|refine aN ?_ bN.out)|exact HB.out)⟩⟩
       subst gN
       have H1:(if 0≤b9 then(if b9<(bB.length:Int)then((cF.f py ag ak ((al bB b9).f1)).bind fun dC=>(if dC≥0 then((di.f py bV ((al bB b9).f1)).bind fun dG=>(ay.l1 py l1 dG bH bW (wrap64 (b9+1)) ag ak bQ bO bR bL bB bM))else(ay.l1 py l1 bV bH bW (wrap64 (b9+1)) ag ak bQ bO bR bL bB bM)))else(none))else(none))=some r:=by rw[if_pos rfl]at H;exact H
       clear H;have H:=H1;clear H1;obtain⟨mC,H⟩:=lp H;have b15:decide (0≤b9)=true:=decide_eq_true mC;clear mC;obtain⟨mD,H⟩:=lp H;have b16:decide (b9<(bB.length:Int))=true:=decide_eq_true mD;clear mD;replace H:=Option.bind_eq_some_iff.mp H;obtain⟨dC,jU,H⟩:=H;replace H:(if dC≥0 then((di.f py bV ((al bB b9).f1)).bind fun dG=>(ay.l1 py l1 dG bH bW (wrap64 (b9+1)) ag ak bQ bO bR bL bB bM))else(ay.l1 py l1 bV bH bW (wrap64 (b9+1)) ag ak bQ bO bR bL bB bM))=some r:=H;have mE:=ae.mk jU;clear jU
       by_cases dX:dC≥0
       rotate_left
       ·rw[if_neg dX]at H;have jX:decide (0≤dC)=false:=decide_eq_false dX;clear dX;have H':=ae.mk H;clear H
        try go_wp2
        have bI:=am (Kd.cu b8.out);have bJ:=am (Kd.cu b6.out);have bK:=am (Kd.cu b5.out);have bP:=am (Kd.cu b7.out);have bS:=am (av b3.out);have bT:=am (av b1.out);have bU:=am (au HB.out);clear b8;clear b6;clear b5;clear b7;clear b3;clear b1;clear HB;have b8:=bI;have b6:=bJ;have b5:=bK;have b7:=bP;have b3:=bS;have b1:=bT;have HB:=bU;clear bI bJ bK bP bS bT bU;have dH:0≤(b9:Int):=oa;have dI:b9<(bB.length:Int):=oa;obtain⟨bX,gI,d9,dA⟩:=cT (Kd.bm b5.out).2.2 b9 dH dI
        cases gI
        replace dH:=eq_true dH;replace dI:=eq_true dI;refine mn 9 (fun w'=>w'.cell? ⟨bD,0,none⟩=some (.slice bl ag.length aW)∧w'.cell? ⟨bD,1,none⟩=some (.int .i64 ak)∧w'.cell? ⟨b2,0,none⟩=some (.int .i64 bQ)∧w'.cell? ⟨b2,1,none⟩=some (.int .i64 bO)∧w'.cell? ⟨b2,2,none⟩=some (.int .i64 bR)∧w'.cell? ⟨b2,3,none⟩=some (.slice d4 bL.length d5)∧w'.cell? ⟨b2,4,none⟩=some (.slice (some bX) bB.length d6)∧w'.cell? ⟨b2,5,none⟩=some (.slice d7 bM.length d8)∧w'.cell? (bX.add ((b9).toNat*2))=some (.string ((al bB b9).f0))∧w'.cell? ⟨(bX.add ((b9).toNat*2)).block,(bX.add ((b9).toNat*2)).off+1,none⟩=some (.int .i64 ((al bB b9).f1))) ay.aaU ay.uW ⟨(an b3.out 0).trans rfl,(an b3.out 1).trans rfl,(an b1.out 0).trans rfl,(an b1.out 1).trans rfl,(an b1.out 2).trans rfl,(an b1.out 3).trans rfl,(an b1.out 4).trans rfl,(an b1.out 5).trans rfl,d9,dA⟩ (fun hHeld ax eF=> ?_);generalize wc.drew=w43 at b8 b6 b5 b7 b3 b1 HB d9 dA hHeld⊢;refine bx 1 42 ax ?_;refine bx 3 44 ax ?_;refine fS 0 41 ax eF hHeld ?_;refine fS 2 43 ax eF hHeld ?_;refine bx 4 45 ax ?_;refine bx 5 46 ax ?_;refine fS 6 47 ax eF hHeld ?_;refine kM 7 48 ax (fun K hK=> ?_);refine uD Tryz.func82 (by kernel_rfl) rfl #[.agg #[.slice bl ag.length aW,.int .i64 ak],.int .i64 ((al bB b9).f1)] (by rfl) rfl rfl oL ?_
        with_reducible refine(cF.calls py _ _ ag ak ((al bB b9).f1) dC _ ?eH ?me mE.out).mono ?_
        (case eH=>repeat(first|exact(Kd.da dO.out HB.out)|(with_reducible refine Kd.eU ?_ _)|(with_reducible refine Kd.eV ?_ _)|(with_reducible refine Kd.fI ?_)))
        (case me=>exact dP.out)
        rintro e w44 ⟨rfl,hb⟩;have gJ:=(hb.cell (World.block_lt_of_cell? _ _ (hHeld.2.2.2.2.2.2.2.2.1))).trans (hHeld.2.2.2.2.2.2.2.2.1);have gK:=(hb.cell (World.block_lt_of_cell? _ _ (hHeld.2.2.2.2.2.2.2.2.2))).trans (hHeld.2.2.2.2.2.2.2.2.2);refine⟨_,rfl,?_⟩;have bI:=ny b8 hb;have bJ:=ny b6 hb;have bK:=ny b5 hb;have bP:=ny b7 hb;have bS:=bj b3 hb;have bT:=bj b1 hb;have bU:=am (fG (by repeat(first|(with_reducible first|exact HB.out|apply aK|apply aQ|apply au|refine aN ?_ bE.out|refine aN ?_ bN.out)|exact HB.out)) hb);clear b8;clear b6;clear b5;clear b7;clear b3;clear b1;clear HB;have b8:=bI;have b6:=bJ;have b5:=bK;have b7:=bP;have b3:=bS;have b1:=bT;have HB:=bU;clear bI bJ bK bP bS bT bU
        (try clear hb)
        (try clear hb2)
        (try clear hk)
        (try clear hi)
        refine eY hK 48 ⟨(an b3.out 0).trans rfl,(an b3.out 1).trans rfl,(an b1.out 0).trans rfl,(an b1.out 1).trans rfl,(an b1.out 2).trans rfl,(an b1.out 3).trans rfl,(an b1.out 4).trans rfl,(an b1.out 5).trans rfl,gJ,gK⟩ (fun hHeld=> ?_);clear hK K;refine bx 8 49 ax ?_;refine lY ax ?_
        try go_wp2
        go_roundg py
        case measure=>have:=dJ.out;have:=dK.out;have:=dM.out;omega
        case rel=>exact⟨(bV),(wrap64 (b9+1)),oS,H',⟨by have:=dJ.out;have:=dK.out;have:=dM.out;omega⟩,⟨by(with_reducible repeat(first|apply Kd.cz|apply Kd.cA|apply Kd.cu));exact b8.out⟩,⟨by(with_reducible repeat(first|apply Kd.cz|apply Kd.cA|apply Kd.cu));exact b6.out⟩,⟨by(with_reducible repeat(first|apply Kd.cz|apply Kd.cA|apply Kd.cu));exact b5.out⟩,⟨by(with_reducible repeat(first|apply Kd.cz|apply Kd.cA|apply Kd.cu));exact b7.out⟩,⟨oF b3⟩,⟨oF b1⟩,⟨by repeat(first|(with_reducible first|exact HB.out|apply aK|apply aQ|apply au|refine aN ?_ bE.out|refine aN ?_ bN.out)|exact HB.out)⟩⟩
       rw[if_pos dX]at H;have jX:decide (0≤dC)=true:=decide_eq_true dX;clear dX;replace H:=Option.bind_eq_some_iff.mp H;obtain⟨dG,jV,H⟩:=H;replace H:(ay.l1 py l1 dG bH bW (wrap64 (b9+1)) ag ak bQ bO bR bL bB bM)=some r:=H;have zR:=ae.mk jV;clear jV;have H':=ae.mk H;clear H
       try go_wp2
       have bI:=am (Kd.cu b8.out);have bJ:=am (Kd.cu b6.out);have bK:=am (Kd.cu b5.out);have bP:=am (Kd.cu b7.out);have bS:=am (av b3.out);have bT:=am (av b1.out);have bU:=am (au HB.out);clear b8;clear b6;clear b5;clear b7;clear b3;clear b1;clear HB;have b8:=bI;have b6:=bJ;have b5:=bK;have b7:=bP;have b3:=bS;have b1:=bT;have HB:=bU;clear bI bJ bK bP bS bT bU;have dH:0≤(b9:Int):=oa;have dI:b9<(bB.length:Int):=oa;obtain⟨bX,gI,d9,dA⟩:=cT (Kd.bm b5.out).2.2 b9 dH dI
       cases gI
       replace dH:=eq_true dH;replace dI:=eq_true dI;refine mn 9 (fun w'=>w'.cell? ⟨bD,0,none⟩=some (.slice bl ag.length aW)∧w'.cell? ⟨bD,1,none⟩=some (.int .i64 ak)∧w'.cell? ⟨b2,0,none⟩=some (.int .i64 bQ)∧w'.cell? ⟨b2,1,none⟩=some (.int .i64 bO)∧w'.cell? ⟨b2,2,none⟩=some (.int .i64 bR)∧w'.cell? ⟨b2,3,none⟩=some (.slice d4 bL.length d5)∧w'.cell? ⟨b2,4,none⟩=some (.slice (some bX) bB.length d6)∧w'.cell? ⟨b2,5,none⟩=some (.slice d7 bM.length d8)∧w'.cell? (bX.add ((b9).toNat*2))=some (.string ((al bB b9).f0))∧w'.cell? ⟨(bX.add ((b9).toNat*2)).block,(bX.add ((b9).toNat*2)).off+1,none⟩=some (.int .i64 ((al bB b9).f1))) ay.aaU ay.uW ⟨(an b3.out 0).trans rfl,(an b3.out 1).trans rfl,(an b1.out 0).trans rfl,(an b1.out 1).trans rfl,(an b1.out 2).trans rfl,(an b1.out 3).trans rfl,(an b1.out 4).trans rfl,(an b1.out 5).trans rfl,d9,dA⟩ (fun hHeld ax eF=> ?_);generalize wc.drew=w37 at b8 b6 b5 b7 b3 b1 HB d9 dA hHeld⊢;refine bx 1 42 ax ?_;refine bx 3 44 ax ?_;refine fS 0 41 ax eF hHeld ?_;refine fS 2 43 ax eF hHeld ?_;refine bx 4 45 ax ?_;refine bx 5 46 ax ?_;refine fS 6 47 ax eF hHeld ?_;refine kM 7 48 ax (fun K hK=> ?_);refine uD Tryz.func82 (by kernel_rfl) rfl #[.agg #[.slice bl ag.length aW,.int .i64 ak],.int .i64 ((al bB b9).f1)] (by rfl) rfl rfl oL ?_
       with_reducible refine(cF.calls py _ _ ag ak ((al bB b9).f1) dC _ ?eH ?me mE.out).mono ?_
       (case eH=>repeat(first|exact(Kd.da dO.out HB.out)|(with_reducible refine Kd.eU ?_ _)|(with_reducible refine Kd.eV ?_ _)|(with_reducible refine Kd.fI ?_)))
       (case me=>exact dP.out)
       rintro e dY ⟨rfl,hb⟩;have gJ:=(hb.cell (World.block_lt_of_cell? _ _ (hHeld.2.2.2.2.2.2.2.2.1))).trans (hHeld.2.2.2.2.2.2.2.2.1);have gK:=(hb.cell (World.block_lt_of_cell? _ _ (hHeld.2.2.2.2.2.2.2.2.2))).trans (hHeld.2.2.2.2.2.2.2.2.2);refine⟨_,rfl,?_⟩;have bI:=ny b8 hb;have bJ:=ny b6 hb;have bK:=ny b5 hb;have bP:=ny b7 hb;have bS:=bj b3 hb;have bT:=bj b1 hb;have bU:=am (fG (by repeat(first|(with_reducible first|exact HB.out|apply aK|apply aQ|apply au|refine aN ?_ bE.out|refine aN ?_ bN.out)|exact HB.out)) hb);clear b8;clear b6;clear b5;clear b7;clear b3;clear b1;clear HB;have b8:=bI;have b6:=bJ;have b5:=bK;have b7:=bP;have b3:=bS;have b1:=bT;have HB:=bU;clear bI bJ bK bP bS bT bU
       (try clear hb)
       (try clear hb2)
       (try clear hk)
       (try clear hi)
       refine eY hK 48 ⟨(an b3.out 0).trans rfl,(an b3.out 1).trans rfl,(an b1.out 0).trans rfl,(an b1.out 1).trans rfl,(an b1.out 2).trans rfl,(an b1.out 3).trans rfl,(an b1.out 4).trans rfl,(an b1.out 5).trans rfl,gJ,gK⟩ (fun hHeld=> ?_);clear hK K;refine bx 8 49 ax ?_;refine lY ax ?_;have b17:=bG.out;have b18:=b4.out;have mY:dY.cell? ⟨b2,0,none⟩=some (.int .i64 bQ):=(an b1.out 0).trans rfl;have mZ:dY.cell? ⟨b2,1,none⟩=some (.int .i64 bO):=(an b1.out 1).trans rfl;have zA:dY.cell? ⟨b2,2,none⟩=some (.int .i64 bR):=(an b1.out 2).trans rfl;have zB:dY.cell? ⟨b2,3,none⟩=some (.slice d4 bL.length d5):=(an b1.out 3).trans rfl;have zC:dY.cell? ⟨b2,4,none⟩=some (.slice (some bX) bB.length d6):=(an b1.out 4).trans rfl;have zD:dY.cell? ⟨b2,5,none⟩=some (.slice d7 bM.length d8):=(an b1.out 5).trans rfl;have zE:=az b1.out 0;have zF:=az b1.out 1;have zG:=az b1.out 2;have zH:=az b1.out 3;have zI:=az b1.out 4;have zJ:=az b1.out 5;have gL:0≤(b9:Int):=oa;have gM:b9<(bB.length:Int):=oa;obtain⟨jY,mH,zK,zL⟩:=cT (Kd.bm b5.out).2.2 b9 gL gM;obtain rfl:bX=jY:=(by injection mH);replace gL:=eq_true gL;replace gM:=eq_true gM;obtain⟨mI,mJ,mK⟩:=Kd.aw b8.out;subst mK
       try go_wp2_with (first|((with_reducible refine ai (f:=141) rfl ?_);refine tu (some 57) rfl rfl Tryz.func141 (by kernel_rfl) rfl #[.slice mI bV.length mJ,.int .i64 ((al bB b9).f1)] rfl oL ?_;(with_reducible refine(di.calls py _ _ bV ((al bB b9).f1) dG b0 _ ?eH ?me zR.out).mono ?_);(case eH=>exact Nat.le_trans zN.out (ah oB));(case me=>exact(vV b8));rintro e w42 ⟨b1H,rfl,dN,hb⟩;refine⟨_,rfl,?_⟩;have bI:=ny b8 hb;have bJ:=ny b6 hb;have bK:=ny b5 hb;have bP:=ny b7 hb;have bS:=ae.mk dN;have bT:=bj b3 hb;have bU:=bj b1 hb;have dB:=am (fG (by repeat(first|(with_reducible first|exact HB.out|apply aK|apply aQ|apply au|refine aN ?_ bE.out|refine aN ?_ bN.out)|exact HB.out)) hb);clear b8;clear b6;clear b5;clear b7;clear b3;clear b1;clear HB;have b8:=bI;have b6:=bJ;have b5:=bK;have b7:=bP;have jZ:=bS;have b3:=bT;have b1:=bU;have HB:=dB;clear bI bJ bK bP bS bT bU dB;(try clear hb);(try clear hb2);(try clear hk);(try clear hi);(try clear dN)))
       go_roundg py
       case measure=>have:=dJ.out;have:=dK.out;have:=dM.out;omega
       case rel=>exact⟨(dG),(wrap64 (b9+1)),oS,H',⟨by have:=dJ.out;have:=dK.out;have:=dM.out;omega⟩,⟨mR jZ⟩,⟨by(with_reducible repeat(first|apply Kd.cz|apply Kd.cA|apply Kd.cu));exact b6.out⟩,⟨by(with_reducible repeat(first|apply Kd.cz|apply Kd.cA|apply Kd.cu));exact b5.out⟩,⟨by(with_reducible repeat(first|apply Kd.cz|apply Kd.cA|apply Kd.cu));exact b7.out⟩,⟨oF b3⟩,⟨oF b1⟩,⟨by repeat(first|(with_reducible first|exact HB.out|apply aK|apply aQ|apply au|refine aN ?_ bE.out|refine aN ?_ bN.out)|exact HB.out)⟩⟩

mutual
def bh.j0:Nat→Bool→Int→Int→Int→List Int→List (db)→List (ey)→Option (Bool)
 |0,_,_,_,_,_,_,_=>none
 |k+1,b7,b2,b3,b4,b5,b1,b6=>if b7=true then(some false)else(bh.l0 k b1 (b1.length:Int) 0 b2 b3 b4 b5 b1 b6)
def bh.l0:Nat→List (db)→Int→Int→Int→Int→Int→List Int→List (db)→List (ey)→Option (Bool)
 |0,_,_,_,_,_,_,_,_,_=>none
 |k+1,b8,b9,b4,b3,b5,b1,b6,b2,b7=>if b4<b9 then(if 0≤b4 then(if b4<(b8.length:Int)then((aD.f k ((al b8 b4).f0)).bind fun bB=>(if bB=true then((bs.f ((al b8 b4).f1) 2 1000).bind fun bC=>(if bC=true then(if b4>0 then(if 0≤(wrap64 (b4-1))then(if(wrap64 (b4-1))<(b2.length:Int)then(if((Op.bytesLess (((al b2 (wrap64 (b4-1))).f0).toList) (((al b8 b4).f0).toList))=true)then(bh.l0 k b8 b9 (wrap64 (b4+1)) b3 b5 b1 b6 b2 b7)else(some false))else(none))else(none))else(bh.l0 k b8 b9 (wrap64 (b4+1)) b3 b5 b1 b6 b2 b7))else(some false)))else(some false)))else(none))else(none))else((bs.f b1 0 1000).bind fun bD=>(if bD=true then(bh.j2 k ((b1==0) !=(b3==1)) b3 b5 b1 b6 b2 b7)else(bh.j2 k true b3 b5 b1 b6 b2 b7)))
def bh.j2:Nat→Bool→Int→Int→Int→List Int→List (db)→List (ey)→Option (Bool)
 |0,_,_,_,_,_,_,_=>none
 |k+1,b7,b5,b1,b2,b3,b4,b6=>if b7=true then(some false)else(if b1=1 then(some ((b4.length:Int)==0))else(if b1=2 then(if(b3.length:Int)=0 then(some (decide (b2≤1)))else(some false))else(some false)))
end
def bh.f (k:Nat) (bo:Int) (ak:Int) (cE:Int) (cf:List Int) (aJ:List (db)) (cr:List (ey)):Option (Bool):=(bs.f bo 1 1000).bind fun b1=>(if b1=true then(if(cf.length:Int)>100 then(bh.j0 k true bo ak cE cf aJ cr)else(if(aJ.length:Int)>10 then(bh.j0 k true bo ak cE cf aJ cr)else((cU.f k cr).bind fun b2=>(bh.j0 k (!b2) bo ak cE cf aJ cr))))else(bh.j0 k true bo ak cE cf aJ cr))
theorem bh.calls (k:Nat) (bo:Int) (ak:Int) (cE:Int) (fP:Option Addr) (fQ:Nat) (cf:List Int) (fM:Option Addr) (fN:Nat) (aJ:List (db)) (fA:Option Addr) (fC:Nat) (cr:List (ey)) (r:Bool) (w:World) (iH:Kd.C (Kd.int .u8) w fP cf.length cf) (iI:cf.length≤fQ) (iJ:Kd.C iA w fM aJ.length aJ) (iK:aJ.length≤fN) (iL:Kd.C jr w fA cr.length cr) (iM:cr.length≤fC) (h:bh.f k bo ak cE cf aJ cr=some r):
  Calls Tryz.prog 145 #[.agg #[.int .i64 bo,.int .i64 ak,.int .i64 cE,.slice fP cf.length fQ,.slice fM aJ.length fN,.slice fA cr.length fC]] w fun e w'=>e= .returned (.bool r)∧Below w.heap.size w w':=by
 have gR:=Tryz.underlying58;have gS:=Tryz.underlying75;have gJ:=ae.mk iH;have gK:=ae.mk iI;clear iH iI;have bF:=ae.mk iJ;have gL:=ae.mk iK;clear iJ iK;have d5:=ae.mk iL;have d6:=ae.mk iM;clear iL iM;have HB:=am (Below.refl w.heap.size w);unfold bh.f at h;have H:=h;clear h;have dD:=ae.mk H;clear H
 go_enter Tryz.func145,Tryz.ntmps145
 go_upto_region 1 with(first|((with_reducible refine aj (N:=1) rfl ?_);(try(refine ck (by rfl) ?_;dsimp only));refine dp 1 #[.int .i64 bo,.int .i64 ak,.int .i64 cE,.slice fP cf.length fQ,.slice fM aJ.length fN,.slice fA cr.length fC] 58 ?_;intro bR hg w3 hbox hb;have b3:=am (hbox);have dF:=dn hg;replace HB:=hB HB hb;clear hb hbox hg))
 repeat(go_quiet (fail);go_upto_region 1 with(first|((with_reducible refine aj (N:=1) rfl ?_);(try(refine ck (by rfl) ?_;dsimp only));refine dp 1 #[.int .i64 bo,.int .i64 ak,.int .i64 cE,.slice fP cf.length fQ,.slice fM aJ.length fN,.slice fA cr.length fC] 58 ?_;intro bR hg w3 hbox hb;have b3:=am (hbox);have dF:=dn hg;replace HB:=hB HB hb;clear hb hbox hg)))
 (try simp only[Act.put,List.setIfInBounds_toArray,List.set_cons_zero,List.set_cons_succ])
 go_cut [26] (fun gC wc=>∃(kq:Nat) (d7:Bool),gC= .bool d7∧ae (bh.j0 kq d7 bo ak cE cf aJ cr=some r)∧ae (kq≤k)∧ae (wc.heap[bR]? =some (.cells #[.int .i64 bo,.int .i64 ak,.int .i64 cE,(.slice fP cf.length fQ),(.slice fM aJ.length fN),(.slice fA cr.length fC)] 58 (0,0)))∧ae (Below w.heap.size w wc))
 case first=>
  have H:=dD.out;clear dD;replace H:=bA H;obtain⟨gT,A4,H⟩:=H
  try dsimp only at H
  replace H:=ll H;rcases H with⟨rfl,H⟩|⟨rfl,H⟩;rotate_left
  ·have H':=ae.mk H;clear H;obtain⟨⟨_,_,_,_,_,_⟩,_,_,_,_,_,_⟩:=z6 b3
   go_wp2_with (first|(go_at_call 61;(with_reducible refine(bs.calls bo 1 1000 false _ A4.out).mono ?_);rintro e w' ⟨rfl,⟨nd,rfl⟩⟩))
   repeat(go_quiet (first|(go_at_call 61;(with_reducible refine(bs.calls bo 1 1000 false _ A4.out).mono ?_);rintro e w' ⟨rfl,⟨nd,rfl⟩⟩;exact oQ));try go_wp2_with (first|(go_at_call 61;(with_reducible refine(bs.calls bo 1 1000 false _ A4.out).mono ?_);rintro e w' ⟨rfl,⟨nd,rfl⟩⟩)))
   go_meet
   case rel=>exact⟨_,(true),oS,H',⟨by first|omega|exact Nat.le_refl _⟩,⟨oF b3⟩,⟨oB⟩⟩
  by_cases c6:(cf.length:Int)>100
  ·rw[if_pos c6]at H;have bS:decide (100<(cf.length:Int))=true:=decide_eq_true c6;have dZ:decide (100<cf.length)=true:=decide_eq_true (by omega);clear c6
   (first|rw[bS]|rw[aex]|(simp only[fZ,iX];rw[bS])|skip)
   have H':=ae.mk H;clear H;obtain⟨⟨_,_,_,_,_,_⟩,_,_,_,_,_,_⟩:=z6 b3
   go_wp2_with (first|(go_at_call 61;(with_reducible refine(bs.calls bo 1 1000 true _ A4.out).mono ?_);rintro e w' ⟨rfl,⟨nd,rfl⟩⟩))
   repeat(go_quiet (first|(go_at_call 61;(with_reducible refine(bs.calls bo 1 1000 true _ A4.out).mono ?_);rintro e w' ⟨rfl,⟨nd,rfl⟩⟩;exact oQ));try go_wp2_with (first|(go_at_call 61;(with_reducible refine(bs.calls bo 1 1000 true _ A4.out).mono ?_);rintro e w' ⟨rfl,⟨nd,rfl⟩⟩)))
   go_meet
   case rel=>exact⟨_,(true),oS,H',⟨by first|omega|exact Nat.le_refl _⟩,⟨oF b3⟩,⟨oB⟩⟩
  rw[if_neg c6]at H;have bS:decide (100<(cf.length:Int))=false:=decide_eq_false c6;have dZ:decide (100<cf.length)=false:=decide_eq_false (by omega);clear c6
  (first|rw[bS]|rw[aex]|(simp only[fZ,iX];rw[bS])|skip)
  by_cases c8:(aJ.length:Int)>10
  ·rw[if_pos c8]at H;have gA:decide (10<(aJ.length:Int))=true:=decide_eq_true c8;have gB:decide (10<aJ.length)=true:=decide_eq_true (by omega);clear c8;have H':=ae.mk H;clear H;obtain⟨⟨_,_,_,_,_,_⟩,_,_,_,_,_,_⟩:=z6 b3
   go_wp2_with (first|(go_at_call 61;(with_reducible refine(bs.calls bo 1 1000 true _ A4.out).mono ?_);rintro e w' ⟨rfl,⟨nd,rfl⟩⟩))
   repeat(go_quiet (first|(go_at_call 61;(with_reducible refine(bs.calls bo 1 1000 true _ A4.out).mono ?_);rintro e w' ⟨rfl,⟨nd,rfl⟩⟩;exact oQ));try go_wp2_with (first|(go_at_call 61;(with_reducible refine(bs.calls bo 1 1000 true _ A4.out).mono ?_);rintro e w' ⟨rfl,⟨nd,rfl⟩⟩)))
   go_meet
   case rel=>exact⟨_,(true),oS,H',⟨by first|omega|exact Nat.le_refl _⟩,⟨oF b3⟩,⟨oB⟩⟩
  rw[if_neg c8]at H;have gA:decide (10<(aJ.length:Int))=false:=decide_eq_false c8;have gB:decide (10<aJ.length)=false:=decide_eq_false (by omega);clear c8;replace H:=bA H;obtain⟨d8,dE,H⟩:=H
  try dsimp only at H
  have H':=ae.mk H;clear H;obtain⟨⟨_,_,_,_,_,_⟩,_,_,_,_,_,_⟩:=z6 b3
  go_wp2_with (first|(go_at_call 61;(with_reducible refine(bs.calls bo 1 1000 true _ A4.out).mono ?_);rintro e w' ⟨rfl,⟨nd,rfl⟩⟩)|(go_at_call 157;(with_reducible refine(cU.calls k _ _ cr d8 _ (kC d5) d6.out dE.out).mono ?_);rintro e dY ⟨rfl,hb⟩;replace b3:=bj b3 hb;replace HB:=hB HB hb))
  repeat(go_quiet (first|(go_at_call 61;(with_reducible refine(bs.calls bo 1 1000 true _ A4.out).mono ?_);rintro e w' ⟨rfl,⟨nd,rfl⟩⟩;exact oQ)|(go_at_call 157;(with_reducible refine(cU.calls k _ _ cr d8 _ (kC d5) d6.out dE.out).mono ?_);rintro e dY ⟨rfl,hb⟩;replace b3:=bj b3 hb;replace HB:=hB HB hb));try go_wp2_with (first|(go_at_call 61;(with_reducible refine(bs.calls bo 1 1000 true _ A4.out).mono ?_);rintro e w' ⟨rfl,⟨nd,rfl⟩⟩)|(go_at_call 157;(with_reducible refine(cU.calls k _ _ cr d8 _ (kC d5) d6.out dE.out).mono ?_);rintro e dY ⟨rfl,hb⟩;replace b3:=bj b3 hb;replace HB:=hB HB hb)))
  go_meet
  case rel=>exact⟨_,(!d8),oS,H',⟨by first|omega|exact Nat.le_refl _⟩,⟨oF b3⟩,⟨oB⟩⟩
 case rest=>
  clear dD;obtain⟨kq,d7,rfl,HA,d1,b3,HB⟩:=hcut
  cases kq with
  |zero=>exact absurd HA.out (by simp[bh.j0])
  |succ wE=>
   have H:=HA.out;clear HA;simp only[bh.j0]at H;replace H:=ll H;rcases H with⟨rfl,H⟩|⟨rfl,H⟩
   ·obtain rfl:=Option.some.inj H
    go_wp2
    repeat(go_quiet (fail);try go_wp2)
    go_ret
    exact⟨oE,oB⟩
   have H':=ae.mk H;clear H;obtain⟨⟨_,_,_,_,_,_⟩,_,_,_,_,_,_⟩:=z6 b3
   go_wp2
   repeat(go_quiet (fail);try go_wp2)
   go_loopg [30] wE (fun kq gD w'=>∃(b1:Int),gD= .int .i64 b1∧ae (bh.l0 kq aJ (aJ.length:Int) b1 bo ak cE cf aJ cr=some r)∧ae (kq≤wE)∧ae (w'.heap[bR]? =some (.cells #[.int .i64 bo,.int .i64 ak,.int .i64 cE,(.slice fP cf.length fQ),(.slice fM aJ.length fN),(.slice fA cr.length fC)] 58 (0,0)))∧ae (Below w.heap.size w w'))
   case atStart=>exact⟨(0),oS,H',⟨Nat.le_refl _⟩,⟨oF b3⟩,⟨oB⟩⟩
   case round=>
    clear H';obtain⟨b1,rfl,HA,d2,b3,HB⟩:=hrel
    cases gk with
    |zero=>exact absurd HA.out (by simp[bh.l0])
    |succ k2=>
     have H:=HA.out;clear HA;simp only[bh.l0]at H;replace H:=jd H;rcases H with⟨dC,H⟩|⟨dC,H⟩;rotate_left
     ·have dB:=ae.mk H;clear H
      go_upto_region 9 with(fail)
      repeat(go_quiet (fail);go_upto_region 9 with(fail))
      go_cut [74] (fun gE wc=>∃(kq:Nat) (bT:Bool),gE= .bool bT∧ae (bh.j2 kq bT bo ak cE cf aJ cr=some r)∧ae (kq≤k2)∧ae (wc.heap[bR]? =some (.cells #[.int .i64 bo,.int .i64 ak,.int .i64 cE,(.slice fP cf.length fQ),(.slice fM aJ.length fN),(.slice fA cr.length fC)] 58 (0,0)))∧ae (Below w.heap.size w wc))
      case first=>
       have H:=dB.out;clear dB;replace H:=bA H;obtain⟨gU,d3,H⟩:=H
       try dsimp only at H
       replace H:=ll H;rcases H with⟨rfl,H⟩|⟨rfl,H⟩;rotate_left
       ·have H':=ae.mk H;clear H;obtain⟨⟨_,_,_,_,_,_⟩,_,_,_,_,_,_⟩:=z6 b3
        go_wp2_with (first|(go_at_call 61;(with_reducible refine(bs.calls cE 0 1000 false _ d3.out).mono ?_);rintro e w' ⟨rfl,⟨nd,rfl⟩⟩))
        repeat(go_quiet (first|(go_at_call 61;(with_reducible refine(bs.calls cE 0 1000 false _ d3.out).mono ?_);rintro e w' ⟨rfl,⟨nd,rfl⟩⟩;exact oQ));try go_wp2_with (first|(go_at_call 61;(with_reducible refine(bs.calls cE 0 1000 false _ d3.out).mono ?_);rintro e w' ⟨rfl,⟨nd,rfl⟩⟩)))
        go_meet
        case rel=>exact⟨_,(true),oS,H',⟨by have:=d1.out;have:=d2.out;first|omega|exact Nat.le_refl _⟩,⟨oF b3⟩,⟨oB⟩⟩
       have H':=ae.mk H;clear H;obtain⟨⟨_,_,_,_,_,_⟩,_,_,_,_,_,_⟩:=z6 b3
       go_wp2_with (first|(go_at_call 61;(with_reducible refine(bs.calls cE 0 1000 true _ d3.out).mono ?_);rintro e w' ⟨rfl,⟨nd,rfl⟩⟩))
       repeat(go_quiet (first|(go_at_call 61;(with_reducible refine(bs.calls cE 0 1000 true _ d3.out).mono ?_);rintro e w' ⟨rfl,⟨nd,rfl⟩⟩;exact oQ));try go_wp2_with (first|(go_at_call 61;(with_reducible refine(bs.calls cE 0 1000 true _ d3.out).mono ?_);rintro e w' ⟨rfl,⟨nd,rfl⟩⟩)))
       go_meet
       case rel=>exact⟨_,(((cE==0) !=(bo==1))),oS,H',⟨by have:=d1.out;have:=d2.out;first|omega|exact Nat.le_refl _⟩,⟨oF b3⟩,⟨oB⟩⟩
      case rest=>
       clear dB
       try clear dC
       obtain⟨kq,bT,rfl,HA,gV,b3,HB⟩:=hcut
       cases kq with
       |zero=>exact absurd HA.out (by simp[bh.j2])
       |succ kj44=>
        have H:=HA.out;clear HA;simp only[bh.j2]at H;replace H:=ll H;rcases H with⟨rfl,H⟩|⟨rfl,H⟩
        ·obtain rfl:=Option.some.inj H
         go_wp2
         repeat(go_quiet (fail);try go_wp2)
         go_ret
         exact⟨oE,oB⟩
        by_cases bU:ak=1
        ·rw[if_pos bU]at H;have dG:(ak==1)=true:=beq_iff_eq.mpr bU;have dH:(ak !=1)=false:=bne_eq_false_iff_eq.mpr bU;clear bU;obtain rfl:=Option.some.inj H;obtain⟨⟨_,_,_,_,_,_⟩,_,_,_,_,_,_⟩:=z6 b3
         go_wp2
         repeat(go_quiet (fail);try go_wp2)
         go_ret
         exact⟨oE,oB⟩
        rw[if_neg bU]at H;have dG:(ak==1)=false:=beq_eq_false_iff_ne.mpr bU;have dH:(ak !=1)=true:=bne_iff_ne.mpr bU
        by_cases bV:ak=2
        rotate_left
        ·rw[if_neg bV]at H;have dI:(ak==2)=false:=beq_eq_false_iff_ne.mpr bV;have dJ:(ak !=2)=true:=bne_iff_ne.mpr bV;obtain rfl:=Option.some.inj H;obtain⟨⟨_,_,_,_,_,_⟩,_,_,_,_,_,_⟩:=z6 b3
         go_wp2
         repeat(go_quiet (fail);try go_wp2)
         go_ret
         exact⟨oE,oB⟩
        rw[if_pos bV]at H;have dI:(ak==2)=true:=beq_iff_eq.mpr bV;have dJ:(ak !=2)=false:=bne_eq_false_iff_eq.mpr bV;clear bV
        by_cases bQ:(cf.length:Int)=0
        ·rw[if_pos bQ]at H;have dK:((cf.length:Int)==0)=true:=beq_iff_eq.mpr bQ;have dL:((cf.length:Int) !=0)=false:=bne_eq_false_iff_eq.mpr bQ;clear bQ;obtain rfl:=Option.some.inj H;obtain⟨⟨_,_,_,_,_,_⟩,_,_,_,_,_,_⟩:=z6 b3
         go_wp2
         repeat(go_quiet (fail);try go_wp2)
         go_ret
         exact⟨oE,oB⟩
        rw[if_neg bQ]at H;have dK:((cf.length:Int)==0)=false:=beq_eq_false_iff_ne.mpr bQ;have dL:((cf.length:Int) !=0)=true:=bne_iff_ne.mpr bQ
        have gM:¬(cf=[]):=fun h_=>bQ (by rw[h_];rfl)
        obtain rfl:=Option.some.inj H;obtain⟨⟨_,_,_,_,_,_⟩,_,_,_,_,_,_⟩:=z6 b3
        go_wp2
        repeat(go_quiet (fail);try go_wp2)
        go_ret
        exact⟨oE,oB⟩
     obtain⟨gN,H⟩:=cX H;obtain⟨gO,H⟩:=cX H;replace H:=bA H;obtain⟨gW,bH,H⟩:=H
     try dsimp only at H
     replace H:=ll H;rcases H with⟨rfl,H⟩|⟨rfl,H⟩;rotate_left
     ·obtain rfl:=Option.some.inj H;have d9:(0≤(b1:Int))=True:=oT;have dA:(b1<(aJ.length:Int))=True:=oT;obtain⟨bB,bM,bN,bO⟩:=kf bF HB b1 oa oa
      cases bM
      go_wp2_with (first|((with_reducible refine aj (N:=4) rfl ?_);(try(refine ck (by rfl) ?_;dsimp only));refine dp 4 #[.string (⟨#[]⟩:ByteArray),.int .i64 0] 75 ?_;intro b5 hg gF hbox hb;have bE:=am (hbox);have bC:=dn hg;have b6:=eN hg b3;have b7:=eO hg b3;replace b3:=bj b3 hb;replace HB:=hB HB hb;clear hb hbox hg;have dM:=b7.out;have dN:=b6.out;obtain⟨⟨_,_⟩,_,_⟩:=z2 bE)|(go_at_call 65;(with_reducible refine(aD.calls k2 ((al aJ b1).f0) false _ bH.out).mono ?_);rintro e w' ⟨rfl,⟨nd,rfl⟩⟩))
      repeat(go_quiet (first|(go_at_call 65;(with_reducible refine(aD.calls k2 ((al aJ b1).f0) false _ bH.out).mono ?_);rintro e w' ⟨rfl,⟨nd,rfl⟩⟩;exact oQ));try go_wp2_with (first|((with_reducible refine aj (N:=4) rfl ?_);(try(refine ck (by rfl) ?_;dsimp only));refine dp 4 #[.string (⟨#[]⟩:ByteArray),.int .i64 0] 75 ?_;intro b5 hg gF hbox hb;have bE:=am (hbox);have bC:=dn hg;have b6:=eN hg b3;have b7:=eO hg b3;replace b3:=bj b3 hb;replace HB:=hB HB hb;clear hb hbox hg;have dM:=b7.out;have dN:=b6.out;obtain⟨⟨_,_⟩,_,_⟩:=z2 bE)|(go_at_call 65;(with_reducible refine(aD.calls k2 ((al aJ b1).f0) false _ bH.out).mono ?_);rintro e w' ⟨rfl,⟨nd,rfl⟩⟩)))
      go_ret
      exact⟨oE,oB⟩
     replace H:=bA H;obtain⟨gX,bJ,H⟩:=H
     try dsimp only at H
     replace H:=ll H;rcases H with⟨rfl,H⟩|⟨rfl,H⟩;rotate_left
     ·obtain rfl:=Option.some.inj H;have d9:(0≤(b1:Int))=True:=oT;have dA:(b1<(aJ.length:Int))=True:=oT;obtain⟨bB,bM,bN,bO⟩:=kf bF HB b1 oa oa
      cases bM
      go_wp2_with (first|((with_reducible refine aj (N:=4) rfl ?_);(try(refine ck (by rfl) ?_;dsimp only));refine dp 4 #[.string (⟨#[]⟩:ByteArray),.int .i64 0] 75 ?_;intro b5 hg gG hbox hb;have bE:=am (hbox);have bC:=dn hg;have b6:=eN hg b3;have b7:=eO hg b3;replace b3:=bj b3 hb;replace HB:=hB HB hb;clear hb hbox hg;have dO:=b7.out;have dP:=b6.out;obtain⟨⟨_,_⟩,_,_⟩:=z2 bE)|(go_at_call 65;(with_reducible refine(aD.calls k2 ((al aJ b1).f0) true _ bH.out).mono ?_);rintro e w' ⟨rfl,⟨nd,rfl⟩⟩)|(go_at_call 61;(with_reducible refine(bs.calls ((al aJ b1).f1) 2 1000 false _ bJ.out).mono ?_);rintro e w' ⟨rfl,⟨nd,rfl⟩⟩))
      repeat(go_quiet (first|(go_at_call 65;(with_reducible refine(aD.calls k2 ((al aJ b1).f0) true _ bH.out).mono ?_);rintro e w' ⟨rfl,⟨nd,rfl⟩⟩;exact oQ)|(go_at_call 61;(with_reducible refine(bs.calls ((al aJ b1).f1) 2 1000 false _ bJ.out).mono ?_);rintro e w' ⟨rfl,⟨nd,rfl⟩⟩;exact oQ));try go_wp2_with (first|((with_reducible refine aj (N:=4) rfl ?_);(try(refine ck (by rfl) ?_;dsimp only));refine dp 4 #[.string (⟨#[]⟩:ByteArray),.int .i64 0] 75 ?_;intro b5 hg gG hbox hb;have bE:=am (hbox);have bC:=dn hg;have b6:=eN hg b3;have b7:=eO hg b3;replace b3:=bj b3 hb;replace HB:=hB HB hb;clear hb hbox hg;have dO:=b7.out;have dP:=b6.out;obtain⟨⟨_,_⟩,_,_⟩:=z2 bE)|(go_at_call 65;(with_reducible refine(aD.calls k2 ((al aJ b1).f0) true _ bH.out).mono ?_);rintro e w' ⟨rfl,⟨nd,rfl⟩⟩)|(go_at_call 61;(with_reducible refine(bs.calls ((al aJ b1).f1) 2 1000 false _ bJ.out).mono ?_);rintro e w' ⟨rfl,⟨nd,rfl⟩⟩)))
      go_ret
      exact⟨oE,oB⟩
     replace H:=itG H;rcases H with⟨dQ,H⟩|⟨dQ,H⟩;rotate_left
     ·have H':=ae.mk H;clear H;have d9:(0≤(b1:Int))=True:=oT;have dA:(b1<(aJ.length:Int))=True:=oT;obtain⟨bB,bM,bN,bO⟩:=kf bF HB b1 oa oa
      cases bM
      go_wp2_with (first|((with_reducible refine aj (N:=4) rfl ?_);(try(refine ck (by rfl) ?_;dsimp only));refine dp 4 #[.string (⟨#[]⟩:ByteArray),.int .i64 0] 75 ?_;intro b5 hg gH hbox hb;have bE:=am (hbox);have bC:=dn hg;have b6:=eN hg b3;have b7:=eO hg b3;replace b3:=bj b3 hb;replace HB:=hB HB hb;clear hb hbox hg;have dR:=b7.out;have dS:=b6.out;obtain⟨⟨_,_⟩,_,_⟩:=z2 bE)|(go_at_call 65;(with_reducible refine(aD.calls k2 ((al aJ b1).f0) true _ bH.out).mono ?_);rintro e w' ⟨rfl,⟨nd,rfl⟩⟩)|(go_at_call 61;(with_reducible refine(bs.calls ((al aJ b1).f1) 2 1000 true _ bJ.out).mono ?_);rintro e w' ⟨rfl,⟨nd,rfl⟩⟩))
      repeat(go_quiet (first|(go_at_call 65;(with_reducible refine(aD.calls k2 ((al aJ b1).f0) true _ bH.out).mono ?_);rintro e w' ⟨rfl,⟨nd,rfl⟩⟩;exact oQ)|(go_at_call 61;(with_reducible refine(bs.calls ((al aJ b1).f1) 2 1000 true _ bJ.out).mono ?_);rintro e w' ⟨rfl,⟨nd,rfl⟩⟩;exact oQ));try go_wp2_with (first|((with_reducible refine aj (N:=4) rfl ?_);(try(refine ck (by rfl) ?_;dsimp only));refine dp 4 #[.string (⟨#[]⟩:ByteArray),.int .i64 0] 75 ?_;intro b5 hg gH hbox hb;have bE:=am (hbox);have bC:=dn hg;have b6:=eN hg b3;have b7:=eO hg b3;replace b3:=bj b3 hb;replace HB:=hB HB hb;clear hb hbox hg;have dR:=b7.out;have dS:=b6.out;obtain⟨⟨_,_⟩,_,_⟩:=z2 bE)|(go_at_call 65;(with_reducible refine(aD.calls k2 ((al aJ b1).f0) true _ bH.out).mono ?_);rintro e w' ⟨rfl,⟨nd,rfl⟩⟩)|(go_at_call 61;(with_reducible refine(bs.calls ((al aJ b1).f1) 2 1000 true _ bJ.out).mono ?_);rintro e w' ⟨rfl,⟨nd,rfl⟩⟩)))
      go_roundg k2
      case measure=>have:=d1.out;have:=d2.out;omega
      case rel=>exact⟨(wrap64 (b1+1)),oS,H',⟨by have:=d1.out;have:=d2.out;omega⟩,⟨oF b3⟩,⟨oB⟩⟩
     obtain⟨bD,bP⟩:∃j_:Int,(wrap64 (b1-1))=j_:=⟨_,rfl⟩
     replace H:(if 0≤(bD)then(if(bD)<(aJ.length:Int)then(if((Op.bytesLess (((al aJ (bD)).f0).toList) (((al aJ b1).f0).toList))=true)then(bh.l0 k2 aJ (aJ.length:Int) (wrap64 (b1+1)) bo ak cE cf aJ cr)else(some false))else(none))else(none))=some r:=by first|(rw[bP]at H;exact H)|(simp only[bP]at H⊢;exact H)
     (try rw[bP]at bH)
     (try rw[bP]at bJ)
     have gI:(IntKind.i64.wrap (b1-1))=bD:=(fZ _).trans bP;obtain⟨gP,H⟩:=cX H;obtain⟨gQ,H⟩:=cX H
     by_cases d4:((Op.bytesLess (((al aJ (bD)).f0).toList) (((al aJ b1).f0).toList))=true)
     ·rw[if_pos d4]at H;have dT:(Op.bytesLess (((al aJ (bD)).f0).toList) (((al aJ b1).f0).toList))=true:=d4;clear d4;have H':=ae.mk H;clear H;have d9:(0≤(b1:Int))=True:=oT;have dA:(b1<(aJ.length:Int))=True:=oT;obtain⟨bB,bM,bN,bO⟩:=kf bF HB b1 oa oa
      cases bM
      go_wp2_with (first|((with_reducible refine aj (N:=4) rfl ?_);(try(refine ck (by rfl) ?_;dsimp only));refine dp 4 #[.string (⟨#[]⟩:ByteArray),.int .i64 0] 75 ?_;intro b5 hg bW hbox hb;have bE:=am (hbox);have bC:=dn hg;have b6:=eN hg b3;have b7:=eO hg b3;replace b3:=bj b3 hb;replace HB:=hB HB hb;clear hb hbox hg;have dU:=b7.out;have dV:=b6.out;obtain⟨⟨_,_⟩,_,_⟩:=z2 bE)|(go_at_call 65;(with_reducible refine(aD.calls k2 ((al aJ b1).f0) true _ bH.out).mono ?_);rintro e w' ⟨rfl,⟨nd,rfl⟩⟩)|(go_at_call 61;(with_reducible refine(bs.calls ((al aJ b1).f1) 2 1000 true _ bJ.out).mono ?_);rintro e w' ⟨rfl,⟨nd,rfl⟩⟩;obtain⟨⟨_,_,_,_,_,_⟩,_,_,_,_,_,_⟩:=z6 b3;have bX:(0≤((bD):Int))=True:=oT;have bY:((bD)<(aJ.length:Int))=True:=oT;obtain⟨bG,bI,b2,b4⟩:=cT bF.out (bD) oa oa;obtain rfl:bB=bG:=(by injection bI);have b8:bB.block≠b5:=qU b2 bC;have b9:bB.block≠b5:=qU b2 bC;replace b2:=cB HB b2;replace b4:=cB HB b4;replace b2:=lT 0 (.string ((al aJ b1).f0)) b8 b2;replace b4:=lT 0 (.string ((al aJ b1).f0)) b8 b4;replace b2:=lT 1 (.int .i64 ((al aJ b1).f1)) b9 b2;replace b4:=lT 1 (.int .i64 ((al aJ b1).f1)) b9 b4;(try have bK:=fun(n_:Nat)=>(show((((bW.drewN n_).setCell ⟨b5,0,none⟩ (.string ((al aJ b1).f0))).setCell ⟨b5,1,none⟩ (.int .i64 ((al aJ b1).f1)))).cell? _=some _ from b2));(try have bL:=fun(n_:Nat)=>(show((((bW.drewN n_).setCell ⟨b5,0,none⟩ (.string ((al aJ b1).f0))).setCell ⟨b5,1,none⟩ (.int .i64 ((al aJ b1).f1)))).cell? _=some _ from b4));clear b8;clear b9))
      repeat(go_quiet (first|(go_at_call 65;(with_reducible refine(aD.calls k2 ((al aJ b1).f0) true _ bH.out).mono ?_);rintro e w' ⟨rfl,⟨nd,rfl⟩⟩;exact oQ)|(go_at_call 61;(with_reducible refine(bs.calls ((al aJ b1).f1) 2 1000 true _ bJ.out).mono ?_);rintro e w' ⟨rfl,⟨nd,rfl⟩⟩;exact oQ;obtain⟨⟨_,_,_,_,_,_⟩,_,_,_,_,_,_⟩:=z6 b3;have bX:(0≤((bD):Int))=True:=oT;have bY:((bD)<(aJ.length:Int))=True:=oT;obtain⟨bG,bI,b2,b4⟩:=cT bF.out (bD) oa oa;obtain rfl:bB=bG:=(by injection bI);have b8:bB.block≠b5:=qU b2 bC;have b9:bB.block≠b5:=qU b2 bC;replace b2:=cB HB b2;replace b4:=cB HB b4;replace b2:=lT 0 (.string ((al aJ b1).f0)) b8 b2;replace b4:=lT 0 (.string ((al aJ b1).f0)) b8 b4;replace b2:=lT 1 (.int .i64 ((al aJ b1).f1)) b9 b2;replace b4:=lT 1 (.int .i64 ((al aJ b1).f1)) b9 b4;(try have bK:=fun(n_:Nat)=>(show((((bW.drewN n_).setCell ⟨b5,0,none⟩ (.string ((al aJ b1).f0))).setCell ⟨b5,1,none⟩ (.int .i64 ((al aJ b1).f1)))).cell? _=some _ from b2));(try have bL:=fun(n_:Nat)=>(show((((bW.drewN n_).setCell ⟨b5,0,none⟩ (.string ((al aJ b1).f0))).setCell ⟨b5,1,none⟩ (.int .i64 ((al aJ b1).f1)))).cell? _=some _ from b4));clear b8;clear b9));try go_wp2_with (first|((with_reducible refine aj (N:=4) rfl ?_);(try(refine ck (by rfl) ?_;dsimp only));refine dp 4 #[.string (⟨#[]⟩:ByteArray),.int .i64 0] 75 ?_;intro b5 hg bW hbox hb;have bE:=am (hbox);have bC:=dn hg;have b6:=eN hg b3;have b7:=eO hg b3;replace b3:=bj b3 hb;replace HB:=hB HB hb;clear hb hbox hg;have dU:=b7.out;have dV:=b6.out;obtain⟨⟨_,_⟩,_,_⟩:=z2 bE)|(go_at_call 65;(with_reducible refine(aD.calls k2 ((al aJ b1).f0) true _ bH.out).mono ?_);rintro e w' ⟨rfl,⟨nd,rfl⟩⟩)|(go_at_call 61;(with_reducible refine(bs.calls ((al aJ b1).f1) 2 1000 true _ bJ.out).mono ?_);rintro e w' ⟨rfl,⟨nd,rfl⟩⟩;obtain⟨⟨_,_,_,_,_,_⟩,_,_,_,_,_,_⟩:=z6 b3;have bX:(0≤((bD):Int))=True:=oT;have bY:((bD)<(aJ.length:Int))=True:=oT;obtain⟨bG,bI,b2,b4⟩:=cT bF.out (bD) oa oa;obtain rfl:bB=bG:=(by injection bI);have b8:bB.block≠b5:=qU b2 bC;have b9:bB.block≠b5:=qU b2 bC;replace b2:=cB HB b2;replace b4:=cB HB b4;replace b2:=lT 0 (.string ((al aJ b1).f0)) b8 b2;replace b4:=lT 0 (.string ((al aJ b1).f0)) b8 b4;replace b2:=lT 1 (.int .i64 ((al aJ b1).f1)) b9 b2;replace b4:=lT 1 (.int .i64 ((al aJ b1).f1)) b9 b4;(try have bK:=fun(n_:Nat)=>(show((((bW.drewN n_).setCell ⟨b5,0,none⟩ (.string ((al aJ b1).f0))).setCell ⟨b5,1,none⟩ (.int .i64 ((al aJ b1).f1)))).cell? _=some _ from b2));(try have bL:=fun(n_:Nat)=>(show((((bW.drewN n_).setCell ⟨b5,0,none⟩ (.string ((al aJ b1).f0))).setCell ⟨b5,1,none⟩ (.int .i64 ((al aJ b1).f1)))).cell? _=some _ from b4));clear b8;clear b9)))
      go_roundg k2
      case measure=>have:=d1.out;have:=d2.out;omega
      case rel=>exact⟨(wrap64 (b1+1)),oS,H',⟨by have:=d1.out;have:=d2.out;omega⟩,⟨oF b3⟩,⟨oB⟩⟩
     rw[if_neg d4]at H
     have dT:(Op.bytesLess (((al aJ (bD)).f0).toList) (((al aJ b1).f0).toList))=false:=by simpa using d4
     clear d4;obtain rfl:=Option.some.inj H;have d9:(0≤(b1:Int))=True:=oT;have dA:(b1<(aJ.length:Int))=True:=oT;obtain⟨bB,bM,bN,bO⟩:=kf bF HB b1 oa oa
     cases bM
     go_wp2_with (first|((with_reducible refine aj (N:=4) rfl ?_);(try(refine ck (by rfl) ?_;dsimp only));refine dp 4 #[.string (⟨#[]⟩:ByteArray),.int .i64 0] 75 ?_;intro b5 hg bZ hbox hb;have bE:=am (hbox);have bC:=dn hg;have b6:=eN hg b3;have b7:=eO hg b3;replace b3:=bj b3 hb;replace HB:=hB HB hb;clear hb hbox hg;have dW:=b7.out;have dX:=b6.out;obtain⟨⟨_,_⟩,_,_⟩:=z2 bE)|(go_at_call 65;(with_reducible refine(aD.calls k2 ((al aJ b1).f0) true _ bH.out).mono ?_);rintro e w' ⟨rfl,⟨nd,rfl⟩⟩)|(go_at_call 61;(with_reducible refine(bs.calls ((al aJ b1).f1) 2 1000 true _ bJ.out).mono ?_);rintro e w' ⟨rfl,⟨nd,rfl⟩⟩;obtain⟨⟨_,_,_,_,_,_⟩,_,_,_,_,_,_⟩:=z6 b3;have bX:(0≤((bD):Int))=True:=oT;have bY:((bD)<(aJ.length:Int))=True:=oT;obtain⟨bG,bI,b2,b4⟩:=cT bF.out (bD) oa oa;obtain rfl:bB=bG:=(by injection bI);have b8:bB.block≠b5:=qU b2 bC;have b9:bB.block≠b5:=qU b2 bC;replace b2:=cB HB b2;replace b4:=cB HB b4;replace b2:=lT 0 (.string ((al aJ b1).f0)) b8 b2;replace b4:=lT 0 (.string ((al aJ b1).f0)) b8 b4;replace b2:=lT 1 (.int .i64 ((al aJ b1).f1)) b9 b2;replace b4:=lT 1 (.int .i64 ((al aJ b1).f1)) b9 b4;(try have bK:=fun(n_:Nat)=>(show((((bZ.drewN n_).setCell ⟨b5,0,none⟩ (.string ((al aJ b1).f0))).setCell ⟨b5,1,none⟩ (.int .i64 ((al aJ b1).f1)))).cell? _=some _ from b2));(try have bL:=fun(n_:Nat)=>(show((((bZ.drewN n_).setCell ⟨b5,0,none⟩ (.string ((al aJ b1).f0))).setCell ⟨b5,1,none⟩ (.int .i64 ((al aJ b1).f1)))).cell? _=some _ from b4));clear b8;clear b9))
     repeat(go_quiet (first|(go_at_call 65;(with_reducible refine(aD.calls k2 ((al aJ b1).f0) true _ bH.out).mono ?_);rintro e w' ⟨rfl,⟨nd,rfl⟩⟩;exact oQ)|(go_at_call 61;(with_reducible refine(bs.calls ((al aJ b1).f1) 2 1000 true _ bJ.out).mono ?_);rintro e w' ⟨rfl,⟨nd,rfl⟩⟩;exact oQ;obtain⟨⟨_,_,_,_,_,_⟩,_,_,_,_,_,_⟩:=z6 b3;have bX:(0≤((bD):Int))=True:=oT;have bY:((bD)<(aJ.length:Int))=True:=oT;obtain⟨bG,bI,b2,b4⟩:=cT bF.out (bD) oa oa;obtain rfl:bB=bG:=(by injection bI);have b8:bB.block≠b5:=qU b2 bC;have b9:bB.block≠b5:=qU b2 bC;replace b2:=cB HB b2;replace b4:=cB HB b4;replace b2:=lT 0 (.string ((al aJ b1).f0)) b8 b2;replace b4:=lT 0 (.string ((al aJ b1).f0)) b8 b4;replace b2:=lT 1 (.int .i64 ((al aJ b1).f1)) b9 b2;replace b4:=lT 1 (.int .i64 ((al aJ b1).f1)) b9 b4;(try have bK:=fun(n_:Nat)=>(show((((bZ.drewN n_).setCell ⟨b5,0,none⟩ (.string ((al aJ b1).f0))).setCell ⟨b5,1,none⟩ (.int .i64 ((al aJ b1).f1)))).cell? _=some _ from b2));(try have bL:=fun(n_:Nat)=>(show((((bZ.drewN n_).setCell ⟨b5,0,none⟩ (.string ((al aJ b1).f0))).setCell ⟨b5,1,none⟩ (.int .i64 ((al aJ b1).f1)))).cell? _=some _ from b4));clear b8;clear b9));try go_wp2_with (first|((with_reducible refine aj (N:=4) rfl ?_);(try(refine ck (by rfl) ?_;dsimp only));refine dp 4 #[.string (⟨#[]⟩:ByteArray),.int .i64 0] 75 ?_;intro b5 hg bZ hbox hb;have bE:=am (hbox);have bC:=dn hg;have b6:=eN hg b3;have b7:=eO hg b3;replace b3:=bj b3 hb;replace HB:=hB HB hb;clear hb hbox hg;have dW:=b7.out;have dX:=b6.out;obtain⟨⟨_,_⟩,_,_⟩:=z2 bE)|(go_at_call 65;(with_reducible refine(aD.calls k2 ((al aJ b1).f0) true _ bH.out).mono ?_);rintro e w' ⟨rfl,⟨nd,rfl⟩⟩)|(go_at_call 61;(with_reducible refine(bs.calls ((al aJ b1).f1) 2 1000 true _ bJ.out).mono ?_);rintro e w' ⟨rfl,⟨nd,rfl⟩⟩;obtain⟨⟨_,_,_,_,_,_⟩,_,_,_,_,_,_⟩:=z6 b3;have bX:(0≤((bD):Int))=True:=oT;have bY:((bD)<(aJ.length:Int))=True:=oT;obtain⟨bG,bI,b2,b4⟩:=cT bF.out (bD) oa oa;obtain rfl:bB=bG:=(by injection bI);have b8:bB.block≠b5:=qU b2 bC;have b9:bB.block≠b5:=qU b2 bC;replace b2:=cB HB b2;replace b4:=cB HB b4;replace b2:=lT 0 (.string ((al aJ b1).f0)) b8 b2;replace b4:=lT 0 (.string ((al aJ b1).f0)) b8 b4;replace b2:=lT 1 (.int .i64 ((al aJ b1).f1)) b9 b2;replace b4:=lT 1 (.int .i64 ((al aJ b1).f1)) b9 b4;(try have bK:=fun(n_:Nat)=>(show((((bZ.drewN n_).setCell ⟨b5,0,none⟩ (.string ((al aJ b1).f0))).setCell ⟨b5,1,none⟩ (.int .i64 ((al aJ b1).f1)))).cell? _=some _ from b2));(try have bL:=fun(n_:Nat)=>(show((((bZ.drewN n_).setCell ⟨b5,0,none⟩ (.string ((al aJ b1).f0))).setCell ⟨b5,1,none⟩ (.int .i64 ((al aJ b1).f1)))).cell? _=some _ from b4));clear b8;clear b9)))
     go_ret
     exact⟨by first|rfl|(simp[eC,eD]<;>rfl)|(simp only[←bP];first|rfl|(simp[eC,eD]<;>rfl))|(simp[*,eC,eD]<;>rfl),oB⟩
end Go.Proofs.YtlecajlnjmbilaaGreatDoor.P
