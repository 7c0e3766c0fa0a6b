-- Printed walks.
import Derived.Test.YtlecajlnjmbilaaGreatDoorPx4
import Derived.Test.YtlecajlnjmbilaaGreatDoorPx5
set_option linter.all false
set_option maxHeartbeats 8000000
set_option maxRecDepth 100000
namespace Go.Proofs.YtlecajlnjmbilaaGreatDoor.P
open Go.RowKit Go.Proofs.ab.aq Go.Proofs.ab.aM Go.Proofs.ab.aT Go.Proofs.Tryz
attribute [local go_sem] gn gp iF iG fC fD gq gr

mutual
def az.l0:Nat→List Int→List Int→Int→List (bm)→Int→Option (List Int)
 |0,_,_,_,_,_=>none
 |k+1,x1,x5,x6,b2,b3=>if x6<(x1.length:Int)then(if 0≤x6 then((fz.f k b2 b3 (rd x1 x6)).bind fun b1=>(az.l1 k x1 x5 x6 b1.2.2.2.2.2.2 0 b2 b3 b1.1 b1.2.1 b1.2.2.1 b1.2.2.2.1 b1.2.2.2.2.1 b1.2.2.2.2.2.1))else(none))else(some x5)
def az.l1:Nat→List Int→List Int→Int→Bool→Int→List (bm)→Int→Int→Int→Int→List Int→List (ey)→List (ct)→Option (List Int)
 |0,_,_,_,_,_,_,_,_,_,_,_,_,_=>none
 |k+1,x1,x5,x6,x8,x9,b3,b4,b5,b1,b6,b7,b2,b8=>if x9<(b2.length:Int)then(if x8=true then(az.j2 k x1 x5 x6 x8 x9 (b1==2) b3 b4 b5 b1 b6 b7 b2 b8)else(az.j2 k x1 x5 x6 x8 x9 false b3 b4 b5 b1 b6 b7 b2 b8))else(az.j2 k x1 x5 x6 x8 x9 false b3 b4 b5 b1 b6 b7 b2 b8)
def az.j2:Nat→List Int→List Int→Int→Bool→Int→Bool→List (bm)→Int→Int→Int→Int→List Int→List (ey)→List (ct)→Option (List Int)
 |0,_,_,_,_,_,_,_,_,_,_,_,_,_,_=>none
 |k+1,x1,x5,x6,x8,x9,bC,b2,b3,b4,b5,b6,b7,b1,b8=>if bC=true then(if 0≤x9 then(if x9<(b1.length:Int)then((cG.f k b2 b3 ((al b1 x9).f1)).bind fun b9=>(if b9≥0 then((dj.f k x5 ((al b1 x9).f1)).bind fun bB=>(az.l1 k x1 bB x6 x8 (wrap64 (x9+1)) b2 b3 b4 b5 b6 b7 b1 b8))else(az.l1 k x1 x5 x6 x8 (wrap64 (x9+1)) b2 b3 b4 b5 b6 b7 b1 b8)))else(none))else(none))else(az.l0 k x1 x5 (wrap64 (x6+1)) b2 b3)
end
def az.f (k:Nat) (ag:List (bm)) (aj:Int) (l1:List Int):Option (List Int):=az.l0 k l1 l1 0 ag aj
def az.T5:Bool×List (List Nat×List Nat):=(true,[([],[]),([],[]),([],[]),([1,2],[1,2]),([3],[3]),([0,4],[0,4]),([5],[5]),([6],[6]),([6],[6]),([],[]),([9,7,5,0,1,2,3,4,5,6,7,9],[7,9]),([8,10,0,1,2,3,4,5,6,7,8,9,10],[8])])
def az.B5:List Nat:=[0,0,0,6,14,31,63,127,127,0,767,2047]
theorem az.aaU:g_ .any (opsOf Tryz.f117 5)=az.T5:=by kernel_rfl
theorem az.uS:eX az.T5.2 az.B5=true:=by kernel_rfl
def az.T9:Bool×List (List Nat×List Nat):=(true,[([],[]),([],[]),([1],[1]),([],[]),([2,3],[2,3]),([4],[4]),([5],[5]),([0,6],[0,6]),([7],[7])])
def az.B9:List Nat:=[0,0,2,0,14,30,62,127,255]
theorem az.aa0:g_ .any (opsOf Tryz.f117 9)=az.T9:=by kernel_rfl
theorem az.uV:eX az.T9.2 az.B9=true:=by kernel_rfl
theorem az.calls (k:Nat) (bo:Option Addr) (bg:Nat) (ag:List (bm)) (aj:Int) (A1:Option Addr) (c1:Nat) (l1:List Int) (r:List Int) (b0:Nat) (w:World) (hb0:b0≤w.heap.size) (cv:Kd.C fN w bo ag.length ag) (cA:ag.length≤bg) (ho1:Kd.R (Kd.int .i64) 3 w b0 (fun _=>True) (.slice A1 l1.length c1) l1) (h:az.f k ag aj l1=some r):
  Calls Tryz.prog 117 #[.agg #[.slice bo ag.length bg,.int .i64 aj],.slice A1 l1.length c1] w fun e w'=>∃iV:Value,e= .returned (iV)∧Kd.R (Kd.int .i64) 3 w' b0 (fun _=>True) iV r∧Below w.heap.size w w':=by
 have b19:=underlying28;have b1A:=underlying58;have dN:=ae.mk cv;have dO:=ae.mk cA;clear cv cA;have zM:=am (Kd.aH ho1).2.2;have HC1:=am (Kd.aH ho1).2.1;have mF:=ae.mk ho1;have zN:=ae.mk hb0;clear ho1 hb0;have HB:=am (Below.refl w.heap.size w);have H:(az.l0 k l1 l1 0 ag aj)=some r:=h;clear h;have H':=ae.mk H;clear H
 go_enter func117,ntmps117
 go_wp2_with (first|((with_reducible refine ai (N:=2) rfl ?_);refine sE ?hg (N:=2) ?hd (cs:= #[.slice bo ag.length bg,.int .i64 aj]) (t:=28) ?hr ?_;(case hd=>rfl);(case hg=>rfl);(case hr=>first|(go_simp;done)|(go_simp;rfl));intro bD hg w3 hbox hb;have bI:=hB HB hb;have bJ:=am (hbox);have bK:=am ((by rw[hg];exact(ah oB):w.heap.size≤bD));have bP:=am ((by rw[hg];exact(ah oB):w.heap.size≤bD));clear HB;have HB:=bI;have b3:=bJ;have zS:=bK;have bE:=bP;clear bI bJ bK bP;have jW:=am (Kd.iX mF.out hb);clear hb hbox hg))
 go_loopg [5,6] k (fun kq v5 v6 w'=>∃(dD:List Int) (bH:Int),v6= .int .i64 bH∧ae (az.l0 kq l1 dD bH ag aj=some r)∧ae (kq≤k)∧ae (Kd.R (Kd.int .i64) 3 w' b0 (fun _=>True) v5 dD)∧ae (w'.heap[bD]? =some (.cells #[(.slice bo ag.length bg),.int .i64 aj] 28 (0,0)))∧ae (Below w.heap.size w w'))
 case atStart=>exact⟨(l1),(0),oS,H',⟨Nat.le_refl _⟩,⟨by(with_reducible repeat(first|apply Kd.ca|apply Kd.cd|apply Kd.cj));exact jW.out⟩,⟨oF b3⟩,⟨by repeat(first|(with_reducible first|exact HB.out|apply aX|apply aJ|apply au|refine aD ?_ bE.out)|exact HB.out)⟩⟩
 case round=>
  clear H'
  try clear c1
  try clear p2
  obtain⟨dD,bH,rfl,HA,dI,b8,b3,HB⟩:=hrel
  cases gk with
  |zero=>exact absurd HA.out (by simp[az.l0])
  |succ k1=>
   have H:=HA.out;clear HA;simp only[az.l0]at H
   by_cases c6:bH<(l1.length:Int)
   rotate_left
   ·rw[if_neg c6]at H;have gG:decide (bH<(l1.length:Int))=false:=decide_eq_false c6;clear c6;obtain rfl:=Option.some.inj H
    go_wp2
    go_ret
    exact⟨_,oE,by(with_reducible repeat(first|apply Kd.ca|apply Kd.cd|apply Kd.cj));exact b8.out,by repeat(first|(with_reducible first|exact HB.out|apply aX|apply aJ|apply au|refine aD ?_ bE.out)|exact HB.out)⟩
   rw[if_pos c6]at H;have gG:decide (bH<(l1.length:Int))=true:=decide_eq_true c6;clear c6;obtain⟨c7,H⟩:=lu H;have jP:decide (0≤bH)=true:=decide_eq_true c7;clear c7;replace H:=Option.bind_eq_some_iff.mp H;obtain⟨⟨bQ,bO,bR,bL,bB,bM,bW⟩,m1,H⟩:=H;replace H:(az.l1 k1 l1 dD bH bW 0 ag aj bQ bO bR bL bB bM)=some r:=H;have A8:=ae.mk m1;clear m1;have H':=ae.mk H;clear H
   try go_wp2
   have bI:=am (Kd.cj b8.out);have bJ:=am (ar b3.out);have bK:=am (au HB.out);clear b8;clear b3;clear HB;have b8:=bI;have b3:=bJ;have HB:=bK;clear bI bJ bK;have dQ:0≤(bH:Int):=oa;have dR:bH<(l1.length:Int):=oa;obtain⟨dZ,mG,bY⟩:=Kd.kf zM.out bH dQ dR;have bC:=bY
   cases mG
   replace bY:=(HB.out.cell (World.block_lt_of_cell? w _ bY)).trans bY;replace dQ:=eq_true dQ;replace dR:=eq_true dR;refine mb 12 (fun w'=>w'.cell? ⟨bD,0,none⟩=some (.slice bo ag.length bg)∧w'.cell? ⟨bD,1,none⟩=some (.int .i64 aj)∧w'.cell? (dZ.add (bH).toNat)=some (.int .i64 (rd l1 bH))) az.aaU az.uS oH (fun hHeld av eH=> ?_);generalize wr.drew=w9 at b8 b3 HB bY hHeld⊢;refine bx 1 19 av ?_;refine bx 2 20 av ?_;refine bx 3 21 av ?_;refine fO 0 18 av eH hHeld ?_;refine fO 4 22 av eH hHeld ?_;refine acC (σ:=Value×Value×Value×Nat) 2 (lb 12 1023) (fun s_=>[(23,.tuple #[.agg #[.int .i64 bQ,.int .i64 bO,.int .i64 bR,s_.1,s_.2.1,s_.2.2.1],.bool bW]),(7,.pointer (some ⟨s_.2.2.2,0,none⟩)),(17,.tuple #[.agg #[.int .i64 bQ,.int .i64 bO,.int .i64 bR,s_.1,s_.2.1,s_.2.2.1],.bool bW]),(24,.agg #[.int .i64 bQ,.int .i64 bO,.int .i64 bR,s_.1,s_.2.1,s_.2.2.1]),(25,.bool bW)]) (fun s_ w'=>(w'.cell? ⟨bD,0,none⟩=some (.slice bo ag.length bg)∧w'.cell? ⟨bD,1,none⟩=some (.int .i64 aj)∧w'.cell? (dZ.add (bH).toNat)=some (.int .i64 (rd l1 bH)))∧(Kd.R (Kd.int .u8) 5 w' w.heap.size (fun _=>True) s_.1 bL)∧(Kd.R jc 75 w' w.heap.size (fun _=>True) s_.2.1 bB)∧(Kd.R fa 82 w' w.heap.size (fun _=>True) s_.2.2.1 bM)∧(Kd.R (Kd.int .i64) 3 w' b0 (fun _=>True) u5 dD)∧(w'.heap[bD]? =some (.cells #[.slice bo ag.length bg,.int .i64 aj] 28 (0,0)))∧(w'.heap[s_.2.2.2]? =some (.cells #[.int .i64 0,.int .i64 0,.int .i64 0,.slice none 0 0,.slice none 0 0,.slice none 0 0] 58 (0,0)))∧(w.heap.size≤s_.2.2.2)∧(w.heap.size≤s_.2.2.2)∧(bD≠s_.2.2.2)∧(s_.2.2.2≠bD)∧(Below w.heap.size w w')) ?_ ?_;rotate_left
   ·intro sR;refine adf (i:=5) (j:=9) (Ni:=some 23) (Nj:=some 7) (lb 12 63) (lb 12 543) rfl rfl rfl rfl (adg av.out (by kernel_rfl)) (by decide) (by decide) (fun K hK=> ?_) (fun K hK=> ?_)
    ·skip
     refine ur func85 (by kernel_rfl) rfl #[.agg #[.slice bo ag.length bg,.int .i64 aj],.int .i64 (rd l1 bH)] (by rfl) rfl rfl oL ?_
     with_reducible refine(fz.calls k1 _ _ ag aj (rd l1 bH) bQ bO bR bL bB bM bW _ ?fl ?nq A8.out).mono ?_
     (case fl=>repeat(first|exact(Kd.de dN.out HB.out)|(with_reducible refine Kd.fx ?_ _)|(with_reducible refine Kd.fy ?_ _)|(with_reducible refine Kd.hD ?_)))
     (case nq=>exact dO.out)
     rintro e zO ⟨dS,dT,dU,rfl,dM,ho1,gA,hb⟩;refine⟨_,rfl,?_⟩;have bI:=nw b8 hb;have bJ:=am (Kd.aw dM (ah (by repeat(first|(with_reducible first|exact HB.out|apply aX|apply aJ|apply au|refine aD ?_ bE.out)|exact HB.out))));have bK:=am (Kd.aw ho1 (ah (by repeat(first|(with_reducible first|exact HB.out|apply aX|apply aJ|apply au|refine aD ?_ bE.out)|exact HB.out))));have bP:=am (Kd.aw gA (ah (by repeat(first|(with_reducible first|exact HB.out|apply aX|apply aJ|apply au|refine aD ?_ bE.out)|exact HB.out))));have bS:=aQ b3 hb;have bT:=am (fM (by repeat(first|(with_reducible first|exact HB.out|apply aX|apply aJ|apply au|refine aD ?_ bE.out)|exact HB.out)) hb);clear b8;clear b3;clear HB;have b8:=bI;have d1:=bJ;have d2:=bK;have d3:=bP;have b3:=bS;have HB:=bT;clear bI bJ bK bP bS bT
     (try clear hb)
     (try clear hb2)
     (try clear hk)
     (try clear hi)
     (try clear dM)
     (try clear ho1)
     (try clear gA)
     refine eP hK 23 oH (fun hHeld=> ?_);clear hK K;refine bx 6 17 av ?_;refine bx 7 24 av ?_;refine bx 8 25 av ?_;refine kQ 9 7 av (fun K hK=> ?_);refine uE ?hg (N:=7) ?hd (cs:= #[.int .i64 0,.int .i64 0,.int .i64 0,.slice none 0 0,.slice none 0 0,.slice none 0 0]) (t:=58) ?hr ?_;(case hd=>rfl);(case hg=>rfl);(case hr=>first|(go_simp;done)|(go_simp;rfl));intro b2 hg zP hbox hb;have bI:=nw b8 hb;have bJ:=nw d1 hb;have bK:=nw d2 hb;have bP:=nw d3 hb;have bS:=aQ b3 hb;have bT:=am (fM (by repeat(first|(with_reducible first|exact HB.out|apply aX|apply aJ|apply au|refine aD ?_ bE.out)|exact HB.out)) hb);have bU:=am (hbox);have dB:=am ((by rw[hg];exact(ah (by repeat(first|(with_reducible first|exact HB.out|apply aX|apply aJ|apply au|refine aD ?_ bE.out)|exact HB.out))):w.heap.size≤b2));have gB:=am ((by rw[hg];exact(ah (by repeat(first|(with_reducible first|exact HB.out|apply aX|apply aJ|apply au|refine aD ?_ bE.out)|exact HB.out))):w.heap.size≤b2));have gC:=am ((by rw[hg];exact Nat.ne_of_lt (ie (g:=bD) (o:= .cells #[.slice bo ag.length bg,.int .i64 aj] 28 (0,0)) (oF b3)):bD≠b2));have dV:=am ((by rw[hg];exact Nat.ne_of_gt (ie (g:=bD) (o:= .cells #[.slice bo ag.length bg,.int .i64 aj] 28 (0,0)) (oF b3)):b2≠bD));clear b8;clear d1;clear d2;clear d3;clear b3;clear HB;have b8:=bI;have d1:=bJ;have d2:=bK;have d3:=bP;have b3:=bS;have HB:=bT;have b1:=bU;have bF:=dB;have bN:=gB;have b4:=gC;have bG:=dV;clear bI bJ bK bP bS bT bU dB gB gC dV;clear hb hbox hg;refine eP hK 7 oH (fun hHeld=> ?_);clear hK K;exact rv (by simp only[mw,Act.put,List.setIfInBounds_toArray,List.set_cons_zero,List.set_cons_succ]) (sR (dS,dT,dU,b2) _ ⟨hHeld,(vK d1),(vK d2),(vK d3),(vK b8),(oF b3),(oF b1),bF.out,bN.out,b4.out,bG.out,(by repeat(first|(with_reducible first|exact HB.out|apply aX|apply aJ|apply au|refine aD ?_ bE.out|refine aD ?_ bN.out)|exact HB.out))⟩)
    ·skip
     refine uE ?hg (N:=7) ?hd (cs:= #[.int .i64 0,.int .i64 0,.int .i64 0,.slice none 0 0,.slice none 0 0,.slice none 0 0]) (t:=58) ?hr ?_;(case hd=>rfl);(case hg=>rfl);(case hr=>first|(go_simp;done)|(go_simp;rfl));intro b2 hg zO hbox hb;have bI:=nw b8 hb;have bJ:=aQ b3 hb;have bK:=am (fM (by repeat(first|(with_reducible first|exact HB.out|apply aX|apply aJ|apply au|refine aD ?_ bE.out)|exact HB.out)) hb);have bP:=am (hbox);have bS:=am ((by rw[hg];exact(ah (by repeat(first|(with_reducible first|exact HB.out|apply aX|apply aJ|apply au|refine aD ?_ bE.out)|exact HB.out))):w.heap.size≤b2));have bT:=am ((by rw[hg];exact(ah (by repeat(first|(with_reducible first|exact HB.out|apply aX|apply aJ|apply au|refine aD ?_ bE.out)|exact HB.out))):w.heap.size≤b2));have bU:=am ((by rw[hg];exact Nat.ne_of_lt (ie (g:=bD) (o:= .cells #[.slice bo ag.length bg,.int .i64 aj] 28 (0,0)) (oF b3)):bD≠b2));have dB:=am ((by rw[hg];exact Nat.ne_of_gt (ie (g:=bD) (o:= .cells #[.slice bo ag.length bg,.int .i64 aj] 28 (0,0)) (oF b3)):b2≠bD));clear b8;clear b3;clear HB;have b8:=bI;have b3:=bJ;have HB:=bK;have b1:=bP;have bF:=bS;have bN:=bT;have b4:=bU;have bG:=dB;clear bI bJ bK bP bS bT bU dB;clear hb hbox hg;refine eP hK 7 oH (fun hHeld=> ?_);clear hK K;refine kQ 5 23 av (fun K hK=> ?_);refine ur func85 (by kernel_rfl) rfl #[.agg #[.slice bo ag.length bg,.int .i64 aj],.int .i64 (rd l1 bH)] (by rfl) rfl rfl oL ?_
     with_reducible refine(fz.calls k1 _ _ ag aj (rd l1 bH) bQ bO bR bL bB bM bW _ ?fl ?nq A8.out).mono ?_
     (case fl=>repeat(first|exact(Kd.de dN.out HB.out)|(with_reducible refine Kd.fx ?_ _)|(with_reducible refine Kd.fy ?_ _)|(with_reducible refine Kd.hD ?_)))
     (case nq=>exact dO.out)
     rintro e zP ⟨dS,dT,dU,rfl,dM,ho1,gA,hb⟩;refine⟨_,rfl,?_⟩;have bI:=nw b8 hb;have bJ:=am (Kd.aw dM (ah (by repeat(first|(with_reducible first|exact HB.out|apply aX|apply aJ|apply au|refine aD ?_ bE.out|refine aD ?_ bN.out)|exact HB.out))));have bK:=am (Kd.aw ho1 (ah (by repeat(first|(with_reducible first|exact HB.out|apply aX|apply aJ|apply au|refine aD ?_ bE.out|refine aD ?_ bN.out)|exact HB.out))));have bP:=am (Kd.aw gA (ah (by repeat(first|(with_reducible first|exact HB.out|apply aX|apply aJ|apply au|refine aD ?_ bE.out|refine aD ?_ bN.out)|exact HB.out))));have bS:=aQ b3 hb;have bT:=aQ b1 hb;have bU:=am (fM (by repeat(first|(with_reducible first|exact HB.out|apply aX|apply aJ|apply au|refine aD ?_ bE.out|refine aD ?_ bN.out)|exact HB.out)) hb);clear b8;clear b3;clear b1;clear HB;have b8:=bI;have d1:=bJ;have d2:=bK;have d3:=bP;have b3:=bS;have b1:=bT;have HB:=bU;clear bI bJ bK bP bS bT bU
     (try clear hb)
     (try clear hb2)
     (try clear hk)
     (try clear hi)
     (try clear dM)
     (try clear ho1)
     (try clear gA)
     refine eP hK 23 oH (fun hHeld=> ?_);clear hK K;refine bx 6 17 av ?_;refine bx 7 24 av ?_;refine bx 8 25 av ?_;exact rv (by simp only[mw,Act.put,List.setIfInBounds_toArray,List.set_cons_zero,List.set_cons_succ]) (sR (dS,dT,dU,b2) _ ⟨hHeld,(vK d1),(vK d2),(vK d3),(vK b8),(oF b3),(oF b1),bF.out,bN.out,b4.out,bG.out,(by repeat(first|(with_reducible first|exact HB.out|apply aX|apply aJ|apply au|refine aD ?_ bE.out|refine aD ?_ bN.out)|exact HB.out))⟩)
   rintro⟨dS,dT,dU,b2⟩ bZ ⟨xA,m2,m3,m4,m5,m6,m7,m8,m9,mA,mB,jQ⟩;have bI:ae (Kd.R (Kd.int .u8) 5 bZ w.heap.size (fun _=>True) dS bL):=⟨m2⟩;have bJ:ae (Kd.R jc 75 bZ w.heap.size (fun _=>True) dT bB):=⟨m3⟩;have bK:ae (Kd.R fa 82 bZ w.heap.size (fun _=>True) dU bM):=⟨m4⟩;have bP:ae (Kd.R (Kd.int .i64) 3 bZ b0 (fun _=>True) u5 dD):=⟨m5⟩;have bS:ae (bZ.heap[bD]? =some (.cells #[.slice bo ag.length bg,.int .i64 aj] 28 (0,0))):=⟨m6⟩;have bT:ae (bZ.heap[b2]? =some (.cells #[.int .i64 0,.int .i64 0,.int .i64 0,.slice none 0 0,.slice none 0 0,.slice none 0 0] 58 (0,0))):=⟨m7⟩;have bU:ae (w.heap.size≤b2):=⟨m8⟩;have dB:ae (w.heap.size≤b2):=⟨m9⟩;have gB:ae (bD≠b2):=⟨mA⟩;have gC:ae (b2≠bD):=⟨mB⟩;have dV:ae (Below w.heap.size w bZ):=⟨jQ⟩;clear b8;clear b3;clear HB;clear m2 m3 m4 m5 m6 m7 m8 m9 mA mB jQ;have d1:=bI;have d2:=bJ;have d3:=bK;have b8:=bP;have b3:=bS;have b1:=bT;have bF:=bU;have bN:=dB;have b4:=gB;have bG:=gC;have HB:=dV;clear bI bJ bK bP bS bT bU dB gB gC dV;have hHeld:bZ.cell? ⟨bD,0,none⟩=some (.slice bo ag.length bg)∧bZ.cell? ⟨bD,1,none⟩=some (.int .i64 aj)∧bZ.cell? (dZ.add (bH).toNat)=some (.int .i64 (rd l1 bH)):=xA;obtain⟨d4,d5,jR⟩:=Kd.ax d1.out
   (first|subst jR|(injection jR with kL nA kM;have gD:=kL.symm;have gE:=kM.symm;clear kL nA kM;subst gD;subst gE))
   obtain⟨dE,d6,jS⟩:=Kd.ax d2.out
   (first|subst jS|(injection jS with kL nA kM;have gD:=kL.symm;have gE:=kM.symm;clear kL nA kM;subst gD;subst gE))
   obtain⟨d7,d8,jT⟩:=Kd.ax d3.out
   (first|subst jT|(injection jT with kL nA kM;have gD:=kL.symm;have gE:=kM.symm;clear kL nA kM;subst gD;subst gE))
   refine rv (a':= ?_) ?_ ?_;rotate_left
   ·simp only[mw,Act.put,List.setIfInBounds_toArray,List.set_cons_zero,List.set_cons_succ]
    rfl
   refine acY (i:=10) (N:=none) (lb 12 2047) rfl rfl (th av.out (by kernel_rfl)) (by decide) (fun K hK=> ?_);have b1B:bZ.cell? ⟨b2,0,none⟩=some (.int .i64 0):=(ao b1.out 0).trans rfl;have zT:=aC b1.out 0;have mL:=b4.out;have mM:=bG.out;have b1C:bZ.cell? ⟨b2,1,none⟩=some (.int .i64 0):=(ao b1.out 1).trans rfl;have zU:=aC b1.out 1;have mN:=b4.out;have mO:=bG.out;have b1D:bZ.cell? ⟨b2,2,none⟩=some (.int .i64 0):=(ao b1.out 2).trans rfl;have zV:=aC b1.out 2;have mP:=b4.out;have mQ:=bG.out;have b1E:bZ.cell? ⟨b2,3,none⟩=some (.slice none 0 0):=(ao b1.out 3).trans rfl;have zW:=aC b1.out 3;have mS:=b4.out;have mT:=bG.out;have b1F:bZ.cell? ⟨b2,4,none⟩=some (.slice none 0 0):=(ao b1.out 4).trans rfl;have zX:=aC b1.out 4;have mU:=b4.out;have mV:=bG.out;have b1G:bZ.cell? ⟨b2,5,none⟩=some (.slice none 0 0):=(ao b1.out 5).trans rfl;have zY:=aC b1.out 5;have mW:=b4.out;have mX:=bG.out;refine xi (w1:= ?_) (by rfl) rfl ?_ ?_;rotate_left
   ·go_simp
    rfl
   refine hK.out _ _ ⟨((cell_far (p:=⟨b2,_,none⟩) b4.out _).trans (((cell_far (p:=⟨b2,_,none⟩) b4.out _).trans (((cell_far (p:=⟨b2,_,none⟩) b4.out _).trans (((cell_far (p:=⟨b2,_,none⟩) b4.out _).trans (((cell_far (p:=⟨b2,_,none⟩) b4.out _).trans (((cell_far (p:=⟨b2,_,none⟩) b4.out _).trans (hHeld.1)))))))))))),((cell_far (p:=⟨b2,_,none⟩) b4.out _).trans (((cell_far (p:=⟨b2,_,none⟩) b4.out _).trans (((cell_far (p:=⟨b2,_,none⟩) b4.out _).trans (((cell_far (p:=⟨b2,_,none⟩) b4.out _).trans (((cell_far (p:=⟨b2,_,none⟩) b4.out _).trans (((cell_far (p:=⟨b2,_,none⟩) b4.out _).trans (hHeld.2.1)))))))))))),((cell_far (p:=⟨b2,_,none⟩) (by first|exact Nat.ne_of_lt (Nat.lt_of_lt_of_le (by have:=World.block_lt_of_cell? _ _ bC;first|rwa [add_block]at this|exact this) bF.out)|(rw[add_block];exact Nat.ne_of_lt (Nat.lt_of_lt_of_le (by have:=World.block_lt_of_cell? _ _ bC;first|rwa [add_block]at this|exact this) bF.out))|(show(Addr.add _ _).block≠_;rw[add_block];exact Nat.ne_of_lt (Nat.lt_of_lt_of_le (by have:=World.block_lt_of_cell? _ _ bC;first|rwa [add_block]at this|exact this) bF.out))|(dsimp only;exact Nat.ne_of_lt (Nat.lt_of_lt_of_le (by have:=World.block_lt_of_cell? _ _ bC;first|rwa [add_block]at this|exact this) bF.out))) _).trans (((cell_far (p:=⟨b2,_,none⟩) (by first|exact Nat.ne_of_lt (Nat.lt_of_lt_of_le (by have:=World.block_lt_of_cell? _ _ bC;first|rwa [add_block]at this|exact this) bF.out)|(rw[add_block];exact Nat.ne_of_lt (Nat.lt_of_lt_of_le (by have:=World.block_lt_of_cell? _ _ bC;first|rwa [add_block]at this|exact this) bF.out))|(show(Addr.add _ _).block≠_;rw[add_block];exact Nat.ne_of_lt (Nat.lt_of_lt_of_le (by have:=World.block_lt_of_cell? _ _ bC;first|rwa [add_block]at this|exact this) bF.out))|(dsimp only;exact Nat.ne_of_lt (Nat.lt_of_lt_of_le (by have:=World.block_lt_of_cell? _ _ bC;first|rwa [add_block]at this|exact this) bF.out))) _).trans (((cell_far (p:=⟨b2,_,none⟩) (by first|exact Nat.ne_of_lt (Nat.lt_of_lt_of_le (by have:=World.block_lt_of_cell? _ _ bC;first|rwa [add_block]at this|exact this) bF.out)|(rw[add_block];exact Nat.ne_of_lt (Nat.lt_of_lt_of_le (by have:=World.block_lt_of_cell? _ _ bC;first|rwa [add_block]at this|exact this) bF.out))|(show(Addr.add _ _).block≠_;rw[add_block];exact Nat.ne_of_lt (Nat.lt_of_lt_of_le (by have:=World.block_lt_of_cell? _ _ bC;first|rwa [add_block]at this|exact this) bF.out))|(dsimp only;exact Nat.ne_of_lt (Nat.lt_of_lt_of_le (by have:=World.block_lt_of_cell? _ _ bC;first|rwa [add_block]at this|exact this) bF.out))) _).trans (((cell_far (p:=⟨b2,_,none⟩) (by first|exact Nat.ne_of_lt (Nat.lt_of_lt_of_le (by have:=World.block_lt_of_cell? _ _ bC;first|rwa [add_block]at this|exact this) bF.out)|(rw[add_block];exact Nat.ne_of_lt (Nat.lt_of_lt_of_le (by have:=World.block_lt_of_cell? _ _ bC;first|rwa [add_block]at this|exact this) bF.out))|(show(Addr.add _ _).block≠_;rw[add_block];exact Nat.ne_of_lt (Nat.lt_of_lt_of_le (by have:=World.block_lt_of_cell? _ _ bC;first|rwa [add_block]at this|exact this) bF.out))|(dsimp only;exact Nat.ne_of_lt (Nat.lt_of_lt_of_le (by have:=World.block_lt_of_cell? _ _ bC;first|rwa [add_block]at this|exact this) bF.out))) _).trans (((cell_far (p:=⟨b2,_,none⟩) (by first|exact Nat.ne_of_lt (Nat.lt_of_lt_of_le (by have:=World.block_lt_of_cell? _ _ bC;first|rwa [add_block]at this|exact this) bF.out)|(rw[add_block];exact Nat.ne_of_lt (Nat.lt_of_lt_of_le (by have:=World.block_lt_of_cell? _ _ bC;first|rwa [add_block]at this|exact this) bF.out))|(show(Addr.add _ _).block≠_;rw[add_block];exact Nat.ne_of_lt (Nat.lt_of_lt_of_le (by have:=World.block_lt_of_cell? _ _ bC;first|rwa [add_block]at this|exact this) bF.out))|(dsimp only;exact Nat.ne_of_lt (Nat.lt_of_lt_of_le (by have:=World.block_lt_of_cell? _ _ bC;first|rwa [add_block]at this|exact this) bF.out))) _).trans (((cell_far (p:=⟨b2,_,none⟩) (by first|exact Nat.ne_of_lt (Nat.lt_of_lt_of_le (by have:=World.block_lt_of_cell? _ _ bC;first|rwa [add_block]at this|exact this) bF.out)|(rw[add_block];exact Nat.ne_of_lt (Nat.lt_of_lt_of_le (by have:=World.block_lt_of_cell? _ _ bC;first|rwa [add_block]at this|exact this) bF.out))|(show(Addr.add _ _).block≠_;rw[add_block];exact Nat.ne_of_lt (Nat.lt_of_lt_of_le (by have:=World.block_lt_of_cell? _ _ bC;first|rwa [add_block]at this|exact this) bF.out))|(dsimp only;exact Nat.ne_of_lt (Nat.lt_of_lt_of_le (by have:=World.block_lt_of_cell? _ _ bC;first|rwa [add_block]at this|exact this) bF.out))) _).trans (hHeld.2.2))))))))))))⟩ (fun hHeld=> ?_);clear hK K;refine bx 11 8 av ?_;refine lZ av ?_
   try go_wp2
   go_loopg [5,9] k1 (fun kq v5 v9 w'=>∃(bV:List Int) (b9:Int),v9= .int .i64 b9∧ae (az.l1 kq l1 bV bH bW b9 ag aj bQ bO bR bL bB bM=some r)∧ae (kq≤k1)∧ae (Kd.R (Kd.int .i64) 3 w' b0 (fun _=>True) v5 bV)∧ae (Kd.R (Kd.int .u8) 5 w' w.heap.size (fun _=>True) (.slice d4 bL.length d5) bL)∧ae (Kd.R jc 75 w' w.heap.size (fun _=>True) (.slice dE bB.length d6) bB)∧ae (Kd.R fa 82 w' w.heap.size (fun _=>True) (.slice d7 bM.length d8) bM)∧ae (w'.heap[bD]? =some (.cells #[(.slice bo ag.length bg),.int .i64 aj] 28 (0,0)))∧ae (w'.heap[b2]? =some (.cells #[.int .i64 bQ,.int .i64 bO,.int .i64 bR,(.slice d4 bL.length d5),(.slice dE bB.length d6),(.slice d7 bM.length d8)] 58 (0,0)))∧ae (Below w.heap.size w w'))
   case atStart=>exact⟨(dD),(0),oS,H',⟨Nat.le_refl _⟩,⟨xH b8 b1⟩,⟨xH d1 b1⟩,⟨xH d2 b1⟩,⟨xH d3 b1⟩,⟨oF b3⟩,⟨oP b1⟩,⟨by repeat(first|(with_reducible first|exact HB.out|apply aX|apply aJ|apply au|refine aD ?_ bE.out|refine aD ?_ bN.out)|exact HB.out)⟩⟩
   case round=>
    clear H'
    try clear c1
    try clear p2
    try clear p3
    try clear q3
    try clear hx3
    try clear c6
    try clear gG
    try clear c7
    try clear jP
    try clear c8
    try clear c11
    try clear bY
    try clear p2
    try clear dQ
    try clear dR
    obtain⟨bV,b9,rfl,HA,dJ,b8,b6,b5,b7,b3,b1,HB⟩:=hrel
    cases gk with
    |zero=>exact absurd HA.out (by simp[az.l1])
    |succ k2=>
     have H:=HA.out;clear HA;simp only[az.l1]at H;have gH:=ae.mk H;clear H
     go_upto_region 7 with(fail)
     go_cut [38] (fun zQ wc=>∃(kq:Nat) (dK:Bool),zQ= .bool dK∧ae (az.j2 kq l1 bV bH bW b9 dK ag aj bQ bO bR bL bB bM=some r)∧ae (kq≤k2)∧ae (Kd.R (Kd.int .i64) 3 wc b0 (fun _=>True) u5 bV)∧ae (Kd.R (Kd.int .u8) 5 wc w.heap.size (fun _=>True) (.slice d4 bL.length d5) bL)∧ae (Kd.R jc 75 wc w.heap.size (fun _=>True) (.slice dE bB.length d6) bB)∧ae (Kd.R fa 82 wc w.heap.size (fun _=>True) (.slice d7 bM.length d8) bM)∧ae (wc.heap[bD]? =some (.cells #[(.slice bo ag.length bg),.int .i64 aj] 28 (0,0)))∧ae (wc.heap[b2]? =some (.cells #[.int .i64 bQ,.int .i64 bO,.int .i64 bR,(.slice d4 bL.length d5),(.slice dE bB.length d6),(.slice d7 bM.length d8)] 58 (0,0)))∧ae (Below w.heap.size w wc))
     case first=>
      have H:=gH.out;clear gH
      by_cases dW:b9<(bB.length:Int)
      rotate_left
      ·rw[if_neg dW]at H;have dP:decide (b9<(bB.length:Int))=false:=decide_eq_false dW;clear dW
       (first|rw[dP]|skip)
       have H':=ae.mk H;clear H;have zZ:=bG.out;have b10:=b4.out;have gO:wr.cell? ⟨b2,0,none⟩=some (.int .i64 bQ):=(ao b1.out 0).trans rfl;have gP:wr.cell? ⟨b2,1,none⟩=some (.int .i64 bO):=(ao b1.out 1).trans rfl;have gQ:wr.cell? ⟨b2,2,none⟩=some (.int .i64 bR):=(ao b1.out 2).trans rfl;have gR:wr.cell? ⟨b2,3,none⟩=some (.slice d4 bL.length d5):=(ao b1.out 3).trans rfl;have gS:wr.cell? ⟨b2,4,none⟩=some (.slice dE bB.length d6):=(ao b1.out 4).trans rfl;have gT:wr.cell? ⟨b2,5,none⟩=some (.slice d7 bM.length d8):=(ao b1.out 5).trans rfl;have gU:=aC b1.out 0;have gV:=aC b1.out 1;have gW:=aC b1.out 2;have gX:=aC b1.out 3;have gY:=aC b1.out 4;have gZ:=aC b1.out 5
       go_wp2
       go_meet
       case rel=>exact⟨_,(false),oS,H',⟨by have:=dI.out;have:=dJ.out;first|omega|exact Nat.le_refl _⟩,⟨by(with_reducible repeat(first|apply Kd.ca|apply Kd.cd|apply Kd.cj));exact b8.out⟩,⟨by(with_reducible repeat(first|apply Kd.ca|apply Kd.cd|apply Kd.cj));exact b6.out⟩,⟨by(with_reducible repeat(first|apply Kd.ca|apply Kd.cd|apply Kd.cj));exact b5.out⟩,⟨by(with_reducible repeat(first|apply Kd.ca|apply Kd.cd|apply Kd.cj));exact b7.out⟩,⟨oF b3⟩,⟨oF b1⟩,⟨by repeat(first|(with_reducible first|exact HB.out|apply aX|apply aJ|apply au|refine aD ?_ bE.out|refine aD ?_ bN.out)|exact HB.out)⟩⟩
      rw[if_pos dW]at H;have dP:decide (b9<(bB.length:Int))=true:=decide_eq_true dW;clear dW
      (first|rw[dP]|skip)
      by_cases gF:bW=true
      ·subst gF
       have H1:(az.j2 k2 l1 bV bH true b9 (bO==2) ag aj bQ bO bR bL bB bM)=some r:=by rw[if_pos rfl]at H;exact H
       clear H;have H:=H1;clear H1;have H':=ae.mk H;clear H;have b11:=bG.out;have b12:=b4.out;have j1:wr.cell? ⟨b2,0,none⟩=some (.int .i64 bQ):=(ao b1.out 0).trans rfl;have j2:wr.cell? ⟨b2,1,none⟩=some (.int .i64 bO):=(ao b1.out 1).trans rfl;have j3:wr.cell? ⟨b2,2,none⟩=some (.int .i64 bR):=(ao b1.out 2).trans rfl;have j4:wr.cell? ⟨b2,3,none⟩=some (.slice d4 bL.length d5):=(ao b1.out 3).trans rfl;have j5:wr.cell? ⟨b2,4,none⟩=some (.slice dE bB.length d6):=(ao b1.out 4).trans rfl;have j6:wr.cell? ⟨b2,5,none⟩=some (.slice d7 bM.length d8):=(ao b1.out 5).trans rfl;have j7:=aC b1.out 0;have j8:=aC b1.out 1;have j9:=aC b1.out 2;have jA:=aC b1.out 3;have jB:=aC b1.out 4;have jC:=aC b1.out 5
       go_wp2
       go_meet
       case rel=>exact⟨_,((bO==2)),oS,H',⟨by have:=dI.out;have:=dJ.out;first|omega|exact Nat.le_refl _⟩,⟨by(with_reducible repeat(first|apply Kd.ca|apply Kd.cd|apply Kd.cj));exact b8.out⟩,⟨by(with_reducible repeat(first|apply Kd.ca|apply Kd.cd|apply Kd.cj));exact b6.out⟩,⟨by(with_reducible repeat(first|apply Kd.ca|apply Kd.cd|apply Kd.cj));exact b5.out⟩,⟨by(with_reducible repeat(first|apply Kd.ca|apply Kd.cd|apply Kd.cj));exact b7.out⟩,⟨oF b3⟩,⟨oF b1⟩,⟨by repeat(first|(with_reducible first|exact HB.out|apply aX|apply aJ|apply au|refine aD ?_ bE.out|refine aD ?_ bN.out)|exact HB.out)⟩⟩
      replace gF:=Bool.eq_false_iff.mpr gF;subst gF
      have H1:(az.j2 k2 l1 bV bH false b9 false ag aj bQ bO bR bL bB bM)=some r:=by rw[if_neg (show¬(false=true) by decide)]at H;exact H
      clear H;have H:=H1;clear H1;have H':=ae.mk H;clear H;have b13:=bG.out;have b14:=b4.out;have jD:wr.cell? ⟨b2,0,none⟩=some (.int .i64 bQ):=(ao b1.out 0).trans rfl;have jE:wr.cell? ⟨b2,1,none⟩=some (.int .i64 bO):=(ao b1.out 1).trans rfl;have jF:wr.cell? ⟨b2,2,none⟩=some (.int .i64 bR):=(ao b1.out 2).trans rfl;have jG:wr.cell? ⟨b2,3,none⟩=some (.slice d4 bL.length d5):=(ao b1.out 3).trans rfl;have jH:wr.cell? ⟨b2,4,none⟩=some (.slice dE bB.length d6):=(ao b1.out 4).trans rfl;have jI:wr.cell? ⟨b2,5,none⟩=some (.slice d7 bM.length d8):=(ao b1.out 5).trans rfl;have jJ:=aC b1.out 0;have jK:=aC b1.out 1;have jL:=aC b1.out 2;have jM:=aC b1.out 3;have jN:=aC b1.out 4;have jO:=aC b1.out 5
      go_wp2
      go_meet
      case rel=>exact⟨_,(false),oS,H',⟨by have:=dI.out;have:=dJ.out;first|omega|exact Nat.le_refl _⟩,⟨by(with_reducible repeat(first|apply Kd.ca|apply Kd.cd|apply Kd.cj));exact b8.out⟩,⟨by(with_reducible repeat(first|apply Kd.ca|apply Kd.cd|apply Kd.cj));exact b6.out⟩,⟨by(with_reducible repeat(first|apply Kd.ca|apply Kd.cd|apply Kd.cj));exact b5.out⟩,⟨by(with_reducible repeat(first|apply Kd.ca|apply Kd.cd|apply Kd.cj));exact b7.out⟩,⟨oF b3⟩,⟨oF b1⟩,⟨by repeat(first|(with_reducible first|exact HB.out|apply aX|apply aJ|apply au|refine aD ?_ bE.out|refine aD ?_ bN.out)|exact HB.out)⟩⟩
     case rest=>
      clear gH
      try clear c1
      try clear c2
      try clear p2
      try clear p3
      try clear q3
      try clear hx3
      try clear c6
      try clear gG
      try clear c7
      try clear jP
      try clear c8
      try clear c11
      try clear dW
      try clear dP
      try clear gF
      try clear c25
      try clear c27
      try clear c29
      try clear j1
      try clear j2
      try clear j3
      try clear j4
      try clear j5
      try clear j6
      try clear jD
      try clear jE
      try clear jF
      try clear jG
      try clear jH
      try clear jI
      try clear gO
      try clear gP
      try clear gQ
      try clear gR
      try clear gS
      try clear gT
      try clear j7
      try clear j8
      try clear j9
      try clear jA
      try clear jB
      try clear jC
      try clear jJ
      try clear jK
      try clear jL
      try clear jM
      try clear jN
      try clear jO
      try clear gU
      try clear gV
      try clear gW
      try clear gX
      try clear gY
      try clear gZ
      try clear bY
      try clear p2
      try clear p3
      try clear dQ
      try clear q3
      try clear dR
      obtain⟨kq,dK,rfl,HA,dL,b8,b6,b5,b7,b3,b1,HB⟩:=hcut
      cases kq with
      |zero=>exact absurd HA.out (by simp[az.j2])
      |succ pq=>
       have H:=HA.out;clear HA;simp only[az.j2]at H
       by_cases gN:dK=true
       rotate_left
       ·replace gN:=Bool.eq_false_iff.mpr gN;subst gN
        have H1:(az.l0 pq l1 bV (wrap64 (bH+1)) ag aj)=some r:=by rw[if_neg (show¬(false=true) by decide)]at H;exact H
        clear H;have H:=H1;clear H1;have H':=ae.mk H;clear H
        go_wp2
        go_roundg pq
        case measure=>have:=dI.out;have:=dJ.out;have:=dL.out;omega
        case rel=>exact⟨(bV),(wrap64 (bH+1)),oS,H',⟨by have:=dI.out;have:=dJ.out;have:=dL.out;omega⟩,⟨by(with_reducible repeat(first|apply Kd.ca|apply Kd.cd|apply Kd.cj));exact b8.out⟩,⟨oF b3⟩,⟨by repeat(first|(with_reducible first|exact HB.out|apply aX|apply aJ|apply au|refine aD ?_ bE.out|refine aD ?_ bN.out)|exact HB.out)⟩⟩
       subst gN
       have H1:(if 0≤b9 then(if b9<(bB.length:Int)then((cG.f pq ag aj ((al bB b9).f1)).bind fun dC=>(if dC≥0 then((dj.f pq bV ((al bB b9).f1)).bind fun dF=>(az.l1 pq l1 dF bH bW (wrap64 (b9+1)) ag aj bQ bO bR bL bB bM))else(az.l1 pq l1 bV bH bW (wrap64 (b9+1)) ag aj bQ bO bR bL bB bM)))else(none))else(none))=some r:=by rw[if_pos rfl]at H;exact H
       clear H;have H:=H1;clear H1;obtain⟨mC,H⟩:=lu H;have b15:decide (0≤b9)=true:=decide_eq_true mC;clear mC;obtain⟨mD,H⟩:=lu H;have b16:decide (b9<(bB.length:Int))=true:=decide_eq_true mD;clear mD;replace H:=Option.bind_eq_some_iff.mp H;obtain⟨dC,jU,H⟩:=H;replace H:(if dC≥0 then((dj.f pq bV ((al bB b9).f1)).bind fun dF=>(az.l1 pq l1 dF bH bW (wrap64 (b9+1)) ag aj bQ bO bR bL bB bM))else(az.l1 pq l1 bV bH bW (wrap64 (b9+1)) ag aj bQ bO bR bL bB bM))=some r:=H;have mE:=ae.mk jU;clear jU
       by_cases dX:dC≥0
       rotate_left
       ·rw[if_neg dX]at H;have jX:decide (0≤dC)=false:=decide_eq_false dX;clear dX;have H':=ae.mk H;clear H
        try go_wp2
        have bI:=am (Kd.cj b8.out);have bJ:=am (Kd.cj b6.out);have bK:=am (Kd.cj b5.out);have bP:=am (Kd.cj b7.out);have bS:=am (ar b3.out);have bT:=am (ar b1.out);have bU:=am (au HB.out);clear b8;clear b6;clear b5;clear b7;clear b3;clear b1;clear HB;have b8:=bI;have b6:=bJ;have b5:=bK;have b7:=bP;have b3:=bS;have b1:=bT;have HB:=bU;clear bI bJ bK bP bS bT bU;have dG:0≤(b9:Int):=oa;have dH:b9<(bB.length:Int):=oa;obtain⟨bX,gI,d9,dA⟩:=dd (Kd.aH b5.out).2.2 b9 dG dH
        cases gI
        replace dG:=eq_true dG;replace dH:=eq_true dH;refine mb 9 (fun w'=>w'.cell? ⟨bD,0,none⟩=some (.slice bo ag.length bg)∧w'.cell? ⟨bD,1,none⟩=some (.int .i64 aj)∧w'.cell? ⟨b2,0,none⟩=some (.int .i64 bQ)∧w'.cell? ⟨b2,1,none⟩=some (.int .i64 bO)∧w'.cell? ⟨b2,2,none⟩=some (.int .i64 bR)∧w'.cell? ⟨b2,3,none⟩=some (.slice d4 bL.length d5)∧w'.cell? ⟨b2,4,none⟩=some (.slice (some bX) bB.length d6)∧w'.cell? ⟨b2,5,none⟩=some (.slice d7 bM.length d8)∧w'.cell? (bX.add ((b9).toNat*2))=some (.string ((al bB b9).f0))∧w'.cell? ⟨(bX.add ((b9).toNat*2)).block,(bX.add ((b9).toNat*2)).off+1,none⟩=some (.int .i64 ((al bB b9).f1))) az.aa0 az.uV ⟨(ao b3.out 0).trans rfl,(ao b3.out 1).trans rfl,(ao b1.out 0).trans rfl,(ao b1.out 1).trans rfl,(ao b1.out 2).trans rfl,(ao b1.out 3).trans rfl,(ao b1.out 4).trans rfl,(ao b1.out 5).trans rfl,d9,dA⟩ (fun hHeld av eH=> ?_);generalize wc.drew=w43 at b8 b6 b5 b7 b3 b1 HB d9 dA hHeld⊢;refine bx 1 42 av ?_;refine bx 3 44 av ?_;refine fO 0 41 av eH hHeld ?_;refine fO 2 43 av eH hHeld ?_;refine bx 4 45 av ?_;refine bx 5 46 av ?_;refine fO 6 47 av eH hHeld ?_;refine kQ 7 48 av (fun K hK=> ?_);refine ur func82 (by kernel_rfl) rfl #[.agg #[.slice bo ag.length bg,.int .i64 aj],.int .i64 ((al bB b9).f1)] (by rfl) rfl rfl oL ?_
        with_reducible refine(cG.calls pq _ _ ag aj ((al bB b9).f1) dC _ ?fl ?nq mE.out).mono ?_
        (case fl=>repeat(first|exact(Kd.de dN.out HB.out)|(with_reducible refine Kd.fx ?_ _)|(with_reducible refine Kd.fy ?_ _)|(with_reducible refine Kd.hD ?_)))
        (case nq=>exact dO.out)
        rintro e w44 ⟨rfl,hb⟩;have gJ:=(hb.cell (World.block_lt_of_cell? _ _ (hHeld.2.2.2.2.2.2.2.2.1))).trans (hHeld.2.2.2.2.2.2.2.2.1);have gK:=(hb.cell (World.block_lt_of_cell? _ _ (hHeld.2.2.2.2.2.2.2.2.2))).trans (hHeld.2.2.2.2.2.2.2.2.2);refine⟨_,rfl,?_⟩;have bI:=nw b8 hb;have bJ:=nw b6 hb;have bK:=nw b5 hb;have bP:=nw b7 hb;have bS:=aQ b3 hb;have bT:=aQ b1 hb;have bU:=am (fM (by repeat(first|(with_reducible first|exact HB.out|apply aX|apply aJ|apply au|refine aD ?_ bE.out|refine aD ?_ bN.out)|exact HB.out)) hb);clear b8;clear b6;clear b5;clear b7;clear b3;clear b1;clear HB;have b8:=bI;have b6:=bJ;have b5:=bK;have b7:=bP;have b3:=bS;have b1:=bT;have HB:=bU;clear bI bJ bK bP bS bT bU
        (try clear hb)
        (try clear hb2)
        (try clear hk)
        (try clear hi)
        refine eP hK 48 ⟨(ao b3.out 0).trans rfl,(ao b3.out 1).trans rfl,(ao b1.out 0).trans rfl,(ao b1.out 1).trans rfl,(ao b1.out 2).trans rfl,(ao b1.out 3).trans rfl,(ao b1.out 4).trans rfl,(ao b1.out 5).trans rfl,gJ,gK⟩ (fun hHeld=> ?_);clear hK K;refine bx 8 49 av ?_;refine lZ av ?_
        try go_wp2
        go_roundg pq
        case measure=>have:=dI.out;have:=dJ.out;have:=dL.out;omega
        case rel=>exact⟨(bV),(wrap64 (b9+1)),oS,H',⟨by have:=dI.out;have:=dJ.out;have:=dL.out;omega⟩,⟨by(with_reducible repeat(first|apply Kd.ca|apply Kd.cd|apply Kd.cj));exact b8.out⟩,⟨by(with_reducible repeat(first|apply Kd.ca|apply Kd.cd|apply Kd.cj));exact b6.out⟩,⟨by(with_reducible repeat(first|apply Kd.ca|apply Kd.cd|apply Kd.cj));exact b5.out⟩,⟨by(with_reducible repeat(first|apply Kd.ca|apply Kd.cd|apply Kd.cj));exact b7.out⟩,⟨oF b3⟩,⟨oF b1⟩,⟨by repeat(first|(with_reducible first|exact HB.out|apply aX|apply aJ|apply au|refine aD ?_ bE.out|refine aD ?_ bN.out)|exact HB.out)⟩⟩
       rw[if_pos dX]at H;have jX:decide (0≤dC)=true:=decide_eq_true dX;clear dX;replace H:=Option.bind_eq_some_iff.mp H;obtain⟨dF,jV,H⟩:=H;replace H:(az.l1 pq l1 dF bH bW (wrap64 (b9+1)) ag aj bQ bO bR bL bB bM)=some r:=H;have zR:=ae.mk jV;clear jV;have H':=ae.mk H;clear H
       try go_wp2
       have bI:=am (Kd.cj b8.out);have bJ:=am (Kd.cj b6.out);have bK:=am (Kd.cj b5.out);have bP:=am (Kd.cj b7.out);have bS:=am (ar b3.out);have bT:=am (ar b1.out);have bU:=am (au HB.out);clear b8;clear b6;clear b5;clear b7;clear b3;clear b1;clear HB;have b8:=bI;have b6:=bJ;have b5:=bK;have b7:=bP;have b3:=bS;have b1:=bT;have HB:=bU;clear bI bJ bK bP bS bT bU;have dG:0≤(b9:Int):=oa;have dH:b9<(bB.length:Int):=oa;obtain⟨bX,gI,d9,dA⟩:=dd (Kd.aH b5.out).2.2 b9 dG dH
       cases gI
       replace dG:=eq_true dG;replace dH:=eq_true dH;refine mb 9 (fun w'=>w'.cell? ⟨bD,0,none⟩=some (.slice bo ag.length bg)∧w'.cell? ⟨bD,1,none⟩=some (.int .i64 aj)∧w'.cell? ⟨b2,0,none⟩=some (.int .i64 bQ)∧w'.cell? ⟨b2,1,none⟩=some (.int .i64 bO)∧w'.cell? ⟨b2,2,none⟩=some (.int .i64 bR)∧w'.cell? ⟨b2,3,none⟩=some (.slice d4 bL.length d5)∧w'.cell? ⟨b2,4,none⟩=some (.slice (some bX) bB.length d6)∧w'.cell? ⟨b2,5,none⟩=some (.slice d7 bM.length d8)∧w'.cell? (bX.add ((b9).toNat*2))=some (.string ((al bB b9).f0))∧w'.cell? ⟨(bX.add ((b9).toNat*2)).block,(bX.add ((b9).toNat*2)).off+1,none⟩=some (.int .i64 ((al bB b9).f1))) az.aa0 az.uV ⟨(ao b3.out 0).trans rfl,(ao b3.out 1).trans rfl,(ao b1.out 0).trans rfl,(ao b1.out 1).trans rfl,(ao b1.out 2).trans rfl,(ao b1.out 3).trans rfl,(ao b1.out 4).trans rfl,(ao b1.out 5).trans rfl,d9,dA⟩ (fun hHeld av eH=> ?_);generalize wc.drew=w37 at b8 b6 b5 b7 b3 b1 HB d9 dA hHeld⊢;refine bx 1 42 av ?_;refine bx 3 44 av ?_;refine fO 0 41 av eH hHeld ?_;refine fO 2 43 av eH hHeld ?_;refine bx 4 45 av ?_;refine bx 5 46 av ?_;refine fO 6 47 av eH hHeld ?_;refine kQ 7 48 av (fun K hK=> ?_);refine ur func82 (by kernel_rfl) rfl #[.agg #[.slice bo ag.length bg,.int .i64 aj],.int .i64 ((al bB b9).f1)] (by rfl) rfl rfl oL ?_
       with_reducible refine(cG.calls pq _ _ ag aj ((al bB b9).f1) dC _ ?fl ?nq mE.out).mono ?_
       (case fl=>repeat(first|exact(Kd.de dN.out HB.out)|(with_reducible refine Kd.fx ?_ _)|(with_reducible refine Kd.fy ?_ _)|(with_reducible refine Kd.hD ?_)))
       (case nq=>exact dO.out)
       rintro e dY ⟨rfl,hb⟩;have gJ:=(hb.cell (World.block_lt_of_cell? _ _ (hHeld.2.2.2.2.2.2.2.2.1))).trans (hHeld.2.2.2.2.2.2.2.2.1);have gK:=(hb.cell (World.block_lt_of_cell? _ _ (hHeld.2.2.2.2.2.2.2.2.2))).trans (hHeld.2.2.2.2.2.2.2.2.2);refine⟨_,rfl,?_⟩;have bI:=nw b8 hb;have bJ:=nw b6 hb;have bK:=nw b5 hb;have bP:=nw b7 hb;have bS:=aQ b3 hb;have bT:=aQ b1 hb;have bU:=am (fM (by repeat(first|(with_reducible first|exact HB.out|apply aX|apply aJ|apply au|refine aD ?_ bE.out|refine aD ?_ bN.out)|exact HB.out)) hb);clear b8;clear b6;clear b5;clear b7;clear b3;clear b1;clear HB;have b8:=bI;have b6:=bJ;have b5:=bK;have b7:=bP;have b3:=bS;have b1:=bT;have HB:=bU;clear bI bJ bK bP bS bT bU
       (try clear hb)
       (try clear hb2)
       (try clear hk)
       (try clear hi)
       refine eP hK 48 ⟨(ao b3.out 0).trans rfl,(ao b3.out 1).trans rfl,(ao b1.out 0).trans rfl,(ao b1.out 1).trans rfl,(ao b1.out 2).trans rfl,(ao b1.out 3).trans rfl,(ao b1.out 4).trans rfl,(ao b1.out 5).trans rfl,gJ,gK⟩ (fun hHeld=> ?_);clear hK K;refine bx 8 49 av ?_;refine lZ av ?_;have b17:=bG.out;have b18:=b4.out;have mY:dY.cell? ⟨b2,0,none⟩=some (.int .i64 bQ):=(ao b1.out 0).trans rfl;have mZ:dY.cell? ⟨b2,1,none⟩=some (.int .i64 bO):=(ao b1.out 1).trans rfl;have zA:dY.cell? ⟨b2,2,none⟩=some (.int .i64 bR):=(ao b1.out 2).trans rfl;have zB:dY.cell? ⟨b2,3,none⟩=some (.slice d4 bL.length d5):=(ao b1.out 3).trans rfl;have zC:dY.cell? ⟨b2,4,none⟩=some (.slice (some bX) bB.length d6):=(ao b1.out 4).trans rfl;have zD:dY.cell? ⟨b2,5,none⟩=some (.slice d7 bM.length d8):=(ao b1.out 5).trans rfl;have zE:=aC b1.out 0;have zF:=aC b1.out 1;have zG:=aC b1.out 2;have zH:=aC b1.out 3;have zI:=aC b1.out 4;have zJ:=aC b1.out 5;have gL:0≤(b9:Int):=oa;have gM:b9<(bB.length:Int):=oa;obtain⟨jY,mH,zK,zL⟩:=dd (Kd.aH b5.out).2.2 b9 gL gM;obtain rfl:bX=jY:=(by injection mH);replace gL:=eq_true gL;replace gM:=eq_true gM;obtain⟨mI,mJ,mK⟩:=Kd.ax b8.out;subst mK
       try go_wp2_with (first|((with_reducible refine ak (f:=141) rfl ?_);refine tg (some 57) rfl rfl func141 (by kernel_rfl) rfl #[.slice mI bV.length mJ,.int .i64 ((al bB b9).f1)] rfl oL ?_;(with_reducible refine(dj.calls pq _ _ bV ((al bB b9).f1) dF b0 _ ?fl ?nq zR.out).mono ?_);(case fl=>exact Nat.le_trans zN.out (ah oB));(case nq=>exact(vK b8));rintro e w42 ⟨b1H,rfl,dM,hb⟩;refine⟨_,rfl,?_⟩;have bI:=nw b8 hb;have bJ:=nw b6 hb;have bK:=nw b5 hb;have bP:=nw b7 hb;have bS:=ae.mk dM;have bT:=aQ b3 hb;have bU:=aQ b1 hb;have dB:=am (fM (by repeat(first|(with_reducible first|exact HB.out|apply aX|apply aJ|apply au|refine aD ?_ bE.out|refine aD ?_ bN.out)|exact HB.out)) hb);clear b8;clear b6;clear b5;clear b7;clear b3;clear b1;clear HB;have b8:=bI;have b6:=bJ;have b5:=bK;have b7:=bP;have jZ:=bS;have b3:=bT;have b1:=bU;have HB:=dB;clear bI bJ bK bP bS bT bU dB;(try clear hb);(try clear hb2);(try clear hk);(try clear hi);(try clear dM)))
       go_roundg pq
       case measure=>have:=dI.out;have:=dJ.out;have:=dL.out;omega
       case rel=>exact⟨(dF),(wrap64 (b9+1)),oS,H',⟨by have:=dI.out;have:=dJ.out;have:=dL.out;omega⟩,⟨mR jZ⟩,⟨by(with_reducible repeat(first|apply Kd.ca|apply Kd.cd|apply Kd.cj));exact b6.out⟩,⟨by(with_reducible repeat(first|apply Kd.ca|apply Kd.cd|apply Kd.cj));exact b5.out⟩,⟨by(with_reducible repeat(first|apply Kd.ca|apply Kd.cd|apply Kd.cj));exact b7.out⟩,⟨oF b3⟩,⟨oF b1⟩,⟨by repeat(first|(with_reducible first|exact HB.out|apply aX|apply aJ|apply au|refine aD ?_ bE.out|refine aD ?_ bN.out)|exact HB.out)⟩⟩

mutual
def bl.j0:Nat→Bool→Int→Int→Int→List Int→List (ey)→List (ct)→Option (Bool)
 |0,_,_,_,_,_,_,_=>none
 |k+1,b7,b2,b3,b4,b5,b1,b6=>if b7=true then(some false)else(bl.l0 k b1 (b1.length:Int) 0 b2 b3 b4 b5 b1 b6)
def bl.l0:Nat→List (ey)→Int→Int→Int→Int→Int→List Int→List (ey)→List (ct)→Option (Bool)
 |0,_,_,_,_,_,_,_,_,_=>none
 |k+1,b8,b9,b4,b3,b5,b1,b6,b2,b7=>if b4<b9 then(if 0≤b4 then(if b4<(b8.length:Int)then((ay.f k ((al b8 b4).f0)).bind fun bB=>(if bB=true then((bw.f ((al b8 b4).f1) 2 1000).bind fun bC=>(if bC=true then(if b4>0 then(if 0≤(wrap64 (b4-1))then(if(wrap64 (b4-1))<(b2.length:Int)then(if((Op.bytesLess (((al b2 (wrap64 (b4-1))).f0).toList) (((al b8 b4).f0).toList))=true)then(bl.l0 k b8 b9 (wrap64 (b4+1)) b3 b5 b1 b6 b2 b7)else(some false))else(none))else(none))else(bl.l0 k b8 b9 (wrap64 (b4+1)) b3 b5 b1 b6 b2 b7))else(some false)))else(some false)))else(none))else(none))else((bw.f b1 0 1000).bind fun bD=>(if bD=true then(bl.j2 k ((b1==0) !=(b3==1)) b3 b5 b1 b6 b2 b7)else(bl.j2 k true b3 b5 b1 b6 b2 b7)))
def bl.j2:Nat→Bool→Int→Int→Int→List Int→List (ey)→List (ct)→Option (Bool)
 |0,_,_,_,_,_,_,_=>none
 |k+1,b7,b5,b1,b2,b3,b4,b6=>if b7=true then(some false)else(if b1=1 then(some ((b4.length:Int)==0))else(if b1=2 then(if(b3.length:Int)=0 then(some (decide (b2≤1)))else(some false))else(some false)))
end
def bl.f (k:Nat) (br:Int) (aj:Int) (cJ:Int) (cr:List Int) (aK:List (ey)) (cw:List (ct)):Option (Bool):=(bw.f br 1 1000).bind fun b1=>(if b1=true then(if(cr.length:Int)>100 then(bl.j0 k true br aj cJ cr aK cw)else(if(aK.length:Int)>10 then(bl.j0 k true br aj cJ cr aK cw)else((cY.f k cw).bind fun b2=>(bl.j0 k (!b2) br aj cJ cr aK cw))))else(bl.j0 k true br aj cJ cr aK cw))
theorem bl.calls (k:Nat) (br:Int) (aj:Int) (cJ:Int) (fY:Option Addr) (fZ:Nat) (cr:List Int) (fQ:Option Addr) (fR:Nat) (aK:List (ey)) (fJ:Option Addr) (fK:Nat) (cw:List (ct)) (r:Bool) (w:World) (iP:Kd.C (Kd.int .u8) w fY cr.length cr) (iQ:cr.length≤fZ) (iR:Kd.C jc w fQ aK.length aK) (iS:aK.length≤fR) (iT:Kd.C fa w fJ cw.length cw) (iU:cw.length≤fK) (h:bl.f k br aj cJ cr aK cw=some r):
  Calls Tryz.prog 145 #[.agg #[.int .i64 br,.int .i64 aj,.int .i64 cJ,.slice fY cr.length fZ,.slice fQ aK.length fR,.slice fJ cw.length fK]] w fun e w'=>e= .returned (.bool r)∧Below w.heap.size w w':=by
 have gR:=underlying58;have gS:=underlying75;have gJ:=ae.mk iP;have gK:=ae.mk iQ;clear iP iQ;have bF:=ae.mk iR;have gL:=ae.mk iS;clear iR iS;have d4:=ae.mk iT;have d5:=ae.mk iU;clear iT iU;have HB:=am (Below.refl w.heap.size w);unfold bl.f at h;have H:=h;clear h;have dE:=ae.mk H;clear H
 go_enter func145,ntmps145
 go_upto_region 1 with(first|((with_reducible refine ai (N:=1) rfl ?_);(try(refine aW (by rfl) ?_;dsimp only));refine eh 1 #[.int .i64 br,.int .i64 aj,.int .i64 cJ,.slice fY cr.length fZ,.slice fQ aK.length fR,.slice fJ cw.length fK] 58 ?_;intro bR hg w3 hbox hb;have b3:=am (hbox);have dG:=eg hg;replace HB:=hB HB hb;clear hb hbox hg))
 repeat(go_quiet (fail);go_upto_region 1 with(first|((with_reducible refine ai (N:=1) rfl ?_);(try(refine aW (by rfl) ?_;dsimp only));refine eh 1 #[.int .i64 br,.int .i64 aj,.int .i64 cJ,.slice fY cr.length fZ,.slice fQ aK.length fR,.slice fJ cw.length fK] 58 ?_;intro bR hg w3 hbox hb;have b3:=am (hbox);have dG:=eg hg;replace HB:=hB HB hb;clear hb hbox hg)))
 (try simp only[Act.put,List.setIfInBounds_toArray,List.set_cons_zero,List.set_cons_succ])
 go_cut [26] (fun gC wc=>∃(kq:Nat) (d6:Bool),gC= .bool d6∧ae (bl.j0 kq d6 br aj cJ cr aK cw=some r)∧ae (kq≤k)∧ae (wc.heap[bR]? =some (.cells #[.int .i64 br,.int .i64 aj,.int .i64 cJ,(.slice fY cr.length fZ),(.slice fQ aK.length fR),(.slice fJ cw.length fK)] 58 (0,0)))∧ae (Below w.heap.size w wc))
 case first=>
  have H:=dE.out;clear dE;replace H:=bA H;obtain⟨gT,A4,H⟩:=H
  try dsimp only at H
  replace H:=kN H;rcases H with⟨rfl,H⟩|⟨rfl,H⟩;rotate_left
  ·have H':=ae.mk H;clear H;obtain⟨⟨_,_,_,_,_,_⟩,_,_,_,_,_,_⟩:=z6 b3
   go_wp2_with (first|(go_at_call 61;(with_reducible refine(bw.calls br 1 1000 false _ A4.out).mono ?_);rintro e w' ⟨rfl,⟨nd,rfl⟩⟩))
   repeat(go_quiet (first|(go_at_call 61;(with_reducible refine(bw.calls br 1 1000 false _ A4.out).mono ?_);rintro e w' ⟨rfl,⟨nd,rfl⟩⟩;exact oQ));try go_wp2_with (first|(go_at_call 61;(with_reducible refine(bw.calls br 1 1000 false _ A4.out).mono ?_);rintro e w' ⟨rfl,⟨nd,rfl⟩⟩)))
   go_meet
   case rel=>exact⟨_,(true),oS,H',⟨by first|omega|exact Nat.le_refl _⟩,⟨oF b3⟩,⟨oB⟩⟩
  by_cases c6:(cr.length:Int)>100
  ·rw[if_pos c6]at H;have dA:decide (100<(cr.length:Int))=true:=decide_eq_true c6;have dB:decide (100<cr.length)=true:=decide_eq_true (by omega);clear c6
   (first|rw[dA]|rw[dB]|skip)
   have H':=ae.mk H;clear H;obtain⟨⟨_,_,_,_,_,_⟩,_,_,_,_,_,_⟩:=z6 b3
   go_wp2_with (first|(go_at_call 61;(with_reducible refine(bw.calls br 1 1000 true _ A4.out).mono ?_);rintro e w' ⟨rfl,⟨nd,rfl⟩⟩))
   repeat(go_quiet (first|(go_at_call 61;(with_reducible refine(bw.calls br 1 1000 true _ A4.out).mono ?_);rintro e w' ⟨rfl,⟨nd,rfl⟩⟩;exact oQ));try go_wp2_with (first|(go_at_call 61;(with_reducible refine(bw.calls br 1 1000 true _ A4.out).mono ?_);rintro e w' ⟨rfl,⟨nd,rfl⟩⟩)))
   go_meet
   case rel=>exact⟨_,(true),oS,H',⟨by first|omega|exact Nat.le_refl _⟩,⟨oF b3⟩,⟨oB⟩⟩
  rw[if_neg c6]at H;have dA:decide (100<(cr.length:Int))=false:=decide_eq_false c6;have dB:decide (100<cr.length)=false:=decide_eq_false (by omega);clear c6
  (first|rw[dA]|rw[dB]|skip)
  by_cases c8:(aK.length:Int)>10
  ·rw[if_pos c8]at H;have gA:decide (10<(aK.length:Int))=true:=decide_eq_true c8;have gB:decide (10<aK.length)=true:=decide_eq_true (by omega);clear c8;have H':=ae.mk H;clear H;obtain⟨⟨_,_,_,_,_,_⟩,_,_,_,_,_,_⟩:=z6 b3
   go_wp2_with (first|(go_at_call 61;(with_reducible refine(bw.calls br 1 1000 true _ A4.out).mono ?_);rintro e w' ⟨rfl,⟨nd,rfl⟩⟩))
   repeat(go_quiet (first|(go_at_call 61;(with_reducible refine(bw.calls br 1 1000 true _ A4.out).mono ?_);rintro e w' ⟨rfl,⟨nd,rfl⟩⟩;exact oQ));try go_wp2_with (first|(go_at_call 61;(with_reducible refine(bw.calls br 1 1000 true _ A4.out).mono ?_);rintro e w' ⟨rfl,⟨nd,rfl⟩⟩)))
   go_meet
   case rel=>exact⟨_,(true),oS,H',⟨by first|omega|exact Nat.le_refl _⟩,⟨oF b3⟩,⟨oB⟩⟩
  rw[if_neg c8]at H;have gA:decide (10<(aK.length:Int))=false:=decide_eq_false c8;have gB:decide (10<aK.length)=false:=decide_eq_false (by omega);clear c8;replace H:=bA H;obtain⟨d7,dF,H⟩:=H
  try dsimp only at H
  have H':=ae.mk H;clear H;obtain⟨⟨_,_,_,_,_,_⟩,_,_,_,_,_,_⟩:=z6 b3
  go_wp2_with (first|(go_at_call 61;(with_reducible refine(bw.calls br 1 1000 true _ A4.out).mono ?_);rintro e w' ⟨rfl,⟨nd,rfl⟩⟩)|(go_at_call 157;(with_reducible refine(cY.calls k _ _ cw d7 _ (kC d4) d5.out dF.out).mono ?_);rintro e dZ ⟨rfl,hb⟩;replace b3:=aQ b3 hb;replace HB:=hB HB hb))
  repeat(go_quiet (first|(go_at_call 61;(with_reducible refine(bw.calls br 1 1000 true _ A4.out).mono ?_);rintro e w' ⟨rfl,⟨nd,rfl⟩⟩;exact oQ)|(go_at_call 157;(with_reducible refine(cY.calls k _ _ cw d7 _ (kC d4) d5.out dF.out).mono ?_);rintro e dZ ⟨rfl,hb⟩;replace b3:=aQ b3 hb;replace HB:=hB HB hb));try go_wp2_with (first|(go_at_call 61;(with_reducible refine(bw.calls br 1 1000 true _ A4.out).mono ?_);rintro e w' ⟨rfl,⟨nd,rfl⟩⟩)|(go_at_call 157;(with_reducible refine(cY.calls k _ _ cw d7 _ (kC d4) d5.out dF.out).mono ?_);rintro e dZ ⟨rfl,hb⟩;replace b3:=aQ b3 hb;replace HB:=hB HB hb)))
  go_meet
  case rel=>exact⟨_,(!d7),oS,H',⟨by first|omega|exact Nat.le_refl _⟩,⟨oF b3⟩,⟨oB⟩⟩
 case rest=>
  clear dE;obtain⟨kq,d6,rfl,HA,bZ,b3,HB⟩:=hcut
  cases kq with
  |zero=>exact absurd HA.out (by simp[bl.j0])
  |succ wm=>
   have H:=HA.out;clear HA;simp only[bl.j0]at H;replace H:=kN H;rcases H with⟨rfl,H⟩|⟨rfl,H⟩
   ·obtain rfl:=Option.some.inj H
    go_wp2
    repeat(go_quiet (fail);try go_wp2)
    go_ret
    exact⟨oE,oB⟩
   have H':=ae.mk H;clear H;obtain⟨⟨_,_,_,_,_,_⟩,_,_,_,_,_,_⟩:=z6 b3
   go_wp2
   repeat(go_quiet (fail);try go_wp2)
   go_loopg [30] wm (fun kq gD w'=>∃(b1:Int),gD= .int .i64 b1∧ae (bl.l0 kq aK (aK.length:Int) b1 br aj cJ cr aK cw=some r)∧ae (kq≤wm)∧ae (w'.heap[bR]? =some (.cells #[.int .i64 br,.int .i64 aj,.int .i64 cJ,(.slice fY cr.length fZ),(.slice fQ aK.length fR),(.slice fJ cw.length fK)] 58 (0,0)))∧ae (Below w.heap.size w w'))
   case atStart=>exact⟨(0),oS,H',⟨Nat.le_refl _⟩,⟨oF b3⟩,⟨oB⟩⟩
   case round=>
    clear H';obtain⟨b1,rfl,HA,d1,b3,HB⟩:=hrel
    cases gk with
    |zero=>exact absurd HA.out (by simp[bl.l0])
    |succ k2=>
     have H:=HA.out;clear HA;simp only[bl.l0]at H;replace H:=iM H;rcases H with⟨dD,H⟩|⟨dD,H⟩;rotate_left
     ·have dC:=ae.mk H;clear H
      go_upto_region 9 with(fail)
      repeat(go_quiet (fail);go_upto_region 9 with(fail))
      go_cut [74] (fun gE wc=>∃(kq:Nat) (bS:Bool),gE= .bool bS∧ae (bl.j2 kq bS br aj cJ cr aK cw=some r)∧ae (kq≤k2)∧ae (wc.heap[bR]? =some (.cells #[.int .i64 br,.int .i64 aj,.int .i64 cJ,(.slice fY cr.length fZ),(.slice fQ aK.length fR),(.slice fJ cw.length fK)] 58 (0,0)))∧ae (Below w.heap.size w wc))
      case first=>
       have H:=dC.out;clear dC;replace H:=bA H;obtain⟨gU,d2,H⟩:=H
       try dsimp only at H
       replace H:=kN H;rcases H with⟨rfl,H⟩|⟨rfl,H⟩;rotate_left
       ·have H':=ae.mk H;clear H;obtain⟨⟨_,_,_,_,_,_⟩,_,_,_,_,_,_⟩:=z6 b3
        go_wp2_with (first|(go_at_call 61;(with_reducible refine(bw.calls cJ 0 1000 false _ d2.out).mono ?_);rintro e w' ⟨rfl,⟨nd,rfl⟩⟩))
        repeat(go_quiet (first|(go_at_call 61;(with_reducible refine(bw.calls cJ 0 1000 false _ d2.out).mono ?_);rintro e w' ⟨rfl,⟨nd,rfl⟩⟩;exact oQ));try go_wp2_with (first|(go_at_call 61;(with_reducible refine(bw.calls cJ 0 1000 false _ d2.out).mono ?_);rintro e w' ⟨rfl,⟨nd,rfl⟩⟩)))
        go_meet
        case rel=>exact⟨_,(true),oS,H',⟨by have:=bZ.out;have:=d1.out;first|omega|exact Nat.le_refl _⟩,⟨oF b3⟩,⟨oB⟩⟩
       have H':=ae.mk H;clear H;obtain⟨⟨_,_,_,_,_,_⟩,_,_,_,_,_,_⟩:=z6 b3
       go_wp2_with (first|(go_at_call 61;(with_reducible refine(bw.calls cJ 0 1000 true _ d2.out).mono ?_);rintro e w' ⟨rfl,⟨nd,rfl⟩⟩))
       repeat(go_quiet (first|(go_at_call 61;(with_reducible refine(bw.calls cJ 0 1000 true _ d2.out).mono ?_);rintro e w' ⟨rfl,⟨nd,rfl⟩⟩;exact oQ));try go_wp2_with (first|(go_at_call 61;(with_reducible refine(bw.calls cJ 0 1000 true _ d2.out).mono ?_);rintro e w' ⟨rfl,⟨nd,rfl⟩⟩)))
       go_meet
       case rel=>exact⟨_,(((cJ==0) !=(br==1))),oS,H',⟨by have:=bZ.out;have:=d1.out;first|omega|exact Nat.le_refl _⟩,⟨oF b3⟩,⟨oB⟩⟩
      case rest=>
       clear dC
       try clear dD
       obtain⟨kq,bS,rfl,HA,gV,b3,HB⟩:=hcut
       cases kq with
       |zero=>exact absurd HA.out (by simp[bl.j2])
       |succ kj44=>
        have H:=HA.out;clear HA;simp only[bl.j2]at H;replace H:=kN H;rcases H with⟨rfl,H⟩|⟨rfl,H⟩
        ·obtain rfl:=Option.some.inj H
         go_wp2
         repeat(go_quiet (fail);try go_wp2)
         go_ret
         exact⟨oE,oB⟩
        by_cases bT:aj=1
        ·rw[if_pos bT]at H;have dH:(aj==1)=true:=beq_iff_eq.mpr bT;have dI:(aj !=1)=false:=bne_eq_false_iff_eq.mpr bT;clear bT;obtain rfl:=Option.some.inj H;obtain⟨⟨_,_,_,_,_,_⟩,_,_,_,_,_,_⟩:=z6 b3
         go_wp2
         repeat(go_quiet (fail);try go_wp2)
         go_ret
         exact⟨oE,oB⟩
        rw[if_neg bT]at H;have dH:(aj==1)=false:=beq_eq_false_iff_ne.mpr bT;have dI:(aj !=1)=true:=bne_iff_ne.mpr bT
        by_cases bU:aj=2
        rotate_left
        ·rw[if_neg bU]at H;have dJ:(aj==2)=false:=beq_eq_false_iff_ne.mpr bU;have dK:(aj !=2)=true:=bne_iff_ne.mpr bU;obtain rfl:=Option.some.inj H;obtain⟨⟨_,_,_,_,_,_⟩,_,_,_,_,_,_⟩:=z6 b3
         go_wp2
         repeat(go_quiet (fail);try go_wp2)
         go_ret
         exact⟨oE,oB⟩
        rw[if_pos bU]at H;have dJ:(aj==2)=true:=beq_iff_eq.mpr bU;have dK:(aj !=2)=false:=bne_eq_false_iff_eq.mpr bU;clear bU
        by_cases bQ:(cr.length:Int)=0
        ·rw[if_pos bQ]at H;have dL:((cr.length:Int)==0)=true:=beq_iff_eq.mpr bQ;have dM:((cr.length:Int) !=0)=false:=bne_eq_false_iff_eq.mpr bQ;clear bQ;obtain rfl:=Option.some.inj H;obtain⟨⟨_,_,_,_,_,_⟩,_,_,_,_,_,_⟩:=z6 b3
         go_wp2
         repeat(go_quiet (fail);try go_wp2)
         go_ret
         exact⟨oE,oB⟩
        rw[if_neg bQ]at H;have dL:((cr.length:Int)==0)=false:=beq_eq_false_iff_ne.mpr bQ;have dM:((cr.length:Int) !=0)=true:=bne_iff_ne.mpr bQ
        have gM:¬(cr=[]):=fun h_=>bQ (by rw[h_];rfl)
        obtain rfl:=Option.some.inj H;obtain⟨⟨_,_,_,_,_,_⟩,_,_,_,_,_,_⟩:=z6 b3
        go_wp2
        repeat(go_quiet (fail);try go_wp2)
        go_ret
        exact⟨oE,oB⟩
     obtain⟨gN,H⟩:=cO H;obtain⟨gO,H⟩:=cO H;replace H:=bA H;obtain⟨gW,bH,H⟩:=H
     try dsimp only at H
     replace H:=kN H;rcases H with⟨rfl,H⟩|⟨rfl,H⟩;rotate_left
     ·obtain rfl:=Option.some.inj H;have d8:(0≤(b1:Int))=True:=oT;have d9:(b1<(aK.length:Int))=True:=oT;obtain⟨bB,bM,bN,bO⟩:=ky bF HB b1 oa oa
      cases bM
      go_wp2_with (first|((with_reducible refine ai (N:=4) rfl ?_);(try(refine aW (by rfl) ?_;dsimp only));refine eh 4 #[.string (⟨#[]⟩:ByteArray),.int .i64 0] 75 ?_;intro b5 hg gF hbox hb;have bE:=am (hbox);have bC:=eg hg;have b6:=eY hg b3;have b7:=eZ hg b3;replace b3:=aQ b3 hb;replace HB:=hB HB hb;clear hb hbox hg;have dN:=b7.out;have dO:=b6.out;obtain⟨⟨_,_⟩,_,_⟩:=z2 bE)|(go_at_call 65;(with_reducible refine(ay.calls k2 ((al aK b1).f0) false _ bH.out).mono ?_);rintro e w' ⟨rfl,⟨nd,rfl⟩⟩))
      repeat(go_quiet (first|(go_at_call 65;(with_reducible refine(ay.calls k2 ((al aK b1).f0) false _ bH.out).mono ?_);rintro e w' ⟨rfl,⟨nd,rfl⟩⟩;exact oQ));try go_wp2_with (first|((with_reducible refine ai (N:=4) rfl ?_);(try(refine aW (by rfl) ?_;dsimp only));refine eh 4 #[.string (⟨#[]⟩:ByteArray),.int .i64 0] 75 ?_;intro b5 hg gF hbox hb;have bE:=am (hbox);have bC:=eg hg;have b6:=eY hg b3;have b7:=eZ hg b3;replace b3:=aQ b3 hb;replace HB:=hB HB hb;clear hb hbox hg;have dN:=b7.out;have dO:=b6.out;obtain⟨⟨_,_⟩,_,_⟩:=z2 bE)|(go_at_call 65;(with_reducible refine(ay.calls k2 ((al aK b1).f0) false _ bH.out).mono ?_);rintro e w' ⟨rfl,⟨nd,rfl⟩⟩)))
      go_ret
      exact⟨oE,oB⟩
     replace H:=bA H;obtain⟨gX,bJ,H⟩:=H
     try dsimp only at H
     replace H:=kN H;rcases H with⟨rfl,H⟩|⟨rfl,H⟩;rotate_left
     ·obtain rfl:=Option.some.inj H;have d8:(0≤(b1:Int))=True:=oT;have d9:(b1<(aK.length:Int))=True:=oT;obtain⟨bB,bM,bN,bO⟩:=ky bF HB b1 oa oa
      cases bM
      go_wp2_with (first|((with_reducible refine ai (N:=4) rfl ?_);(try(refine aW (by rfl) ?_;dsimp only));refine eh 4 #[.string (⟨#[]⟩:ByteArray),.int .i64 0] 75 ?_;intro b5 hg gG hbox hb;have bE:=am (hbox);have bC:=eg hg;have b6:=eY hg b3;have b7:=eZ hg b3;replace b3:=aQ b3 hb;replace HB:=hB HB hb;clear hb hbox hg;have dP:=b7.out;have dQ:=b6.out;obtain⟨⟨_,_⟩,_,_⟩:=z2 bE)|(go_at_call 65;(with_reducible refine(ay.calls k2 ((al aK b1).f0) true _ bH.out).mono ?_);rintro e w' ⟨rfl,⟨nd,rfl⟩⟩)|(go_at_call 61;(with_reducible refine(bw.calls ((al aK b1).f1) 2 1000 false _ bJ.out).mono ?_);rintro e w' ⟨rfl,⟨nd,rfl⟩⟩))
      repeat(go_quiet (first|(go_at_call 65;(with_reducible refine(ay.calls k2 ((al aK b1).f0) true _ bH.out).mono ?_);rintro e w' ⟨rfl,⟨nd,rfl⟩⟩;exact oQ)|(go_at_call 61;(with_reducible refine(bw.calls ((al aK b1).f1) 2 1000 false _ bJ.out).mono ?_);rintro e w' ⟨rfl,⟨nd,rfl⟩⟩;exact oQ));try go_wp2_with (first|((with_reducible refine ai (N:=4) rfl ?_);(try(refine aW (by rfl) ?_;dsimp only));refine eh 4 #[.string (⟨#[]⟩:ByteArray),.int .i64 0] 75 ?_;intro b5 hg gG hbox hb;have bE:=am (hbox);have bC:=eg hg;have b6:=eY hg b3;have b7:=eZ hg b3;replace b3:=aQ b3 hb;replace HB:=hB HB hb;clear hb hbox hg;have dP:=b7.out;have dQ:=b6.out;obtain⟨⟨_,_⟩,_,_⟩:=z2 bE)|(go_at_call 65;(with_reducible refine(ay.calls k2 ((al aK b1).f0) true _ bH.out).mono ?_);rintro e w' ⟨rfl,⟨nd,rfl⟩⟩)|(go_at_call 61;(with_reducible refine(bw.calls ((al aK b1).f1) 2 1000 false _ bJ.out).mono ?_);rintro e w' ⟨rfl,⟨nd,rfl⟩⟩)))
      go_ret
      exact⟨oE,oB⟩
     replace H:=yJ H;rcases H with⟨dR,H⟩|⟨dR,H⟩;rotate_left
     ·have H':=ae.mk H;clear H;have d8:(0≤(b1:Int))=True:=oT;have d9:(b1<(aK.length:Int))=True:=oT;obtain⟨bB,bM,bN,bO⟩:=ky bF HB b1 oa oa
      cases bM
      go_wp2_with (first|((with_reducible refine ai (N:=4) rfl ?_);(try(refine aW (by rfl) ?_;dsimp only));refine eh 4 #[.string (⟨#[]⟩:ByteArray),.int .i64 0] 75 ?_;intro b5 hg gH hbox hb;have bE:=am (hbox);have bC:=eg hg;have b6:=eY hg b3;have b7:=eZ hg b3;replace b3:=aQ b3 hb;replace HB:=hB HB hb;clear hb hbox hg;have dS:=b7.out;have dT:=b6.out;obtain⟨⟨_,_⟩,_,_⟩:=z2 bE)|(go_at_call 65;(with_reducible refine(ay.calls k2 ((al aK b1).f0) true _ bH.out).mono ?_);rintro e w' ⟨rfl,⟨nd,rfl⟩⟩)|(go_at_call 61;(with_reducible refine(bw.calls ((al aK b1).f1) 2 1000 true _ bJ.out).mono ?_);rintro e w' ⟨rfl,⟨nd,rfl⟩⟩))
      repeat(go_quiet (first|(go_at_call 65;(with_reducible refine(ay.calls k2 ((al aK b1).f0) true _ bH.out).mono ?_);rintro e w' ⟨rfl,⟨nd,rfl⟩⟩;exact oQ)|(go_at_call 61;(with_reducible refine(bw.calls ((al aK b1).f1) 2 1000 true _ bJ.out).mono ?_);rintro e w' ⟨rfl,⟨nd,rfl⟩⟩;exact oQ));try go_wp2_with (first|((with_reducible refine ai (N:=4) rfl ?_);(try(refine aW (by rfl) ?_;dsimp only));refine eh 4 #[.string (⟨#[]⟩:ByteArray),.int .i64 0] 75 ?_;intro b5 hg gH hbox hb;have bE:=am (hbox);have bC:=eg hg;have b6:=eY hg b3;have b7:=eZ hg b3;replace b3:=aQ b3 hb;replace HB:=hB HB hb;clear hb hbox hg;have dS:=b7.out;have dT:=b6.out;obtain⟨⟨_,_⟩,_,_⟩:=z2 bE)|(go_at_call 65;(with_reducible refine(ay.calls k2 ((al aK b1).f0) true _ bH.out).mono ?_);rintro e w' ⟨rfl,⟨nd,rfl⟩⟩)|(go_at_call 61;(with_reducible refine(bw.calls ((al aK b1).f1) 2 1000 true _ bJ.out).mono ?_);rintro e w' ⟨rfl,⟨nd,rfl⟩⟩)))
      go_roundg k2
      case measure=>have:=bZ.out;have:=d1.out;omega
      case rel=>exact⟨(wrap64 (b1+1)),oS,H',⟨by have:=bZ.out;have:=d1.out;omega⟩,⟨oF b3⟩,⟨oB⟩⟩
     obtain⟨bD,bP⟩:∃j_:Int,(wrap64 (b1-1))=j_:=⟨_,rfl⟩
     replace H:(if 0≤(bD)then(if(bD)<(aK.length:Int)then(if((Op.bytesLess (((al aK (bD)).f0).toList) (((al aK b1).f0).toList))=true)then(bl.l0 k2 aK (aK.length:Int) (wrap64 (b1+1)) br aj cJ cr aK cw)else(some false))else(none))else(none))=some r:=by first|(rw[bP]at H;exact H)|(simp only[bP]at H⊢;exact H)
     (try rw[bP]at bH)
     (try rw[bP]at bJ)
     have gI:(IntKind.i64.wrap (b1-1))=bD:=(kR _).trans bP;obtain⟨gP,H⟩:=cO H;obtain⟨gQ,H⟩:=cO H
     by_cases d3:((Op.bytesLess (((al aK (bD)).f0).toList) (((al aK b1).f0).toList))=true)
     ·rw[if_pos d3]at H;have dU:(Op.bytesLess (((al aK (bD)).f0).toList) (((al aK b1).f0).toList))=true:=d3;clear d3;have H':=ae.mk H;clear H;have d8:(0≤(b1:Int))=True:=oT;have d9:(b1<(aK.length:Int))=True:=oT;obtain⟨bB,bM,bN,bO⟩:=ky bF HB b1 oa oa
      cases bM
      go_wp2_with (first|((with_reducible refine ai (N:=4) rfl ?_);(try(refine aW (by rfl) ?_;dsimp only));refine eh 4 #[.string (⟨#[]⟩:ByteArray),.int .i64 0] 75 ?_;intro b5 hg bV hbox hb;have bE:=am (hbox);have bC:=eg hg;have b6:=eY hg b3;have b7:=eZ hg b3;replace b3:=aQ b3 hb;replace HB:=hB HB hb;clear hb hbox hg;have dV:=b7.out;have dW:=b6.out;obtain⟨⟨_,_⟩,_,_⟩:=z2 bE)|(go_at_call 65;(with_reducible refine(ay.calls k2 ((al aK b1).f0) true _ bH.out).mono ?_);rintro e w' ⟨rfl,⟨nd,rfl⟩⟩)|(go_at_call 61;(with_reducible refine(bw.calls ((al aK b1).f1) 2 1000 true _ bJ.out).mono ?_);rintro e w' ⟨rfl,⟨nd,rfl⟩⟩;obtain⟨⟨_,_,_,_,_,_⟩,_,_,_,_,_,_⟩:=z6 b3;have bW:(0≤((bD):Int))=True:=oT;have bX:((bD)<(aK.length:Int))=True:=oT;obtain⟨bG,bI,b2,b4⟩:=dd bF.out (bD) oa oa;obtain rfl:bB=bG:=(by injection bI);have b8:bB.block≠b5:=qO b2 bC;have b9:bB.block≠b5:=qO b2 bC;replace b2:=cB HB b2;replace b4:=cB HB b4;replace b2:=lK 0 (.string ((al aK b1).f0)) b8 b2;replace b4:=lK 0 (.string ((al aK b1).f0)) b8 b4;replace b2:=lK 1 (.int .i64 ((al aK b1).f1)) b9 b2;replace b4:=lK 1 (.int .i64 ((al aK b1).f1)) b9 b4;(try have bK:=fun(n_:Nat)=>(show((((bV.drewN n_).setCell ⟨b5,0,none⟩ (.string ((al aK b1).f0))).setCell ⟨b5,1,none⟩ (.int .i64 ((al aK b1).f1)))).cell? _=some _ from b2));(try have bL:=fun(n_:Nat)=>(show((((bV.drewN n_).setCell ⟨b5,0,none⟩ (.string ((al aK b1).f0))).setCell ⟨b5,1,none⟩ (.int .i64 ((al aK b1).f1)))).cell? _=some _ from b4));clear b8;clear b9))
      repeat(go_quiet (first|(go_at_call 65;(with_reducible refine(ay.calls k2 ((al aK b1).f0) true _ bH.out).mono ?_);rintro e w' ⟨rfl,⟨nd,rfl⟩⟩;exact oQ)|(go_at_call 61;(with_reducible refine(bw.calls ((al aK b1).f1) 2 1000 true _ bJ.out).mono ?_);rintro e w' ⟨rfl,⟨nd,rfl⟩⟩;exact oQ;obtain⟨⟨_,_,_,_,_,_⟩,_,_,_,_,_,_⟩:=z6 b3;have bW:(0≤((bD):Int))=True:=oT;have bX:((bD)<(aK.length:Int))=True:=oT;obtain⟨bG,bI,b2,b4⟩:=dd bF.out (bD) oa oa;obtain rfl:bB=bG:=(by injection bI);have b8:bB.block≠b5:=qO b2 bC;have b9:bB.block≠b5:=qO b2 bC;replace b2:=cB HB b2;replace b4:=cB HB b4;replace b2:=lK 0 (.string ((al aK b1).f0)) b8 b2;replace b4:=lK 0 (.string ((al aK b1).f0)) b8 b4;replace b2:=lK 1 (.int .i64 ((al aK b1).f1)) b9 b2;replace b4:=lK 1 (.int .i64 ((al aK b1).f1)) b9 b4;(try have bK:=fun(n_:Nat)=>(show((((bV.drewN n_).setCell ⟨b5,0,none⟩ (.string ((al aK b1).f0))).setCell ⟨b5,1,none⟩ (.int .i64 ((al aK b1).f1)))).cell? _=some _ from b2));(try have bL:=fun(n_:Nat)=>(show((((bV.drewN n_).setCell ⟨b5,0,none⟩ (.string ((al aK b1).f0))).setCell ⟨b5,1,none⟩ (.int .i64 ((al aK b1).f1)))).cell? _=some _ from b4));clear b8;clear b9));try go_wp2_with (first|((with_reducible refine ai (N:=4) rfl ?_);(try(refine aW (by rfl) ?_;dsimp only));refine eh 4 #[.string (⟨#[]⟩:ByteArray),.int .i64 0] 75 ?_;intro b5 hg bV hbox hb;have bE:=am (hbox);have bC:=eg hg;have b6:=eY hg b3;have b7:=eZ hg b3;replace b3:=aQ b3 hb;replace HB:=hB HB hb;clear hb hbox hg;have dV:=b7.out;have dW:=b6.out;obtain⟨⟨_,_⟩,_,_⟩:=z2 bE)|(go_at_call 65;(with_reducible refine(ay.calls k2 ((al aK b1).f0) true _ bH.out).mono ?_);rintro e w' ⟨rfl,⟨nd,rfl⟩⟩)|(go_at_call 61;(with_reducible refine(bw.calls ((al aK b1).f1) 2 1000 true _ bJ.out).mono ?_);rintro e w' ⟨rfl,⟨nd,rfl⟩⟩;obtain⟨⟨_,_,_,_,_,_⟩,_,_,_,_,_,_⟩:=z6 b3;have bW:(0≤((bD):Int))=True:=oT;have bX:((bD)<(aK.length:Int))=True:=oT;obtain⟨bG,bI,b2,b4⟩:=dd bF.out (bD) oa oa;obtain rfl:bB=bG:=(by injection bI);have b8:bB.block≠b5:=qO b2 bC;have b9:bB.block≠b5:=qO b2 bC;replace b2:=cB HB b2;replace b4:=cB HB b4;replace b2:=lK 0 (.string ((al aK b1).f0)) b8 b2;replace b4:=lK 0 (.string ((al aK b1).f0)) b8 b4;replace b2:=lK 1 (.int .i64 ((al aK b1).f1)) b9 b2;replace b4:=lK 1 (.int .i64 ((al aK b1).f1)) b9 b4;(try have bK:=fun(n_:Nat)=>(show((((bV.drewN n_).setCell ⟨b5,0,none⟩ (.string ((al aK b1).f0))).setCell ⟨b5,1,none⟩ (.int .i64 ((al aK b1).f1)))).cell? _=some _ from b2));(try have bL:=fun(n_:Nat)=>(show((((bV.drewN n_).setCell ⟨b5,0,none⟩ (.string ((al aK b1).f0))).setCell ⟨b5,1,none⟩ (.int .i64 ((al aK b1).f1)))).cell? _=some _ from b4));clear b8;clear b9)))
      go_roundg k2
      case measure=>have:=bZ.out;have:=d1.out;omega
      case rel=>exact⟨(wrap64 (b1+1)),oS,H',⟨by have:=bZ.out;have:=d1.out;omega⟩,⟨oF b3⟩,⟨oB⟩⟩
     rw[if_neg d3]at H
     have dU:(Op.bytesLess (((al aK (bD)).f0).toList) (((al aK b1).f0).toList))=false:=by simpa using d3
     clear d3;obtain rfl:=Option.some.inj H;have d8:(0≤(b1:Int))=True:=oT;have d9:(b1<(aK.length:Int))=True:=oT;obtain⟨bB,bM,bN,bO⟩:=ky bF HB b1 oa oa
     cases bM
     go_wp2_with (first|((with_reducible refine ai (N:=4) rfl ?_);(try(refine aW (by rfl) ?_;dsimp only));refine eh 4 #[.string (⟨#[]⟩:ByteArray),.int .i64 0] 75 ?_;intro b5 hg bY hbox hb;have bE:=am (hbox);have bC:=eg hg;have b6:=eY hg b3;have b7:=eZ hg b3;replace b3:=aQ b3 hb;replace HB:=hB HB hb;clear hb hbox hg;have dX:=b7.out;have dY:=b6.out;obtain⟨⟨_,_⟩,_,_⟩:=z2 bE)|(go_at_call 65;(with_reducible refine(ay.calls k2 ((al aK b1).f0) true _ bH.out).mono ?_);rintro e w' ⟨rfl,⟨nd,rfl⟩⟩)|(go_at_call 61;(with_reducible refine(bw.calls ((al aK b1).f1) 2 1000 true _ bJ.out).mono ?_);rintro e w' ⟨rfl,⟨nd,rfl⟩⟩;obtain⟨⟨_,_,_,_,_,_⟩,_,_,_,_,_,_⟩:=z6 b3;have bW:(0≤((bD):Int))=True:=oT;have bX:((bD)<(aK.length:Int))=True:=oT;obtain⟨bG,bI,b2,b4⟩:=dd bF.out (bD) oa oa;obtain rfl:bB=bG:=(by injection bI);have b8:bB.block≠b5:=qO b2 bC;have b9:bB.block≠b5:=qO b2 bC;replace b2:=cB HB b2;replace b4:=cB HB b4;replace b2:=lK 0 (.string ((al aK b1).f0)) b8 b2;replace b4:=lK 0 (.string ((al aK b1).f0)) b8 b4;replace b2:=lK 1 (.int .i64 ((al aK b1).f1)) b9 b2;replace b4:=lK 1 (.int .i64 ((al aK b1).f1)) b9 b4;(try have bK:=fun(n_:Nat)=>(show((((bY.drewN n_).setCell ⟨b5,0,none⟩ (.string ((al aK b1).f0))).setCell ⟨b5,1,none⟩ (.int .i64 ((al aK b1).f1)))).cell? _=some _ from b2));(try have bL:=fun(n_:Nat)=>(show((((bY.drewN n_).setCell ⟨b5,0,none⟩ (.string ((al aK b1).f0))).setCell ⟨b5,1,none⟩ (.int .i64 ((al aK b1).f1)))).cell? _=some _ from b4));clear b8;clear b9))
     repeat(go_quiet (first|(go_at_call 65;(with_reducible refine(ay.calls k2 ((al aK b1).f0) true _ bH.out).mono ?_);rintro e w' ⟨rfl,⟨nd,rfl⟩⟩;exact oQ)|(go_at_call 61;(with_reducible refine(bw.calls ((al aK b1).f1) 2 1000 true _ bJ.out).mono ?_);rintro e w' ⟨rfl,⟨nd,rfl⟩⟩;exact oQ;obtain⟨⟨_,_,_,_,_,_⟩,_,_,_,_,_,_⟩:=z6 b3;have bW:(0≤((bD):Int))=True:=oT;have bX:((bD)<(aK.length:Int))=True:=oT;obtain⟨bG,bI,b2,b4⟩:=dd bF.out (bD) oa oa;obtain rfl:bB=bG:=(by injection bI);have b8:bB.block≠b5:=qO b2 bC;have b9:bB.block≠b5:=qO b2 bC;replace b2:=cB HB b2;replace b4:=cB HB b4;replace b2:=lK 0 (.string ((al aK b1).f0)) b8 b2;replace b4:=lK 0 (.string ((al aK b1).f0)) b8 b4;replace b2:=lK 1 (.int .i64 ((al aK b1).f1)) b9 b2;replace b4:=lK 1 (.int .i64 ((al aK b1).f1)) b9 b4;(try have bK:=fun(n_:Nat)=>(show((((bY.drewN n_).setCell ⟨b5,0,none⟩ (.string ((al aK b1).f0))).setCell ⟨b5,1,none⟩ (.int .i64 ((al aK b1).f1)))).cell? _=some _ from b2));(try have bL:=fun(n_:Nat)=>(show((((bY.drewN n_).setCell ⟨b5,0,none⟩ (.string ((al aK b1).f0))).setCell ⟨b5,1,none⟩ (.int .i64 ((al aK b1).f1)))).cell? _=some _ from b4));clear b8;clear b9));try go_wp2_with (first|((with_reducible refine ai (N:=4) rfl ?_);(try(refine aW (by rfl) ?_;dsimp only));refine eh 4 #[.string (⟨#[]⟩:ByteArray),.int .i64 0] 75 ?_;intro b5 hg bY hbox hb;have bE:=am (hbox);have bC:=eg hg;have b6:=eY hg b3;have b7:=eZ hg b3;replace b3:=aQ b3 hb;replace HB:=hB HB hb;clear hb hbox hg;have dX:=b7.out;have dY:=b6.out;obtain⟨⟨_,_⟩,_,_⟩:=z2 bE)|(go_at_call 65;(with_reducible refine(ay.calls k2 ((al aK b1).f0) true _ bH.out).mono ?_);rintro e w' ⟨rfl,⟨nd,rfl⟩⟩)|(go_at_call 61;(with_reducible refine(bw.calls ((al aK b1).f1) 2 1000 true _ bJ.out).mono ?_);rintro e w' ⟨rfl,⟨nd,rfl⟩⟩;obtain⟨⟨_,_,_,_,_,_⟩,_,_,_,_,_,_⟩:=z6 b3;have bW:(0≤((bD):Int))=True:=oT;have bX:((bD)<(aK.length:Int))=True:=oT;obtain⟨bG,bI,b2,b4⟩:=dd bF.out (bD) oa oa;obtain rfl:bB=bG:=(by injection bI);have b8:bB.block≠b5:=qO b2 bC;have b9:bB.block≠b5:=qO b2 bC;replace b2:=cB HB b2;replace b4:=cB HB b4;replace b2:=lK 0 (.string ((al aK b1).f0)) b8 b2;replace b4:=lK 0 (.string ((al aK b1).f0)) b8 b4;replace b2:=lK 1 (.int .i64 ((al aK b1).f1)) b9 b2;replace b4:=lK 1 (.int .i64 ((al aK b1).f1)) b9 b4;(try have bK:=fun(n_:Nat)=>(show((((bY.drewN n_).setCell ⟨b5,0,none⟩ (.string ((al aK b1).f0))).setCell ⟨b5,1,none⟩ (.int .i64 ((al aK b1).f1)))).cell? _=some _ from b2));(try have bL:=fun(n_:Nat)=>(show((((bY.drewN n_).setCell ⟨b5,0,none⟩ (.string ((al aK b1).f0))).setCell ⟨b5,1,none⟩ (.int .i64 ((al aK b1).f1)))).cell? _=some _ from b4));clear b8;clear b9)))
     go_ret
     exact⟨by first|rfl|(simp[eQ,eR]<;>rfl)|(simp only[←bP];first|rfl|(simp[eQ,eR]<;>rfl))|(simp[*,eQ,eR]<;>rfl),oB⟩
end Go.Proofs.YtlecajlnjmbilaaGreatDoor.P
