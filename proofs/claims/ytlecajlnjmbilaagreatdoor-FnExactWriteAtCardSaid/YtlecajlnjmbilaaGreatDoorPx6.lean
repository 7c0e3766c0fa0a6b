-- Printed walks.
import Derived.Test.YtlecajlnjmbilaaGreatDoorPx5
set_option linter.all false
set_option maxHeartbeats 8000000
set_option maxRecDepth 100000
namespace Go.Proofs.YtlecajlnjmbilaaGreatDoor.P
open Go.RowKit Go.Proofs.ae.au Go.Proofs.ae.ba Go.Proofs.ae.bg
attribute [local go_sem] gh gi iR iS ft fu gj gl

mutual
def az.l0:Nat→List Int→List Int→Int→List (bh)→Int→Option (List Int)
 |0,_,_,_,_,_=>none
 |k+1,x1,x5,x6,b2,b3=>if x6<(x1.length:Int)then(if 0≤x6 then((ff.f k b2 b3 (rd x1 x6)).bind fun b1=>(az.l1 k x1 x5 x6 b1.2.2.2.2.2.2 0 b2 b3 b1.1 b1.2.1 b1.2.2.1 b1.2.2.2.1 b1.2.2.2.2.1 b1.2.2.2.2.2.1))else(none))else(some x5)
def az.l1:Nat→List Int→List Int→Int→Bool→Int→List (bh)→Int→Int→Int→Int→List Int→List (eb)→List (eh)→Option (List Int)
 |0,_,_,_,_,_,_,_,_,_,_,_,_,_=>none
 |k+1,x1,x5,x6,x8,x9,b3,b4,b5,b1,b6,b7,b2,b8=>if x9<(b2.length:Int)then(if x8=true then(az.j2 k x1 x5 x6 x8 x9 (b1==2) b3 b4 b5 b1 b6 b7 b2 b8)else(az.j2 k x1 x5 x6 x8 x9 false b3 b4 b5 b1 b6 b7 b2 b8))else(az.j2 k x1 x5 x6 x8 x9 false b3 b4 b5 b1 b6 b7 b2 b8)
def az.j2:Nat→List Int→List Int→Int→Bool→Int→Bool→List (bh)→Int→Int→Int→Int→List Int→List (eb)→List (eh)→Option (List Int)
 |0,_,_,_,_,_,_,_,_,_,_,_,_,_,_=>none
 |k+1,x1,x5,x6,x8,x9,bC,b2,b3,b4,b5,b6,b7,b1,b8=>if bC=true then(if 0≤x9 then(if x9<(b1.length:Int)then((cF.f k b2 b3 ((al b1 x9).f1)).bind fun b9=>(if b9≥0 then((da.f k x5 ((al b1 x9).f1)).bind fun bB=>(az.l1 k x1 bB x6 x8 (wrap64 (x9+1)) b2 b3 b4 b5 b6 b7 b1 b8))else(az.l1 k x1 x5 x6 x8 (wrap64 (x9+1)) b2 b3 b4 b5 b6 b7 b1 b8)))else(none))else(none))else(az.l0 k x1 x5 (wrap64 (x6+1)) b2 b3)
end
def az.f (k:Nat) (ag:List (bh)) (ak:Int) (l1:List Int):Option (List Int):=az.l0 k l1 l1 0 ag ak
def az.T5:Bool×List (List Nat×List Nat):=(true,[([],[]),([],[]),([],[]),([1,2],[1,2]),([3],[3]),([0,4],[0,4]),([5],[5]),([6],[6]),([6],[6]),([],[]),([9,7,5,0,1,2,3,4,5,6,7,9],[7,9]),([8,10,0,1,2,3,4,5,6,7,8,9,10],[8])])
def az.B5:List Nat:=[0,0,0,6,14,31,63,127,127,0,767,2047]
theorem az.aaS:gf .any (opsOf Tryz.f117 5)=az.T5:=by kernel_rfl
theorem az.t_:eL az.T5.2 az.B5=true:=by kernel_rfl
def az.T9:Bool×List (List Nat×List Nat):=(true,[([],[]),([],[]),([1],[1]),([],[]),([2,3],[2,3]),([4],[4]),([5],[5]),([0,6],[0,6]),([7],[7])])
def az.B9:List Nat:=[0,0,2,0,14,30,62,127,255]
theorem az.aaX:gf .any (opsOf Tryz.f117 9)=az.T9:=by kernel_rfl
theorem az.ub:eL az.T9.2 az.B9=true:=by kernel_rfl
theorem az.calls (k:Nat) (bj:Option Addr) (aW:Nat) (ag:List (bh)) (ak:Int) (A1:Option Addr) (c1:Nat) (l1:List Int) (r:List Int) (b0:Nat) (w:World) (hb0:b0≤w.heap.size) (ch:Kd.C fD w bj ag.length ag) (ck:ag.length≤aW) (ho1:Kd.R (Kd.int .i64) 3 w b0 (fun _=>True) (.slice A1 l1.length c1) l1) (h:az.f k ag ak l1=some r):
  Calls Tryz.prog 117 #[.agg #[.slice bj ag.length aW,.int .i64 ak],.slice A1 l1.length c1] w fun e w'=>∃jd:Value,e= .returned (jd)∧Kd.R (Kd.int .i64) 3 w' b0 (fun _=>True) jd r∧Below w.heap.size w w':=by
 have b19:=Tryz.underlying28;have b1A:=Tryz.underlying58;have dO:=ab.mk ch;have dP:=ab.mk ck;clear ch ck;have zM:=am (Kd.bu ho1).2.2;have HC1:=am (Kd.bu ho1).2.1;have mF:=ab.mk ho1;have zN:=ab.mk hb0;clear ho1 hb0;have HB:=am (Below.refl w.heap.size w);have H:(az.l0 k l1 l1 0 ag ak)=some r:=h;clear h;have H':=ab.mk H;clear H
 go_enter Tryz.func117,Tryz.ntmps117
 go_wp2_with (first|((with_reducible refine ai (N:=2) rfl ?_);refine sa ?hg (N:=2) ?hd (cs:= #[.slice bj ag.length aW,.int .i64 ak]) (t:=28) ?hr ?_;(case hd=>rfl);(case hg=>rfl);(case hr=>first|(go_simp;done)|(go_simp;rfl));intro bD hg w3 hbox hb;have bI:=hB HB hb;have bJ:=am (hbox);have bK:=am ((by rw[hg];exact(ah oB):w.heap.size≤bD));have bP:=am ((by rw[hg];exact(ah oB):w.heap.size≤bD));clear HB;have HB:=bI;have b3:=bJ;have zS:=bK;have bE:=bP;clear bI bJ bK bP;have jW:=am (Kd.iq mF.out hb);clear hb hbox hg))
 go_loopg [5,6] k (fun kq v5 v6 w'=>∃(dE:List Int) (bH:Int),v6= .int .i64 bH∧ab (az.l0 kq l1 dE bH ag ak=some r)∧ab (kq≤k)∧ab (Kd.R (Kd.int .i64) 3 w' b0 (fun _=>True) v5 dE)∧ab (w'.heap[bD]? =some (.cells #[(.slice bj ag.length aW),.int .i64 ak] 28 (0,0)))∧ab (Below w.heap.size w w'))
 case atStart=>exact⟨(l1),(0),oS,H',⟨Nat.le_refl _⟩,⟨by(with_reducible repeat(first|apply Kd.cu|apply Kd.cv|apply Kd.cz));exact jW.out⟩,⟨oF b3⟩,⟨by repeat(first|(with_reducible first|exact HB.out|apply aN|apply aJ|apply ar|refine aG ?_ bE.out)|exact HB.out)⟩⟩
 case round=>
  clear H'
  try clear c1
  try clear p2
  obtain⟨dE,bH,rfl,HA,dJ,b8,b3,HB⟩:=hrel
  cases gk with
  |zero=>exact absurd HA.out (by simp[az.l0])
  |succ k1=>
   have H:=HA.out;clear HA;simp only[az.l0]at H
   by_cases c6:bH<(l1.length:Int)
   rotate_left
   ·rw[if_neg c6]at H;have gG:decide (bH<(l1.length:Int))=false:=decide_eq_false c6;clear c6;obtain rfl:=Option.some.inj H
    go_wp2
    go_ret
    exact⟨_,oE,by(with_reducible repeat(first|apply Kd.cu|apply Kd.cv|apply Kd.cz));exact b8.out,by repeat(first|(with_reducible first|exact HB.out|apply aN|apply aJ|apply ar|refine aG ?_ bE.out)|exact HB.out)⟩
   rw[if_pos c6]at H;have gG:decide (bH<(l1.length:Int))=true:=decide_eq_true c6;clear c6;obtain⟨c7,H⟩:=lH H;have jP:decide (0≤bH)=true:=decide_eq_true c7;clear c7;replace H:=Option.bind_eq_some_iff.mp H;obtain⟨⟨bQ,bO,bR,bL,bB,bM,bW⟩,m1,H⟩:=H;replace H:(az.l1 k1 l1 dE bH bW 0 ag ak bQ bO bR bL bB bM)=some r:=H;have A8:=ab.mk m1;clear m1;have H':=ab.mk H;clear H
   try go_wp2
   have bI:=am (Kd.cz b8.out);have bJ:=am (ao b3.out);have bK:=am (ar HB.out);clear b8;clear b3;clear HB;have b8:=bI;have b3:=bJ;have HB:=bK;clear bI bJ bK;have dQ:0≤(bH:Int):=oa;have dR:bH<(l1.length:Int):=oa;obtain⟨dZ,mG,bY⟩:=Kd.jm zM.out bH dQ dR;have bC:=bY
   cases mG
   replace bY:=(HB.out.cell (World.block_lt_of_cell? w _ bY)).trans bY;replace dQ:=eq_true dQ;replace dR:=eq_true dR;refine mq 12 (fun w'=>w'.cell? ⟨bD,0,none⟩=some (.slice bj ag.length aW)∧w'.cell? ⟨bD,1,none⟩=some (.int .i64 ak)∧w'.cell? (dZ.add (bH).toNat)=some (.int .i64 (rd l1 bH))) az.aaS az.t_ oH (fun hHeld av ey=> ?_);generalize wr.drew=w9 at b8 b3 HB bY hHeld⊢;refine b_ 1 19 av ?_;refine b_ 2 20 av ?_;refine b_ 3 21 av ?_;refine fJ 0 18 av ey hHeld ?_;refine fJ 4 22 av ey hHeld ?_;refine adM (σ:=Value×Value×Value×Nat) 2 (lb 12 1023) (fun s_=>[(23,.tuple #[.agg #[.int .i64 bQ,.int .i64 bO,.int .i64 bR,s_.1,s_.2.1,s_.2.2.1],.bool bW]),(7,.pointer (some ⟨s_.2.2.2,0,none⟩)),(17,.tuple #[.agg #[.int .i64 bQ,.int .i64 bO,.int .i64 bR,s_.1,s_.2.1,s_.2.2.1],.bool bW]),(24,.agg #[.int .i64 bQ,.int .i64 bO,.int .i64 bR,s_.1,s_.2.1,s_.2.2.1]),(25,.bool bW)]) (fun s_ w'=>(w'.cell? ⟨bD,0,none⟩=some (.slice bj ag.length aW)∧w'.cell? ⟨bD,1,none⟩=some (.int .i64 ak)∧w'.cell? (dZ.add (bH).toNat)=some (.int .i64 (rd l1 bH)))∧(Kd.R (Kd.int .u8) 5 w' w.heap.size (fun _=>True) s_.1 bL)∧(Kd.R iT 75 w' w.heap.size (fun _=>True) s_.2.1 bB)∧(Kd.R iU 82 w' w.heap.size (fun _=>True) s_.2.2.1 bM)∧(Kd.R (Kd.int .i64) 3 w' b0 (fun _=>True) u5 dE)∧(w'.heap[bD]? =some (.cells #[.slice bj ag.length aW,.int .i64 ak] 28 (0,0)))∧(w'.heap[s_.2.2.2]? =some (.cells #[.int .i64 0,.int .i64 0,.int .i64 0,.slice none 0 0,.slice none 0 0,.slice none 0 0] 58 (0,0)))∧(w.heap.size≤s_.2.2.2)∧(w.heap.size≤s_.2.2.2)∧(bD≠s_.2.2.2)∧(s_.2.2.2≠bD)∧(Below w.heap.size w w')) ?_ ?_;rotate_left
   ·intro acu;refine aen (i:=5) (j:=9) (Ni:=some 23) (Nj:=some 7) (lb 12 63) (lb 12 543) rfl rfl rfl rfl (ac4 av.out (by kernel_rfl)) (by decide) (by decide) (fun K hK=> ?_) (fun K hK=> ?_)
    ·skip
     refine tF Tryz.func85 (by kernel_rfl) rfl #[.agg #[.slice bj ag.length aW,.int .i64 ak],.int .i64 (rd l1 bH)] (by rfl) rfl rfl oL ?_
     with_reducible refine(ff.calls k1 _ _ ag ak (rd l1 bH) bQ bO bR bL bB bM bW _ ?fL ?mx A8.out).mono ?_
     (case fL=>repeat(first|exact(Kd.eg dO.out HB.out)|(with_reducible refine Kd.fY ?_ _)|(with_reducible refine Kd.fZ ?_ _)|(with_reducible refine Kd.iW ?_)))
     (case mx=>exact dP.out)
     rintro e zO ⟨dS,dT,dU,rfl,dN,ho1,gA,hb⟩;refine⟨_,rfl,?_⟩;have bI:=nc b8 hb;have bJ:=am (Kd.ay dN (ah (by repeat(first|(with_reducible first|exact HB.out|apply aN|apply aJ|apply ar|refine aG ?_ bE.out)|exact HB.out))));have bK:=am (Kd.ay ho1 (ah (by repeat(first|(with_reducible first|exact HB.out|apply aN|apply aJ|apply ar|refine aG ?_ bE.out)|exact HB.out))));have bP:=am (Kd.ay gA (ah (by repeat(first|(with_reducible first|exact HB.out|apply aN|apply aJ|apply ar|refine aG ?_ bE.out)|exact HB.out))));have bS:=bn b3 hb;have bT:=am (fw (by repeat(first|(with_reducible first|exact HB.out|apply aN|apply aJ|apply ar|refine aG ?_ bE.out)|exact HB.out)) hb);clear b8;clear b3;clear HB;have b8:=bI;have d1:=bJ;have d2:=bK;have d3:=bP;have b3:=bS;have HB:=bT;clear bI bJ bK bP bS bT
     (try clear hb)
     (try clear hb2)
     (try clear hk)
     (try clear hi)
     (try clear dN)
     (try clear ho1)
     (try clear gA)
     refine fV hK 23 oH (fun hHeld=> ?_);clear hK K;refine b_ 6 17 av ?_;refine b_ 7 24 av ?_;refine b_ 8 25 av ?_;refine kF 9 7 av (fun K hK=> ?_);refine tN ?hg (N:=7) ?hd (cs:= #[.int .i64 0,.int .i64 0,.int .i64 0,.slice none 0 0,.slice none 0 0,.slice none 0 0]) (t:=58) ?hr ?_;(case hd=>rfl);(case hg=>rfl);(case hr=>first|(go_simp;done)|(go_simp;rfl));intro b2 hg zP hbox hb;have bI:=nc b8 hb;have bJ:=nc d1 hb;have bK:=nc d2 hb;have bP:=nc d3 hb;have bS:=bn b3 hb;have bT:=am (fw (by repeat(first|(with_reducible first|exact HB.out|apply aN|apply aJ|apply ar|refine aG ?_ bE.out)|exact HB.out)) hb);have bU:=am (hbox);have dB:=am ((by rw[hg];exact(ah (by repeat(first|(with_reducible first|exact HB.out|apply aN|apply aJ|apply ar|refine aG ?_ bE.out)|exact HB.out))):w.heap.size≤b2));have gB:=am ((by rw[hg];exact(ah (by repeat(first|(with_reducible first|exact HB.out|apply aN|apply aJ|apply ar|refine aG ?_ bE.out)|exact HB.out))):w.heap.size≤b2));have gC:=am ((by rw[hg];exact Nat.ne_of_lt (iA (g:=bD) (o:= .cells #[.slice bj ag.length aW,.int .i64 ak] 28 (0,0)) (oF b3)):bD≠b2));have dV:=am ((by rw[hg];exact Nat.ne_of_gt (iA (g:=bD) (o:= .cells #[.slice bj ag.length aW,.int .i64 ak] 28 (0,0)) (oF b3)):b2≠bD));clear b8;clear d1;clear d2;clear d3;clear b3;clear HB;have b8:=bI;have d1:=bJ;have d2:=bK;have d3:=bP;have b3:=bS;have HB:=bT;have b1:=bU;have bF:=dB;have bN:=gB;have b4:=gC;have bG:=dV;clear bI bJ bK bP bS bT bU dB gB gC dV;clear hb hbox hg;refine fV hK 7 oH (fun hHeld=> ?_);clear hK K;exact aaE (by simp only[pM,Act.put,List.setIfInBounds_toArray,List.set_cons_zero,List.set_cons_succ]) (acu (dS,dT,dU,b2) _ ⟨hHeld,(uO d1),(uO d2),(uO d3),(uO b8),(oF b3),(oF b1),bF.out,bN.out,b4.out,bG.out,(by repeat(first|(with_reducible first|exact HB.out|apply aN|apply aJ|apply ar|refine aG ?_ bE.out|refine aG ?_ bN.out)|exact HB.out))⟩)
    ·skip
     refine tN ?hg (N:=7) ?hd (cs:= #[.int .i64 0,.int .i64 0,.int .i64 0,.slice none 0 0,.slice none 0 0,.slice none 0 0]) (t:=58) ?hr ?_;(case hd=>rfl);(case hg=>rfl);(case hr=>first|(go_simp;done)|(go_simp;rfl));intro b2 hg zO hbox hb;have bI:=nc b8 hb;have bJ:=bn b3 hb;have bK:=am (fw (by repeat(first|(with_reducible first|exact HB.out|apply aN|apply aJ|apply ar|refine aG ?_ bE.out)|exact HB.out)) hb);have bP:=am (hbox);have bS:=am ((by rw[hg];exact(ah (by repeat(first|(with_reducible first|exact HB.out|apply aN|apply aJ|apply ar|refine aG ?_ bE.out)|exact HB.out))):w.heap.size≤b2));have bT:=am ((by rw[hg];exact(ah (by repeat(first|(with_reducible first|exact HB.out|apply aN|apply aJ|apply ar|refine aG ?_ bE.out)|exact HB.out))):w.heap.size≤b2));have bU:=am ((by rw[hg];exact Nat.ne_of_lt (iA (g:=bD) (o:= .cells #[.slice bj ag.length aW,.int .i64 ak] 28 (0,0)) (oF b3)):bD≠b2));have dB:=am ((by rw[hg];exact Nat.ne_of_gt (iA (g:=bD) (o:= .cells #[.slice bj ag.length aW,.int .i64 ak] 28 (0,0)) (oF b3)):b2≠bD));clear b8;clear b3;clear HB;have b8:=bI;have b3:=bJ;have HB:=bK;have b1:=bP;have bF:=bS;have bN:=bT;have b4:=bU;have bG:=dB;clear bI bJ bK bP bS bT bU dB;clear hb hbox hg;refine fV hK 7 oH (fun hHeld=> ?_);clear hK K;refine kF 5 23 av (fun K hK=> ?_);refine tF Tryz.func85 (by kernel_rfl) rfl #[.agg #[.slice bj ag.length aW,.int .i64 ak],.int .i64 (rd l1 bH)] (by rfl) rfl rfl oL ?_
     with_reducible refine(ff.calls k1 _ _ ag ak (rd l1 bH) bQ bO bR bL bB bM bW _ ?fL ?mx A8.out).mono ?_
     (case fL=>repeat(first|exact(Kd.eg dO.out HB.out)|(with_reducible refine Kd.fY ?_ _)|(with_reducible refine Kd.fZ ?_ _)|(with_reducible refine Kd.iW ?_)))
     (case mx=>exact dP.out)
     rintro e zP ⟨dS,dT,dU,rfl,dN,ho1,gA,hb⟩;refine⟨_,rfl,?_⟩;have bI:=nc b8 hb;have bJ:=am (Kd.ay dN (ah (by repeat(first|(with_reducible first|exact HB.out|apply aN|apply aJ|apply ar|refine aG ?_ bE.out|refine aG ?_ bN.out)|exact HB.out))));have bK:=am (Kd.ay ho1 (ah (by repeat(first|(with_reducible first|exact HB.out|apply aN|apply aJ|apply ar|refine aG ?_ bE.out|refine aG ?_ bN.out)|exact HB.out))));have bP:=am (Kd.ay gA (ah (by repeat(first|(with_reducible first|exact HB.out|apply aN|apply aJ|apply ar|refine aG ?_ bE.out|refine aG ?_ bN.out)|exact HB.out))));have bS:=bn b3 hb;have bT:=bn b1 hb;have bU:=am (fw (by repeat(first|(with_reducible first|exact HB.out|apply aN|apply aJ|apply ar|refine aG ?_ bE.out|refine aG ?_ bN.out)|exact HB.out)) hb);clear b8;clear b3;clear b1;clear HB;have b8:=bI;have d1:=bJ;have d2:=bK;have d3:=bP;have b3:=bS;have b1:=bT;have HB:=bU;clear bI bJ bK bP bS bT bU
     (try clear hb)
     (try clear hb2)
     (try clear hk)
     (try clear hi)
     (try clear dN)
     (try clear ho1)
     (try clear gA)
     refine fV hK 23 oH (fun hHeld=> ?_);clear hK K;refine b_ 6 17 av ?_;refine b_ 7 24 av ?_;refine b_ 8 25 av ?_;exact aaE (by simp only[pM,Act.put,List.setIfInBounds_toArray,List.set_cons_zero,List.set_cons_succ]) (acu (dS,dT,dU,b2) _ ⟨hHeld,(uO d1),(uO d2),(uO d3),(uO b8),(oF b3),(oF b1),bF.out,bN.out,b4.out,bG.out,(by repeat(first|(with_reducible first|exact HB.out|apply aN|apply aJ|apply ar|refine aG ?_ bE.out|refine aG ?_ bN.out)|exact HB.out))⟩)
   rintro⟨dS,dT,dU,b2⟩ bZ ⟨hS_,m2,m3,m4,m5,m6,m7,m8,m9,mA,mB,jQ⟩;have bI:ab (Kd.R (Kd.int .u8) 5 bZ w.heap.size (fun _=>True) dS bL):=⟨m2⟩;have bJ:ab (Kd.R iT 75 bZ w.heap.size (fun _=>True) dT bB):=⟨m3⟩;have bK:ab (Kd.R iU 82 bZ w.heap.size (fun _=>True) dU bM):=⟨m4⟩;have bP:ab (Kd.R (Kd.int .i64) 3 bZ b0 (fun _=>True) u5 dE):=⟨m5⟩;have bS:ab (bZ.heap[bD]? =some (.cells #[.slice bj ag.length aW,.int .i64 ak] 28 (0,0))):=⟨m6⟩;have bT:ab (bZ.heap[b2]? =some (.cells #[.int .i64 0,.int .i64 0,.int .i64 0,.slice none 0 0,.slice none 0 0,.slice none 0 0] 58 (0,0))):=⟨m7⟩;have bU:ab (w.heap.size≤b2):=⟨m8⟩;have dB:ab (w.heap.size≤b2):=⟨m9⟩;have gB:ab (bD≠b2):=⟨mA⟩;have gC:ab (b2≠bD):=⟨mB⟩;have dV:ab (Below w.heap.size w bZ):=⟨jQ⟩;clear b8;clear b3;clear HB;clear m2 m3 m4 m5 m6 m7 m8 m9 mA mB jQ;have d1:=bI;have d2:=bJ;have d3:=bK;have b8:=bP;have b3:=bS;have b1:=bT;have bF:=bU;have bN:=dB;have b4:=gB;have bG:=gC;have HB:=dV;clear bI bJ bK bP bS bT bU dB gB gC dV;have hHeld:bZ.cell? ⟨bD,0,none⟩=some (.slice bj ag.length aW)∧bZ.cell? ⟨bD,1,none⟩=some (.int .i64 ak)∧bZ.cell? (dZ.add (bH).toNat)=some (.int .i64 (rd l1 bH)):=hS_;obtain⟨d4,d5,jR⟩:=Kd.ax d1.out
   (first|subst jR|(injection jR with kH nF kI;have gD:=kH.symm;have gE:=kI.symm;clear kH nF kI;subst gD;subst gE))
   obtain⟨dF,d6,jS⟩:=Kd.ax d2.out
   (first|subst jS|(injection jS with kH nF kI;have gD:=kH.symm;have gE:=kI.symm;clear kH nF kI;subst gD;subst gE))
   obtain⟨d7,d8,jT⟩:=Kd.ax d3.out
   (first|subst jT|(injection jT with kH nF kI;have gD:=kH.symm;have gE:=kI.symm;clear kH nF kI;subst gD;subst gE))
   refine aaE (a':= ?_) ?_ ?_;rotate_left
   ·simp only[pM,Act.put,List.setIfInBounds_toArray,List.set_cons_zero,List.set_cons_succ]
    rfl
   refine acL (i:=10) (N:=none) (lb 12 2047) rfl rfl (qN av.out (by kernel_rfl)) (by decide) (fun K hK=> ?_);have b1B:bZ.cell? ⟨b2,0,none⟩=some (.int .i64 0):=(aq b1.out 0).trans rfl;have zT:=aH b1.out 0;have mL:=b4.out;have mM:=bG.out;have b1C:bZ.cell? ⟨b2,1,none⟩=some (.int .i64 0):=(aq b1.out 1).trans rfl;have zU:=aH b1.out 1;have mN:=b4.out;have mO:=bG.out;have b1D:bZ.cell? ⟨b2,2,none⟩=some (.int .i64 0):=(aq b1.out 2).trans rfl;have zV:=aH b1.out 2;have mP:=b4.out;have mQ:=bG.out;have b1E:bZ.cell? ⟨b2,3,none⟩=some (.slice none 0 0):=(aq b1.out 3).trans rfl;have zW:=aH b1.out 3;have mS:=b4.out;have mT:=bG.out;have b1F:bZ.cell? ⟨b2,4,none⟩=some (.slice none 0 0):=(aq b1.out 4).trans rfl;have zX:=aH b1.out 4;have mU:=b4.out;have mV:=bG.out;have b1G:bZ.cell? ⟨b2,5,none⟩=some (.slice none 0 0):=(aq b1.out 5).trans rfl;have zY:=aH b1.out 5;have mW:=b4.out;have mX:=bG.out;refine tO (w1:= ?_) (by rfl) rfl ?_ ?_;rotate_left
   ·go_simp
    rfl
   refine hK.out _ _ ⟨((cell_far (p:=⟨b2,_,none⟩) b4.out _).trans (((cell_far (p:=⟨b2,_,none⟩) b4.out _).trans (((cell_far (p:=⟨b2,_,none⟩) b4.out _).trans (((cell_far (p:=⟨b2,_,none⟩) b4.out _).trans (((cell_far (p:=⟨b2,_,none⟩) b4.out _).trans (((cell_far (p:=⟨b2,_,none⟩) b4.out _).trans (hHeld.1)))))))))))),((cell_far (p:=⟨b2,_,none⟩) b4.out _).trans (((cell_far (p:=⟨b2,_,none⟩) b4.out _).trans (((cell_far (p:=⟨b2,_,none⟩) b4.out _).trans (((cell_far (p:=⟨b2,_,none⟩) b4.out _).trans (((cell_far (p:=⟨b2,_,none⟩) b4.out _).trans (((cell_far (p:=⟨b2,_,none⟩) b4.out _).trans (hHeld.2.1)))))))))))),((cell_far (p:=⟨b2,_,none⟩) (by first|exact Nat.ne_of_lt (Nat.lt_of_lt_of_le (by have:=World.block_lt_of_cell? _ _ bC;first|rwa [add_block]at this|exact this) bF.out)|(rw[add_block];exact Nat.ne_of_lt (Nat.lt_of_lt_of_le (by have:=World.block_lt_of_cell? _ _ bC;first|rwa [add_block]at this|exact this) bF.out))|(show(Addr.add _ _).block≠_;rw[add_block];exact Nat.ne_of_lt (Nat.lt_of_lt_of_le (by have:=World.block_lt_of_cell? _ _ bC;first|rwa [add_block]at this|exact this) bF.out))|(dsimp only;exact Nat.ne_of_lt (Nat.lt_of_lt_of_le (by have:=World.block_lt_of_cell? _ _ bC;first|rwa [add_block]at this|exact this) bF.out))) _).trans (((cell_far (p:=⟨b2,_,none⟩) (by first|exact Nat.ne_of_lt (Nat.lt_of_lt_of_le (by have:=World.block_lt_of_cell? _ _ bC;first|rwa [add_block]at this|exact this) bF.out)|(rw[add_block];exact Nat.ne_of_lt (Nat.lt_of_lt_of_le (by have:=World.block_lt_of_cell? _ _ bC;first|rwa [add_block]at this|exact this) bF.out))|(show(Addr.add _ _).block≠_;rw[add_block];exact Nat.ne_of_lt (Nat.lt_of_lt_of_le (by have:=World.block_lt_of_cell? _ _ bC;first|rwa [add_block]at this|exact this) bF.out))|(dsimp only;exact Nat.ne_of_lt (Nat.lt_of_lt_of_le (by have:=World.block_lt_of_cell? _ _ bC;first|rwa [add_block]at this|exact this) bF.out))) _).trans (((cell_far (p:=⟨b2,_,none⟩) (by first|exact Nat.ne_of_lt (Nat.lt_of_lt_of_le (by have:=World.block_lt_of_cell? _ _ bC;first|rwa [add_block]at this|exact this) bF.out)|(rw[add_block];exact Nat.ne_of_lt (Nat.lt_of_lt_of_le (by have:=World.block_lt_of_cell? _ _ bC;first|rwa [add_block]at this|exact this) bF.out))|(show(Addr.add _ _).block≠_;rw[add_block];exact Nat.ne_of_lt (Nat.lt_of_lt_of_le (by have:=World.block_lt_of_cell? _ _ bC;first|rwa [add_block]at this|exact this) bF.out))|(dsimp only;exact Nat.ne_of_lt (Nat.lt_of_lt_of_le (by have:=World.block_lt_of_cell? _ _ bC;first|rwa [add_block]at this|exact this) bF.out))) _).trans (((cell_far (p:=⟨b2,_,none⟩) (by first|exact Nat.ne_of_lt (Nat.lt_of_lt_of_le (by have:=World.block_lt_of_cell? _ _ bC;first|rwa [add_block]at this|exact this) bF.out)|(rw[add_block];exact Nat.ne_of_lt (Nat.lt_of_lt_of_le (by have:=World.block_lt_of_cell? _ _ bC;first|rwa [add_block]at this|exact this) bF.out))|(show(Addr.add _ _).block≠_;rw[add_block];exact Nat.ne_of_lt (Nat.lt_of_lt_of_le (by have:=World.block_lt_of_cell? _ _ bC;first|rwa [add_block]at this|exact this) bF.out))|(dsimp only;exact Nat.ne_of_lt (Nat.lt_of_lt_of_le (by have:=World.block_lt_of_cell? _ _ bC;first|rwa [add_block]at this|exact this) bF.out))) _).trans (((cell_far (p:=⟨b2,_,none⟩) (by first|exact Nat.ne_of_lt (Nat.lt_of_lt_of_le (by have:=World.block_lt_of_cell? _ _ bC;first|rwa [add_block]at this|exact this) bF.out)|(rw[add_block];exact Nat.ne_of_lt (Nat.lt_of_lt_of_le (by have:=World.block_lt_of_cell? _ _ bC;first|rwa [add_block]at this|exact this) bF.out))|(show(Addr.add _ _).block≠_;rw[add_block];exact Nat.ne_of_lt (Nat.lt_of_lt_of_le (by have:=World.block_lt_of_cell? _ _ bC;first|rwa [add_block]at this|exact this) bF.out))|(dsimp only;exact Nat.ne_of_lt (Nat.lt_of_lt_of_le (by have:=World.block_lt_of_cell? _ _ bC;first|rwa [add_block]at this|exact this) bF.out))) _).trans (((cell_far (p:=⟨b2,_,none⟩) (by first|exact Nat.ne_of_lt (Nat.lt_of_lt_of_le (by have:=World.block_lt_of_cell? _ _ bC;first|rwa [add_block]at this|exact this) bF.out)|(rw[add_block];exact Nat.ne_of_lt (Nat.lt_of_lt_of_le (by have:=World.block_lt_of_cell? _ _ bC;first|rwa [add_block]at this|exact this) bF.out))|(show(Addr.add _ _).block≠_;rw[add_block];exact Nat.ne_of_lt (Nat.lt_of_lt_of_le (by have:=World.block_lt_of_cell? _ _ bC;first|rwa [add_block]at this|exact this) bF.out))|(dsimp only;exact Nat.ne_of_lt (Nat.lt_of_lt_of_le (by have:=World.block_lt_of_cell? _ _ bC;first|rwa [add_block]at this|exact this) bF.out))) _).trans (hHeld.2.2))))))))))))⟩ (fun hHeld=> ?_);clear hK K;refine b_ 11 8 av ?_;refine lX av ?_
   try go_wp2
   go_loopg [5,9] k1 (fun kq v5 v9 w'=>∃(bV:List Int) (b9:Int),v9= .int .i64 b9∧ab (az.l1 kq l1 bV bH bW b9 ag ak bQ bO bR bL bB bM=some r)∧ab (kq≤k1)∧ab (Kd.R (Kd.int .i64) 3 w' b0 (fun _=>True) v5 bV)∧ab (Kd.R (Kd.int .u8) 5 w' w.heap.size (fun _=>True) (.slice d4 bL.length d5) bL)∧ab (Kd.R iT 75 w' w.heap.size (fun _=>True) (.slice dF bB.length d6) bB)∧ab (Kd.R iU 82 w' w.heap.size (fun _=>True) (.slice d7 bM.length d8) bM)∧ab (w'.heap[bD]? =some (.cells #[(.slice bj ag.length aW),.int .i64 ak] 28 (0,0)))∧ab (w'.heap[b2]? =some (.cells #[.int .i64 bQ,.int .i64 bO,.int .i64 bR,(.slice d4 bL.length d5),(.slice dF bB.length d6),(.slice d7 bM.length d8)] 58 (0,0)))∧ab (Below w.heap.size w w'))
   case atStart=>exact⟨(dE),(0),oS,H',⟨Nat.le_refl _⟩,⟨wQ b8 b1⟩,⟨wQ d1 b1⟩,⟨wQ d2 b1⟩,⟨wQ d3 b1⟩,⟨oF b3⟩,⟨oP b1⟩,⟨by repeat(first|(with_reducible first|exact HB.out|apply aN|apply aJ|apply ar|refine aG ?_ bE.out|refine aG ?_ bN.out)|exact HB.out)⟩⟩
   case round=>
    clear H'
    try clear c1
    try clear p2
    try clear p3
    try clear q3
    try clear hx3
    try clear c6
    try clear gG
    try clear c7
    try clear jP
    try clear c8
    try clear c11
    try clear bY
    try clear p2
    try clear dQ
    try clear dR
    obtain⟨bV,b9,rfl,HA,dK,b8,b6,b5,b7,b3,b1,HB⟩:=hrel
    cases gk with
    |zero=>exact absurd HA.out (by simp[az.l1])
    |succ k2=>
     have H:=HA.out;clear HA;simp only[az.l1]at H;have gH:=ab.mk H;clear H
     go_upto_region 7 with(fail)
     go_cut [38] (fun zQ wc=>∃(kq:Nat) (dL:Bool),zQ= .bool dL∧ab (az.j2 kq l1 bV bH bW b9 dL ag ak bQ bO bR bL bB bM=some r)∧ab (kq≤k2)∧ab (Kd.R (Kd.int .i64) 3 wc b0 (fun _=>True) u5 bV)∧ab (Kd.R (Kd.int .u8) 5 wc w.heap.size (fun _=>True) (.slice d4 bL.length d5) bL)∧ab (Kd.R iT 75 wc w.heap.size (fun _=>True) (.slice dF bB.length d6) bB)∧ab (Kd.R iU 82 wc w.heap.size (fun _=>True) (.slice d7 bM.length d8) bM)∧ab (wc.heap[bD]? =some (.cells #[(.slice bj ag.length aW),.int .i64 ak] 28 (0,0)))∧ab (wc.heap[b2]? =some (.cells #[.int .i64 bQ,.int .i64 bO,.int .i64 bR,(.slice d4 bL.length d5),(.slice dF bB.length d6),(.slice d7 bM.length d8)] 58 (0,0)))∧ab (Below w.heap.size w wc))
     case first=>
      have H:=gH.out;clear gH
      by_cases dW:b9<(bB.length:Int)
      rotate_left
      ·rw[if_neg dW]at H;have dD:decide (b9<(bB.length:Int))=false:=decide_eq_false dW;clear dW
       (first|rw[dD]|rw[acv]|(simp only[fo,gy];rw[dD])|skip)
       have H':=ab.mk H;clear H;have zZ:=bG.out;have b10:=b4.out;have gO:wr.cell? ⟨b2,0,none⟩=some (.int .i64 bQ):=(aq b1.out 0).trans rfl;have gP:wr.cell? ⟨b2,1,none⟩=some (.int .i64 bO):=(aq b1.out 1).trans rfl;have gQ:wr.cell? ⟨b2,2,none⟩=some (.int .i64 bR):=(aq b1.out 2).trans rfl;have gR:wr.cell? ⟨b2,3,none⟩=some (.slice d4 bL.length d5):=(aq b1.out 3).trans rfl;have gS:wr.cell? ⟨b2,4,none⟩=some (.slice dF bB.length d6):=(aq b1.out 4).trans rfl;have gT:wr.cell? ⟨b2,5,none⟩=some (.slice d7 bM.length d8):=(aq b1.out 5).trans rfl;have gU:=aH b1.out 0;have gV:=aH b1.out 1;have gW:=aH b1.out 2;have gX:=aH b1.out 3;have gY:=aH b1.out 4;have gZ:=aH b1.out 5
       go_wp2
       go_meet
       case rel=>exact⟨_,(false),oS,H',⟨by have:=dJ.out;have:=dK.out;first|omega|exact Nat.le_refl _⟩,⟨by(with_reducible repeat(first|apply Kd.cu|apply Kd.cv|apply Kd.cz));exact b8.out⟩,⟨by(with_reducible repeat(first|apply Kd.cu|apply Kd.cv|apply Kd.cz));exact b6.out⟩,⟨by(with_reducible repeat(first|apply Kd.cu|apply Kd.cv|apply Kd.cz));exact b5.out⟩,⟨by(with_reducible repeat(first|apply Kd.cu|apply Kd.cv|apply Kd.cz));exact b7.out⟩,⟨oF b3⟩,⟨oF b1⟩,⟨by repeat(first|(with_reducible first|exact HB.out|apply aN|apply aJ|apply ar|refine aG ?_ bE.out|refine aG ?_ bN.out)|exact HB.out)⟩⟩
      rw[if_pos dW]at H;have dD:decide (b9<(bB.length:Int))=true:=decide_eq_true dW;clear dW
      (first|rw[dD]|rw[acv]|(simp only[fo,gy];rw[dD])|skip)
      by_cases gF:bW=true
      ·subst gF
       have H1:(az.j2 k2 l1 bV bH true b9 (bO==2) ag ak bQ bO bR bL bB bM)=some r:=by rw[if_pos rfl]at H;exact H
       clear H;have H:=H1;clear H1;have H':=ab.mk H;clear H;have b11:=bG.out;have b12:=b4.out;have j1:wr.cell? ⟨b2,0,none⟩=some (.int .i64 bQ):=(aq b1.out 0).trans rfl;have j2:wr.cell? ⟨b2,1,none⟩=some (.int .i64 bO):=(aq b1.out 1).trans rfl;have j3:wr.cell? ⟨b2,2,none⟩=some (.int .i64 bR):=(aq b1.out 2).trans rfl;have j4:wr.cell? ⟨b2,3,none⟩=some (.slice d4 bL.length d5):=(aq b1.out 3).trans rfl;have j5:wr.cell? ⟨b2,4,none⟩=some (.slice dF bB.length d6):=(aq b1.out 4).trans rfl;have j6:wr.cell? ⟨b2,5,none⟩=some (.slice d7 bM.length d8):=(aq b1.out 5).trans rfl;have j7:=aH b1.out 0;have j8:=aH b1.out 1;have j9:=aH b1.out 2;have jA:=aH b1.out 3;have jB:=aH b1.out 4;have jC:=aH b1.out 5
       go_wp2
       go_meet
       case rel=>exact⟨_,((bO==2)),oS,H',⟨by have:=dJ.out;have:=dK.out;first|omega|exact Nat.le_refl _⟩,⟨by(with_reducible repeat(first|apply Kd.cu|apply Kd.cv|apply Kd.cz));exact b8.out⟩,⟨by(with_reducible repeat(first|apply Kd.cu|apply Kd.cv|apply Kd.cz));exact b6.out⟩,⟨by(with_reducible repeat(first|apply Kd.cu|apply Kd.cv|apply Kd.cz));exact b5.out⟩,⟨by(with_reducible repeat(first|apply Kd.cu|apply Kd.cv|apply Kd.cz));exact b7.out⟩,⟨oF b3⟩,⟨oF b1⟩,⟨by repeat(first|(with_reducible first|exact HB.out|apply aN|apply aJ|apply ar|refine aG ?_ bE.out|refine aG ?_ bN.out)|exact HB.out)⟩⟩
      replace gF:=Bool.eq_false_iff.mpr gF;subst gF
      have H1:(az.j2 k2 l1 bV bH false b9 false ag ak bQ bO bR bL bB bM)=some r:=by rw[if_neg (show¬(false=true) by decide)]at H;exact H
      clear H;have H:=H1;clear H1;have H':=ab.mk H;clear H;have b13:=bG.out;have b14:=b4.out;have jD:wr.cell? ⟨b2,0,none⟩=some (.int .i64 bQ):=(aq b1.out 0).trans rfl;have jE:wr.cell? ⟨b2,1,none⟩=some (.int .i64 bO):=(aq b1.out 1).trans rfl;have jF:wr.cell? ⟨b2,2,none⟩=some (.int .i64 bR):=(aq b1.out 2).trans rfl;have jG:wr.cell? ⟨b2,3,none⟩=some (.slice d4 bL.length d5):=(aq b1.out 3).trans rfl;have jH:wr.cell? ⟨b2,4,none⟩=some (.slice dF bB.length d6):=(aq b1.out 4).trans rfl;have jI:wr.cell? ⟨b2,5,none⟩=some (.slice d7 bM.length d8):=(aq b1.out 5).trans rfl;have jJ:=aH b1.out 0;have jK:=aH b1.out 1;have jL:=aH b1.out 2;have jM:=aH b1.out 3;have jN:=aH b1.out 4;have jO:=aH b1.out 5
      go_wp2
      go_meet
      case rel=>exact⟨_,(false),oS,H',⟨by have:=dJ.out;have:=dK.out;first|omega|exact Nat.le_refl _⟩,⟨by(with_reducible repeat(first|apply Kd.cu|apply Kd.cv|apply Kd.cz));exact b8.out⟩,⟨by(with_reducible repeat(first|apply Kd.cu|apply Kd.cv|apply Kd.cz));exact b6.out⟩,⟨by(with_reducible repeat(first|apply Kd.cu|apply Kd.cv|apply Kd.cz));exact b5.out⟩,⟨by(with_reducible repeat(first|apply Kd.cu|apply Kd.cv|apply Kd.cz));exact b7.out⟩,⟨oF b3⟩,⟨oF b1⟩,⟨by repeat(first|(with_reducible first|exact HB.out|apply aN|apply aJ|apply ar|refine aG ?_ bE.out|refine aG ?_ bN.out)|exact HB.out)⟩⟩
     case rest=>
      clear gH
      try clear c1
      try clear c2
      try clear p2
      try clear p3
      try clear q3
      try clear hx3
      try clear c6
      try clear gG
      try clear c7
      try clear jP
      try clear c8
      try clear c11
      try clear dW
      try clear dD
      try clear acv
      try clear gF
      try clear c25
      try clear c27
      try clear c29
      try clear j1
      try clear j2
      try clear j3
      try clear j4
      try clear j5
      try clear j6
      try clear jD
      try clear jE
      try clear jF
      try clear jG
      try clear jH
      try clear jI
      try clear gO
      try clear gP
      try clear gQ
      try clear gR
      try clear gS
      try clear gT
      try clear j7
      try clear j8
      try clear j9
      try clear jA
      try clear jB
      try clear jC
      try clear jJ
      try clear jK
      try clear jL
      try clear jM
      try clear jN
      try clear jO
      try clear gU
      try clear gV
      try clear gW
      try clear gX
      try clear gY
      try clear gZ
      try clear bY
      try clear p2
      try clear p3
      try clear dQ
      try clear q3
      try clear dR
      obtain⟨kq,dL,rfl,HA,dM,b8,b6,b5,b7,b3,b1,HB⟩:=hcut
      cases kq with
      |zero=>exact absurd HA.out (by simp[az.j2])
      |succ oV=>
       have H:=HA.out;clear HA;simp only[az.j2]at H
       by_cases gN:dL=true
       rotate_left
       ·replace gN:=Bool.eq_false_iff.mpr gN;subst gN
        have H1:(az.l0 oV l1 bV (wrap64 (bH+1)) ag ak)=some r:=by rw[if_neg (show¬(false=true) by decide)]at H;exact H
        clear H;have H:=H1;clear H1;have H':=ab.mk H;clear H
        go_wp2
        go_roundg oV
        case measure=>have:=dJ.out;have:=dK.out;have:=dM.out;omega
        case rel=>exact⟨(bV),(wrap64 (bH+1)),oS,H',⟨by have:=dJ.out;have:=dK.out;have:=dM.out;omega⟩,⟨by(with_reducible repeat(first|apply Kd.cu|apply Kd.cv|apply Kd.cz));exact b8.out⟩,⟨oF b3⟩,⟨by repeat(first|(with_reducible first|exact HB.out|apply aN|apply aJ|apply ar|refine aG ?_ bE.out|refine aG ?_ bN.out)|exact HB.out)⟩⟩
       subst gN
       have H1:(if 0≤b9 then(if b9<(bB.length:Int)then((cF.f oV ag ak ((al bB b9).f1)).bind fun dC=>(if dC≥0 then((da.f oV bV ((al bB b9).f1)).bind fun dG=>(az.l1 oV l1 dG bH bW (wrap64 (b9+1)) ag ak bQ bO bR bL bB bM))else(az.l1 oV l1 bV bH bW (wrap64 (b9+1)) ag ak bQ bO bR bL bB bM)))else(none))else(none))=some r:=by rw[if_pos rfl]at H;exact H
       clear H;have H:=H1;clear H1;obtain⟨mC,H⟩:=lH H;have b15:decide (0≤b9)=true:=decide_eq_true mC;clear mC;obtain⟨mD,H⟩:=lH H;have b16:decide (b9<(bB.length:Int))=true:=decide_eq_true mD;clear mD;replace H:=Option.bind_eq_some_iff.mp H;obtain⟨dC,jU,H⟩:=H;replace H:(if dC≥0 then((da.f oV bV ((al bB b9).f1)).bind fun dG=>(az.l1 oV l1 dG bH bW (wrap64 (b9+1)) ag ak bQ bO bR bL bB bM))else(az.l1 oV l1 bV bH bW (wrap64 (b9+1)) ag ak bQ bO bR bL bB bM))=some r:=H;have mE:=ab.mk jU;clear jU
       by_cases dX:dC≥0
       rotate_left
       ·rw[if_neg dX]at H;have jX:decide (0≤dC)=false:=decide_eq_false dX;clear dX;have H':=ab.mk H;clear H
        try go_wp2
        have bI:=am (Kd.cz b8.out);have bJ:=am (Kd.cz b6.out);have bK:=am (Kd.cz b5.out);have bP:=am (Kd.cz b7.out);have bS:=am (ao b3.out);have bT:=am (ao b1.out);have bU:=am (ar HB.out);clear b8;clear b6;clear b5;clear b7;clear b3;clear b1;clear HB;have b8:=bI;have b6:=bJ;have b5:=bK;have b7:=bP;have b3:=bS;have b1:=bT;have HB:=bU;clear bI bJ bK bP bS bT bU;have dH:0≤(b9:Int):=oa;have dI:b9<(bB.length:Int):=oa;obtain⟨bX,gI,d9,dA⟩:=cV (Kd.bu b5.out).2.2 b9 dH dI
        cases gI
        replace dH:=eq_true dH;replace dI:=eq_true dI;refine mq 9 (fun w'=>w'.cell? ⟨bD,0,none⟩=some (.slice bj ag.length aW)∧w'.cell? ⟨bD,1,none⟩=some (.int .i64 ak)∧w'.cell? ⟨b2,0,none⟩=some (.int .i64 bQ)∧w'.cell? ⟨b2,1,none⟩=some (.int .i64 bO)∧w'.cell? ⟨b2,2,none⟩=some (.int .i64 bR)∧w'.cell? ⟨b2,3,none⟩=some (.slice d4 bL.length d5)∧w'.cell? ⟨b2,4,none⟩=some (.slice (some bX) bB.length d6)∧w'.cell? ⟨b2,5,none⟩=some (.slice d7 bM.length d8)∧w'.cell? (bX.add ((b9).toNat*2))=some (.string ((al bB b9).f0))∧w'.cell? ⟨(bX.add ((b9).toNat*2)).block,(bX.add ((b9).toNat*2)).off+1,none⟩=some (.int .i64 ((al bB b9).f1))) az.aaX az.ub ⟨(aq b3.out 0).trans rfl,(aq b3.out 1).trans rfl,(aq b1.out 0).trans rfl,(aq b1.out 1).trans rfl,(aq b1.out 2).trans rfl,(aq b1.out 3).trans rfl,(aq b1.out 4).trans rfl,(aq b1.out 5).trans rfl,d9,dA⟩ (fun hHeld av ey=> ?_);generalize wc.drew=w43 at b8 b6 b5 b7 b3 b1 HB d9 dA hHeld⊢;refine b_ 1 42 av ?_;refine b_ 3 44 av ?_;refine fJ 0 41 av ey hHeld ?_;refine fJ 2 43 av ey hHeld ?_;refine b_ 4 45 av ?_;refine b_ 5 46 av ?_;refine fJ 6 47 av ey hHeld ?_;refine kF 7 48 av (fun K hK=> ?_);refine tF Tryz.func82 (by kernel_rfl) rfl #[.agg #[.slice bj ag.length aW,.int .i64 ak],.int .i64 ((al bB b9).f1)] (by rfl) rfl rfl oL ?_
        with_reducible refine(cF.calls oV _ _ ag ak ((al bB b9).f1) dC _ ?fL ?mx mE.out).mono ?_
        (case fL=>repeat(first|exact(Kd.eg dO.out HB.out)|(with_reducible refine Kd.fY ?_ _)|(with_reducible refine Kd.fZ ?_ _)|(with_reducible refine Kd.iW ?_)))
        (case mx=>exact dP.out)
        rintro e w44 ⟨rfl,hb⟩;have gJ:=(hb.cell (World.block_lt_of_cell? _ _ (hHeld.2.2.2.2.2.2.2.2.1))).trans (hHeld.2.2.2.2.2.2.2.2.1);have gK:=(hb.cell (World.block_lt_of_cell? _ _ (hHeld.2.2.2.2.2.2.2.2.2))).trans (hHeld.2.2.2.2.2.2.2.2.2);refine⟨_,rfl,?_⟩;have bI:=nc b8 hb;have bJ:=nc b6 hb;have bK:=nc b5 hb;have bP:=nc b7 hb;have bS:=bn b3 hb;have bT:=bn b1 hb;have bU:=am (fw (by repeat(first|(with_reducible first|exact HB.out|apply aN|apply aJ|apply ar|refine aG ?_ bE.out|refine aG ?_ bN.out)|exact HB.out)) hb);clear b8;clear b6;clear b5;clear b7;clear b3;clear b1;clear HB;have b8:=bI;have b6:=bJ;have b5:=bK;have b7:=bP;have b3:=bS;have b1:=bT;have HB:=bU;clear bI bJ bK bP bS bT bU
        (try clear hb)
        (try clear hb2)
        (try clear hk)
        (try clear hi)
        refine fV hK 48 ⟨(aq b3.out 0).trans rfl,(aq b3.out 1).trans rfl,(aq b1.out 0).trans rfl,(aq b1.out 1).trans rfl,(aq b1.out 2).trans rfl,(aq b1.out 3).trans rfl,(aq b1.out 4).trans rfl,(aq b1.out 5).trans rfl,gJ,gK⟩ (fun hHeld=> ?_);clear hK K;refine b_ 8 49 av ?_;refine lX av ?_
        try go_wp2
        go_roundg oV
        case measure=>have:=dJ.out;have:=dK.out;have:=dM.out;omega
        case rel=>exact⟨(bV),(wrap64 (b9+1)),oS,H',⟨by have:=dJ.out;have:=dK.out;have:=dM.out;omega⟩,⟨by(with_reducible repeat(first|apply Kd.cu|apply Kd.cv|apply Kd.cz));exact b8.out⟩,⟨by(with_reducible repeat(first|apply Kd.cu|apply Kd.cv|apply Kd.cz));exact b6.out⟩,⟨by(with_reducible repeat(first|apply Kd.cu|apply Kd.cv|apply Kd.cz));exact b5.out⟩,⟨by(with_reducible repeat(first|apply Kd.cu|apply Kd.cv|apply Kd.cz));exact b7.out⟩,⟨oF b3⟩,⟨oF b1⟩,⟨by repeat(first|(with_reducible first|exact HB.out|apply aN|apply aJ|apply ar|refine aG ?_ bE.out|refine aG ?_ bN.out)|exact HB.out)⟩⟩
       rw[if_pos dX]at H;have jX:decide (0≤dC)=true:=decide_eq_true dX;clear dX;replace H:=Option.bind_eq_some_iff.mp H;obtain⟨dG,jV,H⟩:=H;replace H:(az.l1 oV l1 dG bH bW (wrap64 (b9+1)) ag ak bQ bO bR bL bB bM)=some r:=H;have zR:=ab.mk jV;clear jV;have H':=ab.mk H;clear H
       try go_wp2
       have bI:=am (Kd.cz b8.out);have bJ:=am (Kd.cz b6.out);have bK:=am (Kd.cz b5.out);have bP:=am (Kd.cz b7.out);have bS:=am (ao b3.out);have bT:=am (ao b1.out);have bU:=am (ar HB.out);clear b8;clear b6;clear b5;clear b7;clear b3;clear b1;clear HB;have b8:=bI;have b6:=bJ;have b5:=bK;have b7:=bP;have b3:=bS;have b1:=bT;have HB:=bU;clear bI bJ bK bP bS bT bU;have dH:0≤(b9:Int):=oa;have dI:b9<(bB.length:Int):=oa;obtain⟨bX,gI,d9,dA⟩:=cV (Kd.bu b5.out).2.2 b9 dH dI
       cases gI
       replace dH:=eq_true dH;replace dI:=eq_true dI;refine mq 9 (fun w'=>w'.cell? ⟨bD,0,none⟩=some (.slice bj ag.length aW)∧w'.cell? ⟨bD,1,none⟩=some (.int .i64 ak)∧w'.cell? ⟨b2,0,none⟩=some (.int .i64 bQ)∧w'.cell? ⟨b2,1,none⟩=some (.int .i64 bO)∧w'.cell? ⟨b2,2,none⟩=some (.int .i64 bR)∧w'.cell? ⟨b2,3,none⟩=some (.slice d4 bL.length d5)∧w'.cell? ⟨b2,4,none⟩=some (.slice (some bX) bB.length d6)∧w'.cell? ⟨b2,5,none⟩=some (.slice d7 bM.length d8)∧w'.cell? (bX.add ((b9).toNat*2))=some (.string ((al bB b9).f0))∧w'.cell? ⟨(bX.add ((b9).toNat*2)).block,(bX.add ((b9).toNat*2)).off+1,none⟩=some (.int .i64 ((al bB b9).f1))) az.aaX az.ub ⟨(aq b3.out 0).trans rfl,(aq b3.out 1).trans rfl,(aq b1.out 0).trans rfl,(aq b1.out 1).trans rfl,(aq b1.out 2).trans rfl,(aq b1.out 3).trans rfl,(aq b1.out 4).trans rfl,(aq b1.out 5).trans rfl,d9,dA⟩ (fun hHeld av ey=> ?_);generalize wc.drew=w37 at b8 b6 b5 b7 b3 b1 HB d9 dA hHeld⊢;refine b_ 1 42 av ?_;refine b_ 3 44 av ?_;refine fJ 0 41 av ey hHeld ?_;refine fJ 2 43 av ey hHeld ?_;refine b_ 4 45 av ?_;refine b_ 5 46 av ?_;refine fJ 6 47 av ey hHeld ?_;refine kF 7 48 av (fun K hK=> ?_);refine tF Tryz.func82 (by kernel_rfl) rfl #[.agg #[.slice bj ag.length aW,.int .i64 ak],.int .i64 ((al bB b9).f1)] (by rfl) rfl rfl oL ?_
       with_reducible refine(cF.calls oV _ _ ag ak ((al bB b9).f1) dC _ ?fL ?mx mE.out).mono ?_
       (case fL=>repeat(first|exact(Kd.eg dO.out HB.out)|(with_reducible refine Kd.fY ?_ _)|(with_reducible refine Kd.fZ ?_ _)|(with_reducible refine Kd.iW ?_)))
       (case mx=>exact dP.out)
       rintro e dY ⟨rfl,hb⟩;have gJ:=(hb.cell (World.block_lt_of_cell? _ _ (hHeld.2.2.2.2.2.2.2.2.1))).trans (hHeld.2.2.2.2.2.2.2.2.1);have gK:=(hb.cell (World.block_lt_of_cell? _ _ (hHeld.2.2.2.2.2.2.2.2.2))).trans (hHeld.2.2.2.2.2.2.2.2.2);refine⟨_,rfl,?_⟩;have bI:=nc b8 hb;have bJ:=nc b6 hb;have bK:=nc b5 hb;have bP:=nc b7 hb;have bS:=bn b3 hb;have bT:=bn b1 hb;have bU:=am (fw (by repeat(first|(with_reducible first|exact HB.out|apply aN|apply aJ|apply ar|refine aG ?_ bE.out|refine aG ?_ bN.out)|exact HB.out)) hb);clear b8;clear b6;clear b5;clear b7;clear b3;clear b1;clear HB;have b8:=bI;have b6:=bJ;have b5:=bK;have b7:=bP;have b3:=bS;have b1:=bT;have HB:=bU;clear bI bJ bK bP bS bT bU
       (try clear hb)
       (try clear hb2)
       (try clear hk)
       (try clear hi)
       refine fV hK 48 ⟨(aq b3.out 0).trans rfl,(aq b3.out 1).trans rfl,(aq b1.out 0).trans rfl,(aq b1.out 1).trans rfl,(aq b1.out 2).trans rfl,(aq b1.out 3).trans rfl,(aq b1.out 4).trans rfl,(aq b1.out 5).trans rfl,gJ,gK⟩ (fun hHeld=> ?_);clear hK K;refine b_ 8 49 av ?_;refine lX av ?_;have b17:=bG.out;have b18:=b4.out;have mY:dY.cell? ⟨b2,0,none⟩=some (.int .i64 bQ):=(aq b1.out 0).trans rfl;have mZ:dY.cell? ⟨b2,1,none⟩=some (.int .i64 bO):=(aq b1.out 1).trans rfl;have zA:dY.cell? ⟨b2,2,none⟩=some (.int .i64 bR):=(aq b1.out 2).trans rfl;have zB:dY.cell? ⟨b2,3,none⟩=some (.slice d4 bL.length d5):=(aq b1.out 3).trans rfl;have zC:dY.cell? ⟨b2,4,none⟩=some (.slice (some bX) bB.length d6):=(aq b1.out 4).trans rfl;have zD:dY.cell? ⟨b2,5,none⟩=some (.slice d7 bM.length d8):=(aq b1.out 5).trans rfl;have zE:=aH b1.out 0;have zF:=aH b1.out 1;have zG:=aH b1.out 2;have zH:=aH b1.out 3;have zI:=aH b1.out 4;have zJ:=aH b1.out 5;have gL:0≤(b9:Int):=oa;have gM:b9<(bB.length:Int):=oa;obtain⟨jY,mH,zK,zL⟩:=cV (Kd.bu b5.out).2.2 b9 gL gM;obtain rfl:bX=jY:=(by injection mH);replace gL:=eq_true gL;replace gM:=eq_true gM;obtain⟨mI,mJ,mK⟩:=Kd.ax b8.out;subst mK
       try go_wp2_with (first|((with_reducible refine aj (f:=141) rfl ?_);refine sE (some 57) rfl rfl Tryz.func141 (by kernel_rfl) rfl #[.slice mI bV.length mJ,.int .i64 ((al bB b9).f1)] rfl oL ?_;(with_reducible refine(da.calls oV _ _ bV ((al bB b9).f1) dG b0 _ ?fL ?mx zR.out).mono ?_);(case fL=>exact Nat.le_trans zN.out (ah oB));(case mx=>exact(uO b8));rintro e w42 ⟨b1H,rfl,dN,hb⟩;refine⟨_,rfl,?_⟩;have bI:=nc b8 hb;have bJ:=nc b6 hb;have bK:=nc b5 hb;have bP:=nc b7 hb;have bS:=ab.mk dN;have bT:=bn b3 hb;have bU:=bn b1 hb;have dB:=am (fw (by repeat(first|(with_reducible first|exact HB.out|apply aN|apply aJ|apply ar|refine aG ?_ bE.out|refine aG ?_ bN.out)|exact HB.out)) hb);clear b8;clear b6;clear b5;clear b7;clear b3;clear b1;clear HB;have b8:=bI;have b6:=bJ;have b5:=bK;have b7:=bP;have jZ:=bS;have b3:=bT;have b1:=bU;have HB:=dB;clear bI bJ bK bP bS bT bU dB;(try clear hb);(try clear hb2);(try clear hk);(try clear hi);(try clear dN)))
       go_roundg oV
       case measure=>have:=dJ.out;have:=dK.out;have:=dM.out;omega
       case rel=>exact⟨(dG),(wrap64 (b9+1)),oS,H',⟨by have:=dJ.out;have:=dK.out;have:=dM.out;omega⟩,⟨mR jZ⟩,⟨by(with_reducible repeat(first|apply Kd.cu|apply Kd.cv|apply Kd.cz));exact b6.out⟩,⟨by(with_reducible repeat(first|apply Kd.cu|apply Kd.cv|apply Kd.cz));exact b5.out⟩,⟨by(with_reducible repeat(first|apply Kd.cu|apply Kd.cv|apply Kd.cz));exact b7.out⟩,⟨oF b3⟩,⟨oF b1⟩,⟨by repeat(first|(with_reducible first|exact HB.out|apply aN|apply aJ|apply ar|refine aG ?_ bE.out|refine aG ?_ bN.out)|exact HB.out)⟩⟩

mutual
def bf.j0:Nat→Bool→Int→Int→Int→List Int→List (eb)→List (eh)→Option (Bool)
 |0,_,_,_,_,_,_,_=>none
 |k+1,b7,b2,b3,b4,b5,b1,b6=>if b7=true then(some false)else(bf.l0 k b1 (b1.length:Int) 0 b2 b3 b4 b5 b1 b6)
def bf.l0:Nat→List (eb)→Int→Int→Int→Int→Int→List Int→List (eb)→List (eh)→Option (Bool)
 |0,_,_,_,_,_,_,_,_,_=>none
 |k+1,b8,b9,b4,b3,b5,b1,b6,b2,b7=>if b4<b9 then(if 0≤b4 then(if b4<(b8.length:Int)then((aC.f k ((al b8 b4).f0)).bind fun bB=>(if bB=true then((bl.f ((al b8 b4).f1) 2 1000).bind fun bC=>(if bC=true then(if b4>0 then(if 0≤(wrap64 (b4-1))then(if(wrap64 (b4-1))<(b2.length:Int)then(if((Op.bytesLess (((al b2 (wrap64 (b4-1))).f0).toList) (((al b8 b4).f0).toList))=true)then(bf.l0 k b8 b9 (wrap64 (b4+1)) b3 b5 b1 b6 b2 b7)else(some false))else(none))else(none))else(bf.l0 k b8 b9 (wrap64 (b4+1)) b3 b5 b1 b6 b2 b7))else(some false)))else(some false)))else(none))else(none))else((bl.f b1 0 1000).bind fun bD=>(if bD=true then(bf.j2 k ((b1==0) !=(b3==1)) b3 b5 b1 b6 b2 b7)else(bf.j2 k true b3 b5 b1 b6 b2 b7)))
def bf.j2:Nat→Bool→Int→Int→Int→List Int→List (eb)→List (eh)→Option (Bool)
 |0,_,_,_,_,_,_,_=>none
 |k+1,b7,b5,b1,b2,b3,b4,b6=>if b7=true then(some false)else(if b1=1 then(some ((b4.length:Int)==0))else(if b1=2 then(if(b3.length:Int)=0 then(some (decide (b2≤1)))else(some false))else(some false)))
end
def bf.f (k:Nat) (bp:Int) (ak:Int) (cJ:Int) (cj:List Int) (aK:List (eb)) (cw:List (eh)):Option (Bool):=(bl.f bp 1 1000).bind fun b1=>(if b1=true then(if(cj.length:Int)>100 then(bf.j0 k true bp ak cJ cj aK cw)else(if(aK.length:Int)>10 then(bf.j0 k true bp ak cJ cj aK cw)else((cT.f k cw).bind fun b2=>(bf.j0 k (!b2) bp ak cJ cj aK cw))))else(bf.j0 k true bp ak cJ cj aK cw))
theorem bf.calls (k:Nat) (bp:Int) (ak:Int) (cJ:Int) (fO:Option Addr) (fP:Nat) (cj:List Int) (fE:Option Addr) (fF:Nat) (aK:List (eb)) (fp:Option Addr) (fq:Nat) (cw:List (eh)) (r:Bool) (w:World) (iK:Kd.C (Kd.int .u8) w fO cj.length cj) (iL:cj.length≤fP) (iM:Kd.C iT w fE aK.length aK) (iN:aK.length≤fF) (iO:Kd.C iU w fp cw.length cw) (iP:cw.length≤fq) (h:bf.f k bp ak cJ cj aK cw=some r):
  Calls Tryz.prog 145 #[.agg #[.int .i64 bp,.int .i64 ak,.int .i64 cJ,.slice fO cj.length fP,.slice fE aK.length fF,.slice fp cw.length fq]] w fun e w'=>e= .returned (.bool r)∧Below w.heap.size w w':=by
 have gR:=Tryz.underlying58;have gS:=Tryz.underlying75;have gJ:=ab.mk iK;have gK:=ab.mk iL;clear iK iL;have bF:=ab.mk iM;have gL:=ab.mk iN;clear iM iN;have d5:=ab.mk iO;have d6:=ab.mk iP;clear iO iP;have HB:=am (Below.refl w.heap.size w);unfold bf.f at h;have H:=h;clear h;have dD:=ab.mk H;clear H
 go_enter Tryz.func145,Tryz.ntmps145
 go_upto_region 1 with(first|((with_reducible refine ai (N:=1) rfl ?_);(try(refine bx (by rfl) ?_;dsimp only));refine di 1 #[.int .i64 bp,.int .i64 ak,.int .i64 cJ,.slice fO cj.length fP,.slice fE aK.length fF,.slice fp cw.length fq] 58 ?_;intro bR hg w3 hbox hb;have b3:=am (hbox);have dF:=dh hg;replace HB:=hB HB hb;clear hb hbox hg))
 repeat(go_quiet (fail);go_upto_region 1 with(first|((with_reducible refine ai (N:=1) rfl ?_);(try(refine bx (by rfl) ?_;dsimp only));refine di 1 #[.int .i64 bp,.int .i64 ak,.int .i64 cJ,.slice fO cj.length fP,.slice fE aK.length fF,.slice fp cw.length fq] 58 ?_;intro bR hg w3 hbox hb;have b3:=am (hbox);have dF:=dh hg;replace HB:=hB HB hb;clear hb hbox hg)))
 (try simp only[Act.put,List.setIfInBounds_toArray,List.set_cons_zero,List.set_cons_succ])
 go_cut [26] (fun gC wc=>∃(kq:Nat) (d7:Bool),gC= .bool d7∧ab (bf.j0 kq d7 bp ak cJ cj aK cw=some r)∧ab (kq≤k)∧ab (wc.heap[bR]? =some (.cells #[.int .i64 bp,.int .i64 ak,.int .i64 cJ,(.slice fO cj.length fP),(.slice fE aK.length fF),(.slice fp cw.length fq)] 58 (0,0)))∧ab (Below w.heap.size w wc))
 case first=>
  have H:=dD.out;clear dD;replace H:=bA H;obtain⟨gT,A4,H⟩:=H
  try dsimp only at H
  replace H:=ll H;rcases H with⟨rfl,H⟩|⟨rfl,H⟩;rotate_left
  ·have H':=ab.mk H;clear H;obtain⟨⟨_,_,_,_,_,_⟩,_,_,_,_,_,_⟩:=z6 b3
   go_wp2_with (first|(go_at_call 61;(with_reducible refine(bl.calls bp 1 1000 false _ A4.out).mono ?_);rintro e w' ⟨rfl,⟨nd,rfl⟩⟩))
   repeat(go_quiet (first|(go_at_call 61;(with_reducible refine(bl.calls bp 1 1000 false _ A4.out).mono ?_);rintro e w' ⟨rfl,⟨nd,rfl⟩⟩;exact oQ));try go_wp2_with (first|(go_at_call 61;(with_reducible refine(bl.calls bp 1 1000 false _ A4.out).mono ?_);rintro e w' ⟨rfl,⟨nd,rfl⟩⟩)))
   go_meet
   case rel=>exact⟨_,(true),oS,H',⟨by first|omega|exact Nat.le_refl _⟩,⟨oF b3⟩,⟨oB⟩⟩
  by_cases c6:(cj.length:Int)>100
  ·rw[if_pos c6]at H;have bS:decide (100<(cj.length:Int))=true:=decide_eq_true c6;have dZ:decide (100<cj.length)=true:=decide_eq_true (by omega);clear c6
   (first|rw[bS]|rw[aer]|(simp only[fo,gy];rw[bS])|skip)
   have H':=ab.mk H;clear H;obtain⟨⟨_,_,_,_,_,_⟩,_,_,_,_,_,_⟩:=z6 b3
   go_wp2_with (first|(go_at_call 61;(with_reducible refine(bl.calls bp 1 1000 true _ A4.out).mono ?_);rintro e w' ⟨rfl,⟨nd,rfl⟩⟩))
   repeat(go_quiet (first|(go_at_call 61;(with_reducible refine(bl.calls bp 1 1000 true _ A4.out).mono ?_);rintro e w' ⟨rfl,⟨nd,rfl⟩⟩;exact oQ));try go_wp2_with (first|(go_at_call 61;(with_reducible refine(bl.calls bp 1 1000 true _ A4.out).mono ?_);rintro e w' ⟨rfl,⟨nd,rfl⟩⟩)))
   go_meet
   case rel=>exact⟨_,(true),oS,H',⟨by first|omega|exact Nat.le_refl _⟩,⟨oF b3⟩,⟨oB⟩⟩
  rw[if_neg c6]at H;have bS:decide (100<(cj.length:Int))=false:=decide_eq_false c6;have dZ:decide (100<cj.length)=false:=decide_eq_false (by omega);clear c6
  (first|rw[bS]|rw[aer]|(simp only[fo,gy];rw[bS])|skip)
  by_cases c8:(aK.length:Int)>10
  ·rw[if_pos c8]at H;have gA:decide (10<(aK.length:Int))=true:=decide_eq_true c8;have gB:decide (10<aK.length)=true:=decide_eq_true (by omega);clear c8;have H':=ab.mk H;clear H;obtain⟨⟨_,_,_,_,_,_⟩,_,_,_,_,_,_⟩:=z6 b3
   go_wp2_with (first|(go_at_call 61;(with_reducible refine(bl.calls bp 1 1000 true _ A4.out).mono ?_);rintro e w' ⟨rfl,⟨nd,rfl⟩⟩))
   repeat(go_quiet (first|(go_at_call 61;(with_reducible refine(bl.calls bp 1 1000 true _ A4.out).mono ?_);rintro e w' ⟨rfl,⟨nd,rfl⟩⟩;exact oQ));try go_wp2_with (first|(go_at_call 61;(with_reducible refine(bl.calls bp 1 1000 true _ A4.out).mono ?_);rintro e w' ⟨rfl,⟨nd,rfl⟩⟩)))
   go_meet
   case rel=>exact⟨_,(true),oS,H',⟨by first|omega|exact Nat.le_refl _⟩,⟨oF b3⟩,⟨oB⟩⟩
  rw[if_neg c8]at H;have gA:decide (10<(aK.length:Int))=false:=decide_eq_false c8;have gB:decide (10<aK.length)=false:=decide_eq_false (by omega);clear c8;replace H:=bA H;obtain⟨d8,dE,H⟩:=H
  try dsimp only at H
  have H':=ab.mk H;clear H;obtain⟨⟨_,_,_,_,_,_⟩,_,_,_,_,_,_⟩:=z6 b3
  go_wp2_with (first|(go_at_call 61;(with_reducible refine(bl.calls bp 1 1000 true _ A4.out).mono ?_);rintro e w' ⟨rfl,⟨nd,rfl⟩⟩)|(go_at_call 157;(with_reducible refine(cT.calls k _ _ cw d8 _ (kC d5) d6.out dE.out).mono ?_);rintro e dY ⟨rfl,hb⟩;replace b3:=bn b3 hb;replace HB:=hB HB hb))
  repeat(go_quiet (first|(go_at_call 61;(with_reducible refine(bl.calls bp 1 1000 true _ A4.out).mono ?_);rintro e w' ⟨rfl,⟨nd,rfl⟩⟩;exact oQ)|(go_at_call 157;(with_reducible refine(cT.calls k _ _ cw d8 _ (kC d5) d6.out dE.out).mono ?_);rintro e dY ⟨rfl,hb⟩;replace b3:=bn b3 hb;replace HB:=hB HB hb));try go_wp2_with (first|(go_at_call 61;(with_reducible refine(bl.calls bp 1 1000 true _ A4.out).mono ?_);rintro e w' ⟨rfl,⟨nd,rfl⟩⟩)|(go_at_call 157;(with_reducible refine(cT.calls k _ _ cw d8 _ (kC d5) d6.out dE.out).mono ?_);rintro e dY ⟨rfl,hb⟩;replace b3:=bn b3 hb;replace HB:=hB HB hb)))
  go_meet
  case rel=>exact⟨_,(!d8),oS,H',⟨by first|omega|exact Nat.le_refl _⟩,⟨oF b3⟩,⟨oB⟩⟩
 case rest=>
  clear dD;obtain⟨kq,d7,rfl,HA,d1,b3,HB⟩:=hcut
  cases kq with
  |zero=>exact absurd HA.out (by simp[bf.j0])
  |succ vy=>
   have H:=HA.out;clear HA;simp only[bf.j0]at H;replace H:=ll H;rcases H with⟨rfl,H⟩|⟨rfl,H⟩
   ·obtain rfl:=Option.some.inj H
    go_wp2
    repeat(go_quiet (fail);try go_wp2)
    go_ret
    exact⟨oE,oB⟩
   have H':=ab.mk H;clear H;obtain⟨⟨_,_,_,_,_,_⟩,_,_,_,_,_,_⟩:=z6 b3
   go_wp2
   repeat(go_quiet (fail);try go_wp2)
   go_loopg [30] vy (fun kq gD w'=>∃(b1:Int),gD= .int .i64 b1∧ab (bf.l0 kq aK (aK.length:Int) b1 bp ak cJ cj aK cw=some r)∧ab (kq≤vy)∧ab (w'.heap[bR]? =some (.cells #[.int .i64 bp,.int .i64 ak,.int .i64 cJ,(.slice fO cj.length fP),(.slice fE aK.length fF),(.slice fp cw.length fq)] 58 (0,0)))∧ab (Below w.heap.size w w'))
   case atStart=>exact⟨(0),oS,H',⟨Nat.le_refl _⟩,⟨oF b3⟩,⟨oB⟩⟩
   case round=>
    clear H';obtain⟨b1,rfl,HA,d2,b3,HB⟩:=hrel
    cases gk with
    |zero=>exact absurd HA.out (by simp[bf.l0])
    |succ k2=>
     have H:=HA.out;clear HA;simp only[bf.l0]at H;replace H:=iH H;rcases H with⟨dC,H⟩|⟨dC,H⟩;rotate_left
     ·have dB:=ab.mk H;clear H
      go_upto_region 9 with(fail)
      repeat(go_quiet (fail);go_upto_region 9 with(fail))
      go_cut [74] (fun gE wc=>∃(kq:Nat) (bT:Bool),gE= .bool bT∧ab (bf.j2 kq bT bp ak cJ cj aK cw=some r)∧ab (kq≤k2)∧ab (wc.heap[bR]? =some (.cells #[.int .i64 bp,.int .i64 ak,.int .i64 cJ,(.slice fO cj.length fP),(.slice fE aK.length fF),(.slice fp cw.length fq)] 58 (0,0)))∧ab (Below w.heap.size w wc))
      case first=>
       have H:=dB.out;clear dB;replace H:=bA H;obtain⟨gU,d3,H⟩:=H
       try dsimp only at H
       replace H:=ll H;rcases H with⟨rfl,H⟩|⟨rfl,H⟩;rotate_left
       ·have H':=ab.mk H;clear H;obtain⟨⟨_,_,_,_,_,_⟩,_,_,_,_,_,_⟩:=z6 b3
        go_wp2_with (first|(go_at_call 61;(with_reducible refine(bl.calls cJ 0 1000 false _ d3.out).mono ?_);rintro e w' ⟨rfl,⟨nd,rfl⟩⟩))
        repeat(go_quiet (first|(go_at_call 61;(with_reducible refine(bl.calls cJ 0 1000 false _ d3.out).mono ?_);rintro e w' ⟨rfl,⟨nd,rfl⟩⟩;exact oQ));try go_wp2_with (first|(go_at_call 61;(with_reducible refine(bl.calls cJ 0 1000 false _ d3.out).mono ?_);rintro e w' ⟨rfl,⟨nd,rfl⟩⟩)))
        go_meet
        case rel=>exact⟨_,(true),oS,H',⟨by have:=d1.out;have:=d2.out;first|omega|exact Nat.le_refl _⟩,⟨oF b3⟩,⟨oB⟩⟩
       have H':=ab.mk H;clear H;obtain⟨⟨_,_,_,_,_,_⟩,_,_,_,_,_,_⟩:=z6 b3
       go_wp2_with (first|(go_at_call 61;(with_reducible refine(bl.calls cJ 0 1000 true _ d3.out).mono ?_);rintro e w' ⟨rfl,⟨nd,rfl⟩⟩))
       repeat(go_quiet (first|(go_at_call 61;(with_reducible refine(bl.calls cJ 0 1000 true _ d3.out).mono ?_);rintro e w' ⟨rfl,⟨nd,rfl⟩⟩;exact oQ));try go_wp2_with (first|(go_at_call 61;(with_reducible refine(bl.calls cJ 0 1000 true _ d3.out).mono ?_);rintro e w' ⟨rfl,⟨nd,rfl⟩⟩)))
       go_meet
       case rel=>exact⟨_,(((cJ==0) !=(bp==1))),oS,H',⟨by have:=d1.out;have:=d2.out;first|omega|exact Nat.le_refl _⟩,⟨oF b3⟩,⟨oB⟩⟩
      case rest=>
       clear dB
       try clear dC
       obtain⟨kq,bT,rfl,HA,gV,b3,HB⟩:=hcut
       cases kq with
       |zero=>exact absurd HA.out (by simp[bf.j2])
       |succ kj44=>
        have H:=HA.out;clear HA;simp only[bf.j2]at H;replace H:=ll H;rcases H with⟨rfl,H⟩|⟨rfl,H⟩
        ·obtain rfl:=Option.some.inj H
         go_wp2
         repeat(go_quiet (fail);try go_wp2)
         go_ret
         exact⟨oE,oB⟩
        by_cases bU:ak=1
        ·rw[if_pos bU]at H;have dG:(ak==1)=true:=beq_iff_eq.mpr bU;have dH:(ak !=1)=false:=bne_eq_false_iff_eq.mpr bU;clear bU;obtain rfl:=Option.some.inj H;obtain⟨⟨_,_,_,_,_,_⟩,_,_,_,_,_,_⟩:=z6 b3
         go_wp2
         repeat(go_quiet (fail);try go_wp2)
         go_ret
         exact⟨oE,oB⟩
        rw[if_neg bU]at H;have dG:(ak==1)=false:=beq_eq_false_iff_ne.mpr bU;have dH:(ak !=1)=true:=bne_iff_ne.mpr bU
        by_cases bV:ak=2
        rotate_left
        ·rw[if_neg bV]at H;have dI:(ak==2)=false:=beq_eq_false_iff_ne.mpr bV;have dJ:(ak !=2)=true:=bne_iff_ne.mpr bV;obtain rfl:=Option.some.inj H;obtain⟨⟨_,_,_,_,_,_⟩,_,_,_,_,_,_⟩:=z6 b3
         go_wp2
         repeat(go_quiet (fail);try go_wp2)
         go_ret
         exact⟨oE,oB⟩
        rw[if_pos bV]at H;have dI:(ak==2)=true:=beq_iff_eq.mpr bV;have dJ:(ak !=2)=false:=bne_eq_false_iff_eq.mpr bV;clear bV
        by_cases bQ:(cj.length:Int)=0
        ·rw[if_pos bQ]at H;have dK:((cj.length:Int)==0)=true:=beq_iff_eq.mpr bQ;have dL:((cj.length:Int) !=0)=false:=bne_eq_false_iff_eq.mpr bQ;clear bQ;obtain rfl:=Option.some.inj H;obtain⟨⟨_,_,_,_,_,_⟩,_,_,_,_,_,_⟩:=z6 b3
         go_wp2
         repeat(go_quiet (fail);try go_wp2)
         go_ret
         exact⟨oE,oB⟩
        rw[if_neg bQ]at H;have dK:((cj.length:Int)==0)=false:=beq_eq_false_iff_ne.mpr bQ;have dL:((cj.length:Int) !=0)=true:=bne_iff_ne.mpr bQ
        have gM:¬(cj=[]):=fun h_=>bQ (by rw[h_];rfl)
        obtain rfl:=Option.some.inj H;obtain⟨⟨_,_,_,_,_,_⟩,_,_,_,_,_,_⟩:=z6 b3
        go_wp2
        repeat(go_quiet (fail);try go_wp2)
        go_ret
        exact⟨oE,oB⟩
     obtain⟨gN,H⟩:=cU H;obtain⟨gO,H⟩:=cU H;replace H:=bA H;obtain⟨gW,bH,H⟩:=H
     try dsimp only at H
     replace H:=ll H;rcases H with⟨rfl,H⟩|⟨rfl,H⟩;rotate_left
     ·obtain rfl:=Option.some.inj H;have d9:(0≤(b1:Int))=True:=oT;have dA:(b1<(aK.length:Int))=True:=oT;obtain⟨bB,bM,bN,bO⟩:=kp bF HB b1 oa oa
      cases bM
      go_wp2_with (first|((with_reducible refine ai (N:=4) rfl ?_);(try(refine bx (by rfl) ?_;dsimp only));refine di 4 #[.string (⟨#[]⟩:ByteArray),.int .i64 0] 75 ?_;intro b5 hg gF hbox hb;have bE:=am (hbox);have bC:=dh hg;have b6:=eJ hg b3;have b7:=eK hg b3;replace b3:=bn b3 hb;replace HB:=hB HB hb;clear hb hbox hg;have dM:=b7.out;have dN:=b6.out;obtain⟨⟨_,_⟩,_,_⟩:=z2 bE)|(go_at_call 65;(with_reducible refine(aC.calls k2 ((al aK b1).f0) false _ bH.out).mono ?_);rintro e w' ⟨rfl,⟨nd,rfl⟩⟩))
      repeat(go_quiet (first|(go_at_call 65;(with_reducible refine(aC.calls k2 ((al aK b1).f0) false _ bH.out).mono ?_);rintro e w' ⟨rfl,⟨nd,rfl⟩⟩;exact oQ));try go_wp2_with (first|((with_reducible refine ai (N:=4) rfl ?_);(try(refine bx (by rfl) ?_;dsimp only));refine di 4 #[.string (⟨#[]⟩:ByteArray),.int .i64 0] 75 ?_;intro b5 hg gF hbox hb;have bE:=am (hbox);have bC:=dh hg;have b6:=eJ hg b3;have b7:=eK hg b3;replace b3:=bn b3 hb;replace HB:=hB HB hb;clear hb hbox hg;have dM:=b7.out;have dN:=b6.out;obtain⟨⟨_,_⟩,_,_⟩:=z2 bE)|(go_at_call 65;(with_reducible refine(aC.calls k2 ((al aK b1).f0) false _ bH.out).mono ?_);rintro e w' ⟨rfl,⟨nd,rfl⟩⟩)))
      go_ret
      exact⟨oE,oB⟩
     replace H:=bA H;obtain⟨gX,bJ,H⟩:=H
     try dsimp only at H
     replace H:=ll H;rcases H with⟨rfl,H⟩|⟨rfl,H⟩;rotate_left
     ·obtain rfl:=Option.some.inj H;have d9:(0≤(b1:Int))=True:=oT;have dA:(b1<(aK.length:Int))=True:=oT;obtain⟨bB,bM,bN,bO⟩:=kp bF HB b1 oa oa
      cases bM
      go_wp2_with (first|((with_reducible refine ai (N:=4) rfl ?_);(try(refine bx (by rfl) ?_;dsimp only));refine di 4 #[.string (⟨#[]⟩:ByteArray),.int .i64 0] 75 ?_;intro b5 hg gG hbox hb;have bE:=am (hbox);have bC:=dh hg;have b6:=eJ hg b3;have b7:=eK hg b3;replace b3:=bn b3 hb;replace HB:=hB HB hb;clear hb hbox hg;have dO:=b7.out;have dP:=b6.out;obtain⟨⟨_,_⟩,_,_⟩:=z2 bE)|(go_at_call 65;(with_reducible refine(aC.calls k2 ((al aK b1).f0) true _ bH.out).mono ?_);rintro e w' ⟨rfl,⟨nd,rfl⟩⟩)|(go_at_call 61;(with_reducible refine(bl.calls ((al aK b1).f1) 2 1000 false _ bJ.out).mono ?_);rintro e w' ⟨rfl,⟨nd,rfl⟩⟩))
      repeat(go_quiet (first|(go_at_call 65;(with_reducible refine(aC.calls k2 ((al aK b1).f0) true _ bH.out).mono ?_);rintro e w' ⟨rfl,⟨nd,rfl⟩⟩;exact oQ)|(go_at_call 61;(with_reducible refine(bl.calls ((al aK b1).f1) 2 1000 false _ bJ.out).mono ?_);rintro e w' ⟨rfl,⟨nd,rfl⟩⟩;exact oQ));try go_wp2_with (first|((with_reducible refine ai (N:=4) rfl ?_);(try(refine bx (by rfl) ?_;dsimp only));refine di 4 #[.string (⟨#[]⟩:ByteArray),.int .i64 0] 75 ?_;intro b5 hg gG hbox hb;have bE:=am (hbox);have bC:=dh hg;have b6:=eJ hg b3;have b7:=eK hg b3;replace b3:=bn b3 hb;replace HB:=hB HB hb;clear hb hbox hg;have dO:=b7.out;have dP:=b6.out;obtain⟨⟨_,_⟩,_,_⟩:=z2 bE)|(go_at_call 65;(with_reducible refine(aC.calls k2 ((al aK b1).f0) true _ bH.out).mono ?_);rintro e w' ⟨rfl,⟨nd,rfl⟩⟩)|(go_at_call 61;(with_reducible refine(bl.calls ((al aK b1).f1) 2 1000 false _ bJ.out).mono ?_);rintro e w' ⟨rfl,⟨nd,rfl⟩⟩)))
      go_ret
      exact⟨oE,oB⟩
     replace H:=itG H;rcases H with⟨dQ,H⟩|⟨dQ,H⟩;rotate_left
     ·have H':=ab.mk H;clear H;have d9:(0≤(b1:Int))=True:=oT;have dA:(b1<(aK.length:Int))=True:=oT;obtain⟨bB,bM,bN,bO⟩:=kp bF HB b1 oa oa
      cases bM
      go_wp2_with (first|((with_reducible refine ai (N:=4) rfl ?_);(try(refine bx (by rfl) ?_;dsimp only));refine di 4 #[.string (⟨#[]⟩:ByteArray),.int .i64 0] 75 ?_;intro b5 hg gH hbox hb;have bE:=am (hbox);have bC:=dh hg;have b6:=eJ hg b3;have b7:=eK hg b3;replace b3:=bn b3 hb;replace HB:=hB HB hb;clear hb hbox hg;have dR:=b7.out;have dS:=b6.out;obtain⟨⟨_,_⟩,_,_⟩:=z2 bE)|(go_at_call 65;(with_reducible refine(aC.calls k2 ((al aK b1).f0) true _ bH.out).mono ?_);rintro e w' ⟨rfl,⟨nd,rfl⟩⟩)|(go_at_call 61;(with_reducible refine(bl.calls ((al aK b1).f1) 2 1000 true _ bJ.out).mono ?_);rintro e w' ⟨rfl,⟨nd,rfl⟩⟩))
      repeat(go_quiet (first|(go_at_call 65;(with_reducible refine(aC.calls k2 ((al aK b1).f0) true _ bH.out).mono ?_);rintro e w' ⟨rfl,⟨nd,rfl⟩⟩;exact oQ)|(go_at_call 61;(with_reducible refine(bl.calls ((al aK b1).f1) 2 1000 true _ bJ.out).mono ?_);rintro e w' ⟨rfl,⟨nd,rfl⟩⟩;exact oQ));try go_wp2_with (first|((with_reducible refine ai (N:=4) rfl ?_);(try(refine bx (by rfl) ?_;dsimp only));refine di 4 #[.string (⟨#[]⟩:ByteArray),.int .i64 0] 75 ?_;intro b5 hg gH hbox hb;have bE:=am (hbox);have bC:=dh hg;have b6:=eJ hg b3;have b7:=eK hg b3;replace b3:=bn b3 hb;replace HB:=hB HB hb;clear hb hbox hg;have dR:=b7.out;have dS:=b6.out;obtain⟨⟨_,_⟩,_,_⟩:=z2 bE)|(go_at_call 65;(with_reducible refine(aC.calls k2 ((al aK b1).f0) true _ bH.out).mono ?_);rintro e w' ⟨rfl,⟨nd,rfl⟩⟩)|(go_at_call 61;(with_reducible refine(bl.calls ((al aK b1).f1) 2 1000 true _ bJ.out).mono ?_);rintro e w' ⟨rfl,⟨nd,rfl⟩⟩)))
      go_roundg k2
      case measure=>have:=d1.out;have:=d2.out;omega
      case rel=>exact⟨(wrap64 (b1+1)),oS,H',⟨by have:=d1.out;have:=d2.out;omega⟩,⟨oF b3⟩,⟨oB⟩⟩
     obtain⟨bD,bP⟩:∃j_:Int,(wrap64 (b1-1))=j_:=⟨_,rfl⟩
     replace H:(if 0≤(bD)then(if(bD)<(aK.length:Int)then(if((Op.bytesLess (((al aK (bD)).f0).toList) (((al aK b1).f0).toList))=true)then(bf.l0 k2 aK (aK.length:Int) (wrap64 (b1+1)) bp ak cJ cj aK cw)else(some false))else(none))else(none))=some r:=by first|(rw[bP]at H;exact H)|(simp only[bP]at H⊢;exact H)
     (try rw[bP]at bH)
     (try rw[bP]at bJ)
     have gI:(IntKind.i64.wrap (b1-1))=bD:=(fo _).trans bP;obtain⟨gP,H⟩:=cU H;obtain⟨gQ,H⟩:=cU H
     by_cases d4:((Op.bytesLess (((al aK (bD)).f0).toList) (((al aK b1).f0).toList))=true)
     ·rw[if_pos d4]at H;have dT:(Op.bytesLess (((al aK (bD)).f0).toList) (((al aK b1).f0).toList))=true:=d4;clear d4;have H':=ab.mk H;clear H;have d9:(0≤(b1:Int))=True:=oT;have dA:(b1<(aK.length:Int))=True:=oT;obtain⟨bB,bM,bN,bO⟩:=kp bF HB b1 oa oa
      cases bM
      go_wp2_with (first|((with_reducible refine ai (N:=4) rfl ?_);(try(refine bx (by rfl) ?_;dsimp only));refine di 4 #[.string (⟨#[]⟩:ByteArray),.int .i64 0] 75 ?_;intro b5 hg bW hbox hb;have bE:=am (hbox);have bC:=dh hg;have b6:=eJ hg b3;have b7:=eK hg b3;replace b3:=bn b3 hb;replace HB:=hB HB hb;clear hb hbox hg;have dU:=b7.out;have dV:=b6.out;obtain⟨⟨_,_⟩,_,_⟩:=z2 bE)|(go_at_call 65;(with_reducible refine(aC.calls k2 ((al aK b1).f0) true _ bH.out).mono ?_);rintro e w' ⟨rfl,⟨nd,rfl⟩⟩)|(go_at_call 61;(with_reducible refine(bl.calls ((al aK b1).f1) 2 1000 true _ bJ.out).mono ?_);rintro e w' ⟨rfl,⟨nd,rfl⟩⟩;obtain⟨⟨_,_,_,_,_,_⟩,_,_,_,_,_,_⟩:=z6 b3;have bX:(0≤((bD):Int))=True:=oT;have bY:((bD)<(aK.length:Int))=True:=oT;obtain⟨bG,bI,b2,b4⟩:=cV bF.out (bD) oa oa;obtain rfl:bB=bG:=(by injection bI);have b8:bB.block≠b5:=qD b2 bC;have b9:bB.block≠b5:=qD b2 bC;replace b2:=cB HB b2;replace b4:=cB HB b4;replace b2:=lG 0 (.string ((al aK b1).f0)) b8 b2;replace b4:=lG 0 (.string ((al aK b1).f0)) b8 b4;replace b2:=lG 1 (.int .i64 ((al aK b1).f1)) b9 b2;replace b4:=lG 1 (.int .i64 ((al aK b1).f1)) b9 b4;(try have bK:=fun(n_:Nat)=>(show((((bW.drewN n_).setCell ⟨b5,0,none⟩ (.string ((al aK b1).f0))).setCell ⟨b5,1,none⟩ (.int .i64 ((al aK b1).f1)))).cell? _=some _ from b2));(try have bL:=fun(n_:Nat)=>(show((((bW.drewN n_).setCell ⟨b5,0,none⟩ (.string ((al aK b1).f0))).setCell ⟨b5,1,none⟩ (.int .i64 ((al aK b1).f1)))).cell? _=some _ from b4));clear b8;clear b9))
      repeat(go_quiet (first|(go_at_call 65;(with_reducible refine(aC.calls k2 ((al aK b1).f0) true _ bH.out).mono ?_);rintro e w' ⟨rfl,⟨nd,rfl⟩⟩;exact oQ)|(go_at_call 61;(with_reducible refine(bl.calls ((al aK b1).f1) 2 1000 true _ bJ.out).mono ?_);rintro e w' ⟨rfl,⟨nd,rfl⟩⟩;exact oQ;obtain⟨⟨_,_,_,_,_,_⟩,_,_,_,_,_,_⟩:=z6 b3;have bX:(0≤((bD):Int))=True:=oT;have bY:((bD)<(aK.length:Int))=True:=oT;obtain⟨bG,bI,b2,b4⟩:=cV bF.out (bD) oa oa;obtain rfl:bB=bG:=(by injection bI);have b8:bB.block≠b5:=qD b2 bC;have b9:bB.block≠b5:=qD b2 bC;replace b2:=cB HB b2;replace b4:=cB HB b4;replace b2:=lG 0 (.string ((al aK b1).f0)) b8 b2;replace b4:=lG 0 (.string ((al aK b1).f0)) b8 b4;replace b2:=lG 1 (.int .i64 ((al aK b1).f1)) b9 b2;replace b4:=lG 1 (.int .i64 ((al aK b1).f1)) b9 b4;(try have bK:=fun(n_:Nat)=>(show((((bW.drewN n_).setCell ⟨b5,0,none⟩ (.string ((al aK b1).f0))).setCell ⟨b5,1,none⟩ (.int .i64 ((al aK b1).f1)))).cell? _=some _ from b2));(try have bL:=fun(n_:Nat)=>(show((((bW.drewN n_).setCell ⟨b5,0,none⟩ (.string ((al aK b1).f0))).setCell ⟨b5,1,none⟩ (.int .i64 ((al aK b1).f1)))).cell? _=some _ from b4));clear b8;clear b9));try go_wp2_with (first|((with_reducible refine ai (N:=4) rfl ?_);(try(refine bx (by rfl) ?_;dsimp only));refine di 4 #[.string (⟨#[]⟩:ByteArray),.int .i64 0] 75 ?_;intro b5 hg bW hbox hb;have bE:=am (hbox);have bC:=dh hg;have b6:=eJ hg b3;have b7:=eK hg b3;replace b3:=bn b3 hb;replace HB:=hB HB hb;clear hb hbox hg;have dU:=b7.out;have dV:=b6.out;obtain⟨⟨_,_⟩,_,_⟩:=z2 bE)|(go_at_call 65;(with_reducible refine(aC.calls k2 ((al aK b1).f0) true _ bH.out).mono ?_);rintro e w' ⟨rfl,⟨nd,rfl⟩⟩)|(go_at_call 61;(with_reducible refine(bl.calls ((al aK b1).f1) 2 1000 true _ bJ.out).mono ?_);rintro e w' ⟨rfl,⟨nd,rfl⟩⟩;obtain⟨⟨_,_,_,_,_,_⟩,_,_,_,_,_,_⟩:=z6 b3;have bX:(0≤((bD):Int))=True:=oT;have bY:((bD)<(aK.length:Int))=True:=oT;obtain⟨bG,bI,b2,b4⟩:=cV bF.out (bD) oa oa;obtain rfl:bB=bG:=(by injection bI);have b8:bB.block≠b5:=qD b2 bC;have b9:bB.block≠b5:=qD b2 bC;replace b2:=cB HB b2;replace b4:=cB HB b4;replace b2:=lG 0 (.string ((al aK b1).f0)) b8 b2;replace b4:=lG 0 (.string ((al aK b1).f0)) b8 b4;replace b2:=lG 1 (.int .i64 ((al aK b1).f1)) b9 b2;replace b4:=lG 1 (.int .i64 ((al aK b1).f1)) b9 b4;(try have bK:=fun(n_:Nat)=>(show((((bW.drewN n_).setCell ⟨b5,0,none⟩ (.string ((al aK b1).f0))).setCell ⟨b5,1,none⟩ (.int .i64 ((al aK b1).f1)))).cell? _=some _ from b2));(try have bL:=fun(n_:Nat)=>(show((((bW.drewN n_).setCell ⟨b5,0,none⟩ (.string ((al aK b1).f0))).setCell ⟨b5,1,none⟩ (.int .i64 ((al aK b1).f1)))).cell? _=some _ from b4));clear b8;clear b9)))
      go_roundg k2
      case measure=>have:=d1.out;have:=d2.out;omega
      case rel=>exact⟨(wrap64 (b1+1)),oS,H',⟨by have:=d1.out;have:=d2.out;omega⟩,⟨oF b3⟩,⟨oB⟩⟩
     rw[if_neg d4]at H
     have dT:(Op.bytesLess (((al aK (bD)).f0).toList) (((al aK b1).f0).toList))=false:=by simpa using d4
     clear d4;obtain rfl:=Option.some.inj H;have d9:(0≤(b1:Int))=True:=oT;have dA:(b1<(aK.length:Int))=True:=oT;obtain⟨bB,bM,bN,bO⟩:=kp bF HB b1 oa oa
     cases bM
     go_wp2_with (first|((with_reducible refine ai (N:=4) rfl ?_);(try(refine bx (by rfl) ?_;dsimp only));refine di 4 #[.string (⟨#[]⟩:ByteArray),.int .i64 0] 75 ?_;intro b5 hg bZ hbox hb;have bE:=am (hbox);have bC:=dh hg;have b6:=eJ hg b3;have b7:=eK hg b3;replace b3:=bn b3 hb;replace HB:=hB HB hb;clear hb hbox hg;have dW:=b7.out;have dX:=b6.out;obtain⟨⟨_,_⟩,_,_⟩:=z2 bE)|(go_at_call 65;(with_reducible refine(aC.calls k2 ((al aK b1).f0) true _ bH.out).mono ?_);rintro e w' ⟨rfl,⟨nd,rfl⟩⟩)|(go_at_call 61;(with_reducible refine(bl.calls ((al aK b1).f1) 2 1000 true _ bJ.out).mono ?_);rintro e w' ⟨rfl,⟨nd,rfl⟩⟩;obtain⟨⟨_,_,_,_,_,_⟩,_,_,_,_,_,_⟩:=z6 b3;have bX:(0≤((bD):Int))=True:=oT;have bY:((bD)<(aK.length:Int))=True:=oT;obtain⟨bG,bI,b2,b4⟩:=cV bF.out (bD) oa oa;obtain rfl:bB=bG:=(by injection bI);have b8:bB.block≠b5:=qD b2 bC;have b9:bB.block≠b5:=qD b2 bC;replace b2:=cB HB b2;replace b4:=cB HB b4;replace b2:=lG 0 (.string ((al aK b1).f0)) b8 b2;replace b4:=lG 0 (.string ((al aK b1).f0)) b8 b4;replace b2:=lG 1 (.int .i64 ((al aK b1).f1)) b9 b2;replace b4:=lG 1 (.int .i64 ((al aK b1).f1)) b9 b4;(try have bK:=fun(n_:Nat)=>(show((((bZ.drewN n_).setCell ⟨b5,0,none⟩ (.string ((al aK b1).f0))).setCell ⟨b5,1,none⟩ (.int .i64 ((al aK b1).f1)))).cell? _=some _ from b2));(try have bL:=fun(n_:Nat)=>(show((((bZ.drewN n_).setCell ⟨b5,0,none⟩ (.string ((al aK b1).f0))).setCell ⟨b5,1,none⟩ (.int .i64 ((al aK b1).f1)))).cell? _=some _ from b4));clear b8;clear b9))
     repeat(go_quiet (first|(go_at_call 65;(with_reducible refine(aC.calls k2 ((al aK b1).f0) true _ bH.out).mono ?_);rintro e w' ⟨rfl,⟨nd,rfl⟩⟩;exact oQ)|(go_at_call 61;(with_reducible refine(bl.calls ((al aK b1).f1) 2 1000 true _ bJ.out).mono ?_);rintro e w' ⟨rfl,⟨nd,rfl⟩⟩;exact oQ;obtain⟨⟨_,_,_,_,_,_⟩,_,_,_,_,_,_⟩:=z6 b3;have bX:(0≤((bD):Int))=True:=oT;have bY:((bD)<(aK.length:Int))=True:=oT;obtain⟨bG,bI,b2,b4⟩:=cV bF.out (bD) oa oa;obtain rfl:bB=bG:=(by injection bI);have b8:bB.block≠b5:=qD b2 bC;have b9:bB.block≠b5:=qD b2 bC;replace b2:=cB HB b2;replace b4:=cB HB b4;replace b2:=lG 0 (.string ((al aK b1).f0)) b8 b2;replace b4:=lG 0 (.string ((al aK b1).f0)) b8 b4;replace b2:=lG 1 (.int .i64 ((al aK b1).f1)) b9 b2;replace b4:=lG 1 (.int .i64 ((al aK b1).f1)) b9 b4;(try have bK:=fun(n_:Nat)=>(show((((bZ.drewN n_).setCell ⟨b5,0,none⟩ (.string ((al aK b1).f0))).setCell ⟨b5,1,none⟩ (.int .i64 ((al aK b1).f1)))).cell? _=some _ from b2));(try have bL:=fun(n_:Nat)=>(show((((bZ.drewN n_).setCell ⟨b5,0,none⟩ (.string ((al aK b1).f0))).setCell ⟨b5,1,none⟩ (.int .i64 ((al aK b1).f1)))).cell? _=some _ from b4));clear b8;clear b9));try go_wp2_with (first|((with_reducible refine ai (N:=4) rfl ?_);(try(refine bx (by rfl) ?_;dsimp only));refine di 4 #[.string (⟨#[]⟩:ByteArray),.int .i64 0] 75 ?_;intro b5 hg bZ hbox hb;have bE:=am (hbox);have bC:=dh hg;have b6:=eJ hg b3;have b7:=eK hg b3;replace b3:=bn b3 hb;replace HB:=hB HB hb;clear hb hbox hg;have dW:=b7.out;have dX:=b6.out;obtain⟨⟨_,_⟩,_,_⟩:=z2 bE)|(go_at_call 65;(with_reducible refine(aC.calls k2 ((al aK b1).f0) true _ bH.out).mono ?_);rintro e w' ⟨rfl,⟨nd,rfl⟩⟩)|(go_at_call 61;(with_reducible refine(bl.calls ((al aK b1).f1) 2 1000 true _ bJ.out).mono ?_);rintro e w' ⟨rfl,⟨nd,rfl⟩⟩;obtain⟨⟨_,_,_,_,_,_⟩,_,_,_,_,_,_⟩:=z6 b3;have bX:(0≤((bD):Int))=True:=oT;have bY:((bD)<(aK.length:Int))=True:=oT;obtain⟨bG,bI,b2,b4⟩:=cV bF.out (bD) oa oa;obtain rfl:bB=bG:=(by injection bI);have b8:bB.block≠b5:=qD b2 bC;have b9:bB.block≠b5:=qD b2 bC;replace b2:=cB HB b2;replace b4:=cB HB b4;replace b2:=lG 0 (.string ((al aK b1).f0)) b8 b2;replace b4:=lG 0 (.string ((al aK b1).f0)) b8 b4;replace b2:=lG 1 (.int .i64 ((al aK b1).f1)) b9 b2;replace b4:=lG 1 (.int .i64 ((al aK b1).f1)) b9 b4;(try have bK:=fun(n_:Nat)=>(show((((bZ.drewN n_).setCell ⟨b5,0,none⟩ (.string ((al aK b1).f0))).setCell ⟨b5,1,none⟩ (.int .i64 ((al aK b1).f1)))).cell? _=some _ from b2));(try have bL:=fun(n_:Nat)=>(show((((bZ.drewN n_).setCell ⟨b5,0,none⟩ (.string ((al aK b1).f0))).setCell ⟨b5,1,none⟩ (.int .i64 ((al aK b1).f1)))).cell? _=some _ from b4));clear b8;clear b9)))
     go_ret
     exact⟨by first|rfl|(simp[eU,eV]<;>rfl)|(simp only[←bP];first|rfl|(simp[eU,eV]<;>rfl))|(simp[*,eU,eV]<;>rfl),oB⟩
end Go.Proofs.YtlecajlnjmbilaaGreatDoor.P
