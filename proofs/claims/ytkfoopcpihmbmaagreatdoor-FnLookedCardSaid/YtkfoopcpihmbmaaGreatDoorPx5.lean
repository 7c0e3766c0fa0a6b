-- Printed walks.
import Derived.Test.YtkfoopcpihmbmaaGreatDoorPx3
set_option linter.all false
set_option maxHeartbeats 8000000
set_option maxRecDepth 100000
namespace Go.Proofs.YtkfoopcpihmbmaaGreatDoor.P
open Go.RowKit Go.Proofs.ab.av Go.Proofs.ab.aQ Go.Proofs.ab.aT Go.Proofs.Tryz
attribute [local go_sem] fP fQ hJ hO fm fo fR fS

mutual
def aJ.l0:Nat→List Int→List Int→Int→List (aW)→Int→Option (List Int)
 |0,_,_,_,_,_=>none
 |k+1,x1,x5,x6,b2,b3=>if x6<(x1.length:Int)then(if 0≤x6 then((eV.f k b2 b3 (rd x1 x6)).bind fun b1=>(aJ.l1 k x1 x5 x6 b1.2.2.2.2.2.2 0 b2 b3 b1.1 b1.2.1 b1.2.2.1 b1.2.2.2.1 b1.2.2.2.2.1 b1.2.2.2.2.2.1))else(none))else(some x5)
def aJ.l1:Nat→List Int→List Int→Int→Bool→Int→List (aW)→Int→Int→Int→Int→List Int→List (cD)→List (bj)→Option (List Int)
 |0,_,_,_,_,_,_,_,_,_,_,_,_,_=>none
 |k+1,x1,x5,x6,x8,x9,b3,b4,b5,b1,b6,b7,b2,b8=>if x9<(b2.length:Int)then(if x8=true then(aJ.j2 k x1 x5 x6 x8 x9 (b1==2) b3 b4 b5 b1 b6 b7 b2 b8)else(aJ.j2 k x1 x5 x6 x8 x9 false b3 b4 b5 b1 b6 b7 b2 b8))else(aJ.j2 k x1 x5 x6 x8 x9 false b3 b4 b5 b1 b6 b7 b2 b8)
def aJ.j2:Nat→List Int→List Int→Int→Bool→Int→Bool→List (aW)→Int→Int→Int→Int→List Int→List (cD)→List (bj)→Option (List Int)
 |0,_,_,_,_,_,_,_,_,_,_,_,_,_,_=>none
 |k+1,x1,x5,x6,x8,x9,bC,b2,b3,b4,b5,b6,b7,b1,b8=>if bC=true then(if 0≤x9 then(if x9<(b1.length:Int)then((da.f k b2 b3 ((aA b1 x9).f1)).bind fun b9=>(if b9≥0 then((di.f k x5 ((aA b1 x9).f1)).bind fun bB=>(aJ.l1 k x1 bB x6 x8 (wrap64 (x9+1)) b2 b3 b4 b5 b6 b7 b1 b8))else(aJ.l1 k x1 x5 x6 x8 (wrap64 (x9+1)) b2 b3 b4 b5 b6 b7 b1 b8)))else(none))else(none))else(aJ.l0 k x1 x5 (wrap64 (x6+1)) b2 b3)
end
def aJ.f (k:Nat) (ah:List (aW)) (al:Int) (l1:List Int):Option (List Int):=aJ.l0 k l1 l1 0 ah al
def aJ.T5:Bool×List (List Nat×List Nat):=(true,[([],[]),([],[]),([],[]),([1,2],[1,2]),([3],[3]),([0,4],[0,4]),([5],[5]),([6],[6]),([6],[6]),([],[]),([9,7,5,0,1,2,3,4,5,6,7,9],[7,9]),([8,10,0,1,2,3,4,5,6,7,8,9,10],[8])])
def aJ.B5:List Nat:=[0,0,0,6,14,31,63,127,127,0,767,2047]
theorem aJ.acI:fK .any (opsOf Tryz.f159 5)=aJ.T5:=by kernel_rfl
theorem aJ.aaI:ep aJ.T5.2 aJ.B5=true:=by kernel_rfl
def aJ.T9:Bool×List (List Nat×List Nat):=(true,[([],[]),([],[]),([1],[1]),([],[]),([2,3],[2,3]),([4],[4]),([5],[5]),([0,6],[0,6]),([7],[7])])
def aJ.B9:List Nat:=[0,0,2,0,14,30,62,127,255]
theorem aJ.aaM:fK .any (opsOf Tryz.f159 9)=aJ.T9:=by kernel_rfl
theorem aJ.uv:ep aJ.T9.2 aJ.B9=true:=by kernel_rfl
theorem aJ.calls (k:Nat) (bs:Option Addr) (bo:Nat) (ah:List (aW)) (al:Int) (A1:Option Addr) (c1:Nat) (l1:List Int) (r:List Int) (b0:Nat) (w:World) (hb0:b0≤w.heap.size) (cy:Kd.C k32 w bs ah.length ah) (cA:ah.length≤bo) (ho1:Kd.R (Kd.int .i64) 3 w b0 (fun _=>True) (.slice A1 l1.length c1) l1) (h:aJ.f k ah al l1=some r):
  Calls Tryz.prog 159 #[.agg #[.slice bs ah.length bo,.int .i64 al],.slice A1 l1.length c1] w fun e w'=>∃fy:Value,e= .returned (fy)∧Kd.R (Kd.int .i64) 3 w' b0 (fun _=>True) fy r∧Below w.heap.size w w':=by
 have b19:=underlying26;have b1A:=underlying32;have dN:=ae.mk cy;have dO:=ae.mk cA;clear cy cA;have zM:=am (Kd.aU ho1).2.2;have HC1:=am (Kd.aU ho1).2.1;have mF:=ae.mk ho1;have zN:=ae.mk hb0;clear ho1 hb0;have HB:=am (Below.refl w.heap.size w);have H:(aJ.l0 k l1 l1 0 ah al)=some r:=h;clear h;have H':=ae.mk H;clear H
 go_enter func159,ntmps159
 go_wp2_with (((with_reducible refine au (N:=2) rfl ?_);refine sl ?hg (N:=2) ?hd (cs:= #[.slice bs ah.length bo,.int .i64 al]) (t:=26) ?hr ?_;(case hd=>rfl);(case hg=>rfl);(case hr=>(go_simp;done));intro bD hg w3 hbox hb;have bI:=hB HB hb;have bJ:=am (hbox);have bK:=am ((by rw[hg];exact(af oB):w.heap.size≤bD));have bP:=am ((by rw[hg];exact(af oB):w.heap.size≤bD));clear HB;have HB:=bI;have b3:=bJ;have zS:=bK;have bE:=bP;clear bI bJ bK bP;have jW:=am (Kd.jq mF.out hb);clear hb hbox hg))
 go_loopg [5,6] k (fun kq v5 v6 w'=>∃(dD:List Int) (bH:Int),v6= .int .i64 bH∧ae (aJ.l0 kq l1 dD bH ah al=some r)∧ae (kq≤k)∧ae (Kd.R (Kd.int .i64) 3 w' b0 (fun _=>True) v5 dD)∧ae (w'.heap[bD]? =some (.cells #[(.slice bs ah.length bo),.int .i64 al] 26 (0,0)))∧ae (Below w.heap.size w w'))
 case atStart=>exact⟨(l1),(0),oS,H',⟨Nat.le_refl _⟩,⟨jW.out⟩,⟨oF b3⟩,⟨HB.out⟩⟩
 case round=>
  clear H';obtain⟨dD,bH,rfl,HA,dI,b8,b3,HB⟩:=hrel
  cases gk with
  |zero=>exact absurd HA.out (by simp[aJ.l0])
  |succ k1=>
   have H:=HA.out;clear HA;simp only[aJ.l0]at H
   by_cases c6:bH<(l1.length:Int)
   rotate_left
   ·rw[if_neg c6]at H;have gG:decide (bH<(l1.length:Int))=false:=decide_eq_false c6;clear c6;obtain rfl:=Option.some.inj H
    go_wp2
    go_ret
    exact⟨_,oE,b8.out,HB.out⟩
   rw[if_pos c6]at H;have gG:decide (bH<(l1.length:Int))=true:=decide_eq_true c6;clear c6;obtain⟨c7,H⟩:=jm H;have jP:decide (0≤bH)=true:=decide_eq_true c7;clear c7;replace H:=Option.bind_eq_some_iff.mp H;obtain⟨⟨bQ,bO,bR,bL,bB,bM,bW⟩,m1,H⟩:=H;replace H:(aJ.l1 k1 l1 dD bH bW 0 ah al bQ bO bR bL bB bM)=some r:=H;have A8:=ae.mk m1;clear m1;have H':=ae.mk H;clear H
   try go_wp2
   have bI:=am (Kd.b_ b8.out);have bJ:=am (ar b3.out);have bK:=am (bl HB.out);clear b8;clear b3;clear HB;have b8:=bI;have b3:=bJ;have HB:=bK;clear bI bJ bK;have dQ:0≤(bH:Int):=oa;have dR:bH<(l1.length:Int):=oa;obtain⟨dZ,mG,bY⟩:=Kd.me zM.out bH dQ dR;have bC:=bY
   cases mG
   replace bY:=(HB.out.cell (World.block_lt_of_cell? w _ bY)).trans bY;replace dQ:=eq_true dQ;replace dR:=eq_true dR;refine qS 12 (fun w'=>w'.cell? ⟨bD,0,none⟩=some (.slice bs ah.length bo)∧w'.cell? ⟨bD,1,none⟩=some (.int .i64 al)∧w'.cell? (dZ.add (bH).toNat)=some (.int .i64 (rd l1 bH))) aJ.acI aJ.aaI oH (fun hHeld aV fA=> ?_);generalize wr.drew=w9 at b8 b3 HB bY hHeld⊢;refine cG 1 19 aV ?_;refine cG 2 20 aV ?_;refine cG 3 21 aV ?_;refine iA 0 18 aV fA hHeld ?_;refine iA 4 22 aV fA hHeld ?_;refine uc (σ:=Value×Value×Value×Nat) 2 (lb 12 1023) (fun s_=>[(23,.tuple #[.agg #[.int .i64 bQ,.int .i64 bO,.int .i64 bR,s_.1,s_.2.1,s_.2.2.1],.bool bW]),(7,.pointer (some ⟨s_.2.2.2,0,none⟩)),(17,.tuple #[.agg #[.int .i64 bQ,.int .i64 bO,.int .i64 bR,s_.1,s_.2.1,s_.2.2.1],.bool bW]),(24,.agg #[.int .i64 bQ,.int .i64 bO,.int .i64 bR,s_.1,s_.2.1,s_.2.2.1]),(25,.bool bW)]) (fun s_ w'=>(w'.cell? ⟨bD,0,none⟩=some (.slice bs ah.length bo)∧w'.cell? ⟨bD,1,none⟩=some (.int .i64 al)∧w'.cell? (dZ.add (bH).toNat)=some (.int .i64 (rd l1 bH)))∧(Kd.R (Kd.int .u8) 5 w' w.heap.size (fun _=>True) s_.1 bL)∧(Kd.R fL 74 w' w.heap.size (fun _=>True) s_.2.1 bB)∧(Kd.R dn 101 w' w.heap.size (fun _=>True) s_.2.2.1 bM)∧(Kd.R (Kd.int .i64) 3 w' b0 (fun _=>True) u5 dD)∧(w'.heap[bD]? =some (.cells #[.slice bs ah.length bo,.int .i64 al] 26 (0,0)))∧(w'.heap[s_.2.2.2]? =some (.cells #[.int .i64 0,.int .i64 0,.int .i64 0,.slice none 0 0,.slice none 0 0,.slice none 0 0] 32 (0,0)))∧(w.heap.size≤s_.2.2.2)∧(w.heap.size≤s_.2.2.2)∧(bD≠s_.2.2.2)∧(s_.2.2.2≠bD)∧(Below w.heap.size w w')) ?_ ?_;rotate_left
   ·intro kM;refine ub (i:=5) (j:=9) (Ni:=some 23) (Nj:=some 7) (lb 12 63) (lb 12 543) rfl rfl rfl rfl (ta aV.out (by kernel_rfl)) (by decide) (by decide) (fun K hK=> ?_) (fun K hK=> ?_)
    ·skip
     refine sn func49 (by kernel_rfl) rfl #[.agg #[.slice bs ah.length bo,.int .i64 al],.int .i64 (rd l1 bH)] (by rfl) rfl rfl oL ?_
     with_reducible refine(eV.calls k1 _ _ ah al (rd l1 bH) bQ bO bR bL bB bM bW _ ?aC ?bh A8.out).mono ?_
     (case aC=>repeat(exact(Kd.cR dN.out HB.out)))
     (case bh=>exact dO.out)
     rintro e zO ⟨dS,dT,dU,rfl,dM,ho1,gA,hb⟩;refine⟨_,rfl,?_⟩;have bI:=ni b8 hb;have bJ:=am (Kd.aq dM (af HB.out));have bK:=am (Kd.aq ho1 (af HB.out));have bP:=am (Kd.aq gA (af HB.out));have bS:=ba b3 hb;have bT:=am (gr HB.out hb);clear b8;clear b3;clear HB;have b8:=bI;have d1:=bJ;have d2:=bK;have d3:=bP;have b3:=bS;have HB:=bT;clear bI bJ bK bP bS bT
     (try clear hb)
     (try clear dM)
     (try clear ho1)
     (try clear gA)
     refine aZ hK 23 oH (fun hHeld=> ?_);clear hK K;refine cG 6 17 aV ?_;refine cG 7 24 aV ?_;refine cG 8 25 aV ?_;refine jg 9 7 aV (fun K hK=> ?_);refine t_ ?hg (N:=7) ?hd (cs:= #[.int .i64 0,.int .i64 0,.int .i64 0,.slice none 0 0,.slice none 0 0,.slice none 0 0]) (t:=32) ?hr ?_;(case hd=>rfl);(case hg=>rfl);(case hr=>(go_simp;done));intro b2 hg zP hbox hb;have bI:=ni b8 hb;have bJ:=ni d1 hb;have bK:=ni d2 hb;have bP:=ni d3 hb;have bS:=ba b3 hb;have bT:=am (gr HB.out hb);have bU:=am (hbox);have dB:=am ((by rw[hg];exact(af HB.out):w.heap.size≤b2));have gB:=am ((by rw[hg];exact(af HB.out):w.heap.size≤b2));have gC:=am ((by rw[hg];exact Nat.ne_of_lt (jy (g:=bD) (o:= .cells #[.slice bs ah.length bo,.int .i64 al] 26 (0,0)) (oF b3)):bD≠b2));have dV:=am ((by rw[hg];exact Nat.ne_of_gt (jy (g:=bD) (o:= .cells #[.slice bs ah.length bo,.int .i64 al] 26 (0,0)) (oF b3)):b2≠bD));clear b8;clear d1;clear d2;clear d3;clear b3;clear HB;have b8:=bI;have d1:=bJ;have d2:=bK;have d3:=bP;have b3:=bS;have HB:=bT;have b1:=bU;have bF:=dB;have bN:=gB;have b4:=gC;have bG:=dV;clear bI bJ bK bP bS bT bU dB gB gC dV;clear hb hbox hg;refine aZ hK 7 oH (fun hHeld=> ?_);clear hK K;exact ju (by simp only[ij,Act.put,List.setIfInBounds_toArray,List.set_cons_zero,List.set_cons_succ]) (kM (dS,dT,dU,b2) _ ⟨hHeld,(wK d1),(wK d2),(wK d3),(wK b8),(oF b3),(oF b1),bF.out,bN.out,b4.out,bG.out,HB.out⟩)
    ·skip
     refine t_ ?hg (N:=7) ?hd (cs:= #[.int .i64 0,.int .i64 0,.int .i64 0,.slice none 0 0,.slice none 0 0,.slice none 0 0]) (t:=32) ?hr ?_;(case hd=>rfl);(case hg=>rfl);(case hr=>(go_simp;done));intro b2 hg zO hbox hb;have bI:=ni b8 hb;have bJ:=ba b3 hb;have bK:=am (gr HB.out hb);have bP:=am (hbox);have bS:=am ((by rw[hg];exact(af HB.out):w.heap.size≤b2));have bT:=am ((by rw[hg];exact(af HB.out):w.heap.size≤b2));have bU:=am ((by rw[hg];exact Nat.ne_of_lt (jy (g:=bD) (o:= .cells #[.slice bs ah.length bo,.int .i64 al] 26 (0,0)) (oF b3)):bD≠b2));have dB:=am ((by rw[hg];exact Nat.ne_of_gt (jy (g:=bD) (o:= .cells #[.slice bs ah.length bo,.int .i64 al] 26 (0,0)) (oF b3)):b2≠bD));clear b8;clear b3;clear HB;have b8:=bI;have b3:=bJ;have HB:=bK;have b1:=bP;have bF:=bS;have bN:=bT;have b4:=bU;have bG:=dB;clear bI bJ bK bP bS bT bU dB;clear hb hbox hg;refine aZ hK 7 oH (fun hHeld=> ?_);clear hK K;refine jg 5 23 aV (fun K hK=> ?_);refine sn func49 (by kernel_rfl) rfl #[.agg #[.slice bs ah.length bo,.int .i64 al],.int .i64 (rd l1 bH)] (by rfl) rfl rfl oL ?_
     with_reducible refine(eV.calls k1 _ _ ah al (rd l1 bH) bQ bO bR bL bB bM bW _ ?aC ?bh A8.out).mono ?_
     (case aC=>repeat(exact(Kd.cR dN.out HB.out)))
     (case bh=>exact dO.out)
     rintro e zP ⟨dS,dT,dU,rfl,dM,ho1,gA,hb⟩;refine⟨_,rfl,?_⟩;have bI:=ni b8 hb;have bJ:=am (Kd.aq dM (af HB.out));have bK:=am (Kd.aq ho1 (af HB.out));have bP:=am (Kd.aq gA (af HB.out));have bS:=ba b3 hb;have bT:=ba b1 hb;have bU:=am (gr HB.out hb);clear b8;clear b3;clear b1;clear HB;have b8:=bI;have d1:=bJ;have d2:=bK;have d3:=bP;have b3:=bS;have b1:=bT;have HB:=bU;clear bI bJ bK bP bS bT bU
     (try clear hb)
     (try clear dM)
     (try clear ho1)
     (try clear gA)
     refine aZ hK 23 oH (fun hHeld=> ?_);clear hK K;refine cG 6 17 aV ?_;refine cG 7 24 aV ?_;refine cG 8 25 aV ?_;exact ju (by simp only[ij,Act.put,List.setIfInBounds_toArray,List.set_cons_zero,List.set_cons_succ]) (kM (dS,dT,dU,b2) _ ⟨hHeld,(wK d1),(wK d2),(wK d3),(wK b8),(oF b3),(oF b1),bF.out,bN.out,b4.out,bG.out,HB.out⟩)
   rintro⟨dS,dT,dU,b2⟩ bZ ⟨sO,m2,m3,m4,m5,m6,m7,m8,m9,mA,mB,jQ⟩;have bI:ae (Kd.R (Kd.int .u8) 5 bZ w.heap.size (fun _=>True) dS bL):=⟨m2⟩;have bJ:ae (Kd.R fL 74 bZ w.heap.size (fun _=>True) dT bB):=⟨m3⟩;have bK:ae (Kd.R dn 101 bZ w.heap.size (fun _=>True) dU bM):=⟨m4⟩;have bP:ae (Kd.R (Kd.int .i64) 3 bZ b0 (fun _=>True) u5 dD):=⟨m5⟩;have bS:ae (bZ.heap[bD]? =some (.cells #[.slice bs ah.length bo,.int .i64 al] 26 (0,0))):=⟨m6⟩;have bT:ae (bZ.heap[b2]? =some (.cells #[.int .i64 0,.int .i64 0,.int .i64 0,.slice none 0 0,.slice none 0 0,.slice none 0 0] 32 (0,0))):=⟨m7⟩;have bU:ae (w.heap.size≤b2):=⟨m8⟩;have dB:ae (w.heap.size≤b2):=⟨m9⟩;have gB:ae (bD≠b2):=⟨mA⟩;have gC:ae (b2≠bD):=⟨mB⟩;have dV:ae (Below w.heap.size w bZ):=⟨jQ⟩;clear b8;clear b3;clear HB;clear m2 m3 m4 m5 m6 m7 m8 m9 mA mB jQ;have d1:=bI;have d2:=bJ;have d3:=bK;have b8:=bP;have b3:=bS;have b1:=bT;have bF:=bU;have bN:=dB;have b4:=gB;have bG:=gC;have HB:=dV;clear bI bJ bK bP bS bT bU dB gB gC dV;have hHeld:bZ.cell? ⟨bD,0,none⟩=some (.slice bs ah.length bo)∧bZ.cell? ⟨bD,1,none⟩=some (.int .i64 al)∧bZ.cell? (dZ.add (bH).toNat)=some (.int .i64 (rd l1 bH)):=sO;obtain⟨d4,d5,jR⟩:=Kd.ao d1.out
   (subst jR)
   obtain⟨dE,d6,jS⟩:=Kd.ao d2.out
   (subst jS)
   obtain⟨d7,d8,jT⟩:=Kd.ao d3.out
   (subst jT)
   refine ju (a':= ?_) ?_ ?_;rotate_left
   ·simp only[ij,Act.put,List.setIfInBounds_toArray,List.set_cons_zero,List.set_cons_succ]
    rfl
   refine aaf (i:=10) (N:=none) (lb 12 2047) rfl rfl (iE aV.out (by kernel_rfl)) (by decide) (fun K hK=> ?_);have b1B:bZ.cell? ⟨b2,0,none⟩=some (.int .i64 0):=(aj b1.out 0).trans rfl;have zT:=aK b1.out 0;have mL:=b4.out;have mM:=bG.out;have b1C:bZ.cell? ⟨b2,1,none⟩=some (.int .i64 0):=(aj b1.out 1).trans rfl;have zU:=aK b1.out 1;have mN:=b4.out;have mO:=bG.out;have b1D:bZ.cell? ⟨b2,2,none⟩=some (.int .i64 0):=(aj b1.out 2).trans rfl;have zV:=aK b1.out 2;have mP:=b4.out;have mQ:=bG.out;have b1E:bZ.cell? ⟨b2,3,none⟩=some (.slice none 0 0):=(aj b1.out 3).trans rfl;have zW:=aK b1.out 3;have mS:=b4.out;have mT:=bG.out;have b1F:bZ.cell? ⟨b2,4,none⟩=some (.slice none 0 0):=(aj b1.out 4).trans rfl;have zX:=aK b1.out 4;have mU:=b4.out;have mV:=bG.out;have b1G:bZ.cell? ⟨b2,5,none⟩=some (.slice none 0 0):=(aj b1.out 5).trans rfl;have zY:=aK b1.out 5;have mW:=b4.out;have mX:=bG.out;refine kp (w1:= ?_) (by rfl) rfl ?_ ?_;rotate_left
   ·go_simp
    rfl
   refine hK.out _ _ ⟨((cell_far (p:=⟨b2,_,none⟩) b4.out _).trans (((cell_far (p:=⟨b2,_,none⟩) b4.out _).trans (((cell_far (p:=⟨b2,_,none⟩) b4.out _).trans (((cell_far (p:=⟨b2,_,none⟩) b4.out _).trans (((cell_far (p:=⟨b2,_,none⟩) b4.out _).trans (((cell_far (p:=⟨b2,_,none⟩) b4.out _).trans (hHeld.1)))))))))))),((cell_far (p:=⟨b2,_,none⟩) b4.out _).trans (((cell_far (p:=⟨b2,_,none⟩) b4.out _).trans (((cell_far (p:=⟨b2,_,none⟩) b4.out _).trans (((cell_far (p:=⟨b2,_,none⟩) b4.out _).trans (((cell_far (p:=⟨b2,_,none⟩) b4.out _).trans (((cell_far (p:=⟨b2,_,none⟩) b4.out _).trans (hHeld.2.1)))))))))))),((cell_far (p:=⟨b2,_,none⟩) (by exact Nat.ne_of_lt (Nat.lt_of_lt_of_le (by have:=World.block_lt_of_cell? _ _ bC;exact this) bF.out)) _).trans (((cell_far (p:=⟨b2,_,none⟩) (by exact Nat.ne_of_lt (Nat.lt_of_lt_of_le (by have:=World.block_lt_of_cell? _ _ bC;exact this) bF.out)) _).trans (((cell_far (p:=⟨b2,_,none⟩) (by exact Nat.ne_of_lt (Nat.lt_of_lt_of_le (by have:=World.block_lt_of_cell? _ _ bC;exact this) bF.out)) _).trans (((cell_far (p:=⟨b2,_,none⟩) (by exact Nat.ne_of_lt (Nat.lt_of_lt_of_le (by have:=World.block_lt_of_cell? _ _ bC;exact this) bF.out)) _).trans (((cell_far (p:=⟨b2,_,none⟩) (by exact Nat.ne_of_lt (Nat.lt_of_lt_of_le (by have:=World.block_lt_of_cell? _ _ bC;exact this) bF.out)) _).trans (((cell_far (p:=⟨b2,_,none⟩) (by exact Nat.ne_of_lt (Nat.lt_of_lt_of_le (by have:=World.block_lt_of_cell? _ _ bC;exact this) bF.out)) _).trans (hHeld.2.2))))))))))))⟩ (fun hHeld=> ?_);clear hK K;refine cG 11 8 aV ?_;refine nF aV ?_
   try go_wp2
   go_loopg [5,9] k1 (fun kq v5 v9 w'=>∃(bV:List Int) (b9:Int),v9= .int .i64 b9∧ae (aJ.l1 kq l1 bV bH bW b9 ah al bQ bO bR bL bB bM=some r)∧ae (kq≤k1)∧ae (Kd.R (Kd.int .i64) 3 w' b0 (fun _=>True) v5 bV)∧ae (Kd.R (Kd.int .u8) 5 w' w.heap.size (fun _=>True) (.slice d4 bL.length d5) bL)∧ae (Kd.R fL 74 w' w.heap.size (fun _=>True) (.slice dE bB.length d6) bB)∧ae (Kd.R dn 101 w' w.heap.size (fun _=>True) (.slice d7 bM.length d8) bM)∧ae (w'.heap[bD]? =some (.cells #[(.slice bs ah.length bo),.int .i64 al] 26 (0,0)))∧ae (w'.heap[b2]? =some (.cells #[.int .i64 bQ,.int .i64 bO,.int .i64 bR,(.slice d4 bL.length d5),(.slice dE bB.length d6),(.slice d7 bM.length d8)] 32 (0,0)))∧ae (Below w.heap.size w w'))
   case atStart=>exact⟨(dD),(0),oS,H',⟨Nat.le_refl _⟩,⟨nM b8 b1⟩,⟨nM d1 b1⟩,⟨nM d2 b1⟩,⟨nM d3 b1⟩,⟨oF b3⟩,⟨oP b1⟩,⟨by repeat((with_reducible first|exact HB.out|refine a_ ?_ bN.out))⟩⟩
   case round=>
    clear H'
    try clear gG
    try clear jP
    try clear bY
    try clear dQ
    try clear dR
    obtain⟨bV,b9,rfl,HA,dJ,b8,b6,b5,b7,b3,b1,HB⟩:=hrel
    cases gk with
    |zero=>exact absurd HA.out (by simp[aJ.l1])
    |succ k2=>
     have H:=HA.out;clear HA;simp only[aJ.l1]at H;have gH:=ae.mk H;clear H
     go_upto_region 7 with(fail)
     go_cut [38] (fun zQ wc=>∃(kq:Nat) (dK:Bool),zQ= .bool dK∧ae (aJ.j2 kq l1 bV bH bW b9 dK ah al bQ bO bR bL bB bM=some r)∧ae (kq≤k2)∧ae (Kd.R (Kd.int .i64) 3 wc b0 (fun _=>True) u5 bV)∧ae (Kd.R (Kd.int .u8) 5 wc w.heap.size (fun _=>True) (.slice d4 bL.length d5) bL)∧ae (Kd.R fL 74 wc w.heap.size (fun _=>True) (.slice dE bB.length d6) bB)∧ae (Kd.R dn 101 wc w.heap.size (fun _=>True) (.slice d7 bM.length d8) bM)∧ae (wc.heap[bD]? =some (.cells #[(.slice bs ah.length bo),.int .i64 al] 26 (0,0)))∧ae (wc.heap[b2]? =some (.cells #[.int .i64 bQ,.int .i64 bO,.int .i64 bR,(.slice d4 bL.length d5),(.slice dE bB.length d6),(.slice d7 bM.length d8)] 32 (0,0)))∧ae (Below w.heap.size w wc))
     case first=>
      have H:=gH.out;clear gH
      by_cases dW:b9<(bB.length:Int)
      rotate_left
      ·rw[if_neg dW]at H;have dP:decide (b9<(bB.length:Int))=false:=decide_eq_false dW;clear dW
       (skip)
       have H':=ae.mk H;clear H;have zZ:=bG.out;have b10:=b4.out;have gO:wr.cell? ⟨b2,0,none⟩=some (.int .i64 bQ):=(aj b1.out 0).trans rfl;have gP:wr.cell? ⟨b2,1,none⟩=some (.int .i64 bO):=(aj b1.out 1).trans rfl;have gQ:wr.cell? ⟨b2,2,none⟩=some (.int .i64 bR):=(aj b1.out 2).trans rfl;have gR:wr.cell? ⟨b2,3,none⟩=some (.slice d4 bL.length d5):=(aj b1.out 3).trans rfl;have gS:wr.cell? ⟨b2,4,none⟩=some (.slice dE bB.length d6):=(aj b1.out 4).trans rfl;have gT:wr.cell? ⟨b2,5,none⟩=some (.slice d7 bM.length d8):=(aj b1.out 5).trans rfl;have gU:=aK b1.out 0;have gV:=aK b1.out 1;have gW:=aK b1.out 2;have gX:=aK b1.out 3;have gY:=aK b1.out 4;have gZ:=aK b1.out 5
       go_wp2
       go_meet
       case rel=>exact⟨_,(false),oS,H',⟨by have:=dI.out;have:=dJ.out;omega⟩,⟨b8.out⟩,⟨b6.out⟩,⟨b5.out⟩,⟨b7.out⟩,⟨oF b3⟩,⟨oF b1⟩,⟨HB.out⟩⟩
      rw[if_pos dW]at H;have dP:decide (b9<(bB.length:Int))=true:=decide_eq_true dW;clear dW
      (skip)
      by_cases gF:bW=true
      ·subst gF
       have H1:(aJ.j2 k2 l1 bV bH true b9 (bO==2) ah al bQ bO bR bL bB bM)=some r:=by rw[if_pos rfl]at H;exact H
       clear H;have H:=H1;clear H1;have H':=ae.mk H;clear H;have b11:=bG.out;have b12:=b4.out;have j1:wr.cell? ⟨b2,0,none⟩=some (.int .i64 bQ):=(aj b1.out 0).trans rfl;have j2:wr.cell? ⟨b2,1,none⟩=some (.int .i64 bO):=(aj b1.out 1).trans rfl;have j3:wr.cell? ⟨b2,2,none⟩=some (.int .i64 bR):=(aj b1.out 2).trans rfl;have j4:wr.cell? ⟨b2,3,none⟩=some (.slice d4 bL.length d5):=(aj b1.out 3).trans rfl;have j5:wr.cell? ⟨b2,4,none⟩=some (.slice dE bB.length d6):=(aj b1.out 4).trans rfl;have j6:wr.cell? ⟨b2,5,none⟩=some (.slice d7 bM.length d8):=(aj b1.out 5).trans rfl;have j7:=aK b1.out 0;have j8:=aK b1.out 1;have j9:=aK b1.out 2;have jA:=aK b1.out 3;have jB:=aK b1.out 4;have jC:=aK b1.out 5
       go_wp2
       go_meet
       case rel=>exact⟨_,((bO==2)),oS,H',⟨by have:=dI.out;have:=dJ.out;omega⟩,⟨b8.out⟩,⟨b6.out⟩,⟨b5.out⟩,⟨b7.out⟩,⟨oF b3⟩,⟨oF b1⟩,⟨HB.out⟩⟩
      replace gF:=Bool.eq_false_iff.mpr gF;subst gF
      have H1:(aJ.j2 k2 l1 bV bH false b9 false ah al bQ bO bR bL bB bM)=some r:=by rw[if_neg (show¬(false=true) by decide)]at H;exact H
      clear H;have H:=H1;clear H1;have H':=ae.mk H;clear H;have b13:=bG.out;have b14:=b4.out;have jD:wr.cell? ⟨b2,0,none⟩=some (.int .i64 bQ):=(aj b1.out 0).trans rfl;have jE:wr.cell? ⟨b2,1,none⟩=some (.int .i64 bO):=(aj b1.out 1).trans rfl;have jF:wr.cell? ⟨b2,2,none⟩=some (.int .i64 bR):=(aj b1.out 2).trans rfl;have jG:wr.cell? ⟨b2,3,none⟩=some (.slice d4 bL.length d5):=(aj b1.out 3).trans rfl;have jH:wr.cell? ⟨b2,4,none⟩=some (.slice dE bB.length d6):=(aj b1.out 4).trans rfl;have jI:wr.cell? ⟨b2,5,none⟩=some (.slice d7 bM.length d8):=(aj b1.out 5).trans rfl;have jJ:=aK b1.out 0;have jK:=aK b1.out 1;have jL:=aK b1.out 2;have jM:=aK b1.out 3;have jN:=aK b1.out 4;have jO:=aK b1.out 5
      go_wp2
      go_meet
      case rel=>exact⟨_,(false),oS,H',⟨by have:=dI.out;have:=dJ.out;omega⟩,⟨b8.out⟩,⟨b6.out⟩,⟨b5.out⟩,⟨b7.out⟩,⟨oF b3⟩,⟨oF b1⟩,⟨HB.out⟩⟩
     case rest=>
      clear gH;obtain⟨kq,dK,rfl,HA,dL,b8,b6,b5,b7,b3,b1,HB⟩:=hcut
      cases kq with
      |zero=>exact absurd HA.out (by simp[aJ.j2])
      |succ pl=>
       have H:=HA.out;clear HA;simp only[aJ.j2]at H
       by_cases gN:dK=true
       rotate_left
       ·replace gN:=Bool.eq_false_iff.mpr gN;subst gN
        have H1:(aJ.l0 pl l1 bV (wrap64 (bH+1)) ah al)=some r:=by rw[if_neg (show¬(false=true) by decide)]at H;exact H
        clear H;have H:=H1;clear H1;have H':=ae.mk H;clear H
        go_wp2
        go_roundg pl
        case measure=>have:=dI.out;have:=dJ.out;have:=dL.out;omega
        case rel=>exact⟨(bV),(wrap64 (bH+1)),oS,H',⟨by have:=dI.out;have:=dJ.out;have:=dL.out;omega⟩,⟨b8.out⟩,⟨oF b3⟩,⟨HB.out⟩⟩
       subst gN
       have H1:(if 0≤b9 then(if b9<(bB.length:Int)then((da.f pl ah al ((aA bB b9).f1)).bind fun dC=>(if dC≥0 then((di.f pl bV ((aA bB b9).f1)).bind fun dF=>(aJ.l1 pl l1 dF bH bW (wrap64 (b9+1)) ah al bQ bO bR bL bB bM))else(aJ.l1 pl l1 bV bH bW (wrap64 (b9+1)) ah al bQ bO bR bL bB bM)))else(none))else(none))=some r:=by rw[if_pos rfl]at H;exact H
       clear H;have H:=H1;clear H1;obtain⟨mC,H⟩:=jm H;have b15:decide (0≤b9)=true:=decide_eq_true mC;clear mC;obtain⟨mD,H⟩:=jm H;have b16:decide (b9<(bB.length:Int))=true:=decide_eq_true mD;clear mD;replace H:=Option.bind_eq_some_iff.mp H;obtain⟨dC,jU,H⟩:=H;replace H:(if dC≥0 then((di.f pl bV ((aA bB b9).f1)).bind fun dF=>(aJ.l1 pl l1 dF bH bW (wrap64 (b9+1)) ah al bQ bO bR bL bB bM))else(aJ.l1 pl l1 bV bH bW (wrap64 (b9+1)) ah al bQ bO bR bL bB bM))=some r:=H;have mE:=ae.mk jU;clear jU
       by_cases dX:dC≥0
       rotate_left
       ·rw[if_neg dX]at H;have jX:decide (0≤dC)=false:=decide_eq_false dX;clear dX;have H':=ae.mk H;clear H
        try go_wp2
        have bI:=am (Kd.b_ b8.out);have bJ:=am (Kd.b_ b6.out);have bK:=am (Kd.b_ b5.out);have bP:=am (Kd.b_ b7.out);have bS:=am (ar b3.out);have bT:=am (ar b1.out);have bU:=am (bl HB.out);clear b8;clear b6;clear b5;clear b7;clear b3;clear b1;clear HB;have b8:=bI;have b6:=bJ;have b5:=bK;have b7:=bP;have b3:=bS;have b1:=bT;have HB:=bU;clear bI bJ bK bP bS bT bU;have dG:0≤(b9:Int):=oa;have dH:b9<(bB.length:Int):=oa;obtain⟨bX,gI,d9,dA⟩:=ec (Kd.aU b5.out).2.2 b9 dG dH
        cases gI
        replace dG:=eq_true dG;replace dH:=eq_true dH;refine qS 9 (fun w'=>w'.cell? ⟨bD,0,none⟩=some (.slice bs ah.length bo)∧w'.cell? ⟨bD,1,none⟩=some (.int .i64 al)∧w'.cell? ⟨b2,0,none⟩=some (.int .i64 bQ)∧w'.cell? ⟨b2,1,none⟩=some (.int .i64 bO)∧w'.cell? ⟨b2,2,none⟩=some (.int .i64 bR)∧w'.cell? ⟨b2,3,none⟩=some (.slice d4 bL.length d5)∧w'.cell? ⟨b2,4,none⟩=some (.slice (some bX) bB.length d6)∧w'.cell? ⟨b2,5,none⟩=some (.slice d7 bM.length d8)∧w'.cell? (bX.add ((b9).toNat*2))=some (.string ((aA bB b9).f0))∧w'.cell? ⟨(bX.add ((b9).toNat*2)).block,(bX.add ((b9).toNat*2)).off+1,none⟩=some (.int .i64 ((aA bB b9).f1))) aJ.aaM aJ.uv ⟨(aj b3.out 0).trans rfl,(aj b3.out 1).trans rfl,(aj b1.out 0).trans rfl,(aj b1.out 1).trans rfl,(aj b1.out 2).trans rfl,(aj b1.out 3).trans rfl,(aj b1.out 4).trans rfl,(aj b1.out 5).trans rfl,d9,dA⟩ (fun hHeld aV fA=> ?_);generalize wc.drew=w43 at b8 b6 b5 b7 b3 b1 HB d9 dA hHeld⊢;refine cG 1 42 aV ?_;refine cG 3 44 aV ?_;refine iA 0 41 aV fA hHeld ?_;refine iA 2 43 aV fA hHeld ?_;refine cG 4 45 aV ?_;refine cG 5 46 aV ?_;refine iA 6 47 aV fA hHeld ?_;refine jg 7 48 aV (fun K hK=> ?_);refine sn func99 (by kernel_rfl) rfl #[.agg #[.slice bs ah.length bo,.int .i64 al],.int .i64 ((aA bB b9).f1)] (by rfl) rfl rfl oL ?_
        with_reducible refine(da.calls pl _ _ ah al ((aA bB b9).f1) dC _ ?aC ?bh mE.out).mono ?_
        (case aC=>repeat(exact(Kd.cR dN.out HB.out)))
        (case bh=>exact dO.out)
        rintro e w44 ⟨rfl,hb⟩;have gJ:=(hb.cell (World.block_lt_of_cell? _ _ (hHeld.2.2.2.2.2.2.2.2.1))).trans (hHeld.2.2.2.2.2.2.2.2.1);have gK:=(hb.cell (World.block_lt_of_cell? _ _ (hHeld.2.2.2.2.2.2.2.2.2))).trans (hHeld.2.2.2.2.2.2.2.2.2);refine⟨_,rfl,?_⟩;have bI:=ni b8 hb;have bJ:=ni b6 hb;have bK:=ni b5 hb;have bP:=ni b7 hb;have bS:=ba b3 hb;have bT:=ba b1 hb;have bU:=am (gr HB.out hb);clear b8;clear b6;clear b5;clear b7;clear b3;clear b1;clear HB;have b8:=bI;have b6:=bJ;have b5:=bK;have b7:=bP;have b3:=bS;have b1:=bT;have HB:=bU;clear bI bJ bK bP bS bT bU
        (try clear hb)
        refine aZ hK 48 ⟨(aj b3.out 0).trans rfl,(aj b3.out 1).trans rfl,(aj b1.out 0).trans rfl,(aj b1.out 1).trans rfl,(aj b1.out 2).trans rfl,(aj b1.out 3).trans rfl,(aj b1.out 4).trans rfl,(aj b1.out 5).trans rfl,gJ,gK⟩ (fun hHeld=> ?_);clear hK K;refine cG 8 49 aV ?_;refine nF aV ?_
        try go_wp2
        go_roundg pl
        case measure=>have:=dI.out;have:=dJ.out;have:=dL.out;omega
        case rel=>exact⟨(bV),(wrap64 (b9+1)),oS,H',⟨by have:=dI.out;have:=dJ.out;have:=dL.out;omega⟩,⟨b8.out⟩,⟨b6.out⟩,⟨b5.out⟩,⟨b7.out⟩,⟨oF b3⟩,⟨oF b1⟩,⟨HB.out⟩⟩
       rw[if_pos dX]at H;have jX:decide (0≤dC)=true:=decide_eq_true dX;clear dX;replace H:=Option.bind_eq_some_iff.mp H;obtain⟨dF,jV,H⟩:=H;replace H:(aJ.l1 pl l1 dF bH bW (wrap64 (b9+1)) ah al bQ bO bR bL bB bM)=some r:=H;have zR:=ae.mk jV;clear jV;have H':=ae.mk H;clear H
       try go_wp2
       have bI:=am (Kd.b_ b8.out);have bJ:=am (Kd.b_ b6.out);have bK:=am (Kd.b_ b5.out);have bP:=am (Kd.b_ b7.out);have bS:=am (ar b3.out);have bT:=am (ar b1.out);have bU:=am (bl HB.out);clear b8;clear b6;clear b5;clear b7;clear b3;clear b1;clear HB;have b8:=bI;have b6:=bJ;have b5:=bK;have b7:=bP;have b3:=bS;have b1:=bT;have HB:=bU;clear bI bJ bK bP bS bT bU;have dG:0≤(b9:Int):=oa;have dH:b9<(bB.length:Int):=oa;obtain⟨bX,gI,d9,dA⟩:=ec (Kd.aU b5.out).2.2 b9 dG dH
       cases gI
       replace dG:=eq_true dG;replace dH:=eq_true dH;refine qS 9 (fun w'=>w'.cell? ⟨bD,0,none⟩=some (.slice bs ah.length bo)∧w'.cell? ⟨bD,1,none⟩=some (.int .i64 al)∧w'.cell? ⟨b2,0,none⟩=some (.int .i64 bQ)∧w'.cell? ⟨b2,1,none⟩=some (.int .i64 bO)∧w'.cell? ⟨b2,2,none⟩=some (.int .i64 bR)∧w'.cell? ⟨b2,3,none⟩=some (.slice d4 bL.length d5)∧w'.cell? ⟨b2,4,none⟩=some (.slice (some bX) bB.length d6)∧w'.cell? ⟨b2,5,none⟩=some (.slice d7 bM.length d8)∧w'.cell? (bX.add ((b9).toNat*2))=some (.string ((aA bB b9).f0))∧w'.cell? ⟨(bX.add ((b9).toNat*2)).block,(bX.add ((b9).toNat*2)).off+1,none⟩=some (.int .i64 ((aA bB b9).f1))) aJ.aaM aJ.uv ⟨(aj b3.out 0).trans rfl,(aj b3.out 1).trans rfl,(aj b1.out 0).trans rfl,(aj b1.out 1).trans rfl,(aj b1.out 2).trans rfl,(aj b1.out 3).trans rfl,(aj b1.out 4).trans rfl,(aj b1.out 5).trans rfl,d9,dA⟩ (fun hHeld aV fA=> ?_);generalize wc.drew=w37 at b8 b6 b5 b7 b3 b1 HB d9 dA hHeld⊢;refine cG 1 42 aV ?_;refine cG 3 44 aV ?_;refine iA 0 41 aV fA hHeld ?_;refine iA 2 43 aV fA hHeld ?_;refine cG 4 45 aV ?_;refine cG 5 46 aV ?_;refine iA 6 47 aV fA hHeld ?_;refine jg 7 48 aV (fun K hK=> ?_);refine sn func99 (by kernel_rfl) rfl #[.agg #[.slice bs ah.length bo,.int .i64 al],.int .i64 ((aA bB b9).f1)] (by rfl) rfl rfl oL ?_
       with_reducible refine(da.calls pl _ _ ah al ((aA bB b9).f1) dC _ ?aC ?bh mE.out).mono ?_
       (case aC=>repeat(exact(Kd.cR dN.out HB.out)))
       (case bh=>exact dO.out)
       rintro e dY ⟨rfl,hb⟩;have gJ:=(hb.cell (World.block_lt_of_cell? _ _ (hHeld.2.2.2.2.2.2.2.2.1))).trans (hHeld.2.2.2.2.2.2.2.2.1);have gK:=(hb.cell (World.block_lt_of_cell? _ _ (hHeld.2.2.2.2.2.2.2.2.2))).trans (hHeld.2.2.2.2.2.2.2.2.2);refine⟨_,rfl,?_⟩;have bI:=ni b8 hb;have bJ:=ni b6 hb;have bK:=ni b5 hb;have bP:=ni b7 hb;have bS:=ba b3 hb;have bT:=ba b1 hb;have bU:=am (gr HB.out hb);clear b8;clear b6;clear b5;clear b7;clear b3;clear b1;clear HB;have b8:=bI;have b6:=bJ;have b5:=bK;have b7:=bP;have b3:=bS;have b1:=bT;have HB:=bU;clear bI bJ bK bP bS bT bU
       (try clear hb)
       refine aZ hK 48 ⟨(aj b3.out 0).trans rfl,(aj b3.out 1).trans rfl,(aj b1.out 0).trans rfl,(aj b1.out 1).trans rfl,(aj b1.out 2).trans rfl,(aj b1.out 3).trans rfl,(aj b1.out 4).trans rfl,(aj b1.out 5).trans rfl,gJ,gK⟩ (fun hHeld=> ?_);clear hK K;refine cG 8 49 aV ?_;refine nF aV ?_;have b17:=bG.out;have b18:=b4.out;have mY:dY.cell? ⟨b2,0,none⟩=some (.int .i64 bQ):=(aj b1.out 0).trans rfl;have mZ:dY.cell? ⟨b2,1,none⟩=some (.int .i64 bO):=(aj b1.out 1).trans rfl;have zA:dY.cell? ⟨b2,2,none⟩=some (.int .i64 bR):=(aj b1.out 2).trans rfl;have zB:dY.cell? ⟨b2,3,none⟩=some (.slice d4 bL.length d5):=(aj b1.out 3).trans rfl;have zC:dY.cell? ⟨b2,4,none⟩=some (.slice (some bX) bB.length d6):=(aj b1.out 4).trans rfl;have zD:dY.cell? ⟨b2,5,none⟩=some (.slice d7 bM.length d8):=(aj b1.out 5).trans rfl;have zE:=aK b1.out 0;have zF:=aK b1.out 1;have zG:=aK b1.out 2;have zH:=aK b1.out 3;have zI:=aK b1.out 4;have zJ:=aK b1.out 5;have gL:0≤(b9:Int):=oa;have gM:b9<(bB.length:Int):=oa;obtain⟨jY,mH,zK,zL⟩:=ec (Kd.aU b5.out).2.2 b9 gL gM;obtain rfl:bX=jY:=(by injection mH);replace gL:=eq_true gL;replace gM:=eq_true gM;obtain⟨mI,mJ,mK⟩:=Kd.ao b8.out;subst mK
       try go_wp2_with (((with_reducible refine ag (f:=191) rfl ?_);refine sN (some 57) rfl rfl func191 (by kernel_rfl) rfl #[.slice mI bV.length mJ,.int .i64 ((aA bB b9).f1)] rfl oL ?_;(with_reducible refine(di.calls pl _ _ bV ((aA bB b9).f1) dF b0 _ ?aC ?bh zR.out).mono ?_);(case aC=>exact Nat.le_trans zN.out (af oB));(case bh=>exact(wK b8));rintro e w42 ⟨b1H,rfl,dM,hb⟩;refine⟨_,rfl,?_⟩;have bI:=ni b8 hb;have bJ:=ni b6 hb;have bK:=ni b5 hb;have bP:=ni b7 hb;have bS:=ae.mk dM;have bT:=ba b3 hb;have bU:=ba b1 hb;have dB:=am (gr HB.out hb);clear b8;clear b6;clear b5;clear b7;clear b3;clear b1;clear HB;have b8:=bI;have b6:=bJ;have b5:=bK;have b7:=bP;have jZ:=bS;have b3:=bT;have b1:=bU;have HB:=dB;clear bI bJ bK bP bS bT bU dB;(try clear hb);(try clear dM)))
       go_roundg pl
       case measure=>have:=dI.out;have:=dJ.out;have:=dL.out;omega
       case rel=>exact⟨(dF),(wrap64 (b9+1)),oS,H',⟨by have:=dI.out;have:=dJ.out;have:=dL.out;omega⟩,⟨mR jZ⟩,⟨b6.out⟩,⟨b5.out⟩,⟨b7.out⟩,⟨oF b3⟩,⟨oF b1⟩,⟨HB.out⟩⟩

mutual
def aH.l0:Nat→ByteArray→List ByteArray→Int→Int→Option (List ByteArray×Bool)
 |0,_,_,_,_=>none
 |k+1,x0,x4,x5,x6=>if x6≤(x0.size:Int)then(if x6<(x0.size:Int)then(if 0≤x6 then(aH.j1 k x0 x4 x5 x6 ((bt x0 x6) !=47))else(none))else(aH.j1 k x0 x4 x5 x6 false))else(if(x0.size:Int)=0 then(some ((([]:List ByteArray)),false))else(if 0<(x0.size:Int)then(if(bt x0 0)=47 then(some (x4,true))else(some ((([]:List ByteArray)),false)))else(none)))
def aH.j1:Nat→ByteArray→List ByteArray→Int→Int→Bool→Option (List ByteArray×Bool)
 |0,_,_,_,_,_=>none
 |k+1,x0,x4,x5,x6,b2=>if b2=true then(aH.l0 k x0 x4 x5 (wrap64 (x6+1)))else(if x6>0 then(if 0≤x5 then(if x5≤x6 then(if x6≤(x0.size:Int)then((aY.f k (x0.extract (x5:Int).toNat (x6:Int).toNat)).bind fun b1=>(if b1=true then(if(x4.length:Int)=30 then(some ((([]:List ByteArray)),false))else(if x4.length<8796093022208 then(aH.l0 k x0 (x4++[x0.extract (x5:Int).toNat (x6:Int).toNat]) (wrap64 (x6+1)) (wrap64 (x6+1)))else(none)))else(some ((([]:List ByteArray)),false))))else(none))else(none))else(none))else(aH.l0 k x0 x4 (wrap64 (x6+1)) (wrap64 (x6+1))))
end
def aH.f (k:Nat) (a0:ByteArray):Option (List ByteArray×Bool):=(some (([]:List ByteArray):List ByteArray)).bind fun b1=>(if a0.toList=([47]:List UInt8)then(some (b1,true))else(aH.l0 k a0 b1 0 0))
theorem aH.calls (k:Nat) (a0:ByteArray) (r1:List ByteArray) (r2:Bool) (w:World) (h:aH.f k a0=some (r1,r2)):
  Calls Tryz.prog 84 #[.string a0] w fun e w'=>∃fy:Value,e= .returned (.tuple #[fy,.bool r2])∧Kd.R Kd.string 9 w' w.heap.size (fun _=>True) fy r1∧Below w.heap.size w w':=by
 have HB:=am (Below.refl w.heap.size w);unfold aH.f at h;have H:=h;clear h;obtain⟨bK,cx⟩:∃y_:List ByteArray,y_=(([]:List ByteArray)):=⟨_,rfl⟩;replace H:(if a0.toList=([47]:List UInt8)then(some (bK,true))else(aH.l0 k a0 bK 0 0))=some (r1,r2):=oY;have bO:=ae.mk cx;clear cx;have dF:=ae.mk H;clear H
 go_enter func84,ntmps84
 go_upto_if 10 with(((with_reducible refine au (N:=8) rfl ?_);(try(refine c_ (by rfl) ?_;dsimp only));refine Kd.gu Kd.string _ 9 ?hg (N:=8) ?hd (xs:=([]:List ByteArray)) (inner:=[]) (ok:=fun _=>True) (fw:=fun _=>True) ?hr ?hp (fun _ hk=>hk) trivial (Below.refl _ _) (Nat.le_refl _) (by simp) ?_;(case hd=>rfl);(case hg=>rfl);(case hr=>(go_simp;done));(case hp=>exact(bp.none _ _));intro gB w3 bI hb fN cj;clear fN cj;(rw[←bO.out]at bI);have bP:=am (Kd.aq bI (af oB));replace HB:=hB HB hb;clear hb bI))
 have H:=dF.out;clear dF
 by_cases c5:a0.toList=([47]:List UInt8)
 ·rw[if_pos c5]at H;have bL:(a0.toList==([47]:List UInt8))=true:=beq_iff_eq.mpr c5;have bM:(a0.toList !=([47]:List UInt8))=false:=bne_eq_false_iff_eq.mpr c5;clear c5
  (rw[bL])
  simp only[Option.some.injEq,Prod.mk.injEq]at H;obtain⟨rfl,rfl⟩:=H
  go_wp2
  go_ret2
  exact⟨_,oE,oR bP,oB⟩
 rw[if_neg c5]at H;have bL:(a0.toList==([47]:List UInt8))=false:=beq_eq_false_iff_ne.mpr c5;have bM:(a0.toList !=([47]:List UInt8))=true:=bne_iff_ne.mpr c5
 (rw[bL])
 have H':=ae.mk H;clear H
 go_wp2
 go_loopg [4,5,6] k (fun kq v4 v5 v6 w'=>∃(b3:List ByteArray) (b4:Int) (b1:Int),v5= .int .i64 b4∧v6= .int .i64 b1∧ae (aH.l0 kq a0 b3 b4 b1=some (r1,r2))∧ae (kq≤k)∧ae (Kd.R Kd.string 9 w' w.heap.size (fun _=>True) v4 b3)∧ae (Below w.heap.size w w'))
 case atStart=>exact⟨(bK),(0),(0),oS,oS,H',⟨Nat.le_refl _⟩,⟨oR bP⟩,⟨oB⟩⟩
 case round=>
  clear H'
  try clear c5
  obtain⟨b3,b4,b1,rfl,rfl,HA,b9,b2,HB⟩:=hrel
  cases gk with
  |zero=>exact absurd HA.out (by simp[aH.l0])
  |succ k1=>
   have H:=HA.out;clear HA;simp only[aH.l0]at H;replace H:=kU H;rcases H with⟨bU,H⟩|⟨bU,H⟩;rotate_left
   ·by_cases bB:(a0.size:Int)=0
    ·rw[if_pos bB]at H;have d3:((a0.size:Int)==0)=true:=beq_iff_eq.mpr bB;have d4:((a0.size:Int) !=0)=false:=bne_eq_false_iff_eq.mpr bB;clear bB;obtain⟨dJ,cx⟩:∃y_:List ByteArray,y_=(([]:List ByteArray)):=⟨_,rfl⟩;replace H:(some (dJ,false))=some (r1,r2):=oY;have bQ:=ae.mk cx;clear cx;simp only[Option.some.injEq,Prod.mk.injEq]at H;obtain⟨rfl,rfl⟩:=H
     go_wp2_with (((with_reducible refine au (N:=57) rfl ?_);(try(refine c_ (by rfl) ?_;dsimp only));refine Kd.gu Kd.string _ 9 ?hg (N:=57) ?hd (xs:=([]:List ByteArray)) (inner:=[]) (ok:=fun _=>True) (fw:=fun _=>True) ?hr ?hp (fun _ hk=>hk) trivial (Below.refl _ _) (Nat.le_refl _) (by simp) ?_;(case hd=>rfl);(case hg=>rfl);(case hr=>(go_simp;done));(case hp=>exact(bp.none _ _));intro gC gK b5 hb fN cj;clear fN cj;(rw[←bQ.out]at b5);have d5:=am (Kd.aq (Kd.eS b5 (iO b2)) (af oB));replace b2:=sb b2 b5 hb;replace HB:=hB HB hb;clear hb b5))
     go_ret2
     exact⟨_,oE,mR d5,oB⟩
    rw[if_neg bB]at H;have d3:((a0.size:Int)==0)=false:=beq_eq_false_iff_ne.mpr bB;have d4:((a0.size:Int) !=0)=true:=bne_iff_ne.mpr bB;obtain⟨dG,H⟩:=jm H;have dT:decide (0<(a0.size:Int))=true:=decide_eq_true dG;have dU:decide (0<a0.size)=true:=decide_eq_true (by omega);clear dG
    by_cases bC:(bt a0 0)=47
    ·rw[if_pos bC]at H;have d6:((bt a0 0)==47)=true:=beq_iff_eq.mpr bC;have d7:((bt a0 0) !=47)=false:=bne_eq_false_iff_eq.mpr bC;clear bC;simp only[Option.some.injEq,Prod.mk.injEq]at H;obtain⟨rfl,rfl⟩:=H;have bV:0≤(0:Int):=(by omega);have bJ:0<a0.size:=(by have:(0:Int)<(a0.size:Int):=oa;omega);have dK:∀h:0<a0.size,((a0[0]'h).toNat:Int)=bt a0 0:=iq a0 0;clear bV;have dL:(0<(a0.size:Int))=True:=eq_true oa;replace bJ:=eq_true bJ
     go_wp2
     go_ret2
     exact⟨_,oE,oR b2,oB⟩
    rw[if_neg bC]at H;have d6:((bt a0 0)==47)=false:=beq_eq_false_iff_ne.mpr bC;have d7:((bt a0 0) !=47)=true:=bne_iff_ne.mpr bC;obtain⟨dM,cx⟩:∃y_:List ByteArray,y_=(([]:List ByteArray)):=⟨_,rfl⟩;replace H:(some (dM,false))=some (r1,r2):=oY;have bR:=ae.mk cx;clear cx;simp only[Option.some.injEq,Prod.mk.injEq]at H;obtain⟨rfl,rfl⟩:=H;have bV:0≤(0:Int):=(by omega);have bJ:0<a0.size:=(by have:(0:Int)<(a0.size:Int):=oa;omega);have dK:∀h:0<a0.size,((a0[0]'h).toNat:Int)=bt a0 0:=iq a0 0;clear bV;have dL:(0<(a0.size:Int))=True:=eq_true oa;replace bJ:=eq_true bJ
    go_wp2_with (((with_reducible refine au (N:=57) rfl ?_);(try(refine c_ (by rfl) ?_;dsimp only));refine Kd.gu Kd.string _ 9 ?hg (N:=57) ?hd (xs:=([]:List ByteArray)) (inner:=[]) (ok:=fun _=>True) (fw:=fun _=>True) ?hr ?hp (fun _ hk=>hk) trivial (Below.refl _ _) (Nat.le_refl _) (by simp) ?_;(case hd=>rfl);(case hg=>rfl);(case hr=>(go_simp;done));(case hp=>exact(bp.none _ _));intro gD gL b6 hb fN cj;clear fN cj;(rw[←bR.out]at b6);have d8:=am (Kd.aq (Kd.eS b6 (iO b2)) (af oB));replace b2:=sb b2 b6 hb;replace HB:=hB HB hb;clear hb b6))
    go_ret2
    exact⟨_,oE,mR d8,oB⟩
   have bW:=ae.mk H;clear H
   go_upto_region 8 with(fail)
   go_cut [27] (fun dS wc=>∃(kq:Nat) (bF:Bool),dS= .bool bF∧ae (aH.j1 kq a0 b3 b4 b1 bF=some (r1,r2))∧ae (kq≤k1)∧ae (Kd.R Kd.string 9 wc w.heap.size (fun _=>True) u4 b3)∧ae (Below w.heap.size w wc))
   case first=>
    have H:=bW.out;clear bW;replace H:=kU H;rcases H with⟨bN,H⟩|⟨bN,H⟩;rotate_left
    ·(skip)
     have H':=ae.mk H;clear H
     go_wp2
     go_meet
     case rel=>exact⟨_,(false),oS,H',⟨by have:=b9.out;omega⟩,⟨oR b2⟩,⟨oB⟩⟩
    (skip)
    obtain⟨gE,H⟩:=dw H;have H':=ae.mk H;clear H;have gM:(0≤(b1:Int))=True:=oT;have gN:(b1<(a0.size:Int))=True:=oT;have gF:=iq a0 b1
    go_wp2
    go_meet
    case rel=>exact⟨_,(((bt a0 b1) !=47)),oS,H',⟨by have:=b9.out;omega⟩,⟨oR b2⟩,⟨oB⟩⟩
   case rest=>
    clear bW
    try clear bU
    obtain⟨kq,bF,rfl,HA,bE,b2,HB⟩:=hcut
    cases kq with
    |zero=>exact absurd HA.out (by simp[aH.j1])
    |succ kj6=>
     have H:=HA.out;clear HA;simp only[aH.j1]at H;replace H:=jl H;rcases H with⟨rfl,H⟩|⟨rfl,H⟩
     ·have H':=ae.mk H;clear H
      go_wp2
      go_roundg kj6
      case measure=>have:=b9.out;have:=bE.out;omega
      case rel=>exact⟨(b3),(b4),(wrap64 (b1+1)),oS,oS,H',⟨by have:=b9.out;have:=bE.out;omega⟩,⟨oR b2⟩,⟨oB⟩⟩
     replace H:=ym H;rcases H with⟨d9,H⟩|⟨d9,H⟩;rotate_left
     ·have H':=ae.mk H;clear H
      go_wp2
      go_roundg kj6
      case measure=>have:=b9.out;have:=bE.out;omega
      case rel=>exact⟨(b3),(wrap64 (b1+1)),(wrap64 (b1+1)),oS,oS,H',⟨by have:=b9.out;have:=bE.out;omega⟩,⟨oR b2⟩,⟨oB⟩⟩
     obtain⟨bX,H⟩:=jm H;have dV:=eq_true bX;have dW:decide (0≤b4)=true:=decide_eq_true bX;clear bX;obtain⟨bY,H⟩:=jm H;have dX:=eq_true bY;have dY:decide (b4≤b1)=true:=decide_eq_true bY;clear bY;obtain⟨bZ,H⟩:=jm H;have dZ:=eq_true bZ;have gA:decide (b1≤(a0.size:Int))=true:=decide_eq_true bZ;clear bZ;replace H:=bA H;obtain⟨gG,dH,H⟩:=H;replace H:=jl H;rcases H with⟨rfl,H⟩|⟨rfl,H⟩;rotate_left
     ·obtain⟨dN,cx⟩:∃y_:List ByteArray,y_=(([]:List ByteArray)):=⟨_,rfl⟩;replace H:(some (dN,false))=some (r1,r2):=oY;have bS:=ae.mk cx;clear cx;simp only[Option.some.injEq,Prod.mk.injEq]at H;obtain⟨rfl,rfl⟩:=H
      go_wp2_with (first|((with_reducible refine ag (f:=94) rfl ?_);refine dk 35 func94 (aY.calls kj6 (a0.extract (b4:Int).toNat (b1:Int).toNat) false _ dH.out) ?_;rintro e w' ⟨rfl,⟨nd,rfl⟩⟩;refine⟨_,rfl,?_⟩)|((with_reducible refine au (N:=42) rfl ?_);(try(refine c_ (by rfl) ?_;dsimp only));refine Kd.gu Kd.string _ 9 ?hg (N:=42) ?hd (xs:=([]:List ByteArray)) (inner:=[]) (ok:=fun _=>True) (fw:=fun _=>True) ?hr ?hp (fun _ hk=>hk) trivial (Below.refl _ _) (Nat.le_refl _) (by simp) ?_;(case hd=>rfl);(case hg=>rfl);(case hr=>(go_simp;done));(case hp=>exact(bp.none _ _));intro gH gO b7 hb fN cj;clear fN cj;(rw[←bS.out]at b7);have dA:=am (Kd.aq (Kd.eS b7 (iO b2)) (af oB));replace b2:=sb b2 b7 hb;replace HB:=hB HB hb;clear hb b7))
      go_ret2
      exact⟨_,oE,mR dA,oB⟩
     have d1:=ae.mk H;clear H
     go_upto_if 41 with(((with_reducible refine ag (f:=94) rfl ?_);refine dk 35 func94 (aY.calls kj6 (a0.extract (b4:Int).toNat (b1:Int).toNat) true _ dH.out) ?_;rintro e w' ⟨rfl,⟨nd,rfl⟩⟩;refine⟨_,rfl,?_⟩;obtain⟨dO,dP,dQ⟩:=Kd.ao b2.out;subst dQ))
     have H:=d1.out;clear d1
     by_cases bD:(b3.length:Int)=30
     ·rw[if_pos bD]at H;have bG:((b3.length:Int)==30)=true:=beq_iff_eq.mpr bD;have bH:((b3.length:Int) !=30)=false:=bne_eq_false_iff_eq.mpr bD;clear bD
      (rw[bG])
      obtain⟨dR,cx⟩:∃y_:List ByteArray,y_=(([]:List ByteArray)):=⟨_,rfl⟩;replace H:(some (dR,false))=some (r1,r2):=oY;have bT:=ae.mk cx;clear cx;simp only[Option.some.injEq,Prod.mk.injEq]at H;obtain⟨rfl,rfl⟩:=H
      go_wp2_with (((with_reducible refine au (N:=42) rfl ?_);(try(refine c_ (by rfl) ?_;dsimp only));refine Kd.gu Kd.string _ 9 ?hg (N:=42) ?hd (xs:=([]:List ByteArray)) (inner:=[]) (ok:=fun _=>True) (fw:=fun _=>True) ?hr ?hp (fun _ hk=>hk) trivial (Below.refl _ _) (Nat.le_refl _) (by simp) ?_;(case hd=>rfl);(case hg=>rfl);(case hr=>(go_simp;done));(case hp=>exact(bp.none _ _));intro gI gP b8 hb fN cj;clear fN cj;(rw[←bT.out]at b8);have dB:=am (Kd.aq (Kd.eS b8 (iO b2)) (af oB));replace b2:=sb b2 b8 hb;replace HB:=hB HB hb;clear hb b8))
      go_ret2
      exact⟨_,oE,mR dB,oB⟩
     rw[if_neg bD]at H;have bG:((b3.length:Int)==30)=false:=beq_eq_false_iff_ne.mpr bD;have bH:((b3.length:Int) !=30)=true:=bne_iff_ne.mpr bD
     (rw[bG])
     obtain⟨dI,H⟩:=jm H;have dC:=ae.mk dI;clear dI;obtain⟨d2,cx⟩:∃y_:List ByteArray,y_=(b3++[a0.extract (b4:Int).toNat (b1:Int).toNat]):=⟨_,rfl⟩;replace H:(aH.l0 kj6 a0 d2 (wrap64 (b1+1)) (wrap64 (b1+1)))=some (r1,r2):=oY;have dD:=ae.mk cx;clear cx;have H':=ae.mk H;clear H
     go_wp2_with (((with_reducible refine cX (b:= .append) (xs:= #[.tmp 43,.tmp 45]) rfl ?_);(try(refine c_ (by rfl) ?_;dsimp only));at_builtin;refine Kd.iN Kd.string (w0:=w) w.heap.size rfl (.tmp 43) (.tmp 45) 35 9 (.string ⟨#[]⟩) 16 rfl underlying35 info9 rfl (by decide) (by omega) (.slice dO b3.length dP) b3 (a0.extract (b4:Int).toNat (b1:Int).toNat) [.string (a0.extract (b4:Int).toNat (b1:Int).toNat)] (fun _=>True) (fun _=>False) rfl rfl ?aP (fun _ hk=>hk.elim) ?aF ?aO ?aB ?aS ?aL ?_;(case aP=>exact rfl);(case aB=>exact oB);(case aF=>exact(fun _ _=>trivial));(case aO=>exact(oR b2));(case aS=>exact(af oB));(case aL=>have:=dC.out;omega);intro gJ gQ ho hb hg hat;rw[←dD.out]at ho;have dE:=am (ho);replace HB:=am (hb);clear b2;clear ho hb hg hat))
     go_roundg kj6
     case measure=>have:=b9.out;have:=bE.out;omega
     case rel=>exact⟨(d2),(wrap64 (b1+1)),(wrap64 (b1+1)),oS,oS,H',⟨by have:=b9.out;have:=bE.out;omega⟩,⟨oR dE⟩,⟨oB⟩⟩

def dy.l0:Nat→List (cD)→Int→Option (Bool)
 |0,_,_=>none
 |k+1,x0,x3=>if x3<(x0.length:Int)then(if 0≤x3 then((aY.f k ((aA x0 x3).f0)).bind fun b1=>(if b1=true then((bg.f ((aA x0 x3).f1) 2 1000).bind fun b2=>(if b2=true then(if x3>0 then(if 0≤(wrap64 (x3-1))then(if(wrap64 (x3-1))<(x0.length:Int)then(if((Op.bytesLess (((aA x0 (wrap64 (x3-1))).f0).toList) (((aA x0 x3).f0).toList))=true)then(dy.l0 k x0 (wrap64 (x3+1)))else(some false))else(none))else(none))else(dy.l0 k x0 (wrap64 (x3+1))))else(some false)))else(some false)))else(none))else(some (decide ((x0.length:Int)≤10)))
def dy.f (k:Nat) (l0:List (cD)):Option (Bool):=dy.l0 k l0 0
theorem dy.calls (k:Nat) (A0:Option Addr) (c0:Nat) (l0:List (cD)) (r:Bool) (w:World) (hr0:Kd.C fL w A0 l0.length l0) (hc0:l0.length≤c0) (h:dy.f k l0=some r):
  Calls Tryz.prog 123 #[.slice A0 l0.length c0] w fun e w'=>e= .returned (.bool r)∧fZ w w':=by
 have b7:=ae.mk hr0;have d6:=ae.mk hc0;clear hr0 hc0;unfold dy.f at h;have H:=h;clear h;have H':=ae.mk H;clear H
 go_enter func123,ntmps123
 go_wp2
 repeat(go_quiet (fail);try go_wp2)
 go_loopg [3] k (fun kq v3 w'=>∃(b1:Int),v3= .int .i64 b1∧ae (dy.l0 kq l0 b1=some r)∧ae (kq≤k)∧fZ w w')
 case atStart=>exact⟨(0),oS,H',⟨Nat.le_refl _⟩,oD⟩
 case round=>
  clear H';obtain⟨b1,rfl,HA,bV,⟨m1,rfl⟩⟩:=hrel
  cases gk with
  |zero=>exact absurd HA.out (by simp[dy.l0])
  |succ k1=>
   have H:=HA.out;clear HA;simp only[dy.l0]at H;replace H:=kU H;rcases H with⟨bX,H⟩|⟨bX,H⟩;rotate_left
   ·obtain rfl:=Option.some.inj H
    go_wp2
    repeat(go_quiet (fail);try go_wp2)
    go_ret
    exact⟨oS,oD⟩
   obtain⟨d3,H⟩:=dw H;replace H:=bA H;obtain⟨d4,A4,H⟩:=H
   try dsimp only at H
   replace H:=jl H;rcases H with⟨rfl,H⟩|⟨rfl,H⟩;rotate_left
   ·obtain rfl:=Option.some.inj H;have bT:(0≤(b1:Int))=True:=oT;have bU:(b1<(l0.length:Int))=True:=oT;obtain⟨b2,bO,bP,bQ⟩:=ec b7.out b1 oa oa
    cases bO
    go_wp2_with (first|(go_at_call 94;(with_reducible refine(aY.calls k1 ((aA l0 b1).f0) false _ A4.out).mono ?_);rintro e w' ⟨rfl,⟨nd,rfl⟩⟩))
    repeat(go_quiet (first|(go_at_call 94;(with_reducible refine(aY.calls k1 ((aA l0 b1).f0) false _ A4.out).mono ?_);rintro e w' ⟨rfl,⟨nd,rfl⟩⟩;exact oQ));try go_wp2_with (first|(go_at_call 94;(with_reducible refine(aY.calls k1 ((aA l0 b1).f0) false _ A4.out).mono ?_);rintro e w' ⟨rfl,⟨nd,rfl⟩⟩)))
    go_ret
    exact⟨oS,oD⟩
   replace H:=bA H;obtain⟨d5,A6,H⟩:=H
   try dsimp only at H
   replace H:=jl H;rcases H with⟨rfl,H⟩|⟨rfl,H⟩;rotate_left
   ·obtain rfl:=Option.some.inj H;have bT:(0≤(b1:Int))=True:=oT;have bU:(b1<(l0.length:Int))=True:=oT;obtain⟨b2,bO,bP,bQ⟩:=ec b7.out b1 oa oa
    cases bO
    go_wp2_with (first|(go_at_call 94;(with_reducible refine(aY.calls k1 ((aA l0 b1).f0) true _ A4.out).mono ?_);rintro e w' ⟨rfl,⟨nd,rfl⟩⟩;have b4:(0≤(b1:Int))=True:=oT;have b5:(b1<(l0.length:Int))=True:=oT;obtain⟨b3,b6,b8,b9⟩:=ec b7.out b1 oa oa;obtain rfl:b2=b3:=(by injection b6))|(go_at_call 73;(with_reducible refine(bg.calls ((aA l0 b1).f1) 2 1000 false _ A6.out).mono ?_);rintro e w' ⟨rfl,⟨nd,rfl⟩⟩))
    try(have b4:0≤(b1:Int):=oa;have b5:b1<(l0.length:Int):=oa;obtain⟨b3,b6,b8,b9⟩:=ec b7.out b1 b4 b5;obtain rfl:b2=b3:=(by injection b6);replace b4:=eq_true b4;replace b5:=eq_true b5)
    repeat(go_quiet (first|(go_at_call 94;(with_reducible refine(aY.calls k1 ((aA l0 b1).f0) true _ A4.out).mono ?_);rintro e w' ⟨rfl,⟨nd,rfl⟩⟩;exact oQ)|(go_at_call 73;(with_reducible refine(bg.calls ((aA l0 b1).f1) 2 1000 false _ A6.out).mono ?_);rintro e w' ⟨rfl,⟨nd,rfl⟩⟩;exact oQ));try go_wp2_with (first|(go_at_call 94;(with_reducible refine(aY.calls k1 ((aA l0 b1).f0) true _ A4.out).mono ?_);rintro e w' ⟨rfl,⟨nd,rfl⟩⟩;have b4:(0≤(b1:Int))=True:=oT;have b5:(b1<(l0.length:Int))=True:=oT;obtain⟨b3,b6,b8,b9⟩:=ec b7.out b1 oa oa;obtain rfl:b2=b3:=(by injection b6))|(go_at_call 73;(with_reducible refine(bg.calls ((aA l0 b1).f1) 2 1000 false _ A6.out).mono ?_);rintro e w' ⟨rfl,⟨nd,rfl⟩⟩)))
    go_ret
    exact⟨oS,oD⟩
   replace H:=ym H;rcases H with⟨bY,H⟩|⟨bY,H⟩;rotate_left
   ·have H':=ae.mk H;clear H;have bT:(0≤(b1:Int))=True:=oT;have bU:(b1<(l0.length:Int))=True:=oT;obtain⟨b2,bO,bP,bQ⟩:=ec b7.out b1 oa oa
    cases bO
    go_wp2_with (first|(go_at_call 94;(with_reducible refine(aY.calls k1 ((aA l0 b1).f0) true _ A4.out).mono ?_);rintro e w' ⟨rfl,⟨nd,rfl⟩⟩;have b4:(0≤(b1:Int))=True:=oT;have b5:(b1<(l0.length:Int))=True:=oT;obtain⟨b3,b6,b8,b9⟩:=ec b7.out b1 oa oa;obtain rfl:b2=b3:=(by injection b6))|(go_at_call 73;(with_reducible refine(bg.calls ((aA l0 b1).f1) 2 1000 true _ A6.out).mono ?_);rintro e w' ⟨rfl,⟨nd,rfl⟩⟩))
    try(have b4:0≤(b1:Int):=oa;have b5:b1<(l0.length:Int):=oa;obtain⟨b3,b6,b8,b9⟩:=ec b7.out b1 b4 b5;obtain rfl:b2=b3:=(by injection b6);replace b4:=eq_true b4;replace b5:=eq_true b5)
    repeat(go_quiet (first|(go_at_call 94;(with_reducible refine(aY.calls k1 ((aA l0 b1).f0) true _ A4.out).mono ?_);rintro e w' ⟨rfl,⟨nd,rfl⟩⟩;exact oQ)|(go_at_call 73;(with_reducible refine(bg.calls ((aA l0 b1).f1) 2 1000 true _ A6.out).mono ?_);rintro e w' ⟨rfl,⟨nd,rfl⟩⟩;exact oQ));try go_wp2_with (first|(go_at_call 94;(with_reducible refine(aY.calls k1 ((aA l0 b1).f0) true _ A4.out).mono ?_);rintro e w' ⟨rfl,⟨nd,rfl⟩⟩;have b4:(0≤(b1:Int))=True:=oT;have b5:(b1<(l0.length:Int))=True:=oT;obtain⟨b3,b6,b8,b9⟩:=ec b7.out b1 oa oa;obtain rfl:b2=b3:=(by injection b6))|(go_at_call 73;(with_reducible refine(bg.calls ((aA l0 b1).f1) 2 1000 true _ A6.out).mono ?_);rintro e w' ⟨rfl,⟨nd,rfl⟩⟩)))
    go_roundg k1
    case measure=>have:=bV.out;omega
    case rel=>exact⟨(wrap64 (b1+1)),oS,H',⟨by have:=bV.out;omega⟩,oD⟩
   obtain⟨bB,bR⟩:∃j_:Int,(wrap64 (b1-1))=j_:=⟨_,rfl⟩
   replace H:(if 0≤(bB)then(if(bB)<(l0.length:Int)then(if((Op.bytesLess (((aA l0 (bB)).f0).toList) (((aA l0 b1).f0).toList))=true)then(dy.l0 k1 l0 (wrap64 (b1+1)))else(some false))else(none))else(none))=some r:=by first|(rw[bR]at H;exact H)|(simp only[bR]at H⊢;exact H)
   (try rw[bR]at A4)
   (try rw[bR]at A6)
   have bZ:(IntKind.i64.wrap (b1-1))=bB:=(kn _).trans bR;obtain⟨d1,H⟩:=dw H;obtain⟨d2,H⟩:=dw H
   by_cases bS:((Op.bytesLess (((aA l0 (bB)).f0).toList) (((aA l0 b1).f0).toList))=true)
   rotate_left
   ·rw[if_neg bS]at H
    have bW:(Op.bytesLess (((aA l0 (bB)).f0).toList) (((aA l0 b1).f0).toList))=false:=by simpa using bS
    clear bS;obtain rfl:=Option.some.inj H;have bT:(0≤(b1:Int))=True:=oT;have bU:(b1<(l0.length:Int))=True:=oT;obtain⟨b2,bO,bP,bQ⟩:=ec b7.out b1 oa oa
    cases bO
    go_wp2_with (first|(go_at_call 94;(with_reducible refine(aY.calls k1 ((aA l0 b1).f0) true _ A4.out).mono ?_);rintro e w' ⟨rfl,⟨nd,rfl⟩⟩;have b4:(0≤(b1:Int))=True:=oT;have b5:(b1<(l0.length:Int))=True:=oT;obtain⟨b3,b6,b8,b9⟩:=ec b7.out b1 oa oa;obtain rfl:b2=b3:=(by injection b6))|(go_at_call 73;(with_reducible refine(bg.calls ((aA l0 b1).f1) 2 1000 true _ A6.out).mono ?_);rintro e w' ⟨rfl,⟨nd,rfl⟩⟩;have bE:(0≤((bB):Int))=True:=oT;have bF:((bB)<(l0.length:Int))=True:=oT;obtain⟨bC,bG,bK,bL⟩:=ec b7.out (bB) oa oa;obtain rfl:b2=bC:=(by injection bG);have bH:(0≤(b1:Int))=True:=oT;have bI:(b1<(l0.length:Int))=True:=oT;obtain⟨bD,bJ,bM,bN⟩:=ec b7.out b1 oa oa;obtain rfl:b2=bD:=(by injection bJ)))
    try(have b4:0≤(b1:Int):=oa;have b5:b1<(l0.length:Int):=oa;obtain⟨b3,b6,b8,b9⟩:=ec b7.out b1 b4 b5;obtain rfl:b2=b3:=(by injection b6);replace b4:=eq_true b4;replace b5:=eq_true b5)
    try(have bE:0≤((bB):Int):=oa;have bF:(bB)<(l0.length:Int):=oa;obtain⟨bC,bG,bK,bL⟩:=ec b7.out (bB) bE bF;obtain rfl:b2=bC:=(by injection bG);replace bE:=eq_true bE;replace bF:=eq_true bF;have bH:0≤(b1:Int):=oa;have bI:b1<(l0.length:Int):=oa;obtain⟨bD,bJ,bM,bN⟩:=ec b7.out b1 bH bI;obtain rfl:b2=bD:=(by injection bJ);replace bH:=eq_true bH;replace bI:=eq_true bI)
    repeat(go_quiet (first|(go_at_call 94;(with_reducible refine(aY.calls k1 ((aA l0 b1).f0) true _ A4.out).mono ?_);rintro e w' ⟨rfl,⟨nd,rfl⟩⟩;exact oQ)|(go_at_call 73;(with_reducible refine(bg.calls ((aA l0 b1).f1) 2 1000 true _ A6.out).mono ?_);rintro e w' ⟨rfl,⟨nd,rfl⟩⟩;exact oQ));try go_wp2_with (first|(go_at_call 94;(with_reducible refine(aY.calls k1 ((aA l0 b1).f0) true _ A4.out).mono ?_);rintro e w' ⟨rfl,⟨nd,rfl⟩⟩;have b4:(0≤(b1:Int))=True:=oT;have b5:(b1<(l0.length:Int))=True:=oT;obtain⟨b3,b6,b8,b9⟩:=ec b7.out b1 oa oa;obtain rfl:b2=b3:=(by injection b6))|(go_at_call 73;(with_reducible refine(bg.calls ((aA l0 b1).f1) 2 1000 true _ A6.out).mono ?_);rintro e w' ⟨rfl,⟨nd,rfl⟩⟩;have bE:(0≤((bB):Int))=True:=oT;have bF:((bB)<(l0.length:Int))=True:=oT;obtain⟨bC,bG,bK,bL⟩:=ec b7.out (bB) oa oa;obtain rfl:b2=bC:=(by injection bG);have bH:(0≤(b1:Int))=True:=oT;have bI:(b1<(l0.length:Int))=True:=oT;obtain⟨bD,bJ,bM,bN⟩:=ec b7.out b1 oa oa;obtain rfl:b2=bD:=(by injection bJ))))
    go_ret
    exact⟨by first|rfl|(simp;done)|(simp only[←bR]<;>(first|rfl|simp))|(simp[*];done),oD⟩
   rw[if_pos bS]at H;have bW:(Op.bytesLess (((aA l0 (bB)).f0).toList) (((aA l0 b1).f0).toList))=true:=bS;clear bS;have H':=ae.mk H;clear H;have bT:(0≤(b1:Int))=True:=oT;have bU:(b1<(l0.length:Int))=True:=oT;obtain⟨b2,bO,bP,bQ⟩:=ec b7.out b1 oa oa
   cases bO
   go_wp2_with (first|(go_at_call 94;(with_reducible refine(aY.calls k1 ((aA l0 b1).f0) true _ A4.out).mono ?_);rintro e w' ⟨rfl,⟨nd,rfl⟩⟩;have b4:(0≤(b1:Int))=True:=oT;have b5:(b1<(l0.length:Int))=True:=oT;obtain⟨b3,b6,b8,b9⟩:=ec b7.out b1 oa oa;obtain rfl:b2=b3:=(by injection b6))|(go_at_call 73;(with_reducible refine(bg.calls ((aA l0 b1).f1) 2 1000 true _ A6.out).mono ?_);rintro e w' ⟨rfl,⟨nd,rfl⟩⟩;have bE:(0≤((bB):Int))=True:=oT;have bF:((bB)<(l0.length:Int))=True:=oT;obtain⟨bC,bG,bK,bL⟩:=ec b7.out (bB) oa oa;obtain rfl:b2=bC:=(by injection bG);have bH:(0≤(b1:Int))=True:=oT;have bI:(b1<(l0.length:Int))=True:=oT;obtain⟨bD,bJ,bM,bN⟩:=ec b7.out b1 oa oa;obtain rfl:b2=bD:=(by injection bJ)))
   try(have b4:0≤(b1:Int):=oa;have b5:b1<(l0.length:Int):=oa;obtain⟨b3,b6,b8,b9⟩:=ec b7.out b1 b4 b5;obtain rfl:b2=b3:=(by injection b6);replace b4:=eq_true b4;replace b5:=eq_true b5)
   try(have bE:0≤((bB):Int):=oa;have bF:(bB)<(l0.length:Int):=oa;obtain⟨bC,bG,bK,bL⟩:=ec b7.out (bB) bE bF;obtain rfl:b2=bC:=(by injection bG);replace bE:=eq_true bE;replace bF:=eq_true bF;have bH:0≤(b1:Int):=oa;have bI:b1<(l0.length:Int):=oa;obtain⟨bD,bJ,bM,bN⟩:=ec b7.out b1 bH bI;obtain rfl:b2=bD:=(by injection bJ);replace bH:=eq_true bH;replace bI:=eq_true bI)
   repeat(go_quiet (first|(go_at_call 94;(with_reducible refine(aY.calls k1 ((aA l0 b1).f0) true _ A4.out).mono ?_);rintro e w' ⟨rfl,⟨nd,rfl⟩⟩;exact oQ)|(go_at_call 73;(with_reducible refine(bg.calls ((aA l0 b1).f1) 2 1000 true _ A6.out).mono ?_);rintro e w' ⟨rfl,⟨nd,rfl⟩⟩;exact oQ));try go_wp2_with (first|(go_at_call 94;(with_reducible refine(aY.calls k1 ((aA l0 b1).f0) true _ A4.out).mono ?_);rintro e w' ⟨rfl,⟨nd,rfl⟩⟩;have b4:(0≤(b1:Int))=True:=oT;have b5:(b1<(l0.length:Int))=True:=oT;obtain⟨b3,b6,b8,b9⟩:=ec b7.out b1 oa oa;obtain rfl:b2=b3:=(by injection b6))|(go_at_call 73;(with_reducible refine(bg.calls ((aA l0 b1).f1) 2 1000 true _ A6.out).mono ?_);rintro e w' ⟨rfl,⟨nd,rfl⟩⟩;have bE:(0≤((bB):Int))=True:=oT;have bF:((bB)<(l0.length:Int))=True:=oT;obtain⟨bC,bG,bK,bL⟩:=ec b7.out (bB) oa oa;obtain rfl:b2=bC:=(by injection bG);have bH:(0≤(b1:Int))=True:=oT;have bI:(b1<(l0.length:Int))=True:=oT;obtain⟨bD,bJ,bM,bN⟩:=ec b7.out b1 oa oa;obtain rfl:b2=bD:=(by injection bJ))))
   go_roundg k1
   case measure=>have:=bV.out;omega
   case rel=>exact⟨(wrap64 (b1+1)),oS,H',⟨by have:=bV.out;omega⟩,oD⟩

def dp.l0:Nat→List (bj)→Int→Option (Bool)
 |0,_,_=>none
 |k+1,x0,x3=>if x3<(x0.length:Int)then(if 0≤x3 then((aY.f k ((bf x0 x3).f0)).bind fun b1=>(if b1=true then((bg.f (((bf x0 x3).f1).size:Int) 1 16).bind fun b2=>(if b2=true then(if x3>0 then(if 0≤(wrap64 (x3-1))then(if(wrap64 (x3-1))<(x0.length:Int)then(if((Op.bytesLess (((bf x0 (wrap64 (x3-1))).f0).toList) (((bf x0 x3).f0).toList))=true)then(dp.l0 k x0 (wrap64 (x3+1)))else(some false))else(none))else(none))else(dp.l0 k x0 (wrap64 (x3+1))))else(some false)))else(some false)))else(none))else(some (decide ((x0.length:Int)≤4)))
def dp.f (k:Nat) (l0:List (bj)):Option (Bool):=dp.l0 k l0 0
theorem dp.calls (k:Nat) (A0:Option Addr) (c0:Nat) (l0:List (bj)) (r:Bool) (w:World) (hr0:Kd.C dn w A0 l0.length l0) (hc0:l0.length≤c0) (h:dp.f k l0=some r):
  Calls Tryz.prog 124 #[.slice A0 l0.length c0] w fun e w'=>e= .returned (.bool r)∧fZ w w':=by
 have b7:=ae.mk hr0;have d6:=ae.mk hc0;clear hr0 hc0;unfold dp.f at h;have H:=h;clear h;have H':=ae.mk H;clear H
 go_enter func124,ntmps124
 go_wp2
 repeat(go_quiet (fail);try go_wp2)
 go_loopg [3] k (fun kq v3 w'=>∃(b1:Int),v3= .int .i64 b1∧ae (dp.l0 kq l0 b1=some r)∧ae (kq≤k)∧fZ w w')
 case atStart=>exact⟨(0),oS,H',⟨Nat.le_refl _⟩,oD⟩
 case round=>
  clear H';obtain⟨b1,rfl,HA,bV,⟨m1,rfl⟩⟩:=hrel
  cases gk with
  |zero=>exact absurd HA.out (by simp[dp.l0])
  |succ k1=>
   have H:=HA.out;clear HA;simp only[dp.l0]at H;replace H:=kU H;rcases H with⟨bX,H⟩|⟨bX,H⟩;rotate_left
   ·obtain rfl:=Option.some.inj H
    go_wp2
    repeat(go_quiet (fail);try go_wp2)
    go_ret
    exact⟨oS,oD⟩
   obtain⟨d3,H⟩:=dw H;replace H:=bA H;obtain⟨d4,A4,H⟩:=H
   try dsimp only at H
   replace H:=jl H;rcases H with⟨rfl,H⟩|⟨rfl,H⟩;rotate_left
   ·obtain rfl:=Option.some.inj H;have bT:(0≤(b1:Int))=True:=oT;have bU:(b1<(l0.length:Int))=True:=oT;obtain⟨b2,bO,bP,bQ⟩:=ed b7.out b1 oa oa
    cases bO
    go_wp2_with (first|(go_at_call 94;(with_reducible refine(aY.calls k1 ((bf l0 b1).f0) false _ A4.out).mono ?_);rintro e w' ⟨rfl,⟨nd,rfl⟩⟩))
    repeat(go_quiet (first|(go_at_call 94;(with_reducible refine(aY.calls k1 ((bf l0 b1).f0) false _ A4.out).mono ?_);rintro e w' ⟨rfl,⟨nd,rfl⟩⟩;exact oQ));try go_wp2_with (first|(go_at_call 94;(with_reducible refine(aY.calls k1 ((bf l0 b1).f0) false _ A4.out).mono ?_);rintro e w' ⟨rfl,⟨nd,rfl⟩⟩)))
    go_ret
    exact⟨oS,oD⟩
   replace H:=bA H;obtain⟨d5,A6,H⟩:=H
   try dsimp only at H
   replace H:=jl H;rcases H with⟨rfl,H⟩|⟨rfl,H⟩;rotate_left
   ·obtain rfl:=Option.some.inj H;have bT:(0≤(b1:Int))=True:=oT;have bU:(b1<(l0.length:Int))=True:=oT;obtain⟨b2,bO,bP,bQ⟩:=ed b7.out b1 oa oa
    cases bO
    go_wp2_with (first|(go_at_call 94;(with_reducible refine(aY.calls k1 ((bf l0 b1).f0) true _ A4.out).mono ?_);rintro e w' ⟨rfl,⟨nd,rfl⟩⟩;have b4:(0≤(b1:Int))=True:=oT;have b5:(b1<(l0.length:Int))=True:=oT;obtain⟨b3,b6,b8,b9⟩:=ed b7.out b1 oa oa;obtain rfl:b2=b3:=(by injection b6))|(go_at_call 73;(with_reducible refine(bg.calls (((bf l0 b1).f1).size:Int) 1 16 false _ A6.out).mono ?_);rintro e w' ⟨rfl,⟨nd,rfl⟩⟩))
    try(have b4:0≤(b1:Int):=oa;have b5:b1<(l0.length:Int):=oa;obtain⟨b3,b6,b8,b9⟩:=ed b7.out b1 b4 b5;obtain rfl:b2=b3:=(by injection b6);replace b4:=eq_true b4;replace b5:=eq_true b5)
    repeat(go_quiet (first|(go_at_call 94;(with_reducible refine(aY.calls k1 ((bf l0 b1).f0) true _ A4.out).mono ?_);rintro e w' ⟨rfl,⟨nd,rfl⟩⟩;exact oQ)|(go_at_call 73;(with_reducible refine(bg.calls (((bf l0 b1).f1).size:Int) 1 16 false _ A6.out).mono ?_);rintro e w' ⟨rfl,⟨nd,rfl⟩⟩;exact oQ));try go_wp2_with (first|(go_at_call 94;(with_reducible refine(aY.calls k1 ((bf l0 b1).f0) true _ A4.out).mono ?_);rintro e w' ⟨rfl,⟨nd,rfl⟩⟩;have b4:(0≤(b1:Int))=True:=oT;have b5:(b1<(l0.length:Int))=True:=oT;obtain⟨b3,b6,b8,b9⟩:=ed b7.out b1 oa oa;obtain rfl:b2=b3:=(by injection b6))|(go_at_call 73;(with_reducible refine(bg.calls (((bf l0 b1).f1).size:Int) 1 16 false _ A6.out).mono ?_);rintro e w' ⟨rfl,⟨nd,rfl⟩⟩)))
    go_ret
    exact⟨oS,oD⟩
   replace H:=ym H;rcases H with⟨bY,H⟩|⟨bY,H⟩;rotate_left
   ·have H':=ae.mk H;clear H;have bT:(0≤(b1:Int))=True:=oT;have bU:(b1<(l0.length:Int))=True:=oT;obtain⟨b2,bO,bP,bQ⟩:=ed b7.out b1 oa oa
    cases bO
    go_wp2_with (first|(go_at_call 94;(with_reducible refine(aY.calls k1 ((bf l0 b1).f0) true _ A4.out).mono ?_);rintro e w' ⟨rfl,⟨nd,rfl⟩⟩;have b4:(0≤(b1:Int))=True:=oT;have b5:(b1<(l0.length:Int))=True:=oT;obtain⟨b3,b6,b8,b9⟩:=ed b7.out b1 oa oa;obtain rfl:b2=b3:=(by injection b6))|(go_at_call 73;(with_reducible refine(bg.calls (((bf l0 b1).f1).size:Int) 1 16 true _ A6.out).mono ?_);rintro e w' ⟨rfl,⟨nd,rfl⟩⟩))
    try(have b4:0≤(b1:Int):=oa;have b5:b1<(l0.length:Int):=oa;obtain⟨b3,b6,b8,b9⟩:=ed b7.out b1 b4 b5;obtain rfl:b2=b3:=(by injection b6);replace b4:=eq_true b4;replace b5:=eq_true b5)
    repeat(go_quiet (first|(go_at_call 94;(with_reducible refine(aY.calls k1 ((bf l0 b1).f0) true _ A4.out).mono ?_);rintro e w' ⟨rfl,⟨nd,rfl⟩⟩;exact oQ)|(go_at_call 73;(with_reducible refine(bg.calls (((bf l0 b1).f1).size:Int) 1 16 true _ A6.out).mono ?_);rintro e w' ⟨rfl,⟨nd,rfl⟩⟩;exact oQ));try go_wp2_with (first|(go_at_call 94;(with_reducible refine(aY.calls k1 ((bf l0 b1).f0) true _ A4.out).mono ?_);rintro e w' ⟨rfl,⟨nd,rfl⟩⟩;have b4:(0≤(b1:Int))=True:=oT;have b5:(b1<(l0.length:Int))=True:=oT;obtain⟨b3,b6,b8,b9⟩:=ed b7.out b1 oa oa;obtain rfl:b2=b3:=(by injection b6))|(go_at_call 73;(with_reducible refine(bg.calls (((bf l0 b1).f1).size:Int) 1 16 true _ A6.out).mono ?_);rintro e w' ⟨rfl,⟨nd,rfl⟩⟩)))
    go_roundg k1
    case measure=>have:=bV.out;omega
    case rel=>exact⟨(wrap64 (b1+1)),oS,H',⟨by have:=bV.out;omega⟩,oD⟩
   obtain⟨bB,bR⟩:∃j_:Int,(wrap64 (b1-1))=j_:=⟨_,rfl⟩
   replace H:(if 0≤(bB)then(if(bB)<(l0.length:Int)then(if((Op.bytesLess (((bf l0 (bB)).f0).toList) (((bf l0 b1).f0).toList))=true)then(dp.l0 k1 l0 (wrap64 (b1+1)))else(some false))else(none))else(none))=some r:=by first|(rw[bR]at H;exact H)|(simp only[bR]at H⊢;exact H)
   (try rw[bR]at A4)
   (try rw[bR]at A6)
   have bZ:(IntKind.i64.wrap (b1-1))=bB:=(kn _).trans bR;obtain⟨d1,H⟩:=dw H;obtain⟨d2,H⟩:=dw H
   by_cases bS:((Op.bytesLess (((bf l0 (bB)).f0).toList) (((bf l0 b1).f0).toList))=true)
   rotate_left
   ·rw[if_neg bS]at H
    have bW:(Op.bytesLess (((bf l0 (bB)).f0).toList) (((bf l0 b1).f0).toList))=false:=by simpa using bS
    clear bS;obtain rfl:=Option.some.inj H;have bT:(0≤(b1:Int))=True:=oT;have bU:(b1<(l0.length:Int))=True:=oT;obtain⟨b2,bO,bP,bQ⟩:=ed b7.out b1 oa oa
    cases bO
    go_wp2_with (first|(go_at_call 94;(with_reducible refine(aY.calls k1 ((bf l0 b1).f0) true _ A4.out).mono ?_);rintro e w' ⟨rfl,⟨nd,rfl⟩⟩;have b4:(0≤(b1:Int))=True:=oT;have b5:(b1<(l0.length:Int))=True:=oT;obtain⟨b3,b6,b8,b9⟩:=ed b7.out b1 oa oa;obtain rfl:b2=b3:=(by injection b6))|(go_at_call 73;(with_reducible refine(bg.calls (((bf l0 b1).f1).size:Int) 1 16 true _ A6.out).mono ?_);rintro e w' ⟨rfl,⟨nd,rfl⟩⟩;have bE:(0≤((bB):Int))=True:=oT;have bF:((bB)<(l0.length:Int))=True:=oT;obtain⟨bC,bG,bK,bL⟩:=ed b7.out (bB) oa oa;obtain rfl:b2=bC:=(by injection bG);have bH:(0≤(b1:Int))=True:=oT;have bI:(b1<(l0.length:Int))=True:=oT;obtain⟨bD,bJ,bM,bN⟩:=ed b7.out b1 oa oa;obtain rfl:b2=bD:=(by injection bJ)))
    try(have b4:0≤(b1:Int):=oa;have b5:b1<(l0.length:Int):=oa;obtain⟨b3,b6,b8,b9⟩:=ed b7.out b1 b4 b5;obtain rfl:b2=b3:=(by injection b6);replace b4:=eq_true b4;replace b5:=eq_true b5)
    try(have bE:0≤((bB):Int):=oa;have bF:(bB)<(l0.length:Int):=oa;obtain⟨bC,bG,bK,bL⟩:=ed b7.out (bB) bE bF;obtain rfl:b2=bC:=(by injection bG);replace bE:=eq_true bE;replace bF:=eq_true bF;have bH:0≤(b1:Int):=oa;have bI:b1<(l0.length:Int):=oa;obtain⟨bD,bJ,bM,bN⟩:=ed b7.out b1 bH bI;obtain rfl:b2=bD:=(by injection bJ);replace bH:=eq_true bH;replace bI:=eq_true bI)
    repeat(go_quiet (first|(go_at_call 94;(with_reducible refine(aY.calls k1 ((bf l0 b1).f0) true _ A4.out).mono ?_);rintro e w' ⟨rfl,⟨nd,rfl⟩⟩;exact oQ)|(go_at_call 73;(with_reducible refine(bg.calls (((bf l0 b1).f1).size:Int) 1 16 true _ A6.out).mono ?_);rintro e w' ⟨rfl,⟨nd,rfl⟩⟩;exact oQ));try go_wp2_with (first|(go_at_call 94;(with_reducible refine(aY.calls k1 ((bf l0 b1).f0) true _ A4.out).mono ?_);rintro e w' ⟨rfl,⟨nd,rfl⟩⟩;have b4:(0≤(b1:Int))=True:=oT;have b5:(b1<(l0.length:Int))=True:=oT;obtain⟨b3,b6,b8,b9⟩:=ed b7.out b1 oa oa;obtain rfl:b2=b3:=(by injection b6))|(go_at_call 73;(with_reducible refine(bg.calls (((bf l0 b1).f1).size:Int) 1 16 true _ A6.out).mono ?_);rintro e w' ⟨rfl,⟨nd,rfl⟩⟩;have bE:(0≤((bB):Int))=True:=oT;have bF:((bB)<(l0.length:Int))=True:=oT;obtain⟨bC,bG,bK,bL⟩:=ed b7.out (bB) oa oa;obtain rfl:b2=bC:=(by injection bG);have bH:(0≤(b1:Int))=True:=oT;have bI:(b1<(l0.length:Int))=True:=oT;obtain⟨bD,bJ,bM,bN⟩:=ed b7.out b1 oa oa;obtain rfl:b2=bD:=(by injection bJ))))
    go_ret
    exact⟨by first|rfl|(simp;done)|(simp only[←bR]<;>(first|rfl|simp))|(simp[*];done),oD⟩
   rw[if_pos bS]at H;have bW:(Op.bytesLess (((bf l0 (bB)).f0).toList) (((bf l0 b1).f0).toList))=true:=bS;clear bS;have H':=ae.mk H;clear H;have bT:(0≤(b1:Int))=True:=oT;have bU:(b1<(l0.length:Int))=True:=oT;obtain⟨b2,bO,bP,bQ⟩:=ed b7.out b1 oa oa
   cases bO
   go_wp2_with (first|(go_at_call 94;(with_reducible refine(aY.calls k1 ((bf l0 b1).f0) true _ A4.out).mono ?_);rintro e w' ⟨rfl,⟨nd,rfl⟩⟩;have b4:(0≤(b1:Int))=True:=oT;have b5:(b1<(l0.length:Int))=True:=oT;obtain⟨b3,b6,b8,b9⟩:=ed b7.out b1 oa oa;obtain rfl:b2=b3:=(by injection b6))|(go_at_call 73;(with_reducible refine(bg.calls (((bf l0 b1).f1).size:Int) 1 16 true _ A6.out).mono ?_);rintro e w' ⟨rfl,⟨nd,rfl⟩⟩;have bE:(0≤((bB):Int))=True:=oT;have bF:((bB)<(l0.length:Int))=True:=oT;obtain⟨bC,bG,bK,bL⟩:=ed b7.out (bB) oa oa;obtain rfl:b2=bC:=(by injection bG);have bH:(0≤(b1:Int))=True:=oT;have bI:(b1<(l0.length:Int))=True:=oT;obtain⟨bD,bJ,bM,bN⟩:=ed b7.out b1 oa oa;obtain rfl:b2=bD:=(by injection bJ)))
   try(have b4:0≤(b1:Int):=oa;have b5:b1<(l0.length:Int):=oa;obtain⟨b3,b6,b8,b9⟩:=ed b7.out b1 b4 b5;obtain rfl:b2=b3:=(by injection b6);replace b4:=eq_true b4;replace b5:=eq_true b5)
   try(have bE:0≤((bB):Int):=oa;have bF:(bB)<(l0.length:Int):=oa;obtain⟨bC,bG,bK,bL⟩:=ed b7.out (bB) bE bF;obtain rfl:b2=bC:=(by injection bG);replace bE:=eq_true bE;replace bF:=eq_true bF;have bH:0≤(b1:Int):=oa;have bI:b1<(l0.length:Int):=oa;obtain⟨bD,bJ,bM,bN⟩:=ed b7.out b1 bH bI;obtain rfl:b2=bD:=(by injection bJ);replace bH:=eq_true bH;replace bI:=eq_true bI)
   repeat(go_quiet (first|(go_at_call 94;(with_reducible refine(aY.calls k1 ((bf l0 b1).f0) true _ A4.out).mono ?_);rintro e w' ⟨rfl,⟨nd,rfl⟩⟩;exact oQ)|(go_at_call 73;(with_reducible refine(bg.calls (((bf l0 b1).f1).size:Int) 1 16 true _ A6.out).mono ?_);rintro e w' ⟨rfl,⟨nd,rfl⟩⟩;exact oQ));try go_wp2_with (first|(go_at_call 94;(with_reducible refine(aY.calls k1 ((bf l0 b1).f0) true _ A4.out).mono ?_);rintro e w' ⟨rfl,⟨nd,rfl⟩⟩;have b4:(0≤(b1:Int))=True:=oT;have b5:(b1<(l0.length:Int))=True:=oT;obtain⟨b3,b6,b8,b9⟩:=ed b7.out b1 oa oa;obtain rfl:b2=b3:=(by injection b6))|(go_at_call 73;(with_reducible refine(bg.calls (((bf l0 b1).f1).size:Int) 1 16 true _ A6.out).mono ?_);rintro e w' ⟨rfl,⟨nd,rfl⟩⟩;have bE:(0≤((bB):Int))=True:=oT;have bF:((bB)<(l0.length:Int))=True:=oT;obtain⟨bC,bG,bK,bL⟩:=ed b7.out (bB) oa oa;obtain rfl:b2=bC:=(by injection bG);have bH:(0≤(b1:Int))=True:=oT;have bI:(b1<(l0.length:Int))=True:=oT;obtain⟨bD,bJ,bM,bN⟩:=ed b7.out b1 oa oa;obtain rfl:b2=bD:=(by injection bJ))))
   go_roundg k1
   case measure=>have:=bV.out;omega
   case rel=>exact⟨(wrap64 (b1+1)),oS,H',⟨by have:=bV.out;omega⟩,oD⟩

def cT.l0:Nat→List ByteArray→ByteArray→Int→Option (ByteArray)
 |0,_,_,_=>none
 |k+1,x0,x3,x4=>if x4<(x0.length:Int)then(if 0≤x4 then((aY.f k (dr ByteArray.empty x0 x4)).bind fun b1=>(if b1=true then(if(x0.length:Int)>30 then(some (⟨#[]⟩:ByteArray))else(if x3.size+1≤9223372036854775807 then(if(x3++(⟨#[47]⟩:ByteArray)).size+(dr ByteArray.empty x0 x4).size≤9223372036854775807 then(cT.l0 k x0 ((x3++(⟨#[47]⟩:ByteArray))++(dr ByteArray.empty x0 x4)) (wrap64 (x4+1)))else(none))else(none)))else(some (⟨#[]⟩:ByteArray))))else(none))else(some x3)
def cT.f (k:Nat) (l0:List ByteArray):Option (ByteArray):=if(l0.length:Int)=0 then(some (⟨#[47]⟩:ByteArray))else(cT.l0 k l0 (⟨#[]⟩:ByteArray) 0)
theorem cT.calls (k:Nat) (A0:Option Addr) (c0:Nat) (l0:List ByteArray) (r:ByteArray) (w:World) (hr0:Kd.C Kd.string w A0 l0.length l0) (hc0:l0.length≤c0) (h:cT.f k l0=some r):
  Calls Tryz.prog 192 #[.slice A0 l0.length c0] w fun e w'=>e= .returned (.string r)∧fZ w w':=by
 have b8:=ae.mk hr0;have bV:=ae.mk hc0;clear hr0 hc0;unfold cT.f at h;have H:=h;clear h
 by_cases c2:(l0.length:Int)=0
 ·rw[if_pos c2]at H;have bD:((l0.length:Int)==0)=true:=beq_iff_eq.mpr c2;have bE:((l0.length:Int) !=0)=false:=bne_eq_false_iff_eq.mpr c2;clear c2;obtain rfl:=Option.some.inj H
  go_enter func192,ntmps192
  go_wp2
  go_ret
  exact⟨oS,oD⟩
 rw[if_neg c2]at H;have bD:((l0.length:Int)==0)=false:=beq_eq_false_iff_ne.mpr c2;have bE:((l0.length:Int) !=0)=true:=bne_iff_ne.mpr c2
 have bN:¬(l0=[]):=fun h_=>c2 (by rw[h_];rfl)
 have H':=ae.mk H;clear H
 go_enter func192,ntmps192
 go_wp2
 go_loopg [3,4] k (fun kq v3 v4 w'=>∃(b2:ByteArray) (b1:Int),v3= .string b2∧v4= .int .i64 b1∧ae (cT.l0 kq l0 b2 b1=some r)∧ae (kq≤k)∧fZ w w')
 case atStart=>exact⟨((⟨#[]⟩:ByteArray)),(0),oS,oS,H',⟨Nat.le_refl _⟩,oD⟩
 case round=>
  clear H'
  try clear c2
  obtain⟨b2,b1,rfl,rfl,HA,bB,⟨m1,rfl⟩⟩:=hrel
  cases gk with
  |zero=>exact absurd HA.out (by simp[cT.l0])
  |succ k1=>
   have H:=HA.out;clear HA;simp only[cT.l0]at H;replace H:=kU H;rcases H with⟨bF,H⟩|⟨bF,H⟩;rotate_left
   ·obtain rfl:=Option.some.inj H
    go_wp2
    go_ret
    exact⟨oS,oD⟩
   obtain⟨bO,H⟩:=dw H;replace H:=bA H;obtain⟨bP,A5,H⟩:=H;replace H:=jl H;rcases H with⟨rfl,H⟩|⟨rfl,H⟩;rotate_left
   ·obtain rfl:=Option.some.inj H;have bG:(0≤(b1:Int))=True:=oT;have bH:(b1<(l0.length:Int))=True:=oT;obtain⟨b6,b3,b7⟩:=Kd.ei b8.out b1 oa oa
    cases b3
    go_wp2_with (((with_reducible refine ag (f:=94) rfl ?_);refine dk 18 func94 (aY.calls k1 (dr ByteArray.empty l0 b1) false _ A5.out) ?_;rintro e w' ⟨rfl,⟨nd,rfl⟩⟩;refine⟨_,rfl,?_⟩))
    go_ret
    exact⟨oS,oD⟩
   have bC:=ae.mk H;clear H;have bG:(0≤(b1:Int))=True:=oT;have bH:(b1<(l0.length:Int))=True:=oT;obtain⟨b6,b3,b7⟩:=Kd.ei b8.out b1 oa oa
   cases b3
   go_upto_if 24 with(((with_reducible refine ag (f:=94) rfl ?_);refine dk 18 func94 (aY.calls k1 (dr ByteArray.empty l0 b1) true _ A5.out) ?_;rintro e w' ⟨rfl,⟨nd,rfl⟩⟩;refine⟨_,rfl,?_⟩))
   have H:=bC.out;clear bC
   by_cases c8:(l0.length:Int)>30
   ·rw[if_pos c8]at H;have b4:decide (30<(l0.length:Int))=true:=decide_eq_true c8;have b5:decide (30<l0.length)=true:=decide_eq_true (by omega);clear c8
    (rw[b4])
    obtain rfl:=Option.some.inj H
    go_wp2
    go_ret
    exact⟨oS,oD⟩
   rw[if_neg c8]at H;have b4:decide (30<(l0.length:Int))=false:=decide_eq_false c8;have b5:decide (30<l0.length)=false:=decide_eq_false (by omega);clear c8
   (rw[b4])
   obtain⟨c9,H⟩:=jm H;have bQ:=eq_true c9;have bR:decide (b2.size+1≤9223372036854775807)=true:=decide_eq_true c9
   try have bS:(9223372036854775807<b2.size+1)=False:=eq_false (Nat.not_lt.2 c9)
   obtain⟨c10,H⟩:=jm H;have bK:=eq_true c10;have bL:decide ((b2++(⟨#[47]⟩:ByteArray)).size+(dr ByteArray.empty l0 b1).size≤9223372036854775807)=true:=decide_eq_true c10
   try have bM:(9223372036854775807<(b2++(⟨#[47]⟩:ByteArray)).size+(dr ByteArray.empty l0 b1).size)=False:=eq_false (Nat.not_lt.2 c10)
   have H':=ae.mk H;clear H;have bT:(0≤(b1:Int))=True:=oT;have bU:(b1<(l0.length:Int))=True:=oT;obtain⟨b9,bI,bJ⟩:=Kd.ei b8.out b1 oa oa;obtain rfl:b6=b9:=(by injection bI)
   go_wp2
   go_roundg k1
   case measure=>have:=bB.out;omega
   case rel=>exact⟨((b2++(⟨#[47]⟩:ByteArray))++(dr ByteArray.empty l0 b1)),(wrap64 (b1+1)),oS,oS,H',⟨by have:=bB.out;omega⟩,oD⟩

def ty9 (g:Nat) (w:World) (k:Nat):Prop:=k=g∨∃cells,w.heap[k]? =some (.cells cells 9 (0,0))
theorem te {g:Nat}{w W W2:World}(h:Kept w W (ty9 g w)) (k:Kept W W2 (ty9 g W)):Kept w W2 (ty9 g w):=
 ⟨Nat.le_trans h.1 k.1,fun i hi hn=>(k.2 i (Nat.lt_of_lt_of_le hi h.1) (fun h2=>hn (by
  rcases h2 with h2|⟨cells,h2⟩
  ·exact .inl h2
  ·exact .inr ⟨cells,by rw[←h.2 i hi hn];exact h2⟩))).trans (h.2 i hi hn)⟩
theorem aaN {g:Nat}{W W2:World}{base:Nat}{ok:Nat→Prop}{v:Value}{xs:List ByteArray}(ho:Kd.R Kd.string 9 W base ok v xs) (hg:W.grownBy W2 v.ownBlock):Kept W W2 (ty9 g W):=
 ⟨hg.size,fun i hi hn=>hg.block i hi (fun he=>hn (.inr (Kd.ee ho i he.symm)))⟩
theorem acK (g j:Nat) (W:World) (u:Value):Kept W (W.setCell ⟨g,j,none⟩ u) (ty9 g W):=(Kept.refl W _).setCell (.inl (.inl rfl)) u
theorem aaO {α:Type}{d:Kd α}{e base g:Nat}{ok:Nat→Prop}{v:Value}{xs:List α}{w w':World}{cs:Array Value}(h:Kd.R d e w base ok v xs) (hb:w.heap[g]? =some (.cells cs 35 (0,0))) (hk:Kept w w' (ty9 g w)) (h26:∀q,q∈e::d.E→q≠35:=by decide) (h9:∀q,q∈e::d.E→q≠9:=by decide):Kd.R d e w' base ok v xs:=by
 refine Kd.aM (Kd.aaj (Kd.iU (Kd.ay h hb h26)) hk ?_) (fun _ hk=>hk.1.1);rintro k ⟨⟨_,h2⟩,_,_,q,hq,cells,hc⟩ (h3|⟨c2,h3⟩)
 ·exact h2 h3
 ·rw[hc]at h3;injection h3 with h3;injection h3 with _ h3;exact h9 q hq h3
theorem tf {g gb:Nat}{t:TypeId}{cs cs2:Array Value}{w w':World}(h:ae (w.heap[gb]? =some (.cells cs t (0,0)))) (hb:ae (w.heap[g]? =some (.cells cs2 35 (0,0)))) (hk:Kept w w' (ty9 g w)) (h26:t≠35:=by decide) (h9:t≠9:=by decide):ae (w'.heap[gb]? =some (.cells cs t (0,0))):=by
 refine⟨ug h.out hk ?_⟩;rintro(h3|⟨c2,h3⟩)
 ·exact ace h.out hb.out h26 h3
 ·rw[h.out]at h3;injection h3 with h3;injection h3 with _ h3;exact h9 h3
mutual
def cq.l0:Nat→List (aW)→Int→ByteArray→List (cD)→Int→List ByteArray→Option (List ByteArray)
 |0,_,_,_,_,_,_=>none
 |k+1,l,nx,x2,xs,b1,out=>if b1<(xs.length:Int)then(if x2.size+1≤9223372036854775807 then(if 0≤b1 then(if(x2++(⟨#[47]⟩:ByteArray)).size+((aA xs b1).f0).size≤9223372036854775807 then(if out.length<8796093022208 then((cq.f k l nx ((aA xs b1).f1) ((x2++(⟨#[47]⟩:ByteArray))++((aA xs b1).f0)) (out++[(x2++(⟨#[47]⟩:ByteArray))++((aA xs b1).f0)])).bind fun y=>cq.l0 k l nx x2 xs (wrap64 (b1+1)) y)else(none))else(none))else(none))else(none))else(some out)
def cq.f:Nat→List (aW)→Int→Int→ByteArray→List ByteArray→Option (List ByteArray)
 |0,_,_,_,_,_=>none
 |k+1,ah,al,a1,a2,out=>(eV.f k ah al a1).bind fun b1=>(cq.l0 k ah al a2 b1.2.2.2.2.1 0 out)
end
def cq.T7:Bool×List (List Nat×List Nat):=(true,[([],[]),([],[]),([1],[1]),([],[]),([2,3],[2,3]),([4],[4]),([5],[5]),([],[]),([],[]),([0,6,7,8],[0,6,7,8])])
def cq.B7:List Nat:=[0,0,2,0,14,30,62,0,0,511]
theorem cq.sf:fK .any (opsOf Tryz.f66 7)=cq.T7:=by kernel_rfl
theorem cq.pd:ep cq.T7.2 cq.B7=true:=by kernel_rfl
theorem cq.calls (k:Nat):∀(bs:Option Addr) (bo:Nat) (ah:List (aW)) (al:Int) (a1:Int) (a2:ByteArray) (g:Nat) (u:Value) (xs r:List ByteArray) (w wS:World) (cy:Kd.C k32 w bs ah.length ah) (cA:ah.length≤bo) (hB0:Below w.heap.size w wS) (hg0:w.heap.size≤g) (hbx:wS.heap[g]? =some (.cells #[u] 35 (0,0))) (hv0:Kd.R Kd.string 9 wS w.heap.size (fun _=>True) u xs) (h:cq.f k ah al a1 a2 xs=some r),
  Calls Tryz.prog 66 #[.agg #[.slice bs ah.length bo,.int .i64 al],.int .i64 a1,.string a2,.pointer (some ⟨g,0,none⟩)] wS fun e w'=>e= .returned (.tuple #[])∧∃v:Value,w'.heap[g]? =some (.cells #[v] 35 (0,0))∧Kd.R Kd.string 9 w' w.heap.size (fun _=>True) v r∧Kept wS w' (ty9 g wS)∧Below w.heap.size w w':=by
 induction k using Nat.strongRecOn with
 |_ k ih=>
 intro bs bo ah al a1 a2 g u xs r w wS cy cA hB0 hg0 hbx hv0 h
 cases k with
 |zero=>exact absurd h (by simp[cq.f])
 |succ k=>
 simp only[cq.f]at h;have gE:=underlying26;have gF:=underlying32;have gG:=underlying35;have bL:=ae.mk cy;have bM:=ae.mk cA;clear cy cA;have HB:=ae.mk hB0;have GWg:=ae.mk hg0;have BG:=ae.mk hbx;have HV:=ae.mk hv0;have HK:=am (Kept.refl wS (ty9 g wS));clear hB0 hg0 hbx hv0;have H:((eV.f k ah al a1).bind fun bW=>(cq.l0 k ah al a2 bW.2.2.2.2.1 0 xs))=some r:=h;clear h;replace H:=bA H;obtain⟨⟨bN,bO,bP,bQ,b4,bR,d7⟩,A4,H⟩:=H
 try dsimp only at H
 have H':=ae.mk H;clear H
 go_enter func66,ntmps66
 go_wp2_with (first|((with_reducible refine au (N:=4) rfl ?_);refine fz 4 #[.slice bs ah.length bo,.int .i64 al] 26 ?_;intro bG hg w5 hbox hb;have b1:=am (hbox);have dT:=fO hg;have dH:=fX hg BG;have dI:=fY hg BG;replace HV:=dm HV hb;replace BG:=ba BG hb;replace HK:=am (HK.out.below hb);replace HB:=hB HB hb;clear hb hbox hg;obtain⟨⟨_,_⟩,_,_⟩:=z2 b1)|((with_reducible refine ag (f:=49) rfl ?_);refine dk 15 func49 (eV.calls k _ _ ah al a1 bN bO bP bQ b4 bR d7 _ (kC bL) bM.out A4.out) ?_;rintro e w7 ⟨gH,gI,gJ,rfl,dN,d1,d2,hb⟩;refine⟨_,rfl,?_⟩;have bB:=am (Kd.aq dN (af oB));have b6:=am (Kd.aq d1 (af oB));have bC:=am (Kd.aq d2 (af oB));replace HV:=dm HV hb;replace BG:=ba BG hb;replace HK:=am (HK.out.below hb);replace b1:=ba b1 hb;replace HB:=hB HB hb;(try clear d1);(try clear d2))|((with_reducible refine au (N:=8) rfl ?_);refine fz 8 #[.int .i64 0,.int .i64 0,.int .i64 0,.slice none 0 0,.slice none 0 0,.slice none 0 0] 32 ?_;intro bH hg w8 hbox hb;have b3:=am (hbox);have dU:=fO hg;have bX:ae (wS.heap.size≤bH):=⟨hg▸HK.out.1⟩;have b8:=fX hg b1;have b9:=fY hg b1;have dJ:=fX hg BG;have dK:=fY hg BG;replace HV:=dm HV hb;replace BG:=ba BG hb;replace HK:=am (HK.out.below hb);replace bB:=dm bB hb;replace b6:=dm b6 hb;replace bC:=dm bC hb;replace b1:=ba b1 hb;replace HB:=hB HB hb;clear hb hbox hg;have gK:=b9.out;have gL:=b8.out;obtain⟨⟨_,_,_,_,_,_⟩,_,_,_,_,_,_⟩:=z6 b3;obtain⟨d8,d9,dA⟩:=Kd.ao bB.out;subst dA;obtain⟨bS,bK,dB⟩:=Kd.ao b6.out;subst dB;obtain⟨dC,dD,dE⟩:=Kd.ao bC.out;subst dE))
 go_loopg [10] k (fun kq dO w'=>∃(b2:Int) (b5:List ByteArray) (u1:Value),dO= .int .i64 b2∧ae (cq.l0 kq ah al a2 b4 b2 b5=some r)∧ae (kq≤k)∧ae (Kd.R fL 74 w' w.heap.size (fun _=>True) (.slice bS b4.length bK) b4)∧ae (w'.heap[bG]? =some (.cells #[(.slice bs ah.length bo),.int .i64 al] 26 (0,0)))∧ae (w'.heap[bH]? =some (.cells #[.int .i64 bN,.int .i64 bO,.int .i64 bP,(.slice d8 bQ.length d9),(.slice bS b4.length bK),(.slice dC bR.length dD)] 32 (0,0)))∧ae (w'.heap[g]? =some (.cells #[u1] 35 (0,0)))∧ae (Kd.R Kd.string 9 w' w.heap.size (fun _=>True) u1 b5)∧ae (Kept wS w' (ty9 g wS))∧ae (Below w.heap.size w w'))
 case atStart=>exact⟨(0),xs,u,oS,H',⟨Nat.le_refl _⟩,⟨vp b6 b3⟩,⟨oF b1⟩,⟨oP b3⟩,⟨oF BG⟩,⟨vp HV b3⟩,⟨by(with_reducible repeat(refine Kept.setCell ?_ (.inr bX.out) _));exact HK.out⟩,⟨oB⟩⟩
 case round=>
  clear H' HV BG HK bB b6 bC;obtain⟨b2,b5,u1,rfl,HA,bT,HE,b1,b3,BG,HV,HK,HB⟩:=hrel
  cases gk with
  |zero=>exact absurd HA.out (by simp[cq.l0])
  |succ k1=>
   have H:=HA.out;clear HA;simp only[cq.l0]at H;replace H:=kU H;rcases H with⟨bY,H⟩|⟨bY,H⟩;rotate_left
   ·obtain rfl:=Option.some.inj H;obtain⟨⟨_,_,_,_,_,_⟩,_,_,_,_,_,_⟩:=z6 b3
    go_wp2
    refine bodyPost_end (results_none rfl _ _ _) rfl ?_;exact⟨rfl,u1,BG.out,HV.out,HK.out,HB.out⟩
   obtain⟨bU,H⟩:=jm H;have dV:=eq_true bU;have dW:decide (a2.size+1≤9223372036854775807)=true:=decide_eq_true bU
   try have dX:(9223372036854775807<a2.size+1)=False:=eq_false (Nat.not_lt.2 bU)
   obtain⟨dY,H⟩:=dw H;obtain⟨bV,H⟩:=jm H;have dZ:=eq_true bV;have gA:decide ((a2++(⟨#[47]⟩:ByteArray)).size+((aA b4 b2).f0).size≤9223372036854775807)=true:=decide_eq_true bV
   try have gB:(9223372036854775807<(a2++(⟨#[47]⟩:ByteArray)).size+((aA b4 b2).f0).size)=False:=eq_false (Nat.not_lt.2 bV)
   obtain⟨d3,H⟩:=jm H;have LM:=ae.mk d3;clear d3;replace H:=bA H;obtain⟨ys,dP,H⟩:=H;have H':=ae.mk H;clear H;have gC:=b9.out;have gD:=b8.out;obtain⟨⟨_,_,_,_,_,_⟩,_,_,_,_,_,_⟩:=z6 b3;have gM:(0≤(b2:Int))=True:=oT;have gN:(b2<(b4.length:Int))=True:=oT;obtain⟨b7,dF,dL,dM⟩:=ec (Kd.aU HE.out).2.2 b2 oa oa
   cases dF
   obtain⟨_,_⟩:=z1 BG
   go_wp2_with (first|((with_reducible refine cX (b:= .append) (xs:= #[.tmp 37,.tmp 39]) rfl ?_);at_builtin;refine Kd.iN Kd.string (w0:=w) w.heap.size rfl (.tmp 37) (.tmp 39) 35 9 (.string ⟨#[]⟩) 16 rfl underlying35 info9 rfl (by decide) (by omega) u1 b5 ((a2++(⟨#[47]⟩:ByteArray))++((aA b4 b2).f0)) [.string ((a2++(⟨#[47]⟩:ByteArray))++((aA b4 b2).f0))] (fun _=>True) (fun _=>False) rfl (by(go_simp;done)) ?aP (fun _ hk=>hk.elim) ?aF ?aO ?aB ?aS ?aL ?_;(case aP=>exact rfl);(case aB=>exact oB);(case aF=>exact(fun _ _=>trivial));(case aO=>exact oR HV);(case aS=>exact(af oB));(case aL=>have:=LM.out;omega);intro v8 w8 ho hb hg hat;obtain⟨bD,bE,dQ⟩:=Kd.ao ho;subst dQ;replace HE:=am (Kd.ev (oR HE) (Kd.ee (oR HV)) (by decide) hg);replace HK:=am (te HK.out (aaN (oR HV) hg));replace b1:=am (lq (oF b1) hg (Kd.ig HV.out b1.out (by decide)));replace b3:=am (lq (oF b3) hg (Kd.ig HV.out b3.out (by decide)));replace BG:=am (lq (oF BG) hg (Kd.ig HV.out BG.out (by decide)));replace HV:=ae.mk ho;replace HB:=ae.mk hb;clear ho hb hg hat;obtain⟨_,_⟩:=z1 BG)|((with_reducible refine fI (t:=35) (p:=41) rfl ?_);refine fs (t:=35) (p:=41) (v:= ?vo_) (w1:=(w8.setCell ⟨g,0,none⟩ (.slice bD (b5++[(a2++(⟨#[47]⟩:ByteArray))++((aA b4 b2).f0)]).length bE))) ?hg ?ho ?hn ?hr ?_;(case ho=>rfl);(case hg=>rfl);(case hn=>rfl);(case hr=>(go_simp;done));intro w9 hw;subst hw;have bF:=acK g 0 w8 (.slice bD (b5++[(a2++(⟨#[47]⟩:ByteArray))++((aA b4 b2).f0)]).length bE);replace HE:=am (aaO HE.out BG.out bF);replace b1:=tf b1 BG bF;replace b3:=tf b3 BG bF;replace HK:=am (te HK.out bF);replace HV:=am (Kd.aM (Kd.bn (p:=⟨g,0,none⟩) (Kd.ay HV.out BG.out (by decide)) (fun _ hk=>hk.2) (.slice bD (b5++[(a2++(⟨#[47]⟩:ByteArray))++((aA b4 b2).f0)]).length bE)) (fun _ _=>trivial));replace BG:=am (oq (cs':= #[(.slice bD (b5++[(a2++(⟨#[47]⟩:ByteArray))++((aA b4 b2).f0)]).length bE)]) BG.out 0 (.slice bD (b5++[(a2++(⟨#[47]⟩:ByteArray))++((aA b4 b2).f0)]).length bE) rfl);replace HB:=am (bs_ HB.out GWg (j:=0) (v:= .slice bD (b5++[(a2++(⟨#[47]⟩:ByteArray))++((aA b4 b2).f0)]).length bE));clear bF;generalize w8.setCell ⟨g,0,none⟩ (.slice bD (b5++[(a2++(⟨#[47]⟩:ByteArray))++((aA b4 b2).f0)]).length bE)=w9 at HE b1 b3 HK HV BG HB⊢))
   replace HE:=am (Kd.b_ HE.out);replace HV:=am (Kd.b_ HV.out);replace b1:=am (ar b1.out);replace b3:=am (ar b3.out);replace BG:=am (ar BG.out);replace HK:=ae.mk HK.out.drew;replace HB:=am (bl HB.out);obtain⟨dR,e9,bZ,bI⟩:=ec (Kd.aU HE.out).2.2 b2 oa oa;obtain rfl:b7=dR:=(by injection e9);clear bZ;refine qS 10 (fun w'=>w'.cell? ⟨bG,0,none⟩=some (.slice bs ah.length bo)∧w'.cell? ⟨bG,1,none⟩=some (.int .i64 al)∧w'.cell? ⟨bH,4,none⟩=some (.slice (some b7) b4.length bK)∧w'.cell? ⟨(b7.add ((b2).toNat*2)).block,(b7.add ((b2).toNat*2)).off+1,none⟩=some (.int .i64 ((aA b4 b2).f1))) cq.sf cq.pd ⟨(aj b1.out 0).trans rfl,(aj b1.out 1).trans rfl,(aj b3.out 4).trans rfl,bI⟩ (fun hHeld aV fA=> ?_);generalize w9.drew=gP at HE HV b1 b3 BG HK HB bI hHeld⊢;refine cG 1 43 aV ?_;refine cG 3 45 aV ?_;refine cG 7 49 aV ?_;refine cG 8 50 aV ?_;refine iA 0 42 aV fA hHeld ?_;refine iA 2 44 aV fA hHeld ?_;refine cG 4 46 aV ?_;refine cG 5 47 aV ?_;refine iA 6 48 aV fA hHeld ?_;refine jg 9 51 aV (fun K hK=> ?_);refine mo 51 func66 (ih k1 (by have:=bT.out;omega) _ _ ah al ((aA b4 b2).f1) ((a2++(⟨#[47]⟩:ByteArray))++((aA b4 b2).f0)) g _ _ ys w _ bL.out bM.out HB.out GWg.out BG.out HV.out dP.out) ?_;rintro e gQ ⟨rfl,u2,d4,d5,bJ,d6⟩;refine⟨_,rfl,?_⟩;replace HE:=am (aaO HE.out BG.out bJ);replace b1:=tf b1 BG bJ;replace b3:=tf b3 BG bJ;replace HK:=am (te HK.out bJ);replace BG:=ae.mk d4;replace HV:=ae.mk d5;replace HB:=ae.mk d6;clear d4 d5 bJ d6 bI;obtain⟨dS,e7,gO,dG⟩:=ec (Kd.aU HE.out).2.2 b2 oa oa;obtain rfl:b7=dS:=(by injection e7);refine aZ hK 51 ⟨(aj b1.out 0).trans rfl,(aj b1.out 1).trans rfl,(aj b3.out 4).trans rfl,dG⟩ (fun hHeld=> ?_);clear hK K;refine nF aV ?_
   try go_wp2
   go_roundg k1
   case measure=>have:=bT.out;omega
   case rel=>exact⟨(wrap64 (b2+1)),ys,u2,oS,H',⟨by have:=bT.out;omega⟩,HE,b1,b3,BG,HV,HK,HB⟩
end Go.Proofs.YtkfoopcpihmbmaaGreatDoor.P
