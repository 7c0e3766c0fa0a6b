-- Printed walks.
import Derived.Test.YtlecajlnjmbilaaGreatDoorPx0
set_option linter.all false
set_option maxHeartbeats 8000000
set_option maxRecDepth 100000
namespace Go.Proofs.YtlecajlnjmbilaaGreatDoor.P
open Go.RowKit Go.Proofs.ab.aq Go.Proofs.ab.aM Go.Proofs.ab.aT Go.Proofs.Tryz
attribute [local go_sem] gn gp iF iG fC fD gq gr

def cg.l0:Nat→List (ct)→Int→ByteArray→ByteArray→Option ((List (ct)))
 |0,_,_,_,_=>none
 |k+1,x5,x6,b1,b2=>if x6>0 then(if 0≤(wrap64 (x6-1))then(if(wrap64 (x6-1))<(x5.length:Int)then(if(Op.bytesLess b1.toList (((an x5 (wrap64 (x6-1))).f0).toList))=true then(if 0≤x6 then(if x6<(x5.length:Int)then(cg.l0 k (x5.set (x6:Int).toNat (⟨(an x5 (wrap64 (x6-1))).f0,(an x5 (wrap64 (x6-1))).f1⟩:ct)) (wrap64 (x6-1)) b1 b2)else(none))else(none))else(if 0≤x6 then(if x6<(x5.length:Int)then(some (x5.set (x6:Int).toNat (⟨b1,b2⟩:ct)))else(none))else(none)))else(none))else(none))else(if 0≤x6 then(if x6<(x5.length:Int)then(some (x5.set (x6:Int).toNat (⟨b1,b2⟩:ct)))else(none))else(none))
def cg.f (k:Nat) (l0:List (ct)) (cM:ByteArray) (cF:ByteArray):Option ((List (ct))):=(some (([]:List (ct)):List (ct))).bind fun b1=>(if b1.length+l0.length<4398046511104 then((some (b1++l0:List (ct))).bind fun b2=>((some (([(⟨cM,cF⟩:ct)]:List (ct)):List (ct))).bind fun b3=>(if b2.length+b3.length<4398046511104 then((some (b2++b3:List (ct))).bind fun b4=>(cg.l0 k b4 (wrap64 ((b4.length:Int)-1)) cM cF))else(none))))else(none))
def cg.T3:Bool×List (List Nat×List Nat):=(true,[([],[]),([0],[0]),([1],[1]),([2],[2]),([2],[2]),([4,2],[2,4]),([3,5,2],[2,3,5]),([6,2],[2,6]),([7,2],[2,7]),([2],[2]),([9,2],[2,9]),([8,10,2],[2,8,10]),([2,11],[2,11])])
def cg.B3:List Nat:=[0,1,3,7,7,23,63,127,255,7,519,2047,4095]
theorem cg.adF:g_ .any (opsOf Tryz.f64 3)=cg.T3:=by kernel_rfl
theorem cg.aaX:eX cg.T3.2 cg.B3=true:=by kernel_rfl
theorem cg.calls (k:Nat) (A0:Option Addr) (c0:Nat) (l0:List (ct)) (cM:ByteArray) (cF:ByteArray) (r:List (ct)) (w:World) (hr0:Kd.C fa w A0 l0.length l0) (hc0:l0.length≤c0) (h:cg.f k l0 cM cF=some r):
  Calls Tryz.prog 64 #[.slice A0 l0.length c0,.agg #[.string cM,.string cF]] w fun e w'=>∃iV:Value,e= .returned (iV)∧Kd.R fa 82 w' w.heap.size (fun _=>True) iV r∧Below w.heap.size w w':=by
 have zE:=underlying82;have dX:=ae.mk hr0;have zX:=ae.mk hc0;clear hr0 hc0;have HB:=am (Below.refl w.heap.size w);unfold cg.f at h;have H:=h;clear h;obtain⟨bI,cX⟩:∃y_:List (ct),y_=(([]:List (ct))):=⟨_,rfl⟩;replace H:(if bI.length+l0.length<4398046511104 then((some (bI++l0:List (ct))).bind fun bJ=>((some (([(⟨cM,cF⟩:ct)]:List (ct)):List (ct))).bind fun bC=>(if bJ.length+bC.length<4398046511104 then((some (bJ++bC:List (ct))).bind fun bE=>(cg.l0 k bE (wrap64 ((bE.length:Int)-1)) cM cF))else(none))))else(none))=some r:=oY;have bZ:=ae.mk cX;clear cX;obtain⟨c3,H⟩:=lu H;have dL:=ae.mk c3;clear c3;obtain⟨bJ,cX⟩:∃y_:List (ct),y_=(bI++l0):=⟨_,rfl⟩;replace H:((some (([(⟨cM,cF⟩:ct)]:List (ct)):List (ct))).bind fun bC=>(if bJ.length+bC.length<4398046511104 then((some (bJ++bC:List (ct))).bind fun bE=>(cg.l0 k bE (wrap64 ((bE.length:Int)-1)) cM cF))else(none)))=some r:=oY;have dA:=ae.mk cX;clear cX;obtain⟨bC,cX⟩:∃y_:List (ct),y_=(([(⟨cM,cF⟩:ct)]:List (ct))):=⟨_,rfl⟩;replace H:(if bJ.length+bC.length<4398046511104 then((some (bJ++bC:List (ct))).bind fun bE=>(cg.l0 k bE (wrap64 ((bE.length:Int)-1)) cM cF))else(none))=some r:=oY;have bU:=ae.mk cX;clear cX;obtain⟨c4,H⟩:=lu H;have m2:=ae.mk c4;clear c4;obtain⟨bE,cX⟩:∃y_:List (ct),y_=(bJ++bC):=⟨_,rfl⟩;replace H:(cg.l0 k bE (wrap64 ((bE.length:Int)-1)) cM cF)=some r:=oY;have jJ:=ae.mk cX;clear cX;have H':=ae.mk H;clear H
 go_enter func64,ntmps64
 try go_wp2_with (first|((with_reducible refine ai (N:=3) rfl ?_);refine eh 3 #[.string cM,.string cF] 82 ?_;intro b5 hg w5 hbox hb;have b1:=am (hbox);have mV:=eg hg;replace HB:=hB HB hb;clear hb hbox hg))
 replace b1:=am (ar b1.out);replace HB:=am (au HB.out);refine s0_ 7 (fun w'=>w'.cell? ⟨b5,0,none⟩=some (.string cM)∧w'.cell? ⟨b5,1,none⟩=some (.string cF)) oH (fun hHeld=> ?_);generalize w5.drew=w6 at b1 HB hHeld⊢;refine uu 1 8 ?_;refine vI 3 10 hHeld ?_;refine acC (σ:=Value×Value×Value) 2 (lb 7 31) (fun s_=>[(7,s_.1),(9,s_.2.1),(11,s_.2.2)]) (fun s_ w'=>(w'.cell? ⟨b5,0,none⟩=some (.string cM)∧w'.cell? ⟨b5,1,none⟩=some (.string cF))∧(Kd.R fa 82 w' w.heap.size (fun k_=>some k_≠(s_.2.2:Value).ownBlock∧k_≠b5) s_.2.1 bJ)∧(Kd.R fa 82 w' w.heap.size (fun k_=>some k_≠(s_.2.1:Value).ownBlock∧k_≠b5) s_.2.2 bC)∧(w'.heap[b5]? =some (.cells #[.string cM,.string cF] 82 (0,0)))∧(Below w.heap.size w w')) ?_ ?_;rotate_left
 ·intro sR;refine adf (i:=0) (j:=4) (Ni:=some 7) (Nj:=some 11) (lb 7 11) (lb 7 26) rfl rfl rfl rfl (by kernel_rfl) (by decide) (by decide) (fun K hK=> ?_) (fun K hK=> ?_)
  ·skip
   refine Kd.kV fa _ 82 ?hg (N:=7) ?hd (xs:=([]:List (ct))) (inner:=[]) (ok:=fun _=>True) (ft:=fun _=>True) ?hr ?hp (fun _ hk=>hk) trivial (Below.refl _ _) (Nat.le_refl _) (by simp) ?_;(case hd=>rfl);(case hg=>rfl);(case hr=>first|(go_simp;done)|(go_simp;rfl));(case hp=>exact(cK.none _ _));intro dY w7 bT hb fc da;clear fc da
   (first|rw[←bZ.out]at bT|(simp only[Int.reduceToNat]at bT;rw[←bZ.out]at bT))
   have bB:=am (Kd.aw (Kd.lS bT (g:=b5) (o:= .cells #[.string cM,.string cF] 82 (0,0)) (oF b1)) (ah oB));replace b1:=aQ b1 hb;replace HB:=hB HB hb;clear hb bT;obtain⟨bK,bL,er_⟩:=Kd.ax bB.out;subst er_;refine eP hK 7 oH (fun hHeld=> ?_);clear hK K;refine adf (i:=2) (j:=4) (Ni:=some 9) (Nj:=some 11) (lb 7 15) (lb 7 27) rfl rfl rfl rfl (by kernel_rfl) (by decide) (by decide) (fun K hK=> ?_) (fun K hK=> ?_)
   ·skip
    refine Kd.hI fa (w0:=w) w.heap.size (by rfl) (.tmp 7) (.tmp 8) 56 82 (.agg #[(.string ⟨#[]⟩),(.string ⟨#[]⟩)]) 32 rfl underlying56 nP rfl (by decide) (by omega) (.slice bK bI.length bL) bI l0 _ _ _ (fun k_=>k_≠b5) (fun _=>False) rfl rfl ?aO ?aR (fun _ _ h=>h) (fun _ h=>h.elim) ?aF ?aB ?aS ?aL ?_
    (case aR=>repeat(first|exact(Kd.de dX.out HB.out)|(with_reducible refine Kd.fx ?_ _)|(with_reducible refine Kd.fy ?_ _)|(with_reducible refine Kd.hD ?_)))
    (case aB=>exact oB)
    (case aF=>exact(fun k_ hk=>Kd.eC (g:=b5) (o:= .cells #[.string cM,.string cF] 82 (0,0)) (oF b1) k_ hk))
    (case aO=>exact(by(with_reducible repeat(first|apply Kd.ca|apply Kd.cd|apply Kd.cj));exact Kd.bn bB.out (fun _ hk=>hk.2)))
    (case aS=>exact(ah oB))
    (case aL=>have:=dL.out;omega)
    intro bP w9 ho hb hg hat;rw[←dA.out]at ho;have bD:=am (ho);replace b1:=ks b1 hg (Kd.nU bB.out (fun _ hk=>hk.2));replace HB:=am (hb);clear bB;clear ho hb hg hat;refine eP hK 9 oH (fun hHeld=> ?_);clear hK K;refine o0_ 4 11 (fun K hK=> ?_);refine Kd.kV fa _ 82 ?hg (N:=11) ?hd (xs:=([(⟨cM,cF⟩:ct)]:List (ct))) (inner:=[.string cM,.string cF]) (ok:=fun _=>True) (ft:=fun _=>True) ?hr ?hp (fun _ hk=>hk) trivial (Below.refl _ _) (Nat.le_refl _) (by simp) ?_;(case hd=>rfl);(case hg=>rfl);(case hr=>first|(go_simp;done)|(go_simp;rfl));(case hp=>exact(cK.c2 (show Kd.M fa _ _ _ (⟨cM,cF⟩:ct) [.string cM,.string cF]from(iI _ _ _ (⟨cM,cF⟩:ct))) (cK.none _ _)));intro d4 zY bY hb fc da;clear fc da
    (first|rw[←bU.out]at bY|(simp only[Int.reduceToNat]at bY;rw[←bU.out]at bY))
    have b9:=am (Kd.aw (Kd.lS (Kd.ly bY (nK bD)) (g:=b5) (o:= .cells #[.string cM,.string cF] 82 (0,0)) (oF b1)) (ah oB));replace bD:=ke_ bD bY hb;replace b1:=aQ b1 hb;replace HB:=hB HB hb;clear hb bY;obtain⟨bM,bN,er_⟩:=Kd.ax b9.out;subst er_;refine eP hK 11 oH (fun hHeld=> ?_);clear hK K;exact rv (by simp only[mw,Act.put,List.setIfInBounds_toArray,List.set_cons_zero,List.set_cons_succ]) (sR ((.slice bK bI.length bL),bP,(.slice bM bC.length bN)) _ ⟨hHeld,(by(with_reducible repeat(first|apply Kd.ca|apply Kd.cd|apply Kd.cj));exact Kd.bn bD.out (fun _ hk=>⟨hk.2,hk.1⟩)),(by(with_reducible repeat(first|apply Kd.ca|apply Kd.cd|apply Kd.cj));exact Kd.bn b9.out (fun _ hk=>⟨hk.1.2,hk.2⟩)),(oF b1),oB⟩)
   ·skip
    refine Kd.kV fa _ 82 ?hg (N:=11) ?hd (xs:=([(⟨cM,cF⟩:ct)]:List (ct))) (inner:=[.string cM,.string cF]) (ok:=fun _=>True) (ft:=fun _=>True) ?hr ?hp (fun _ hk=>hk) trivial (Below.refl _ _) (Nat.le_refl _) (by simp) ?_;(case hd=>rfl);(case hg=>rfl);(case hr=>first|(go_simp;done)|(go_simp;rfl));(case hp=>exact(cK.c2 (show Kd.M fa _ _ _ (⟨cM,cF⟩:ct) [.string cM,.string cF]from(iI _ _ _ (⟨cM,cF⟩:ct))) (cK.none _ _)));intro d4 w9 bF hb fc da;clear fc da
    (first|rw[←bU.out]at bF|(simp only[Int.reduceToNat]at bF;rw[←bU.out]at bF))
    have b9:=am (Kd.aw (Kd.lS (Kd.ly bF (nK bB)) (g:=b5) (o:= .cells #[.string cM,.string cF] 82 (0,0)) (oF b1)) (ah oB));replace bB:=ke_ bB bF hb;replace b1:=aQ b1 hb;replace HB:=hB HB hb;clear hb bF;obtain⟨bM,bN,er_⟩:=Kd.ax b9.out;subst er_;refine eP hK 11 oH (fun hHeld=> ?_);clear hK K;refine o0_ 2 9 (fun K hK=> ?_);refine Kd.hI fa (w0:=w) w.heap.size (by rfl) (.tmp 7) (.tmp 8) 56 82 (.agg #[(.string ⟨#[]⟩),(.string ⟨#[]⟩)]) 32 rfl underlying56 nP rfl (by decide) (by omega) (.slice bK bI.length bL) bI l0 _ _ _ (fun k_=>some k_≠((.slice bM bC.length bN):Value).ownBlock∧k_≠b5) (fun _=>False) rfl rfl ?aO ?aR (fun _ _ h=>h) (fun _ h=>h.elim) ?aF ?aB ?aS ?aL ?_
    (case aR=>repeat(first|exact(Kd.de dX.out HB.out)|(with_reducible refine Kd.fx ?_ _)|(with_reducible refine Kd.fy ?_ _)|(with_reducible refine Kd.hD ?_)))
    (case aB=>exact oB)
    (case aF=>exact(fun k_ hk=>⟨Kd.fresh' (nK b9) k_ hk,Kd.eC (g:=b5) (o:= .cells #[.string cM,.string cF] 82 (0,0)) (oF b1) k_ hk⟩))
    (case aO=>exact(by(with_reducible repeat(first|apply Kd.ca|apply Kd.cd|apply Kd.cj));exact Kd.bn bB.out (fun _ hk=>⟨hk.2,hk.1.2⟩)))
    (case aS=>exact(ah oB))
    (case aL=>have:=dL.out;omega)
    intro bP mE ho hb hg hat;rw[←dA.out]at ho;have bD:=am (ho);replace b1:=ks b1 hg (Kd.nU bB.out (fun _ hk=>hk.1.2));replace b9:=am (Kd.ow (ok:=(fun k_=>k_≠b5)) (by(with_reducible repeat(first|apply Kd.ca|apply Kd.cd|apply Kd.cj));exact Kd.bn b9.out (fun _ hk=>⟨hk.2,hk.1.2⟩)) hg hat);replace HB:=am (hb);clear bB;clear ho hb hg hat;refine eP hK 9 oH (fun hHeld=> ?_);clear hK K;exact rv (by simp only[mw,Act.put,List.setIfInBounds_toArray,List.set_cons_zero,List.set_cons_succ]) (sR ((.slice bK bI.length bL),bP,(.slice bM bC.length bN)) _ ⟨hHeld,(oR bD),(by(with_reducible repeat(first|apply Kd.ca|apply Kd.cd|apply Kd.cj));exact Kd.bn b9.out (fun _ hk=>⟨hk.2,hk.1⟩)),(oF b1),oB⟩)
  ·skip
   refine Kd.kV fa _ 82 ?hg (N:=11) ?hd (xs:=([(⟨cM,cF⟩:ct)]:List (ct))) (inner:=[.string cM,.string cF]) (ok:=fun _=>True) (ft:=fun _=>True) ?hr ?hp (fun _ hk=>hk) trivial (Below.refl _ _) (Nat.le_refl _) (by simp) ?_;(case hd=>rfl);(case hg=>rfl);(case hr=>first|(go_simp;done)|(go_simp;rfl));(case hp=>exact(cK.c2 (show Kd.M fa _ _ _ (⟨cM,cF⟩:ct) [.string cM,.string cF]from(iI _ _ _ (⟨cM,cF⟩:ct))) (cK.none _ _)));intro d4 w7 bT hb fc da;clear fc da
   (first|rw[←bU.out]at bT|(simp only[Int.reduceToNat]at bT;rw[←bU.out]at bT))
   have b9:=am (Kd.aw (Kd.lS bT (g:=b5) (o:= .cells #[.string cM,.string cF] 82 (0,0)) (oF b1)) (ah oB));replace b1:=aQ b1 hb;replace HB:=hB HB hb;clear hb bT;obtain⟨bM,bN,er_⟩:=Kd.ax b9.out;subst er_;refine eP hK 11 oH (fun hHeld=> ?_);clear hK K;refine o0_ 0 7 (fun K hK=> ?_);refine Kd.kV fa _ 82 ?hg (N:=7) ?hd (xs:=([]:List (ct))) (inner:=[]) (ok:=fun _=>True) (ft:=fun _=>True) ?hr ?hp (fun _ hk=>hk) trivial (Below.refl _ _) (Nat.le_refl _) (by simp) ?_;(case hd=>rfl);(case hg=>rfl);(case hr=>first|(go_simp;done)|(go_simp;rfl));(case hp=>exact(cK.none _ _));intro dY w9 bF hb fc da;clear fc da
   (first|rw[←bZ.out]at bF|(simp only[Int.reduceToNat]at bF;rw[←bZ.out]at bF))
   have bB:=am (Kd.aw (Kd.lS (Kd.ly bF (nK b9)) (g:=b5) (o:= .cells #[.string cM,.string cF] 82 (0,0)) (oF b1)) (ah oB));replace b9:=ke_ b9 bF hb;replace b1:=aQ b1 hb;replace HB:=hB HB hb;clear hb bF;obtain⟨bK,bL,er_⟩:=Kd.ax bB.out;subst er_;refine eP hK 7 oH (fun hHeld=> ?_);clear hK K;refine o0_ 2 9 (fun K hK=> ?_);refine Kd.hI fa (w0:=w) w.heap.size (by rfl) (.tmp 7) (.tmp 8) 56 82 (.agg #[(.string ⟨#[]⟩),(.string ⟨#[]⟩)]) 32 rfl underlying56 nP rfl (by decide) (by omega) (.slice bK bI.length bL) bI l0 _ _ _ (fun k_=>some k_≠((.slice bM bC.length bN):Value).ownBlock∧k_≠b5) (fun _=>False) rfl rfl ?aO ?aR (fun _ _ h=>h) (fun _ h=>h.elim) ?aF ?aB ?aS ?aL ?_
   (case aR=>repeat(first|exact(Kd.de dX.out HB.out)|(with_reducible refine Kd.fx ?_ _)|(with_reducible refine Kd.fy ?_ _)|(with_reducible refine Kd.hD ?_)))
   (case aB=>exact oB)
   (case aF=>exact(fun k_ hk=>⟨Kd.fresh' (nK b9) k_ hk,Kd.eC (g:=b5) (o:= .cells #[.string cM,.string cF] 82 (0,0)) (oF b1) k_ hk⟩))
   (case aO=>exact(by(with_reducible repeat(first|apply Kd.ca|apply Kd.cd|apply Kd.cj));exact Kd.bn bB.out (fun _ hk=>⟨hk.1.2,hk.2⟩)))
   (case aS=>exact(ah oB))
   (case aL=>have:=dL.out;omega)
   intro bP mE ho hb hg hat;rw[←dA.out]at ho;have bD:=am (ho);replace b1:=ks b1 hg (Kd.nU bB.out (fun _ hk=>hk.2));replace b9:=am (Kd.ow (ok:=(fun k_=>k_≠b5)) (by(with_reducible repeat(first|apply Kd.ca|apply Kd.cd|apply Kd.cj));exact Kd.bn b9.out (fun _ hk=>⟨hk.1.2,hk.2⟩)) hg hat);replace HB:=am (hb);clear bB;clear ho hb hg hat;refine eP hK 9 oH (fun hHeld=> ?_);clear hK K;exact rv (by simp only[mw,Act.put,List.setIfInBounds_toArray,List.set_cons_zero,List.set_cons_succ]) (sR ((.slice bK bI.length bL),bP,(.slice bM bC.length bN)) _ ⟨hHeld,(oR bD),(by(with_reducible repeat(first|apply Kd.ca|apply Kd.cd|apply Kd.cj));exact Kd.bn b9.out (fun _ hk=>⟨hk.2,hk.1⟩)),(oF b1),oB⟩)
 rintro⟨dY,bP,d4⟩ d8 ⟨xA,jS,jT,jU,jV⟩;have jW:ae (Kd.R fa 82 d8 w.heap.size (fun k_=>some k_≠(d4:Value).ownBlock∧k_≠b5) bP bJ):=⟨jS⟩;have jX:ae (Kd.R fa 82 d8 w.heap.size (fun k_=>some k_≠(bP:Value).ownBlock∧k_≠b5) d4 bC):=⟨jT⟩;have jY:ae (d8.heap[b5]? =some (.cells #[.string cM,.string cF] 82 (0,0))):=⟨jU⟩;have jZ:ae (Below w.heap.size w d8):=⟨jV⟩;clear b1;clear HB;clear jS jT jU jV;have bD:=jW;have b9:=jX;have b1:=jY;have HB:=jZ;clear jW jX jY jZ;have hHeld:d8.cell? ⟨b5,0,none⟩=some (.string cM)∧d8.cell? ⟨b5,1,none⟩=some (.string cF):=xA;obtain⟨m3,m4,dZ⟩:=Kd.ax b9.out
 (first|subst dZ|(injection dZ with kL nA kM;have mF:=kL.symm;have mG:=kM.symm;clear kL nA kM;subst mF;subst mG))
 refine rv (a':= ?_) ?_ ?_;rotate_left
 ·simp only[mw,Act.put,List.setIfInBounds_toArray,List.set_cons_zero,List.set_cons_succ]
  rfl
 refine o0_ 5 12 (fun K hK=> ?_);refine Kd.hI fa (w0:=w) w.heap.size (by rfl) (.tmp 9) (.tmp 11) 56 82 (.agg #[(.string ⟨#[]⟩),(.string ⟨#[]⟩)]) 32 rfl underlying56 nP rfl (by decide) (by omega) bP bJ bC _ _ _ (fun k_=>some k_≠(.slice m3 bC.length m4:Value).ownBlock∧k_≠b5) (fun _=>False) rfl rfl ?aO ?aR (fun _ _ h=>h) (fun _ h=>h.elim) ?aF ?aB ?aS ?aL ?_
 (case aR=>repeat(first|exact(Kd.aH b9.out).2.2|(with_reducible refine Kd.fx ?_ _)|(with_reducible refine Kd.fy ?_ _)|(with_reducible refine Kd.hD ?_)))
 (case aB=>exact oB)
 (case aF=>exact(fun k_ hk=>⟨Kd.fresh' (nK b9) k_ hk,Kd.eC (g:=b5) (o:= .cells #[.string cM,.string cF] 82 (0,0)) (oF b1) k_ hk⟩))
 (case aO=>exact(oR bD))
 (case aS=>exact(ah oB))
 (case aL=>have:=m2.out;omega)
 intro zF zZ ho hb hg hat;rw[←jJ.out]at ho;have dR:=am (ho);replace b1:=ks b1 hg (Kd.nU bD.out (fun _ hk=>hk.2));replace b9:=am (Kd.ow (ok:=(fun k_=>k_≠b5)) (by(with_reducible repeat(first|apply Kd.ca|apply Kd.cd|apply Kd.cj));exact Kd.bn b9.out (fun _ hk=>⟨hk.2,hk.1⟩)) hg hat);replace HB:=am (hb);clear bD;clear ho hb hg hat;refine eP hK 12 oH (fun hHeld=> ?_);clear hK K;refine uu 6 5 ?_;refine ra (by kernel_rfl) ?_;obtain⟨m5,bW,m6⟩:=Kd.ax dR.out;subst m6
 try go_wp2
 go_loopg [6] k (fun kq v6 w'=>∃(b2:List (ct)) (b4:Int) (b3:ByteArray) (b7:ByteArray),v6= .int .i64 b4∧ae (cg.l0 kq b2 b4 b3 b7=some r)∧ae (kq≤k)∧ae (Kd.R fa 82 w' w.heap.size (fun k_=>k_≠b5) (.slice m5 bE.length bW) b2)∧ae (w'.heap[b5]? =some (.cells #[.string b3,.string b7] 82 (0,0)))∧ae (Below w.heap.size w w'))
 case atStart=>exact⟨(bE),(wrap64 ((bE.length:Int)-1)),(cM),(cF),oS,H',⟨Nat.le_refl _⟩,⟨by(with_reducible repeat(first|apply Kd.ca|apply Kd.cd|apply Kd.cj));exact Kd.bn dR.out (fun _ hk=>hk.2)⟩,⟨oF b1⟩,⟨oB⟩⟩
 case round=>
  clear H'
  try clear c3
  try clear c4
  obtain⟨b2,b4,b3,b7,rfl,HA,m1,b8,b1,HB⟩:=hrel;have bV:=(Kd.aH b8.out).1;rw[bV]at b8
  (try simp only[bV])
  (try simp only[bV]at b1)
  cases gk with
  |zero=>exact absurd HA.out (by simp[cg.l0])
  |succ k1=>
   have H:=HA.out;clear HA;simp only[cg.l0]at H;replace H:=yJ H;rcases H with⟨jK,H⟩|⟨jK,H⟩;rotate_left
   ·obtain⟨mW,H⟩:=cO H;obtain⟨mX,H⟩:=cO H;obtain⟨gA,cX⟩:∃y_:List (ct),y_=(b2.set (b4:Int).toNat (⟨b3,b7⟩:ct)):=⟨_,rfl⟩;replace H:(some gA)=some r:=oY;have jL:=ae.mk cX;clear cX;obtain rfl:=Option.some.inj H
    try go_wp2
    replace b8:=am (Kd.cj b8.out);replace b1:=am (ar b1.out);replace HB:=am (au HB.out);refine mb 13 (fun w'=>True) cg.adF cg.aaX trivial (fun hHeld av eH=> ?_);generalize wr.drew=d5 at b8 b1 HB hHeld⊢;refine bx 0 16 av ?_;refine bx 1 17 av ?_;refine bx 2 18 av ?_;refine fF 3 19 av ?_;refine fF 4 20 av ?_;refine fF 5 21 av ?_;refine fF 6 22 av ?_;refine fF 7 23 av ?_;refine fF 8 24 av ?_;refine fF 9 25 av ?_;refine fF 10 26 av ?_;refine fF 11 27 av ?_;refine bx 12 28 av ?_;refine lZ av ?_;obtain⟨⟨_,_⟩,_,_⟩:=z2 b1;have gB:0≤(b4:Int):=oa;have gC:(b4:Int)<((b2.length:Int):Int):=oa;obtain⟨bQ,zG,gD,gE,m7,zH,gF⟩:=Kd.kA b8.out (by omega)
    (first|cases gD|(injection gD with gz nj nn;(first|subst gz|(injection gz with gz;subst gz));subst nn;clear nj))
    have gG:=ae.mk gE;have zI:=ae.mk gF;clear gE m7 gF;obtain⟨zJ,jM,gH,dB,dC⟩:=Kd.gm b8.out z82 (b4:Int) gB gC;obtain rfl:=ff gH;have mH:d5.cell? ⟨bQ,(b4:Int).toNat*2,none⟩=some (.string ((an b2 b4).f0)):=dB 0 _ rfl;have mI:d5.cell? ⟨bQ,(b4:Int).toNat*2+1,none⟩=some (.string ((an b2 b4).f1)):=dB 1 _ rfl;have mJ:d5.frozen? ⟨bQ,(b4:Int).toNat*2,none⟩=false:=dC 0;have mK:d5.frozen? ⟨bQ,(b4:Int).toNat*2+1,none⟩=false:=dC 1;clear jM dB dC gH;replace gB:=eq_true gB;replace gC:=eq_true gC;have gI:=am (show Kd.R fa 82 d5 w.heap.size (fun k_=>k_≠b5) (.slice (some ⟨bQ,0,none⟩) b2.length bW) b2 from(oR b8));obtain⟨zK,dS,gJ,d1,dD⟩:=Kd.gm gI.out z82 (b4:Int) oa (by have h_:(b4:Int)<((b2.length:Int):Int):=oa;first|exact h_|(have e_:=(Kd.aH b8.out).1;omega)|simpa using h_);obtain rfl:=ff gJ;have dM:=Kd.lR gI.out (b4:Int) oa (by have h_:(b4:Int)<((b2.length:Int):Int):=oa;first|exact h_|(have e_:=(Kd.aH b8.out).1;omega)|simpa using h_) (seg:=[.string b3,.string b7]) (j:=0) dS d1 (show 2≤2 from by decide) (x':=(⟨b3,b7⟩:ct)) (iI _ _ _ (⟨b3,b7⟩:ct)) (fun _ hk=>hk);have gK:=d1 0 _ rfl
    (try simp only[show(fa).sz=2 from rfl,Nat.mul_one,Nat.add_zero]at gK)
    have gL:=dD 0
    (try simp only[show(fa).sz=2 from rfl,Nat.mul_one,Nat.add_zero]at gL)
    have gM:=d1 1 _ rfl
    (try simp only[show(fa).sz=2 from rfl,Nat.mul_one,Nat.add_zero]at gM)
    have gN:=dD 1
    (try simp only[show(fa).sz=2 from rfl,Nat.mul_one,Nat.add_zero]at gN)
    clear dS d1 dD gJ
    try go_wp2_with (first|((with_reducible refine eK (t:=82) (p:=42) rfl ?_);refine eE (t:=82) (p:=42) (v:= ?vo_w40) (w1:=((d5.setCell ⟨bQ,(b4:Int).toNat*2,none⟩ (.string b3)).setCell ⟨bQ,(b4:Int).toNat*2+1,none⟩ (.string b7))) ?hg ?ho ?hn ?hr ?_;(case ho=>rfl);(case hg=>rfl);(case hn=>rfl);(case hr=>first|(go_simp;done)|(go_simp;rfl));intro gO hw;have hg:d5.grownBy gO (some bQ):=(by rw[hw];exact dM.2);have lG:Kd.R fa 82 gO w.heap.size (fun k_=>k_≠b5) (.slice (some ⟨bQ,0,none⟩) b2.length bW) gA:=(by rw[hw,jL.out];exact dM.1);clear dM;replace b1:=ks b1 hg (Kd.nU b8.out (fun _ hk=>hk));replace b8:=am (lG);replace HB:=am ((by rw[hw];exact aD (aD (HB.out) gG.out) gG.out:Below w.heap.size w gO));clear hg hw lG))
    go_ret
    exact⟨_,oE,mR b8,oB⟩
   obtain⟨b6,bX⟩:∃j_:Int,(wrap64 (b4-1))=j_:=⟨_,rfl⟩
   replace H:(if 0≤(b6)then(if(b6)<(b2.length:Int)then(if(Op.bytesLess b3.toList (((an b2 (b6)).f0).toList))=true then(if 0≤b4 then(if b4<(b2.length:Int)then(cg.l0 k1 (b2.set (b4:Int).toNat (⟨(an b2 (b6)).f0,(an b2 (b6)).f1⟩:ct)) b6 b3 b7)else(none))else(none))else(if 0≤b4 then(if b4<(b2.length:Int)then(some (b2.set (b4:Int).toNat (⟨b3,b7⟩:ct)))else(none))else(none)))else(none))else(none))=some r:=by first|(rw[bX]at H;exact H)|(simp only[bX]at H⊢;exact H)
   have mL:(IntKind.i64.wrap (b4-1))=b6:=(kR _).trans bX;obtain⟨mY,H⟩:=cO H;obtain⟨mZ,H⟩:=cO H
   by_cases d9:(Op.bytesLess b3.toList (((an b2 (b6)).f0).toList))=true
   rotate_left
   ·rw[if_neg d9]at H
    have dE:(Op.bytesLess b3.toList (((an b2 (b6)).f0).toList))=false:=by simpa using d9
    have m8:(!Op.bytesLess (((an b2 (b6)).f0).toList) b3.toList&& !((((an b2 (b6)).f0).toList)==b3.toList))=false:=(abZ _ _).trans dE;clear d9;obtain⟨zA,H⟩:=cO H;obtain⟨zB,H⟩:=cO H;obtain⟨gP,cX⟩:∃y_:List (ct),y_=(b2.set (b4:Int).toNat (⟨b3,b7⟩:ct)):=⟨_,rfl⟩;replace H:(some gP)=some r:=oY;have jN:=ae.mk cX;clear cX;obtain rfl:=Option.some.inj H
    try go_wp2
    replace b8:=am (Kd.cj b8.out);replace b1:=am (ar b1.out);replace HB:=am (au HB.out);have m9:(0≤((b6):Int))=True:=oT;have mA:((b6)<(b2.length:Int))=True:=oT;obtain⟨bO,dN,bG,bH⟩:=cZ (Kd.aH b8.out).2.2 (b6) oa oa
    cases dN
    refine mb 13 (fun w'=>w'.cell? ⟨b5,0,none⟩=some (.string b3)∧w'.cell? ⟨b5,1,none⟩=some (.string b7)∧w'.cell? (bO.add (((b6)).toNat*2))=some (.string ((an b2 (b6)).f0))∧w'.cell? ⟨(bO.add (((b6)).toNat*2)).block,(bO.add (((b6)).toNat*2)).off+1,none⟩=some (.string ((an b2 (b6)).f1))) cg.adF cg.aaX ⟨(ao b1.out 0).trans rfl,(ao b1.out 1).trans rfl,bG,bH⟩ (fun hHeld av eH=> ?_);generalize wr.drew=d6 at b8 b1 HB bG bH hHeld⊢;refine bx 0 16 av ?_;refine bx 1 17 av ?_;refine bx 2 18 av ?_;refine bx 3 19 av ?_;refine bx 4 20 av ?_;refine bx 5 21 av ?_;refine bx 6 22 av ?_;refine bx 7 23 av ?_;refine bx 9 25 av ?_;refine fO 8 24 av eH hHeld ?_;refine fO 10 26 av eH hHeld ?_;refine bx 11 27 av ?_;refine bx 12 28 av ?_;refine lZ av ?_;obtain⟨⟨_,_⟩,_,_⟩:=z2 b1;have gQ:0≤(b4:Int):=oa;have gR:(b4:Int)<((b2.length:Int):Int):=oa;obtain⟨bR,zL,gS,gT,mB,zM,gU⟩:=Kd.kA b8.out (by omega)
    (first|cases gS|(injection gS with gz nj nn;(first|subst gz|(injection gz with gz;subst gz));subst nn;clear nj))
    have gV:=ae.mk gT;have zN:=ae.mk gU;clear gT mB gU
    (first|simp only[add_plain]at bG|skip)
    (first|simp only[add_plain]at bH|skip)
    obtain⟨zO,jO,gW,dF,dG⟩:=Kd.gm b8.out z82 (b4:Int) gQ gR;obtain rfl:=ff gW;have mM:d6.cell? ⟨bR,(b4:Int).toNat*2,none⟩=some (.string ((an b2 b4).f0)):=dF 0 _ rfl;have mN:d6.cell? ⟨bR,(b4:Int).toNat*2+1,none⟩=some (.string ((an b2 b4).f1)):=dF 1 _ rfl;have mO:d6.frozen? ⟨bR,(b4:Int).toNat*2,none⟩=false:=dG 0;have mP:d6.frozen? ⟨bR,(b4:Int).toNat*2+1,none⟩=false:=dG 1;clear jO dF dG gW;replace gQ:=eq_true gQ;replace gR:=eq_true gR;have gX:=am (show Kd.R fa 82 d6 w.heap.size (fun k_=>k_≠b5) (.slice (some ⟨bR,0,none⟩) b2.length bW) b2 from(oR b8));obtain⟨zP,dT,gY,d2,dH⟩:=Kd.gm gX.out z82 (b4:Int) oa (by have h_:(b4:Int)<((b2.length:Int):Int):=oa;first|exact h_|(have e_:=(Kd.aH b8.out).1;omega)|simpa using h_);obtain rfl:=ff gY;have dO:=Kd.lR gX.out (b4:Int) oa (by have h_:(b4:Int)<((b2.length:Int):Int):=oa;first|exact h_|(have e_:=(Kd.aH b8.out).1;omega)|simpa using h_) (seg:=[.string b3,.string b7]) (j:=0) dT d2 (show 2≤2 from by decide) (x':=(⟨b3,b7⟩:ct)) (iI _ _ _ (⟨b3,b7⟩:ct)) (fun _ hk=>hk);have gZ:=d2 0 _ rfl
    (try simp only[show(fa).sz=2 from rfl,Nat.mul_one,Nat.add_zero]at gZ)
    have j1:=dH 0
    (try simp only[show(fa).sz=2 from rfl,Nat.mul_one,Nat.add_zero]at j1)
    have j2:=d2 1 _ rfl
    (try simp only[show(fa).sz=2 from rfl,Nat.mul_one,Nat.add_zero]at j2)
    have j3:=dH 1
    (try simp only[show(fa).sz=2 from rfl,Nat.mul_one,Nat.add_zero]at j3)
    clear dT d2 dH gY
    try go_wp2_with (first|((with_reducible refine eK (t:=82) (p:=42) rfl ?_);refine eE (t:=82) (p:=42) (v:= ?adE) (w1:=((d6.setCell ⟨bR,(b4:Int).toNat*2,none⟩ (.string b3)).setCell ⟨bR,(b4:Int).toNat*2+1,none⟩ (.string b7))) ?hg ?ho ?hn ?hr ?_;(case ho=>rfl);(case hg=>rfl);(case hn=>rfl);(case hr=>first|(go_simp;done)|(go_simp;rfl));intro j4 hw;have hg:d6.grownBy j4 (some bR):=(by rw[hw];exact dO.2);have lG:Kd.R fa 82 j4 w.heap.size (fun k_=>k_≠b5) (.slice (some ⟨bR,0,none⟩) b2.length bW) gP:=(by rw[hw,jN.out];exact dO.1);clear dO;replace b1:=ks b1 hg (Kd.nU b8.out (fun _ hk=>hk));replace b8:=am (lG);replace HB:=am ((by rw[hw];exact aD (aD (HB.out) gV.out) gV.out:Below w.heap.size w j4));clear hg hw lG))
    go_ret
    exact⟨_,by first|rfl|(simp[eQ,eR]<;>rfl)|(simp only[←bX];first|rfl|(simp[eQ,eR]<;>rfl))|(simp[*,eQ,eR]<;>rfl),mR b8,oB⟩
   rw[if_pos d9]at H;have dE:(Op.bytesLess b3.toList (((an b2 (b6)).f0).toList))=true:=d9;have m8:(!Op.bytesLess (((an b2 (b6)).f0).toList) b3.toList&& !((((an b2 (b6)).f0).toList)==b3.toList))=true:=(abZ _ _).trans dE;clear d9;obtain⟨zC,H⟩:=cO H;obtain⟨zD,H⟩:=cO H;obtain⟨dP,cX⟩:∃y_:List (ct),y_=(b2.set (b4:Int).toNat (⟨(an b2 (b6)).f0,(an b2 (b6)).f1⟩:ct)):=⟨_,rfl⟩;replace H:(cg.l0 k1 dP b6 b3 b7)=some r:=oY;have jP:=ae.mk cX;clear cX;have H':=ae.mk H;clear H
   try go_wp2
   replace b8:=am (Kd.cj b8.out);replace b1:=am (ar b1.out);replace HB:=am (au HB.out);have m9:(0≤((b6):Int))=True:=oT;have mA:((b6)<(b2.length:Int))=True:=oT;obtain⟨bO,dN,bG,bH⟩:=cZ (Kd.aH b8.out).2.2 (b6) oa oa
   cases dN
   refine mb 13 (fun w'=>w'.cell? ⟨b5,0,none⟩=some (.string b3)∧w'.cell? ⟨b5,1,none⟩=some (.string b7)∧w'.cell? (bO.add (((b6)).toNat*2))=some (.string ((an b2 (b6)).f0))∧w'.cell? ⟨(bO.add (((b6)).toNat*2)).block,(bO.add (((b6)).toNat*2)).off+1,none⟩=some (.string ((an b2 (b6)).f1))) cg.adF cg.aaX ⟨(ao b1.out 0).trans rfl,(ao b1.out 1).trans rfl,bG,bH⟩ (fun hHeld av eH=> ?_);generalize wr.drew=d7 at b8 b1 HB bG bH hHeld⊢;refine bx 0 16 av ?_;refine bx 1 17 av ?_;refine bx 2 18 av ?_;refine bx 3 19 av ?_;refine bx 4 20 av ?_;refine bx 5 21 av ?_;refine bx 6 22 av ?_;refine bx 7 23 av ?_;refine bx 9 25 av ?_;refine fO 8 24 av eH hHeld ?_;refine fO 10 26 av eH hHeld ?_;refine bx 11 27 av ?_;refine bx 12 28 av ?_;refine lZ av ?_;have zQ:(0≤((b6):Int))=True:=oT;have zR:((b6)<(b2.length:Int))=True:=oT;obtain⟨jQ,mC,dV,dW⟩:=cZ (Kd.aH b8.out).2.2 (b6) oa oa;obtain rfl:bO=jQ:=(by injection mC);have j5:0≤(b4:Int):=oa;have j6:(b4:Int)<((b2.length:Int):Int):=oa;obtain⟨bS,zS,j7,j8,mD,zT,j9⟩:=Kd.kA b8.out (by omega)
   (first|cases j7|(injection j7 with gz nj nn;(first|subst gz|(injection gz with gz;subst gz));subst nn;clear nj))
   have jA:=ae.mk j8;have zU:=ae.mk j9;clear j8 mD j9
   (first|simp only[add_plain]at bG|skip)
   (first|simp only[add_plain]at bH|skip)
   (first|simp only[add_plain]at dV|skip)
   (first|simp only[add_plain]at dW|skip)
   obtain⟨zV,jR,jB,dI,dJ⟩:=Kd.gm b8.out z82 (b4:Int) j5 j6;obtain rfl:=ff jB;have mQ:d7.cell? ⟨bS,(b4:Int).toNat*2,none⟩=some (.string ((an b2 b4).f0)):=dI 0 _ rfl;have mS:d7.cell? ⟨bS,(b4:Int).toNat*2+1,none⟩=some (.string ((an b2 b4).f1)):=dI 1 _ rfl;have mT:d7.frozen? ⟨bS,(b4:Int).toNat*2,none⟩=false:=dJ 0;have mU:d7.frozen? ⟨bS,(b4:Int).toNat*2+1,none⟩=false:=dJ 1;clear jR dI dJ jB;replace j5:=eq_true j5;replace j6:=eq_true j6;have jC:=am (show Kd.R fa 82 d7 w.heap.size (fun k_=>k_≠b5) (.slice (some ⟨bS,0,none⟩) b2.length bW) b2 from(oR b8));obtain⟨zW,dU,jD,d3,dK⟩:=Kd.gm jC.out z82 (b4:Int) oa (by have h_:(b4:Int)<((b2.length:Int):Int):=oa;first|exact h_|(have e_:=(Kd.aH b8.out).1;omega)|simpa using h_);obtain rfl:=ff jD;have dQ:=Kd.lR jC.out (b4:Int) oa (by have h_:(b4:Int)<((b2.length:Int):Int):=oa;first|exact h_|(have e_:=(Kd.aH b8.out).1;omega)|simpa using h_) (seg:=[.string ((an b2 (b6)).f0),.string ((an b2 (b6)).f1)]) (j:=0) dU d3 (show 2≤2 from by decide) (x':=(⟨(an b2 (b6)).f0,(an b2 (b6)).f1⟩:ct)) (iI _ _ _ (⟨(an b2 (b6)).f0,(an b2 (b6)).f1⟩:ct)) (fun _ hk=>hk);have jE:=d3 0 _ rfl
   (try simp only[show(fa).sz=2 from rfl,Nat.mul_one,Nat.add_zero]at jE)
   have jF:=dK 0
   (try simp only[show(fa).sz=2 from rfl,Nat.mul_one,Nat.add_zero]at jF)
   have jG:=d3 1 _ rfl
   (try simp only[show(fa).sz=2 from rfl,Nat.mul_one,Nat.add_zero]at jG)
   have jH:=dK 1
   (try simp only[show(fa).sz=2 from rfl,Nat.mul_one,Nat.add_zero]at jH)
   clear dU d3 dK jD
   try go_wp2_with (first|((with_reducible refine eK (t:=82) (p:=36) rfl ?_);refine eE (t:=82) (p:=36) (v:= ?vo_w26) (w1:=((d7.setCell ⟨bS,(b4:Int).toNat*2,none⟩ (.string ((an b2 (b6)).f0))).setCell ⟨bS,(b4:Int).toNat*2+1,none⟩ (.string ((an b2 (b6)).f1)))) ?hg ?ho ?hn ?hr ?_;(case ho=>rfl);(case hg=>rfl);(case hn=>rfl);(case hr=>first|(go_simp;done)|(go_simp;rfl));intro jI hw;have hg:d7.grownBy jI (some bS):=(by rw[hw];exact dQ.2);have lG:Kd.R fa 82 jI w.heap.size (fun k_=>k_≠b5) (.slice (some ⟨bS,0,none⟩) b2.length bW) dP:=(by rw[hw,jP.out];exact dQ.1);clear dQ;replace b1:=ks b1 hg (Kd.nU b8.out (fun _ hk=>hk));replace b8:=am (lG);replace HB:=am ((by rw[hw];exact aD (aD (HB.out) jA.out) jA.out:Below w.heap.size w jI));clear hg hw lG))
   (try simp only[←bV])
   go_roundg k1
   case measure=>have:=m1.out;omega
   case rel=>exact⟨(dP),(b6),(b3),(b7),(by first|rfl|(simp;done)|(simp only[←bX]<;>(first|rfl|simp))|(simp[*];done)),H',⟨by have:=m1.out;omega⟩,⟨by(try simp only[bV]);(with_reducible repeat(first|apply Kd.ca|apply Kd.cd|apply Kd.cj));exact b8.out⟩,⟨by(try simp only[bV]);(with_reducible repeat(first|refine cp ?_ _|refine ar ?_|refine aG ?_ _));exact b1.out⟩,⟨oB⟩⟩

def ay.l0:Nat→ByteArray→Int→Int→Option (Bool)
 |0,_,_,_=>none
 |k+1,x0,x6,x7=>if x7<x6 then(if 0≤x7 then(if x7<(x0.size:Int)then(if(bt x0 x7)<97 then(if(bt x0 x7)<48 then(if(bt x0 x7)=95 then(ay.l0 k x0 x6 (wrap64 (x7+1)))else(if(bt x0 x7)=45 then(ay.l0 k x0 x6 (wrap64 (x7+1)))else(if(bt x0 x7)=46 then(ay.l0 k x0 x6 (wrap64 (x7+1)))else(some false))))else(if(bt x0 x7)>57 then(if(bt x0 x7)=95 then(ay.l0 k x0 x6 (wrap64 (x7+1)))else(if(bt x0 x7)=45 then(ay.l0 k x0 x6 (wrap64 (x7+1)))else(if(bt x0 x7)=46 then(ay.l0 k x0 x6 (wrap64 (x7+1)))else(some false))))else(ay.l0 k x0 x6 (wrap64 (x7+1)))))else(if(bt x0 x7)>122 then(if(bt x0 x7)<48 then(if(bt x0 x7)=95 then(ay.l0 k x0 x6 (wrap64 (x7+1)))else(if(bt x0 x7)=45 then(ay.l0 k x0 x6 (wrap64 (x7+1)))else(if(bt x0 x7)=46 then(ay.l0 k x0 x6 (wrap64 (x7+1)))else(some false))))else(if(bt x0 x7)>57 then(if(bt x0 x7)=95 then(ay.l0 k x0 x6 (wrap64 (x7+1)))else(if(bt x0 x7)=45 then(ay.l0 k x0 x6 (wrap64 (x7+1)))else(if(bt x0 x7)=46 then(ay.l0 k x0 x6 (wrap64 (x7+1)))else(some false))))else(ay.l0 k x0 x6 (wrap64 (x7+1)))))else(ay.l0 k x0 x6 (wrap64 (x7+1)))))else(none))else(none))else(if(x0.size:Int)≥1 then(if(x0.size:Int)≤14 then(if x0.toList=([46]:List UInt8)then(some false)else(some (x0.toList !=([46,46]:List UInt8))))else(some false))else(some false))
def ay.f (k:Nat) (a0:ByteArray):Option (Bool):=ay.l0 k a0 (a0.size:Int) 0
theorem ay.calls (k:Nat) (a0:ByteArray) (r:Bool) (w:World) (h:ay.f k a0=some r):
  Calls Tryz.prog 65 #[.string a0] w fun e w'=>e= .returned (.bool r)∧fv w w':=by
 unfold ay.f at h;have H:=h;clear h;have H':=ae.mk H;clear H
 go_enter func65,ntmps65
 go_wp2
 go_loopg [7] k (fun kq v7 w'=>∃(b1:Int),v7= .int .i64 b1∧ae (ay.l0 kq a0 (a0.size:Int) b1=some r)∧ae (kq≤k)∧fv w w')
 case atStart=>exact⟨(0),oS,H',⟨Nat.le_refl _⟩,oD⟩
 case round=>
  clear H';obtain⟨b1,rfl,HA,b2,⟨m1,rfl⟩⟩:=hrel
  cases gk with
  |zero=>exact absurd HA.out (by simp[ay.l0])
  |succ k1=>
   have H:=HA.out;clear HA;simp only[ay.l0]at H;replace H:=iM H;rcases H with⟨dC,H⟩|⟨dC,H⟩;rotate_left
   ·by_cases bF:(a0.size:Int)≥1
    rotate_left
    ·rw[if_neg bF]at H;have bH:decide (1≤(a0.size:Int))=false:=decide_eq_false bF;have bI:decide (1≤a0.size)=false:=decide_eq_false (by omega);clear bF;obtain rfl:=Option.some.inj H
     go_wp2
     go_ret
     exact⟨oS,oD⟩
    rw[if_pos bF]at H;have bH:decide (1≤(a0.size:Int))=true:=decide_eq_true bF;have bI:decide (1≤a0.size)=true:=decide_eq_true (by omega);clear bF
    by_cases bG:(a0.size:Int)≤14
    rotate_left
    ·rw[if_neg bG]at H;have bJ:decide ((a0.size:Int)≤14)=false:=decide_eq_false bG;have bK:decide (a0.size≤14)=false:=decide_eq_false (by omega);clear bG;obtain rfl:=Option.some.inj H
     go_wp2
     go_ret
     exact⟨oS,oD⟩
    rw[if_pos bG]at H;have bJ:decide ((a0.size:Int)≤14)=true:=decide_eq_true bG;have bK:decide (a0.size≤14)=true:=decide_eq_true (by omega);clear bG
    by_cases b4:a0.toList=([46]:List UInt8)
    rotate_left
    ·rw[if_neg b4]at H;have bL:(a0.toList==([46]:List UInt8))=false:=beq_eq_false_iff_ne.mpr b4;have bM:(a0.toList !=([46]:List UInt8))=true:=bne_iff_ne.mpr b4;obtain rfl:=Option.some.inj H
     go_wp2
     go_ret
     exact⟨oS,oD⟩
    rw[if_pos b4]at H;have bL:(a0.toList==([46]:List UInt8))=true:=beq_iff_eq.mpr b4;have bM:(a0.toList !=([46]:List UInt8))=false:=bne_eq_false_iff_eq.mpr b4;clear b4;obtain rfl:=Option.some.inj H
    go_wp2
    go_ret
    exact⟨oS,oD⟩
   obtain⟨dJ,H⟩:=cO H;obtain⟨dK,H⟩:=cO H;replace H:=iM H;rcases H with⟨dD,H⟩|⟨dD,H⟩
   ·replace H:=iM H;rcases H with⟨dE,H⟩|⟨dE,H⟩
    ·by_cases c8:(bt a0 b1)=95
     ·rw[if_pos c8]at H;have dF:((bt a0 b1)==95)=true:=beq_iff_eq.mpr c8;have dG:((bt a0 b1) !=95)=false:=bne_eq_false_iff_eq.mpr c8;clear c8;have H':=ae.mk H;clear H;have p5:(0≤(b1:Int))=True:=oT;have q5:(b1<(a0.size:Int))=True:=oT;have b3:=iu a0 b1
      go_wp2
      go_roundg k1
      case measure=>have:=b2.out;omega
      case rel=>exact⟨(wrap64 (b1+1)),oS,H',⟨by have:=b2.out;omega⟩,oD⟩
     rw[if_neg c8]at H;have dF:((bt a0 b1)==95)=false:=beq_eq_false_iff_ne.mpr c8;have dG:((bt a0 b1) !=95)=true:=bne_iff_ne.mpr c8
     by_cases c9:(bt a0 b1)=45
     ·rw[if_pos c9]at H;have dH:((bt a0 b1)==45)=true:=beq_iff_eq.mpr c9;have dI:((bt a0 b1) !=45)=false:=bne_eq_false_iff_eq.mpr c9;clear c9;have H':=ae.mk H;clear H;have p5:(0≤(b1:Int))=True:=oT;have q5:(b1<(a0.size:Int))=True:=oT;have b3:=iu a0 b1
      go_wp2
      go_roundg k1
      case measure=>have:=b2.out;omega
      case rel=>exact⟨(wrap64 (b1+1)),oS,H',⟨by have:=b2.out;omega⟩,oD⟩
     rw[if_neg c9]at H;have dH:((bt a0 b1)==45)=false:=beq_eq_false_iff_ne.mpr c9;have dI:((bt a0 b1) !=45)=true:=bne_iff_ne.mpr c9
     by_cases c10:(bt a0 b1)=46
     rotate_left
     ·rw[if_neg c10]at H;have bN:((bt a0 b1)==46)=false:=beq_eq_false_iff_ne.mpr c10;have bO:((bt a0 b1) !=46)=true:=bne_iff_ne.mpr c10;obtain rfl:=Option.some.inj H;have p5:(0≤(b1:Int))=True:=oT;have q5:(b1<(a0.size:Int))=True:=oT;have b3:=iu a0 b1
      go_wp2
      go_ret
      exact⟨oS,oD⟩
     rw[if_pos c10]at H;have bN:((bt a0 b1)==46)=true:=beq_iff_eq.mpr c10;have bO:((bt a0 b1) !=46)=false:=bne_eq_false_iff_eq.mpr c10;clear c10;have H':=ae.mk H;clear H;have p5:(0≤(b1:Int))=True:=oT;have q5:(b1<(a0.size:Int))=True:=oT;have b3:=iu a0 b1
     go_wp2
     go_roundg k1
     case measure=>have:=b2.out;omega
     case rel=>exact⟨(wrap64 (b1+1)),oS,H',⟨by have:=b2.out;omega⟩,oD⟩
    replace H:=yJ H;rcases H with⟨bP,H⟩|⟨bP,H⟩;rotate_left
    ·have H':=ae.mk H;clear H;have p5:(0≤(b1:Int))=True:=oT;have q5:(b1<(a0.size:Int))=True:=oT;have b3:=iu a0 b1
     go_wp2
     go_roundg k1
     case measure=>have:=b2.out;omega
     case rel=>exact⟨(wrap64 (b1+1)),oS,H',⟨by have:=b2.out;omega⟩,oD⟩
    by_cases b5:(bt a0 b1)=95
    ·rw[if_pos b5]at H;have bQ:((bt a0 b1)==95)=true:=beq_iff_eq.mpr b5;have bR:((bt a0 b1) !=95)=false:=bne_eq_false_iff_eq.mpr b5;clear b5;have H':=ae.mk H;clear H;have p5:(0≤(b1:Int))=True:=oT;have q5:(b1<(a0.size:Int))=True:=oT;have b3:=iu a0 b1
     go_wp2
     go_roundg k1
     case measure=>have:=b2.out;omega
     case rel=>exact⟨(wrap64 (b1+1)),oS,H',⟨by have:=b2.out;omega⟩,oD⟩
    rw[if_neg b5]at H;have bQ:((bt a0 b1)==95)=false:=beq_eq_false_iff_ne.mpr b5;have bR:((bt a0 b1) !=95)=true:=bne_iff_ne.mpr b5
    by_cases b6:(bt a0 b1)=45
    ·rw[if_pos b6]at H;have bS:((bt a0 b1)==45)=true:=beq_iff_eq.mpr b6;have bT:((bt a0 b1) !=45)=false:=bne_eq_false_iff_eq.mpr b6;clear b6;have H':=ae.mk H;clear H;have p5:(0≤(b1:Int))=True:=oT;have q5:(b1<(a0.size:Int))=True:=oT;have b3:=iu a0 b1
     go_wp2
     go_roundg k1
     case measure=>have:=b2.out;omega
     case rel=>exact⟨(wrap64 (b1+1)),oS,H',⟨by have:=b2.out;omega⟩,oD⟩
    rw[if_neg b6]at H;have bS:((bt a0 b1)==45)=false:=beq_eq_false_iff_ne.mpr b6;have bT:((bt a0 b1) !=45)=true:=bne_iff_ne.mpr b6
    by_cases b7:(bt a0 b1)=46
    rotate_left
    ·rw[if_neg b7]at H;have bU:((bt a0 b1)==46)=false:=beq_eq_false_iff_ne.mpr b7;have bV:((bt a0 b1) !=46)=true:=bne_iff_ne.mpr b7;obtain rfl:=Option.some.inj H;have p5:(0≤(b1:Int))=True:=oT;have q5:(b1<(a0.size:Int))=True:=oT;have b3:=iu a0 b1
     go_wp2
     go_ret
     exact⟨oS,oD⟩
    rw[if_pos b7]at H;have bU:((bt a0 b1)==46)=true:=beq_iff_eq.mpr b7;have bV:((bt a0 b1) !=46)=false:=bne_eq_false_iff_eq.mpr b7;clear b7;have H':=ae.mk H;clear H;have p5:(0≤(b1:Int))=True:=oT;have q5:(b1<(a0.size:Int))=True:=oT;have b3:=iu a0 b1
    go_wp2
    go_roundg k1
    case measure=>have:=b2.out;omega
    case rel=>exact⟨(wrap64 (b1+1)),oS,H',⟨by have:=b2.out;omega⟩,oD⟩
   replace H:=yJ H;rcases H with⟨bW,H⟩|⟨bW,H⟩;rotate_left
   ·have H':=ae.mk H;clear H;have p5:(0≤(b1:Int))=True:=oT;have q5:(b1<(a0.size:Int))=True:=oT;have b3:=iu a0 b1
    go_wp2
    go_roundg k1
    case measure=>have:=b2.out;omega
    case rel=>exact⟨(wrap64 (b1+1)),oS,H',⟨by have:=b2.out;omega⟩,oD⟩
   replace H:=iM H;rcases H with⟨bX,H⟩|⟨bX,H⟩
   ·by_cases b8:(bt a0 b1)=95
    ·rw[if_pos b8]at H;have bY:((bt a0 b1)==95)=true:=beq_iff_eq.mpr b8;have bZ:((bt a0 b1) !=95)=false:=bne_eq_false_iff_eq.mpr b8;clear b8;have H':=ae.mk H;clear H;have p5:(0≤(b1:Int))=True:=oT;have q5:(b1<(a0.size:Int))=True:=oT;have b3:=iu a0 b1
     go_wp2
     go_roundg k1
     case measure=>have:=b2.out;omega
     case rel=>exact⟨(wrap64 (b1+1)),oS,H',⟨by have:=b2.out;omega⟩,oD⟩
    rw[if_neg b8]at H;have bY:((bt a0 b1)==95)=false:=beq_eq_false_iff_ne.mpr b8;have bZ:((bt a0 b1) !=95)=true:=bne_iff_ne.mpr b8
    by_cases b9:(bt a0 b1)=45
    ·rw[if_pos b9]at H;have d1:((bt a0 b1)==45)=true:=beq_iff_eq.mpr b9;have d2:((bt a0 b1) !=45)=false:=bne_eq_false_iff_eq.mpr b9;clear b9;have H':=ae.mk H;clear H;have p5:(0≤(b1:Int))=True:=oT;have q5:(b1<(a0.size:Int))=True:=oT;have b3:=iu a0 b1
     go_wp2
     go_roundg k1
     case measure=>have:=b2.out;omega
     case rel=>exact⟨(wrap64 (b1+1)),oS,H',⟨by have:=b2.out;omega⟩,oD⟩
    rw[if_neg b9]at H;have d1:((bt a0 b1)==45)=false:=beq_eq_false_iff_ne.mpr b9;have d2:((bt a0 b1) !=45)=true:=bne_iff_ne.mpr b9
    by_cases bB:(bt a0 b1)=46
    rotate_left
    ·rw[if_neg bB]at H;have d3:((bt a0 b1)==46)=false:=beq_eq_false_iff_ne.mpr bB;have d4:((bt a0 b1) !=46)=true:=bne_iff_ne.mpr bB;obtain rfl:=Option.some.inj H;have p5:(0≤(b1:Int))=True:=oT;have q5:(b1<(a0.size:Int))=True:=oT;have b3:=iu a0 b1
     go_wp2
     go_ret
     exact⟨oS,oD⟩
    rw[if_pos bB]at H;have d3:((bt a0 b1)==46)=true:=beq_iff_eq.mpr bB;have d4:((bt a0 b1) !=46)=false:=bne_eq_false_iff_eq.mpr bB;clear bB;have H':=ae.mk H;clear H;have p5:(0≤(b1:Int))=True:=oT;have q5:(b1<(a0.size:Int))=True:=oT;have b3:=iu a0 b1
    go_wp2
    go_roundg k1
    case measure=>have:=b2.out;omega
    case rel=>exact⟨(wrap64 (b1+1)),oS,H',⟨by have:=b2.out;omega⟩,oD⟩
   replace H:=yJ H;rcases H with⟨d5,H⟩|⟨d5,H⟩;rotate_left
   ·have H':=ae.mk H;clear H;have p5:(0≤(b1:Int))=True:=oT;have q5:(b1<(a0.size:Int))=True:=oT;have b3:=iu a0 b1
    go_wp2
    go_roundg k1
    case measure=>have:=b2.out;omega
    case rel=>exact⟨(wrap64 (b1+1)),oS,H',⟨by have:=b2.out;omega⟩,oD⟩
   by_cases bC:(bt a0 b1)=95
   ·rw[if_pos bC]at H;have d6:((bt a0 b1)==95)=true:=beq_iff_eq.mpr bC;have d7:((bt a0 b1) !=95)=false:=bne_eq_false_iff_eq.mpr bC;clear bC;have H':=ae.mk H;clear H;have p5:(0≤(b1:Int))=True:=oT;have q5:(b1<(a0.size:Int))=True:=oT;have b3:=iu a0 b1
    go_wp2
    go_roundg k1
    case measure=>have:=b2.out;omega
    case rel=>exact⟨(wrap64 (b1+1)),oS,H',⟨by have:=b2.out;omega⟩,oD⟩
   rw[if_neg bC]at H;have d6:((bt a0 b1)==95)=false:=beq_eq_false_iff_ne.mpr bC;have d7:((bt a0 b1) !=95)=true:=bne_iff_ne.mpr bC
   by_cases bD:(bt a0 b1)=45
   ·rw[if_pos bD]at H;have d8:((bt a0 b1)==45)=true:=beq_iff_eq.mpr bD;have d9:((bt a0 b1) !=45)=false:=bne_eq_false_iff_eq.mpr bD;clear bD;have H':=ae.mk H;clear H;have p5:(0≤(b1:Int))=True:=oT;have q5:(b1<(a0.size:Int))=True:=oT;have b3:=iu a0 b1
    go_wp2
    go_roundg k1
    case measure=>have:=b2.out;omega
    case rel=>exact⟨(wrap64 (b1+1)),oS,H',⟨by have:=b2.out;omega⟩,oD⟩
   rw[if_neg bD]at H;have d8:((bt a0 b1)==45)=false:=beq_eq_false_iff_ne.mpr bD;have d9:((bt a0 b1) !=45)=true:=bne_iff_ne.mpr bD
   by_cases bE:(bt a0 b1)=46
   rotate_left
   ·rw[if_neg bE]at H;have dA:((bt a0 b1)==46)=false:=beq_eq_false_iff_ne.mpr bE;have dB:((bt a0 b1) !=46)=true:=bne_iff_ne.mpr bE;obtain rfl:=Option.some.inj H;have p5:(0≤(b1:Int))=True:=oT;have q5:(b1<(a0.size:Int))=True:=oT;have b3:=iu a0 b1
    go_wp2
    go_ret
    exact⟨oS,oD⟩
   rw[if_pos bE]at H;have dA:((bt a0 b1)==46)=true:=beq_iff_eq.mpr bE;have dB:((bt a0 b1) !=46)=false:=bne_eq_false_iff_eq.mpr bE;clear bE;have H':=ae.mk H;clear H;have p5:(0≤(b1:Int))=True:=oT;have q5:(b1<(a0.size:Int))=True:=oT;have b3:=iu a0 b1
   go_wp2
   go_roundg k1
   case measure=>have:=b2.out;omega
   case rel=>exact⟨(wrap64 (b1+1)),oS,H',⟨by have:=b2.out;omega⟩,oD⟩

mutual
def bj.l0:Nat→Int→Int→Int→List (bm)→Int→Option (Int)
 |0,_,_,_,_,_=>none
 |k+1,x1,x5,x6,b1,b2=>if x6<(b1.length:Int)then(bj.l1 k x1 x5 x6 0 b1 b2)else(some x5)
def bj.l1:Nat→Int→Int→Int→Int→List (bm)→Int→Option (Int)
 |0,_,_,_,_,_,_=>none
 |k+1,x1,x5,x6,x7,b1,b2=>if 0≤x6 then(if x6<(b1.length:Int)then(if x7<(((af b1 x6).f4).length:Int)then(bj.j2 k x1 x5 x6 x7 (((af b1 x6).f1)==2) b1 b2)else(bj.j2 k x1 x5 x6 x7 false b1 b2))else(none))else(none)
def bj.j2:Nat→Int→Int→Int→Int→Bool→List (bm)→Int→Option (Int)
 |0,_,_,_,_,_,_,_=>none
 |k+1,x1,x5,x6,x7,b3,b1,b2=>if b3=true then(if 0≤x6 then(if x6<(b1.length:Int)then(if 0≤x7 then(if x7<(((af b1 x6).f4).length:Int)then(if((al ((af b1 x6).f4) x7).f1)=x1 then(bj.l1 k x1 (wrap64 (x5+1)) x6 (wrap64 (x7+1)) b1 b2)else(bj.l1 k x1 x5 x6 (wrap64 (x7+1)) b1 b2))else(none))else(none))else(none))else(none))else(bj.l0 k x1 x5 (wrap64 (x6+1)) b1 b2)
end
def bj.f (k:Nat) (ag:List (bm)) (aj:Int) (a1:Int):Option (Int):=bj.l0 k a1 0 0 ag aj
theorem bj.calls (k:Nat) (bo:Option Addr) (bg:Nat) (ag:List (bm)) (aj:Int) (a1:Int) (r:Int) (w:World) (cv:Kd.C fN w bo ag.length ag) (cA:ag.length≤bg) (h:bj.f k ag aj a1=some r):
  Calls Tryz.prog 81 #[.agg #[.slice bo ag.length bg,.int .i64 aj],.int .i64 a1] w fun e w'=>e= .returned (.int .i64 r)∧Below w.heap.size w w':=by
 have j7:=underlying28;have b5:=ae.mk cv;have j1:=ae.mk cA;clear cv cA;have HB:=am (Below.refl w.heap.size w);unfold bj.f at h;have H:=h;clear h;have H':=ae.mk H;clear H
 go_enter func81,ntmps81
 go_wp2_with (first|((with_reducible refine ai (N:=2) rfl ?_);refine eh 2 #[.slice bo ag.length bg,.int .i64 aj] 28 ?_;intro bR hg w3 hbox hb;have b2:=am (hbox);have j2:=eg hg;replace HB:=hB HB hb;clear hb hbox hg))
 go_loopg [5,6] k (fun kq v5 v6 w'=>∃(bS:Int) (b1:Int),v5= .int .i64 bS∧v6= .int .i64 b1∧ae (bj.l0 kq a1 bS b1 ag aj=some r)∧ae (kq≤k)∧ae (w'.heap[bR]? =some (.cells #[(.slice bo ag.length bg),.int .i64 aj] 28 (0,0)))∧ae (Below w.heap.size w w'))
 case atStart=>exact⟨(0),(0),oS,oS,H',⟨Nat.le_refl _⟩,⟨oF b2⟩,⟨oB⟩⟩
 case round=>
  clear H';obtain⟨bS,b1,rfl,rfl,HA,bB,b2,HB⟩:=hrel
  cases gk with
  |zero=>exact absurd HA.out (by simp[bj.l0])
  |succ k1=>
   have H:=HA.out;clear HA;simp only[bj.l0]at H;replace H:=iM H;rcases H with⟨bU,H⟩|⟨bU,H⟩;rotate_left
   ·obtain rfl:=Option.some.inj H;obtain⟨⟨_,_⟩,_,_⟩:=z2 b2
    go_wp2
    go_ret
    exact⟨oE,oB⟩
   have H':=ae.mk H;clear H;obtain⟨⟨_,_⟩,_,_⟩:=z2 b2
   go_wp2
   go_loopg [5,7] k1 (fun kq v5 v7 w'=>∃(b4:Int) (b3:Int),v5= .int .i64 b4∧v7= .int .i64 b3∧ae (bj.l1 kq a1 b4 b1 b3 ag aj=some r)∧ae (kq≤k1)∧ae (w'.heap[bR]? =some (.cells #[(.slice bo ag.length bg),.int .i64 aj] 28 (0,0)))∧ae (Below w.heap.size w w'))
   case atStart=>exact⟨(bS),(0),oS,oS,H',⟨Nat.le_refl _⟩,⟨oF b2⟩,⟨oB⟩⟩
   case round=>
    clear H'
    try clear bU
    obtain⟨b4,b3,rfl,rfl,HA,bC,b2,HB⟩:=hrel
    cases gk with
    |zero=>exact absurd HA.out (by simp[bj.l1])
    |succ k2=>
     have H:=HA.out;clear HA;simp only[bj.l1]at H;have dM:=ae.mk H;clear H
     go_upto_region 6 with(fail)
     go_cut [32] (fun gT wc=>∃(kq:Nat) (bT:Bool),gT= .bool bT∧ae (bj.j2 kq a1 b4 b1 b3 bT ag aj=some r)∧ae (kq≤k2)∧ae (wc.heap[bR]? =some (.cells #[(.slice bo ag.length bg),.int .i64 aj] 28 (0,0)))∧ae (Below w.heap.size w wc))
     case first=>
      have H:=dM.out;clear dM;obtain⟨gE,H⟩:=cO H
      (first|rw[gE]|skip)
      obtain⟨j8,H⟩:=cO H;replace H:=iM H;rcases H with⟨gF,H⟩|⟨gF,H⟩;rotate_left
      ·have H':=ae.mk H;clear H;obtain⟨⟨_,_⟩,_,_⟩:=z2 b2;have gG:(0≤(b1:Int))=True:=oT;have gH:(b1<(ag.length:Int))=True:=oT;obtain⟨bY,dN,dO,dP,dQ,dR,dS,bV,bZ,d1,d2,bE,bF,bG,d3,d4,d5,d6,d7,d8⟩:=fw b5 HB b1 oa oa
       cases bV
       go_wp2
       go_meet
       case rel=>exact⟨_,(false),oS,H',⟨by have:=bB.out;have:=bC.out;first|omega|exact Nat.le_refl _⟩,⟨oF b2⟩,⟨oB⟩⟩
      have H':=ae.mk H;clear H;obtain⟨⟨_,_⟩,_,_⟩:=z2 b2;have gG:(0≤(b1:Int))=True:=oT;have gH:(b1<(ag.length:Int))=True:=oT;obtain⟨bY,dN,dO,dP,dQ,dR,dS,bV,bZ,d1,d2,bE,bF,bG,d3,d4,d5,d6,d7,d8⟩:=fw b5 HB b1 oa oa
      cases bV
      have j9:(0≤(b1:Int))=True:=oT;have jA:(b1<(ag.length:Int))=True:=oT;obtain⟨dZ,gU,gV,gW,gX,gY,gZ,gI,bH,bI,bJ,b6,b7,b8,bK,bL,bM,bN,bO,bP⟩:=fI b5.out b1 oa oa;obtain rfl:bY=dZ:=(by injection gI);replace bH:=cB HB bH;replace bI:=cB HB bI;replace bJ:=cB HB bJ;replace b6:=cB HB b6;replace b7:=cB HB b7;replace b8:=cB HB b8;have gN:=ae.mk bL;have gO:=ae.mk bK;clear bL bK;have gP:=ae.mk bN;have gQ:=ae.mk bM;clear bN bM;have gR:=ae.mk bP;have gS:=ae.mk bO;clear bP bO;have gz:=Option.some.inj (bE.symm.trans b6);injection gz with gz nj nn;subst gz;subst nn;clear nj;have gz:=Option.some.inj (bF.symm.trans b7);injection gz with gz nj nn;subst gz;subst nn;clear nj;have gz:=Option.some.inj (bG.symm.trans b8);injection gz with gz nj nn;subst gz;subst nn;clear nj
      go_wp2
      go_meet
      case rel=>exact⟨_,((((af ag b1).f1)==2)),oS,H',⟨by have:=bB.out;have:=bC.out;first|omega|exact Nat.le_refl _⟩,⟨oF b2⟩,⟨oB⟩⟩
     case rest=>
      clear dM
      try clear bU
      obtain⟨kq,bT,rfl,HA,bQ,b2,HB⟩:=hcut
      cases kq with
      |zero=>exact absurd HA.out (by simp[bj.j2])
      |succ tL=>
       have H:=HA.out;clear HA;simp only[bj.j2]at H;replace H:=kN H;rcases H with⟨rfl,H⟩|⟨rfl,H⟩;rotate_left
       ·have H':=ae.mk H;clear H
        go_wp2
        go_roundg tL
        case measure=>have:=bB.out;have:=bC.out;have:=bQ.out;omega
        case rel=>exact⟨(b4),(wrap64 (b1+1)),oS,oS,H',⟨by have:=bB.out;have:=bC.out;have:=bQ.out;omega⟩,⟨oF b2⟩,⟨oB⟩⟩
       obtain⟨j3,H⟩:=cO H;obtain⟨j4,H⟩:=cO H;obtain⟨j5,H⟩:=cO H;obtain⟨j6,H⟩:=cO H
       by_cases bD:((al ((af ag b1).f4) b3).f1)=a1
       rotate_left
       ·rw[if_neg bD]at H;have gA:(((al ((af ag b1).f4) b3).f1)==a1)=false:=beq_eq_false_iff_ne.mpr bD;have gB:(((al ((af ag b1).f4) b3).f1) !=a1)=true:=bne_iff_ne.mpr bD;have H':=ae.mk H;clear H;obtain⟨⟨_,_⟩,_,_⟩:=z2 b2;have gJ:(0≤(b1:Int))=True:=oT;have gK:(b1<(ag.length:Int))=True:=oT;obtain⟨gC,dT,dU,dV,dW,dX,dY,bW,d9,dA,dB,dC,dD,dE,dF,dG,dH,b9,dI,dJ⟩:=fw b5 HB b1 oa oa
        cases bW
        have gL:(0≤(b3:Int))=True:=oT;have gM:(b3<(((af ag b1).f4).length:Int))=True:=oT;obtain⟨gD,bX,dK,dL⟩:=ky b9 HB b3 oa oa
        cases bX
        go_wp2
        go_roundg tL
        case measure=>have:=bB.out;have:=bC.out;have:=bQ.out;omega
        case rel=>exact⟨(b4),(wrap64 (b3+1)),oS,oS,H',⟨by have:=bB.out;have:=bC.out;have:=bQ.out;omega⟩,⟨oF b2⟩,⟨oB⟩⟩
       rw[if_pos bD]at H;have gA:(((al ((af ag b1).f4) b3).f1)==a1)=true:=beq_iff_eq.mpr bD;have gB:(((al ((af ag b1).f4) b3).f1) !=a1)=false:=bne_eq_false_iff_eq.mpr bD;clear bD;have H':=ae.mk H;clear H;obtain⟨⟨_,_⟩,_,_⟩:=z2 b2;have gJ:(0≤(b1:Int))=True:=oT;have gK:(b1<(ag.length:Int))=True:=oT;obtain⟨gC,dT,dU,dV,dW,dX,dY,bW,d9,dA,dB,dC,dD,dE,dF,dG,dH,b9,dI,dJ⟩:=fw b5 HB b1 oa oa
       cases bW
       have gL:(0≤(b3:Int))=True:=oT;have gM:(b3<(((af ag b1).f4).length:Int))=True:=oT;obtain⟨gD,bX,dK,dL⟩:=ky b9 HB b3 oa oa
       cases bX
       go_wp2
       go_roundg tL
       case measure=>have:=bB.out;have:=bC.out;have:=bQ.out;omega
       case rel=>exact⟨(wrap64 (b4+1)),(wrap64 (b3+1)),oS,oS,H',⟨by have:=bB.out;have:=bC.out;have:=bQ.out;omega⟩,⟨oF b2⟩,⟨oB⟩⟩

mutual
def b_.l0:Nat→Int→Int→List (bm)→Int→Int→Option (Int)
 |0,_,_,_,_,_=>none
 |k+1,x1,x5,b2,b3,b1=>if b1<b3 then(if 0≤b1 then(if b1<(b2.length:Int)then(if((af b2 b1).f1)=2 then(b_.l1 k x1 x5 b2 b3 b1 ((af b2 b1).f4) (((af b2 b1).f4).length:Int) 0)else(b_.l0 k x1 x5 b2 b3 (wrap64 (b1+1))))else(none))else(none))else(some x5)
def b_.l1:Nat→Int→Int→List (bm)→Int→Int→List (ey)→Int→Int→Option (Int)
 |0,_,_,_,_,_,_,_,_=>none
 |k+1,x1,x5,b3,b4,b5,b2,b6,b1=>if b1<b6 then(if 0≤b1 then(if b1<(b2.length:Int)then(if((al b2 b1).f1)=x1 then(b_.l1 k x1 (wrap64 (x5+1)) b3 b4 b5 b2 b6 (wrap64 (b1+1)))else(b_.l1 k x1 x5 b3 b4 b5 b2 b6 (wrap64 (b1+1))))else(none))else(none))else(b_.l0 k x1 x5 b3 b4 (wrap64 (b5+1)))
end
def b_.f (k:Nat) (ag:List (bm)) (aj:Int) (a1:Int):Option (Int):=b_.l0 k a1 0 ag (ag.length:Int) 0
theorem b_.calls (k:Nat) (bo:Option Addr) (bg:Nat) (ag:List (bm)) (aj:Int) (a1:Int) (r:Int) (w:World) (cv:Kd.C fN w bo ag.length ag) (cA:ag.length≤bg) (h:b_.f k ag aj a1=some r):
  Calls Tryz.prog 125 #[.agg #[.slice bo ag.length bg,.int .i64 aj],.int .i64 a1] w fun e w'=>e= .returned (.int .i64 r)∧Below w.heap.size w w':=by
 have gH:=underlying28;have gI:=underlying58;have gJ:=underlying75;have bR:=ae.mk cv;have dR:=ae.mk cA;clear cv cA;have HB:=am (Below.refl w.heap.size w);unfold b_.f at h;have H:=h;clear h;have H':=ae.mk H;clear H
 go_enter func125,ntmps125
 go_wp2_with (first|((with_reducible refine ai (N:=2) rfl ?_);refine eh 2 #[.slice bo ag.length bg,.int .i64 aj] 28 ?_;intro bS hg w3 hbox hb;have b2:=am (hbox);have dS:=eg hg;replace HB:=hB HB hb;clear hb hbox hg;obtain⟨⟨_,_⟩,_,_⟩:=z2 b2))
 go_loopg [5,13] k (fun kq v5 dP w'=>∃(bF:Int) (b1:Int),v5= .int .i64 bF∧dP= .int .i64 b1∧ae (b_.l0 kq a1 bF ag (ag.length:Int) b1=some r)∧ae (kq≤k)∧ae (w'.heap[bS]? =some (.cells #[(.slice bo ag.length bg),.int .i64 aj] 28 (0,0)))∧ae (Below w.heap.size w w'))
 case atStart=>exact⟨(0),(0),oS,oS,H',⟨Nat.le_refl _⟩,⟨oF b2⟩,⟨oB⟩⟩
 case round=>
  clear H';obtain⟨bF,b1,rfl,rfl,HA,bE,b2,HB⟩:=hrel
  cases gk with
  |zero=>exact absurd HA.out (by simp[b_.l0])
  |succ k1=>
   have H:=HA.out;clear HA;simp only[b_.l0]at H;replace H:=iM H;rcases H with⟨d9,H⟩|⟨d9,H⟩;rotate_left
   ·obtain rfl:=Option.some.inj H
    go_wp2
    go_ret
    exact⟨oE,oB⟩
   obtain⟨dH,H⟩:=cO H;obtain⟨dI,H⟩:=cO H
   by_cases c8:((af ag b1).f1)=2
   rotate_left
   ·rw[if_neg c8]at H;have dJ:(((af ag b1).f1)==2)=false:=beq_eq_false_iff_ne.mpr c8;have dK:(((af ag b1).f1) !=2)=true:=bne_iff_ne.mpr c8;have H':=ae.mk H;clear H;have dL:(0≤(b1:Int))=True:=oT;have dM:(b1<(ag.length:Int))=True:=oT;obtain⟨bT,bJ,bK,bL,bM,bN,bO,bP,bV,bW,bX,bY,bZ,d1,d2,d3,d4,bC,d5,d6⟩:=fw bR HB b1 oa oa
    cases bP
    go_wp2_with (first|((with_reducible refine ai (N:=7) rfl ?_);refine eh 7 #[.int .i64 0,.int .i64 0,.int .i64 0,.slice none 0 0,.slice none 0 0,.slice none 0 0] 58 ?_;intro bU hg gK hbox hb;have b4:=am (hbox);have dA:=eg hg;have b5:=eY hg b2;have b6:=eZ hg b2;replace b2:=aQ b2 hb;replace HB:=hB HB hb;clear hb hbox hg;have dT:=b6.out;have dU:=b5.out;obtain⟨⟨_,_,_,_,_,_⟩,_,_,_,_,_,_⟩:=z6 b4))
    go_roundg k1
    case measure=>have:=bE.out;omega
    case rel=>exact⟨(bF),(wrap64 (b1+1)),oS,oS,H',⟨by have:=bE.out;omega⟩,⟨oF b2⟩,⟨oB⟩⟩
   rw[if_pos c8]at H;have dJ:(((af ag b1).f1)==2)=true:=beq_iff_eq.mpr c8;have dK:(((af ag b1).f1) !=2)=false:=bne_eq_false_iff_eq.mpr c8;clear c8;have H':=ae.mk H;clear H;have dL:(0≤(b1:Int))=True:=oT;have dM:(b1<(ag.length:Int))=True:=oT;obtain⟨bT,bJ,bK,bL,bM,bN,bO,bP,bV,bW,bX,bY,bZ,d1,d2,d3,d4,bC,d5,d6⟩:=fw bR HB b1 oa oa
   cases bP
   go_wp2_with (first|((with_reducible refine ai (N:=7) rfl ?_);refine eh 7 #[.int .i64 0,.int .i64 0,.int .i64 0,.slice none 0 0,.slice none 0 0,.slice none 0 0] 58 ?_;intro bU hg w9 hbox hb;have b4:=am (hbox);have dA:=eg hg;have b5:=eY hg b2;have b6:=eZ hg b2;replace b2:=aQ b2 hb;replace HB:=hB HB hb;clear hb hbox hg;have dV:=b6.out;have dW:=b5.out;obtain⟨⟨_,_,_,_,_,_⟩,_,_,_,_,_,_⟩:=z6 b4))
   go_loopg [5,23] k1 (fun kq v5 dQ w'=>∃(bD:Int) (b3:Int),v5= .int .i64 bD∧dQ= .int .i64 b3∧ae (b_.l1 kq a1 bD ag (ag.length:Int) b1 ((af ag b1).f4) (((af ag b1).f4).length:Int) b3=some r)∧ae (kq≤k1)∧ae (w'.heap[bS]? =some (.cells #[(.slice (some bT) ag.length bg),.int .i64 aj] 28 (0,0)))∧ae (w'.heap[bU]? =some (.cells #[.int .i64 ((af ag b1).f0),.int .i64 ((af ag b1).f1),.int .i64 ((af ag b1).f2),(.slice bJ ((af ag b1).f3).length bK),(.slice bL ((af ag b1).f4).length bM),(.slice bN ((af ag b1).f5).length bO)] 58 (0,0)))∧ae (Below w.heap.size w w'))
   case atStart=>exact⟨(bF),(0),oS,oS,H',⟨Nat.le_refl _⟩,⟨oF b2⟩,⟨oP b4⟩,⟨oB⟩⟩
   case round=>
    clear H'
    try clear d9
    try clear dH
    try clear dI
    try clear c8
    obtain⟨bD,b3,rfl,rfl,HA,bH,b2,b4,HB⟩:=hrel
    cases gk with
    |zero=>exact absurd HA.out (by simp[b_.l1])
    |succ k2=>
     have H:=HA.out;clear HA;simp only[b_.l1]at H;replace H:=iM H;rcases H with⟨dB,H⟩|⟨dB,H⟩;rotate_left
     ·have H':=ae.mk H;clear H
      go_wp2
      go_roundg k2
      case measure=>have:=bE.out;have:=bH.out;omega
      case rel=>exact⟨(bD),(wrap64 (b1+1)),oS,oS,H',⟨by have:=bE.out;have:=bH.out;omega⟩,⟨oF b2⟩,⟨oB⟩⟩
     obtain⟨dX,H⟩:=cO H;obtain⟨dY,H⟩:=cO H
     by_cases bG:((al ((af ag b1).f4) b3).f1)=a1
     rotate_left
     ·rw[if_neg bG]at H;have dC:(((al ((af ag b1).f4) b3).f1)==a1)=false:=beq_eq_false_iff_ne.mpr bG;have dD:(((al ((af ag b1).f4) b3).f1) !=a1)=true:=bne_iff_ne.mpr bG;have H':=ae.mk H;clear H;have dN:(0≤(b3:Int))=True:=oT;have dO:(b3<(((af ag b1).f4).length:Int))=True:=oT;obtain⟨dE,bQ,d7,d8⟩:=ky bC HB b3 oa oa
      cases bQ
      go_wp2_with (first|((with_reducible refine ai (N:=9) rfl ?_);refine eh 9 #[.string (⟨#[]⟩:ByteArray),.int .i64 0] 75 ?_;intro dF hg gL hbox hb;have bI:=am (hbox);have dG:=eg hg;have b7:=eY hg b2;have b8:=eZ hg b2;have b9:=eY hg b4;have bB:=eZ hg b4;replace b2:=aQ b2 hb;replace b4:=aQ b4 hb;replace HB:=hB HB hb;clear hb hbox hg;have dZ:=b8.out;have gA:=b7.out;have gB:=bB.out;have gC:=b9.out;obtain⟨⟨_,_⟩,_,_⟩:=z2 bI))
      go_roundg k2
      case measure=>have:=bE.out;have:=bH.out;omega
      case rel=>exact⟨(bD),(wrap64 (b3+1)),oS,oS,H',⟨by have:=bE.out;have:=bH.out;omega⟩,⟨oF b2⟩,⟨oF b4⟩,⟨oB⟩⟩
     rw[if_pos bG]at H;have dC:(((al ((af ag b1).f4) b3).f1)==a1)=true:=beq_iff_eq.mpr bG;have dD:(((al ((af ag b1).f4) b3).f1) !=a1)=false:=bne_eq_false_iff_eq.mpr bG;clear bG;have H':=ae.mk H;clear H;have dN:(0≤(b3:Int))=True:=oT;have dO:(b3<(((af ag b1).f4).length:Int))=True:=oT;obtain⟨dE,bQ,d7,d8⟩:=ky bC HB b3 oa oa
     cases bQ
     go_wp2_with (first|((with_reducible refine ai (N:=9) rfl ?_);refine eh 9 #[.string (⟨#[]⟩:ByteArray),.int .i64 0] 75 ?_;intro dF hg gM hbox hb;have bI:=am (hbox);have dG:=eg hg;have b7:=eY hg b2;have b8:=eZ hg b2;have b9:=eY hg b4;have bB:=eZ hg b4;replace b2:=aQ b2 hb;replace b4:=aQ b4 hb;replace HB:=hB HB hb;clear hb hbox hg;have gD:=b8.out;have gE:=b7.out;have gF:=bB.out;have gG:=b9.out;obtain⟨⟨_,_⟩,_,_⟩:=z2 bI))
     go_roundg k2
     case measure=>have:=bE.out;have:=bH.out;omega
     case rel=>exact⟨(wrap64 (bD+1)),(wrap64 (b3+1)),oS,oS,H',⟨by have:=bE.out;have:=bH.out;omega⟩,⟨oF b2⟩,⟨oF b4⟩,⟨oB⟩⟩
end Go.Proofs.YtlecajlnjmbilaaGreatDoor.P
