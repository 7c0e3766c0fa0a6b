-- Printed walks.
import Derived.Test.YtlecajlnjmbilaaGreatDoorPx0
set_option linter.all false
set_option maxHeartbeats 8000000
set_option maxRecDepth 100000
namespace Go.Proofs.YtlecajlnjmbilaaGreatDoor.P
open Go.RowKit Go.Proofs.ab.ar Go.Proofs.ab.aH Go.Proofs.ab.aN Go.Proofs.Tryz
attribute [local go_sem] ib ic jc jd fU fV ie ig

def cz.l0:Nat→List (cA)→Int→ByteArray→Int→Option ((List (cA)))
 |0,_,_,_,_=>none
 |k+1,x5,x6,b1,b2=>if x6>0 then(if 0≤(wrap64 (x6-1))then(if(wrap64 (x6-1))<(x5.length:Int)then(if(Op.bytesLess b1.toList (((al x5 (wrap64 (x6-1))).f0).toList))=true then(if 0≤x6 then(if x6<(x5.length:Int)then(cz.l0 k (x5.set (x6:Int).toNat (⟨(al x5 (wrap64 (x6-1))).f0,(al x5 (wrap64 (x6-1))).f1⟩:cA)) (wrap64 (x6-1)) b1 b2)else(none))else(none))else(if 0≤x6 then(if x6<(x5.length:Int)then(some (x5.set (x6:Int).toNat (⟨b1,b2⟩:cA)))else(none))else(none)))else(none))else(none))else(if 0≤x6 then(if x6<(x5.length:Int)then(some (x5.set (x6:Int).toNat (⟨b1,b2⟩:cA)))else(none))else(none))
def cz.f (k:Nat) (l0:List (cA)) (cL:ByteArray) (cC:Int):Option ((List (cA))):=(some (([]:List (cA)):List (cA))).bind fun b1=>(if b1.length+l0.length<5864062014805 then((some (b1++l0:List (cA))).bind fun b2=>((some (([(⟨cL,cC⟩:cA)]:List (cA)):List (cA))).bind fun b3=>(if b2.length+b3.length<5864062014805 then((some (b2++b3:List (cA))).bind fun b4=>(cz.l0 k b4 (wrap64 ((b4.length:Int)-1)) cL cC))else(none))))else(none))
def cz.T3:Bool×List (List Nat×List Nat):=(true,[([],[]),([0],[0]),([1],[1]),([2],[2]),([2],[2]),([4,2],[2,4]),([3,5,2],[2,3,5]),([6,2],[2,6]),([7,2],[2,7]),([2],[2]),([9,2],[2,9]),([8,10,2],[2,8,10]),([2,11],[2,11])])
def cz.B3:List Nat:=[0,1,3,7,7,23,63,127,255,7,519,2047,4095]
theorem cz.ads:ij .any (opsOf Tryz.f54 3)=cz.T3:=by kernel_rfl
theorem cz.aaQ:fa cz.T3.2 cz.B3=true:=by kernel_rfl
theorem cz.calls (k:Nat) (A0:Option Addr) (c0:Nat) (l0:List (cA)) (cL:ByteArray) (cC:Int) (r:List (cA)) (w:World) (hr0:Kd.C fI w A0 l0.length l0) (hc0:l0.length≤c0) (h:cz.f k l0 cL cC=some r):
  Calls Tryz.prog 54 #[.slice A0 l0.length c0,.agg #[.string cL,.int .i64 cC]] w fun e w'=>∃jx:Value,e= .returned (jx)∧Kd.R fI 75 w' w.heap.size (fun _=>True) jx r∧Below w.heap.size w w':=by
 have zE:=underlying75;have dX:=ae.mk hr0;have zX:=ae.mk hc0;clear hr0 hc0;have HB:=am (Below.refl w.heap.size w);unfold cz.f at h;have H:=h;clear h;obtain⟨bI,da⟩:∃y_:List (cA),y_=(([]:List (cA))):=⟨_,rfl⟩;replace H:(if bI.length+l0.length<5864062014805 then((some (bI++l0:List (cA))).bind fun bJ=>((some (([(⟨cL,cC⟩:cA)]:List (cA)):List (cA))).bind fun bC=>(if bJ.length+bC.length<5864062014805 then((some (bJ++bC:List (cA))).bind fun bE=>(cz.l0 k bE (wrap64 ((bE.length:Int)-1)) cL cC))else(none))))else(none))=some r:=oY;have bZ:=ae.mk da;clear da;obtain⟨c3,H⟩:=lC H;have dL:=ae.mk c3;clear c3;obtain⟨bJ,da⟩:∃y_:List (cA),y_=(bI++l0):=⟨_,rfl⟩;replace H:((some (([(⟨cL,cC⟩:cA)]:List (cA)):List (cA))).bind fun bC=>(if bJ.length+bC.length<5864062014805 then((some (bJ++bC:List (cA))).bind fun bE=>(cz.l0 k bE (wrap64 ((bE.length:Int)-1)) cL cC))else(none)))=some r:=oY;have dA:=ae.mk da;clear da;obtain⟨bC,da⟩:∃y_:List (cA),y_=(([(⟨cL,cC⟩:cA)]:List (cA))):=⟨_,rfl⟩;replace H:(if bJ.length+bC.length<5864062014805 then((some (bJ++bC:List (cA))).bind fun bE=>(cz.l0 k bE (wrap64 ((bE.length:Int)-1)) cL cC))else(none))=some r:=oY;have bU:=ae.mk da;clear da;obtain⟨c4,H⟩:=lC H;have m2:=ae.mk c4;clear c4;obtain⟨bE,da⟩:∃y_:List (cA),y_=(bJ++bC):=⟨_,rfl⟩;replace H:(cz.l0 k bE (wrap64 ((bE.length:Int)-1)) cL cC)=some r:=oY;have jJ:=ae.mk da;clear da;have H':=ae.mk H;clear H
 go_enter func54,ntmps54
 try go_wp2_with (first|((with_reducible refine aj (N:=3) rfl ?_);refine cO 3 #[.string cL,.int .i64 cC] 75 ?_;intro b5 hg w5 hbox hb;have b1:=am (hbox);have mV:=cN hg;replace HB:=hB HB hb;clear hb hbox hg))
 replace b1:=am (au b1.out);replace HB:=am (av HB.out);refine s0_ 7 (fun w'=>w'.cell? ⟨b5,0,none⟩=some (.string cL)∧w'.cell? ⟨b5,1,none⟩=some (.int .i64 cC)) oH (fun hHeld=> ?_);generalize w5.drew=w6 at b1 HB hHeld⊢;refine rf 1 8 ?_;refine tG 3 10 hHeld ?_;refine aaA (σ:=Value×Value×Value) 2 (lb 7 31) (fun s_=>[(7,s_.1),(9,s_.2.1),(11,s_.2.2)]) (fun s_ w'=>(w'.cell? ⟨b5,0,none⟩=some (.string cL)∧w'.cell? ⟨b5,1,none⟩=some (.int .i64 cC))∧(Kd.R fI 75 w' w.heap.size (fun k_=>some k_≠(s_.2.2:Value).ownBlock∧k_≠b5) s_.2.1 bJ)∧(Kd.R fI 75 w' w.heap.size (fun k_=>some k_≠(s_.2.1:Value).ownBlock∧k_≠b5) s_.2.2 bC)∧(w'.heap[b5]? =some (.cells #[.string cL,.int .i64 cC] 75 (0,0)))∧(Below w.heap.size w w')) ?_ ?_;rotate_left
 ·intro qw;refine abW (i:=0) (j:=4) (Ni:=some 7) (Nj:=some 11) (lb 7 11) (lb 7 26) rfl rfl rfl rfl (by kernel_rfl) (by decide) (by decide) (fun K hK=> ?_) (fun K hK=> ?_)
  ·skip
   refine Kd.lF fI _ 75 ?hg (N:=7) ?hd (xs:=([]:List (cA))) (inner:=[]) (ok:=fun _=>True) (fY:=fun _=>True) ?hr ?hp (fun _ hk=>hk) trivial (Below.refl _ _) (Nat.le_refl _) (by simp) ?_;(case hd=>rfl);(case hg=>rfl);(case hr=>first|(go_simp;done)|(go_simp;rfl));(case hp=>exact(cS.none _ _));intro dY w7 bT hb kX ek;clear kX ek
   (first|rw[←bZ.out]at bT|(simp only[Int.reduceToNat]at bT;rw[←bZ.out]at bT))
   have bB:=am (Kd.an (Kd.lX bT (g:=b5) (o:= .cells #[.string cL,.int .i64 cC] 75 (0,0)) (oF b1)) (ah oB));replace b1:=aJ b1 hb;replace HB:=hB HB hb;clear hb bT;obtain⟨bK,bL,er_⟩:=Kd.ao bB.out;subst er_;refine eW hK 7 oH (fun hHeld=> ?_);clear hK K;refine abW (i:=2) (j:=4) (Ni:=some 9) (Nj:=some 11) (lb 7 15) (lb 7 27) rfl rfl rfl rfl (by kernel_rfl) (by decide) (by decide) (fun K hK=> ?_) (fun K hK=> ?_)
   ·skip
    refine Kd.iz fI (w0:=w) w.heap.size (by rfl) (.tmp 7) (.tmp 8) 55 75 (.agg #[(.string ⟨#[]⟩),(.int .i64 0)]) 24 rfl underlying55 pX rfl (by decide) (by omega) (.slice bK bI.length bL) bI l0 _ _ _ (fun k_=>k_≠b5) (fun _=>False) rfl rfl ?aO ?aR (fun _ _ h=>h) (fun _ h=>h.elim) ?aF ?aB ?aS ?aL ?_
    (case aR=>repeat(first|exact(Kd.cY dX.out HB.out)|(with_reducible refine Kd.eF ?_ _)|(with_reducible refine Kd.eG ?_ _)|(with_reducible refine Kd.ft ?_)))
    (case aB=>exact oB)
    (case aF=>exact(fun k_ hk=>Kd.eO (g:=b5) (o:= .cells #[.string cL,.int .i64 cC] 75 (0,0)) (oF b1) k_ hk))
    (case aO=>exact(by(with_reducible repeat(first|apply Kd.bu|apply Kd.bx|apply Kd.bp));exact Kd.aZ bB.out (fun _ hk=>hk.2)))
    (case aS=>exact(ah oB))
    (case aL=>have:=dL.out;omega)
    intro bP w9 ho hb hg hat;rw[←dA.out]at ho;have bD:=am (ho);replace b1:=lM b1 hg (Kd.lW bB.out (fun _ hk=>hk.2));replace HB:=am (hb);clear bB;clear ho hb hg hat;refine eW hK 9 oH (fun hHeld=> ?_);clear hK K;refine wT 4 11 (fun K hK=> ?_);refine Kd.lF fI _ 75 ?hg (N:=11) ?hd (xs:=([(⟨cL,cC⟩:cA)]:List (cA))) (inner:=[.string cL,.int .i64 cC]) (ok:=fun _=>True) (fY:=fun _=>True) ?hr ?hp (fun _ hk=>hk) trivial (Below.refl _ _) (Nat.le_refl _) (by simp) ?_;(case hd=>rfl);(case hg=>rfl);(case hr=>first|(go_simp;done)|(go_simp;rfl));(case hp=>exact(cS.c2 (show Kd.M fI _ _ _ (⟨cL,cC⟩:cA) [.string cL,.int .i64 cC]from(lh _ _ _ (⟨cL,cC⟩:cA))) (cS.none _ _)));intro d4 zY bY hb kX ek;clear kX ek
    (first|rw[←bU.out]at bY|(simp only[Int.reduceToNat]at bY;rw[←bU.out]at bY))
    have b9:=am (Kd.an (Kd.lX (Kd.fO bY (oG bD)) (g:=b5) (o:= .cells #[.string cL,.int .i64 cC] 75 (0,0)) (oF b1)) (ah oB));replace bD:=ke_ bD bY hb;replace b1:=aJ b1 hb;replace HB:=hB HB hb;clear hb bY;obtain⟨bM,bN,er_⟩:=Kd.ao b9.out;subst er_;refine eW hK 11 oH (fun hHeld=> ?_);clear hK K;exact pF (by simp only[lG,Act.put,List.setIfInBounds_toArray,List.set_cons_zero,List.set_cons_succ]) (qw ((.slice bK bI.length bL),bP,(.slice bM bC.length bN)) _ ⟨hHeld,(by(with_reducible repeat(first|apply Kd.bu|apply Kd.bx|apply Kd.bp));exact Kd.aZ bD.out (fun _ hk=>⟨hk.2,hk.1⟩)),(by(with_reducible repeat(first|apply Kd.bu|apply Kd.bx|apply Kd.bp));exact Kd.aZ b9.out (fun _ hk=>⟨hk.1.2,hk.2⟩)),(oF b1),oB⟩)
   ·skip
    refine Kd.lF fI _ 75 ?hg (N:=11) ?hd (xs:=([(⟨cL,cC⟩:cA)]:List (cA))) (inner:=[.string cL,.int .i64 cC]) (ok:=fun _=>True) (fY:=fun _=>True) ?hr ?hp (fun _ hk=>hk) trivial (Below.refl _ _) (Nat.le_refl _) (by simp) ?_;(case hd=>rfl);(case hg=>rfl);(case hr=>first|(go_simp;done)|(go_simp;rfl));(case hp=>exact(cS.c2 (show Kd.M fI _ _ _ (⟨cL,cC⟩:cA) [.string cL,.int .i64 cC]from(lh _ _ _ (⟨cL,cC⟩:cA))) (cS.none _ _)));intro d4 w9 bF hb kX ek;clear kX ek
    (first|rw[←bU.out]at bF|(simp only[Int.reduceToNat]at bF;rw[←bU.out]at bF))
    have b9:=am (Kd.an (Kd.lX (Kd.fO bF (oG bB)) (g:=b5) (o:= .cells #[.string cL,.int .i64 cC] 75 (0,0)) (oF b1)) (ah oB));replace bB:=ke_ bB bF hb;replace b1:=aJ b1 hb;replace HB:=hB HB hb;clear hb bF;obtain⟨bM,bN,er_⟩:=Kd.ao b9.out;subst er_;refine eW hK 11 oH (fun hHeld=> ?_);clear hK K;refine wT 2 9 (fun K hK=> ?_);refine Kd.iz fI (w0:=w) w.heap.size (by rfl) (.tmp 7) (.tmp 8) 55 75 (.agg #[(.string ⟨#[]⟩),(.int .i64 0)]) 24 rfl underlying55 pX rfl (by decide) (by omega) (.slice bK bI.length bL) bI l0 _ _ _ (fun k_=>some k_≠((.slice bM bC.length bN):Value).ownBlock∧k_≠b5) (fun _=>False) rfl rfl ?aO ?aR (fun _ _ h=>h) (fun _ h=>h.elim) ?aF ?aB ?aS ?aL ?_
    (case aR=>repeat(first|exact(Kd.cY dX.out HB.out)|(with_reducible refine Kd.eF ?_ _)|(with_reducible refine Kd.eG ?_ _)|(with_reducible refine Kd.ft ?_)))
    (case aB=>exact oB)
    (case aF=>exact(fun k_ hk=>⟨Kd.fresh' (oG b9) k_ hk,Kd.eO (g:=b5) (o:= .cells #[.string cL,.int .i64 cC] 75 (0,0)) (oF b1) k_ hk⟩))
    (case aO=>exact(by(with_reducible repeat(first|apply Kd.bu|apply Kd.bx|apply Kd.bp));exact Kd.aZ bB.out (fun _ hk=>⟨hk.2,hk.1.2⟩)))
    (case aS=>exact(ah oB))
    (case aL=>have:=dL.out;omega)
    intro bP mE ho hb hg hat;rw[←dA.out]at ho;have bD:=am (ho);replace b1:=lM b1 hg (Kd.lW bB.out (fun _ hk=>hk.1.2));replace b9:=am (Kd.rU (ok:=(fun k_=>k_≠b5)) (by(with_reducible repeat(first|apply Kd.bu|apply Kd.bx|apply Kd.bp));exact Kd.aZ b9.out (fun _ hk=>⟨hk.2,hk.1.2⟩)) hg hat);replace HB:=am (hb);clear bB;clear ho hb hg hat;refine eW hK 9 oH (fun hHeld=> ?_);clear hK K;exact pF (by simp only[lG,Act.put,List.setIfInBounds_toArray,List.set_cons_zero,List.set_cons_succ]) (qw ((.slice bK bI.length bL),bP,(.slice bM bC.length bN)) _ ⟨hHeld,(oR bD),(by(with_reducible repeat(first|apply Kd.bu|apply Kd.bx|apply Kd.bp));exact Kd.aZ b9.out (fun _ hk=>⟨hk.2,hk.1⟩)),(oF b1),oB⟩)
  ·skip
   refine Kd.lF fI _ 75 ?hg (N:=11) ?hd (xs:=([(⟨cL,cC⟩:cA)]:List (cA))) (inner:=[.string cL,.int .i64 cC]) (ok:=fun _=>True) (fY:=fun _=>True) ?hr ?hp (fun _ hk=>hk) trivial (Below.refl _ _) (Nat.le_refl _) (by simp) ?_;(case hd=>rfl);(case hg=>rfl);(case hr=>first|(go_simp;done)|(go_simp;rfl));(case hp=>exact(cS.c2 (show Kd.M fI _ _ _ (⟨cL,cC⟩:cA) [.string cL,.int .i64 cC]from(lh _ _ _ (⟨cL,cC⟩:cA))) (cS.none _ _)));intro d4 w7 bT hb kX ek;clear kX ek
   (first|rw[←bU.out]at bT|(simp only[Int.reduceToNat]at bT;rw[←bU.out]at bT))
   have b9:=am (Kd.an (Kd.lX bT (g:=b5) (o:= .cells #[.string cL,.int .i64 cC] 75 (0,0)) (oF b1)) (ah oB));replace b1:=aJ b1 hb;replace HB:=hB HB hb;clear hb bT;obtain⟨bM,bN,er_⟩:=Kd.ao b9.out;subst er_;refine eW hK 11 oH (fun hHeld=> ?_);clear hK K;refine wT 0 7 (fun K hK=> ?_);refine Kd.lF fI _ 75 ?hg (N:=7) ?hd (xs:=([]:List (cA))) (inner:=[]) (ok:=fun _=>True) (fY:=fun _=>True) ?hr ?hp (fun _ hk=>hk) trivial (Below.refl _ _) (Nat.le_refl _) (by simp) ?_;(case hd=>rfl);(case hg=>rfl);(case hr=>first|(go_simp;done)|(go_simp;rfl));(case hp=>exact(cS.none _ _));intro dY w9 bF hb kX ek;clear kX ek
   (first|rw[←bZ.out]at bF|(simp only[Int.reduceToNat]at bF;rw[←bZ.out]at bF))
   have bB:=am (Kd.an (Kd.lX (Kd.fO bF (oG b9)) (g:=b5) (o:= .cells #[.string cL,.int .i64 cC] 75 (0,0)) (oF b1)) (ah oB));replace b9:=ke_ b9 bF hb;replace b1:=aJ b1 hb;replace HB:=hB HB hb;clear hb bF;obtain⟨bK,bL,er_⟩:=Kd.ao bB.out;subst er_;refine eW hK 7 oH (fun hHeld=> ?_);clear hK K;refine wT 2 9 (fun K hK=> ?_);refine Kd.iz fI (w0:=w) w.heap.size (by rfl) (.tmp 7) (.tmp 8) 55 75 (.agg #[(.string ⟨#[]⟩),(.int .i64 0)]) 24 rfl underlying55 pX rfl (by decide) (by omega) (.slice bK bI.length bL) bI l0 _ _ _ (fun k_=>some k_≠((.slice bM bC.length bN):Value).ownBlock∧k_≠b5) (fun _=>False) rfl rfl ?aO ?aR (fun _ _ h=>h) (fun _ h=>h.elim) ?aF ?aB ?aS ?aL ?_
   (case aR=>repeat(first|exact(Kd.cY dX.out HB.out)|(with_reducible refine Kd.eF ?_ _)|(with_reducible refine Kd.eG ?_ _)|(with_reducible refine Kd.ft ?_)))
   (case aB=>exact oB)
   (case aF=>exact(fun k_ hk=>⟨Kd.fresh' (oG b9) k_ hk,Kd.eO (g:=b5) (o:= .cells #[.string cL,.int .i64 cC] 75 (0,0)) (oF b1) k_ hk⟩))
   (case aO=>exact(by(with_reducible repeat(first|apply Kd.bu|apply Kd.bx|apply Kd.bp));exact Kd.aZ bB.out (fun _ hk=>⟨hk.1.2,hk.2⟩)))
   (case aS=>exact(ah oB))
   (case aL=>have:=dL.out;omega)
   intro bP mE ho hb hg hat;rw[←dA.out]at ho;have bD:=am (ho);replace b1:=lM b1 hg (Kd.lW bB.out (fun _ hk=>hk.2));replace b9:=am (Kd.rU (ok:=(fun k_=>k_≠b5)) (by(with_reducible repeat(first|apply Kd.bu|apply Kd.bx|apply Kd.bp));exact Kd.aZ b9.out (fun _ hk=>⟨hk.1.2,hk.2⟩)) hg hat);replace HB:=am (hb);clear bB;clear ho hb hg hat;refine eW hK 9 oH (fun hHeld=> ?_);clear hK K;exact pF (by simp only[lG,Act.put,List.setIfInBounds_toArray,List.set_cons_zero,List.set_cons_succ]) (qw ((.slice bK bI.length bL),bP,(.slice bM bC.length bN)) _ ⟨hHeld,(oR bD),(by(with_reducible repeat(first|apply Kd.bu|apply Kd.bx|apply Kd.bp));exact Kd.aZ b9.out (fun _ hk=>⟨hk.2,hk.1⟩)),(oF b1),oB⟩)
 rintro⟨dY,bP,d4⟩ d8 ⟨yQ,jS,jT,jU,jV⟩;have jW:ae (Kd.R fI 75 d8 w.heap.size (fun k_=>some k_≠(d4:Value).ownBlock∧k_≠b5) bP bJ):=⟨jS⟩;have jX:ae (Kd.R fI 75 d8 w.heap.size (fun k_=>some k_≠(bP:Value).ownBlock∧k_≠b5) d4 bC):=⟨jT⟩;have jY:ae (d8.heap[b5]? =some (.cells #[.string cL,.int .i64 cC] 75 (0,0))):=⟨jU⟩;have jZ:ae (Below w.heap.size w d8):=⟨jV⟩;clear b1;clear HB;clear jS jT jU jV;have bD:=jW;have b9:=jX;have b1:=jY;have HB:=jZ;clear jW jX jY jZ;have hHeld:d8.cell? ⟨b5,0,none⟩=some (.string cL)∧d8.cell? ⟨b5,1,none⟩=some (.int .i64 cC):=yQ;obtain⟨m3,m4,dZ⟩:=Kd.ao b9.out
 (first|subst dZ|(injection dZ with kn nh kp;have mF:=kn.symm;have mG:=kp.symm;clear kn nh kp;subst mF;subst mG))
 refine pF (a':= ?_) ?_ ?_;rotate_left
 ·simp only[lG,Act.put,List.setIfInBounds_toArray,List.set_cons_zero,List.set_cons_succ]
  rfl
 refine wT 5 12 (fun K hK=> ?_);refine Kd.iz fI (w0:=w) w.heap.size (by rfl) (.tmp 9) (.tmp 11) 55 75 (.agg #[(.string ⟨#[]⟩),(.int .i64 0)]) 24 rfl underlying55 pX rfl (by decide) (by omega) bP bJ bC _ _ _ (fun k_=>some k_≠(.slice m3 bC.length m4:Value).ownBlock∧k_≠b5) (fun _=>False) rfl rfl ?aO ?aR (fun _ _ h=>h) (fun _ h=>h.elim) ?aF ?aB ?aS ?aL ?_
 (case aR=>repeat(first|exact(Kd.bd b9.out).2.2|(with_reducible refine Kd.eF ?_ _)|(with_reducible refine Kd.eG ?_ _)|(with_reducible refine Kd.ft ?_)))
 (case aB=>exact oB)
 (case aF=>exact(fun k_ hk=>⟨Kd.fresh' (oG b9) k_ hk,Kd.eO (g:=b5) (o:= .cells #[.string cL,.int .i64 cC] 75 (0,0)) (oF b1) k_ hk⟩))
 (case aO=>exact(oR bD))
 (case aS=>exact(ah oB))
 (case aL=>have:=m2.out;omega)
 intro zF zZ ho hb hg hat;rw[←jJ.out]at ho;have dR:=am (ho);replace b1:=lM b1 hg (Kd.lW bD.out (fun _ hk=>hk.2));replace b9:=am (Kd.rU (ok:=(fun k_=>k_≠b5)) (by(with_reducible repeat(first|apply Kd.bu|apply Kd.bx|apply Kd.bp));exact Kd.aZ b9.out (fun _ hk=>⟨hk.2,hk.1⟩)) hg hat);replace HB:=am (hb);clear bD;clear ho hb hg hat;refine eW hK 12 oH (fun hHeld=> ?_);clear hK K;refine rf 6 5 ?_;refine qi (by kernel_rfl) ?_;obtain⟨m5,bW,m6⟩:=Kd.ao dR.out;subst m6
 try go_wp2
 go_loopg [6] k (fun kq v6 w'=>∃(b2:List (cA)) (b4:Int) (b3:ByteArray) (b7:Int),v6= .int .i64 b4∧ae (cz.l0 kq b2 b4 b3 b7=some r)∧ae (kq≤k)∧ae (Kd.R fI 75 w' w.heap.size (fun k_=>k_≠b5) (.slice m5 bE.length bW) b2)∧ae (w'.heap[b5]? =some (.cells #[.string b3,.int .i64 b7] 75 (0,0)))∧ae (Below w.heap.size w w'))
 case atStart=>exact⟨(bE),(wrap64 ((bE.length:Int)-1)),(cL),(cC),oS,H',⟨Nat.le_refl _⟩,⟨by(with_reducible repeat(first|apply Kd.bu|apply Kd.bx|apply Kd.bp));exact Kd.aZ dR.out (fun _ hk=>hk.2)⟩,⟨oF b1⟩,⟨oB⟩⟩
 case round=>
  clear H'
  try clear c3
  try clear c4
  obtain⟨b2,b4,b3,b7,rfl,HA,m1,b8,b1,HB⟩:=hrel;have bV:=(Kd.bd b8.out).1;rw[bV]at b8
  (try simp only[bV])
  (try simp only[bV]at b1)
  cases gk with
  |zero=>exact absurd HA.out (by simp[cz.l0])
  |succ k1=>
   have H:=HA.out;clear HA;simp only[cz.l0]at H;replace H:=AA H;rcases H with⟨jK,H⟩|⟨jK,H⟩;rotate_left
   ·obtain⟨mW,H⟩:=cU H;obtain⟨mX,H⟩:=cU H;obtain⟨gA,da⟩:∃y_:List (cA),y_=(b2.set (b4:Int).toNat (⟨b3,b7⟩:cA)):=⟨_,rfl⟩;replace H:(some gA)=some r:=oY;have jL:=ae.mk da;clear da;obtain rfl:=Option.some.inj H
    try go_wp2
    replace b8:=am (Kd.bp b8.out);replace b1:=am (au b1.out);replace HB:=am (av HB.out);refine np 13 (fun w'=>True) cz.ads cz.aaQ trivial (fun hHeld ax eN=> ?_);generalize wr.drew=d5 at b8 b1 HB hHeld⊢;refine bz 0 16 ax ?_;refine bz 1 17 ax ?_;refine bz 2 18 ax ?_;refine fX 3 19 ax ?_;refine fX 4 20 ax ?_;refine fX 5 21 ax ?_;refine fX 6 22 ax ?_;refine fX 7 23 ax ?_;refine fX 8 24 ax ?_;refine fX 9 25 ax ?_;refine fX 10 26 ax ?_;refine fX 11 27 ax ?_;refine bz 12 28 ax ?_;refine mo ax ?_;obtain⟨⟨_,_⟩,_,_⟩:=z2 b1;have gB:0≤(b4:Int):=oa;have gC:(b4:Int)<((b2.length:Int):Int):=oa;obtain⟨bQ,zG,gD,gE,m7,zH,gF⟩:=Kd.ll b8.out (by omega)
    (first|cases gD|(injection gD with iF oc od;(first|subst iF|(injection iF with iF;subst iF));subst od;clear oc))
    have gG:=ae.mk gE;have zI:=ae.mk gF;clear gE m7 gF;obtain⟨zJ,jM,gH,dB,dC⟩:=Kd.i_ b8.out z75 (b4:Int) gB gC;obtain rfl:=iw gH;have mH:d5.cell? ⟨bQ,(b4:Int).toNat*2,none⟩=some (.string ((al b2 b4).f0)):=dB 0 _ rfl;have mI:d5.cell? ⟨bQ,(b4:Int).toNat*2+1,none⟩=some (.int .i64 ((al b2 b4).f1)):=dB 1 _ rfl;have mJ:d5.frozen? ⟨bQ,(b4:Int).toNat*2,none⟩=false:=dC 0;have mK:d5.frozen? ⟨bQ,(b4:Int).toNat*2+1,none⟩=false:=dC 1;clear jM dB dC gH;replace gB:=eq_true gB;replace gC:=eq_true gC;have gI:=am (show Kd.R fI 75 d5 w.heap.size (fun k_=>k_≠b5) (.slice (some ⟨bQ,0,none⟩) b2.length bW) b2 from(oR b8));obtain⟨zK,dS,gJ,d1,dD⟩:=Kd.i_ gI.out z75 (b4:Int) oa (by have h_:(b4:Int)<((b2.length:Int):Int):=oa;first|exact h_|(have e_:=(Kd.bd b8.out).1;omega)|simpa using h_);obtain rfl:=iw gJ;have dM:=Kd.ow gI.out (b4:Int) oa (by have h_:(b4:Int)<((b2.length:Int):Int):=oa;first|exact h_|(have e_:=(Kd.bd b8.out).1;omega)|simpa using h_) (seg:=[.string b3,.int .i64 b7]) (j:=0) dS d1 (show 2≤2 from by decide) (x':=(⟨b3,b7⟩:cA)) (lh _ _ _ (⟨b3,b7⟩:cA)) (fun _ hk=>hk);have gK:=d1 0 _ rfl
    (try simp only[show(fI).sz=2 from rfl,Nat.mul_one,Nat.add_zero]at gK)
    have gL:=dD 0
    (try simp only[show(fI).sz=2 from rfl,Nat.mul_one,Nat.add_zero]at gL)
    have gM:=d1 1 _ rfl
    (try simp only[show(fI).sz=2 from rfl,Nat.mul_one,Nat.add_zero]at gM)
    have gN:=dD 1
    (try simp only[show(fI).sz=2 from rfl,Nat.mul_one,Nat.add_zero]at gN)
    clear dS d1 dD gJ
    try go_wp2_with (first|((with_reducible refine fu (t:=75) (p:=42) rfl ?_);refine fj (t:=75) (p:=42) (v:= ?vo_w40) (w1:=((d5.setCell ⟨bQ,(b4:Int).toNat*2,none⟩ (.string b3)).setCell ⟨bQ,(b4:Int).toNat*2+1,none⟩ (.int .i64 b7))) ?hg ?ho ?hn ?hr ?_;(case ho=>rfl);(case hg=>rfl);(case hn=>rfl);(case hr=>first|(go_simp;done)|(go_simp;rfl));intro gO hw;have hg:d5.grownBy gO (some bQ):=(by rw[hw];exact dM.2);have ny:Kd.R fI 75 gO w.heap.size (fun k_=>k_≠b5) (.slice (some ⟨bQ,0,none⟩) b2.length bW) gA:=(by rw[hw,jL.out];exact dM.1);clear dM;replace b1:=lM b1 hg (Kd.lW b8.out (fun _ hk=>hk));replace b8:=am (ny);replace HB:=am ((by rw[hw];exact aI (aI (HB.out) gG.out) gG.out:Below w.heap.size w gO));clear hg hw ny))
    go_ret
    exact⟨_,oE,mR b8,oB⟩
   obtain⟨b6,bX⟩:∃j_:Int,(wrap64 (b4-1))=j_:=⟨_,rfl⟩
   replace H:(if 0≤(b6)then(if(b6)<(b2.length:Int)then(if(Op.bytesLess b3.toList (((al b2 (b6)).f0).toList))=true then(if 0≤b4 then(if b4<(b2.length:Int)then(cz.l0 k1 (b2.set (b4:Int).toNat (⟨(al b2 (b6)).f0,(al b2 (b6)).f1⟩:cA)) b6 b3 b7)else(none))else(none))else(if 0≤b4 then(if b4<(b2.length:Int)then(some (b2.set (b4:Int).toNat (⟨b3,b7⟩:cA)))else(none))else(none)))else(none))else(none))=some r:=by first|(rw[bX]at H;exact H)|(simp only[bX]at H⊢;exact H)
   have mL:(IntKind.i64.wrap (b4-1))=b6:=(kK _).trans bX;obtain⟨mY,H⟩:=cU H;obtain⟨mZ,H⟩:=cU H
   by_cases d9:(Op.bytesLess b3.toList (((al b2 (b6)).f0).toList))=true
   rotate_left
   ·rw[if_neg d9]at H
    have dE:(Op.bytesLess b3.toList (((al b2 (b6)).f0).toList))=false:=by simpa using d9
    have m8:(!Op.bytesLess (((al b2 (b6)).f0).toList) b3.toList&& !((((al b2 (b6)).f0).toList)==b3.toList))=false:=(abQ _ _).trans dE;clear d9;obtain⟨zA,H⟩:=cU H;obtain⟨zB,H⟩:=cU H;obtain⟨gP,da⟩:∃y_:List (cA),y_=(b2.set (b4:Int).toNat (⟨b3,b7⟩:cA)):=⟨_,rfl⟩;replace H:(some gP)=some r:=oY;have jN:=ae.mk da;clear da;obtain rfl:=Option.some.inj H
    try go_wp2
    replace b8:=am (Kd.bp b8.out);replace b1:=am (au b1.out);replace HB:=am (av HB.out);have m9:(0≤((b6):Int))=True:=oT;have mA:((b6)<(b2.length:Int))=True:=oT;obtain⟨bO,dN,bG,bH⟩:=cV (Kd.bd b8.out).2.2 (b6) oa oa
    cases dN
    refine np 13 (fun w'=>w'.cell? ⟨b5,0,none⟩=some (.string b3)∧w'.cell? ⟨b5,1,none⟩=some (.int .i64 b7)∧w'.cell? (bO.add (((b6)).toNat*2))=some (.string ((al b2 (b6)).f0))∧w'.cell? ⟨(bO.add (((b6)).toNat*2)).block,(bO.add (((b6)).toNat*2)).off+1,none⟩=some (.int .i64 ((al b2 (b6)).f1))) cz.ads cz.aaQ ⟨(aq b1.out 0).trans rfl,(aq b1.out 1).trans rfl,bG,bH⟩ (fun hHeld ax eN=> ?_);generalize wr.drew=d6 at b8 b1 HB bG bH hHeld⊢;refine bz 0 16 ax ?_;refine bz 1 17 ax ?_;refine bz 2 18 ax ?_;refine bz 3 19 ax ?_;refine bz 4 20 ax ?_;refine bz 5 21 ax ?_;refine bz 6 22 ax ?_;refine bz 7 23 ax ?_;refine bz 9 25 ax ?_;refine gj 8 24 ax eN hHeld ?_;refine gj 10 26 ax eN hHeld ?_;refine bz 11 27 ax ?_;refine bz 12 28 ax ?_;refine mo ax ?_;obtain⟨⟨_,_⟩,_,_⟩:=z2 b1;have gQ:0≤(b4:Int):=oa;have gR:(b4:Int)<((b2.length:Int):Int):=oa;obtain⟨bR,zL,gS,gT,mB,zM,gU⟩:=Kd.ll b8.out (by omega)
    (first|cases gS|(injection gS with iF oc od;(first|subst iF|(injection iF with iF;subst iF));subst od;clear oc))
    have gV:=ae.mk gT;have zN:=ae.mk gU;clear gT mB gU
    (first|simp only[add_plain]at bG|skip)
    (first|simp only[add_plain]at bH|skip)
    obtain⟨zO,jO,gW,dF,dG⟩:=Kd.i_ b8.out z75 (b4:Int) gQ gR;obtain rfl:=iw gW;have mM:d6.cell? ⟨bR,(b4:Int).toNat*2,none⟩=some (.string ((al b2 b4).f0)):=dF 0 _ rfl;have mN:d6.cell? ⟨bR,(b4:Int).toNat*2+1,none⟩=some (.int .i64 ((al b2 b4).f1)):=dF 1 _ rfl;have mO:d6.frozen? ⟨bR,(b4:Int).toNat*2,none⟩=false:=dG 0;have mP:d6.frozen? ⟨bR,(b4:Int).toNat*2+1,none⟩=false:=dG 1;clear jO dF dG gW;replace gQ:=eq_true gQ;replace gR:=eq_true gR;have gX:=am (show Kd.R fI 75 d6 w.heap.size (fun k_=>k_≠b5) (.slice (some ⟨bR,0,none⟩) b2.length bW) b2 from(oR b8));obtain⟨zP,dT,gY,d2,dH⟩:=Kd.i_ gX.out z75 (b4:Int) oa (by have h_:(b4:Int)<((b2.length:Int):Int):=oa;first|exact h_|(have e_:=(Kd.bd b8.out).1;omega)|simpa using h_);obtain rfl:=iw gY;have dO:=Kd.ow gX.out (b4:Int) oa (by have h_:(b4:Int)<((b2.length:Int):Int):=oa;first|exact h_|(have e_:=(Kd.bd b8.out).1;omega)|simpa using h_) (seg:=[.string b3,.int .i64 b7]) (j:=0) dT d2 (show 2≤2 from by decide) (x':=(⟨b3,b7⟩:cA)) (lh _ _ _ (⟨b3,b7⟩:cA)) (fun _ hk=>hk);have gZ:=d2 0 _ rfl
    (try simp only[show(fI).sz=2 from rfl,Nat.mul_one,Nat.add_zero]at gZ)
    have j1:=dH 0
    (try simp only[show(fI).sz=2 from rfl,Nat.mul_one,Nat.add_zero]at j1)
    have j2:=d2 1 _ rfl
    (try simp only[show(fI).sz=2 from rfl,Nat.mul_one,Nat.add_zero]at j2)
    have j3:=dH 1
    (try simp only[show(fI).sz=2 from rfl,Nat.mul_one,Nat.add_zero]at j3)
    clear dT d2 dH gY
    try go_wp2_with (first|((with_reducible refine fu (t:=75) (p:=42) rfl ?_);refine fj (t:=75) (p:=42) (v:= ?adr) (w1:=((d6.setCell ⟨bR,(b4:Int).toNat*2,none⟩ (.string b3)).setCell ⟨bR,(b4:Int).toNat*2+1,none⟩ (.int .i64 b7))) ?hg ?ho ?hn ?hr ?_;(case ho=>rfl);(case hg=>rfl);(case hn=>rfl);(case hr=>first|(go_simp;done)|(go_simp;rfl));intro j4 hw;have hg:d6.grownBy j4 (some bR):=(by rw[hw];exact dO.2);have ny:Kd.R fI 75 j4 w.heap.size (fun k_=>k_≠b5) (.slice (some ⟨bR,0,none⟩) b2.length bW) gP:=(by rw[hw,jN.out];exact dO.1);clear dO;replace b1:=lM b1 hg (Kd.lW b8.out (fun _ hk=>hk));replace b8:=am (ny);replace HB:=am ((by rw[hw];exact aI (aI (HB.out) gV.out) gV.out:Below w.heap.size w j4));clear hg hw ny))
    go_ret
    exact⟨_,by first|rfl|(simp[ee,ef]<;>rfl)|(simp only[←bX];first|rfl|(simp[ee,ef]<;>rfl))|(simp[*,ee,ef]<;>rfl),mR b8,oB⟩
   rw[if_pos d9]at H;have dE:(Op.bytesLess b3.toList (((al b2 (b6)).f0).toList))=true:=d9;have m8:(!Op.bytesLess (((al b2 (b6)).f0).toList) b3.toList&& !((((al b2 (b6)).f0).toList)==b3.toList))=true:=(abQ _ _).trans dE;clear d9;obtain⟨zC,H⟩:=cU H;obtain⟨zD,H⟩:=cU H;obtain⟨dP,da⟩:∃y_:List (cA),y_=(b2.set (b4:Int).toNat (⟨(al b2 (b6)).f0,(al b2 (b6)).f1⟩:cA)):=⟨_,rfl⟩;replace H:(cz.l0 k1 dP b6 b3 b7)=some r:=oY;have jP:=ae.mk da;clear da;have H':=ae.mk H;clear H
   try go_wp2
   replace b8:=am (Kd.bp b8.out);replace b1:=am (au b1.out);replace HB:=am (av HB.out);have m9:(0≤((b6):Int))=True:=oT;have mA:((b6)<(b2.length:Int))=True:=oT;obtain⟨bO,dN,bG,bH⟩:=cV (Kd.bd b8.out).2.2 (b6) oa oa
   cases dN
   refine np 13 (fun w'=>w'.cell? ⟨b5,0,none⟩=some (.string b3)∧w'.cell? ⟨b5,1,none⟩=some (.int .i64 b7)∧w'.cell? (bO.add (((b6)).toNat*2))=some (.string ((al b2 (b6)).f0))∧w'.cell? ⟨(bO.add (((b6)).toNat*2)).block,(bO.add (((b6)).toNat*2)).off+1,none⟩=some (.int .i64 ((al b2 (b6)).f1))) cz.ads cz.aaQ ⟨(aq b1.out 0).trans rfl,(aq b1.out 1).trans rfl,bG,bH⟩ (fun hHeld ax eN=> ?_);generalize wr.drew=d7 at b8 b1 HB bG bH hHeld⊢;refine bz 0 16 ax ?_;refine bz 1 17 ax ?_;refine bz 2 18 ax ?_;refine bz 3 19 ax ?_;refine bz 4 20 ax ?_;refine bz 5 21 ax ?_;refine bz 6 22 ax ?_;refine bz 7 23 ax ?_;refine bz 9 25 ax ?_;refine gj 8 24 ax eN hHeld ?_;refine gj 10 26 ax eN hHeld ?_;refine bz 11 27 ax ?_;refine bz 12 28 ax ?_;refine mo ax ?_;have zQ:(0≤((b6):Int))=True:=oT;have zR:((b6)<(b2.length:Int))=True:=oT;obtain⟨jQ,mC,dV,dW⟩:=cV (Kd.bd b8.out).2.2 (b6) oa oa;obtain rfl:bO=jQ:=(by injection mC);have j5:0≤(b4:Int):=oa;have j6:(b4:Int)<((b2.length:Int):Int):=oa;obtain⟨bS,zS,j7,j8,mD,zT,j9⟩:=Kd.ll b8.out (by omega)
   (first|cases j7|(injection j7 with iF oc od;(first|subst iF|(injection iF with iF;subst iF));subst od;clear oc))
   have jA:=ae.mk j8;have zU:=ae.mk j9;clear j8 mD j9
   (first|simp only[add_plain]at bG|skip)
   (first|simp only[add_plain]at bH|skip)
   (first|simp only[add_plain]at dV|skip)
   (first|simp only[add_plain]at dW|skip)
   obtain⟨zV,jR,jB,dI,dJ⟩:=Kd.i_ b8.out z75 (b4:Int) j5 j6;obtain rfl:=iw jB;have mQ:d7.cell? ⟨bS,(b4:Int).toNat*2,none⟩=some (.string ((al b2 b4).f0)):=dI 0 _ rfl;have mS:d7.cell? ⟨bS,(b4:Int).toNat*2+1,none⟩=some (.int .i64 ((al b2 b4).f1)):=dI 1 _ rfl;have mT:d7.frozen? ⟨bS,(b4:Int).toNat*2,none⟩=false:=dJ 0;have mU:d7.frozen? ⟨bS,(b4:Int).toNat*2+1,none⟩=false:=dJ 1;clear jR dI dJ jB;replace j5:=eq_true j5;replace j6:=eq_true j6;have jC:=am (show Kd.R fI 75 d7 w.heap.size (fun k_=>k_≠b5) (.slice (some ⟨bS,0,none⟩) b2.length bW) b2 from(oR b8));obtain⟨zW,dU,jD,d3,dK⟩:=Kd.i_ jC.out z75 (b4:Int) oa (by have h_:(b4:Int)<((b2.length:Int):Int):=oa;first|exact h_|(have e_:=(Kd.bd b8.out).1;omega)|simpa using h_);obtain rfl:=iw jD;have dQ:=Kd.ow jC.out (b4:Int) oa (by have h_:(b4:Int)<((b2.length:Int):Int):=oa;first|exact h_|(have e_:=(Kd.bd b8.out).1;omega)|simpa using h_) (seg:=[.string ((al b2 (b6)).f0),.int .i64 ((al b2 (b6)).f1)]) (j:=0) dU d3 (show 2≤2 from by decide) (x':=(⟨(al b2 (b6)).f0,(al b2 (b6)).f1⟩:cA)) (lh _ _ _ (⟨(al b2 (b6)).f0,(al b2 (b6)).f1⟩:cA)) (fun _ hk=>hk);have jE:=d3 0 _ rfl
   (try simp only[show(fI).sz=2 from rfl,Nat.mul_one,Nat.add_zero]at jE)
   have jF:=dK 0
   (try simp only[show(fI).sz=2 from rfl,Nat.mul_one,Nat.add_zero]at jF)
   have jG:=d3 1 _ rfl
   (try simp only[show(fI).sz=2 from rfl,Nat.mul_one,Nat.add_zero]at jG)
   have jH:=dK 1
   (try simp only[show(fI).sz=2 from rfl,Nat.mul_one,Nat.add_zero]at jH)
   clear dU d3 dK jD
   try go_wp2_with (first|((with_reducible refine fu (t:=75) (p:=36) rfl ?_);refine fj (t:=75) (p:=36) (v:= ?vo_w26) (w1:=((d7.setCell ⟨bS,(b4:Int).toNat*2,none⟩ (.string ((al b2 (b6)).f0))).setCell ⟨bS,(b4:Int).toNat*2+1,none⟩ (.int .i64 ((al b2 (b6)).f1)))) ?hg ?ho ?hn ?hr ?_;(case ho=>rfl);(case hg=>rfl);(case hn=>rfl);(case hr=>first|(go_simp;done)|(go_simp;rfl));intro jI hw;have hg:d7.grownBy jI (some bS):=(by rw[hw];exact dQ.2);have ny:Kd.R fI 75 jI w.heap.size (fun k_=>k_≠b5) (.slice (some ⟨bS,0,none⟩) b2.length bW) dP:=(by rw[hw,jP.out];exact dQ.1);clear dQ;replace b1:=lM b1 hg (Kd.lW b8.out (fun _ hk=>hk));replace b8:=am (ny);replace HB:=am ((by rw[hw];exact aI (aI (HB.out) jA.out) jA.out:Below w.heap.size w jI));clear hg hw ny))
   (try simp only[←bV])
   go_roundg k1
   case measure=>have:=m1.out;omega
   case rel=>exact⟨(dP),(b6),(b3),(b7),(by first|rfl|(simp;done)|(simp only[←bX]<;>(first|rfl|simp))|(simp[*];done)),H',⟨by have:=m1.out;omega⟩,⟨by(try simp only[bV]);(with_reducible repeat(first|apply Kd.bu|apply Kd.bx|apply Kd.bp));exact b8.out⟩,⟨by(try simp only[bV]);(with_reducible repeat(first|refine cu ?_ _|refine au ?_|refine aC ?_ _));exact b1.out⟩,⟨oB⟩⟩

def aD.l0:Nat→ByteArray→Int→Int→Option (Bool)
 |0,_,_,_=>none
 |k+1,x0,x6,x7=>if x7<x6 then(if 0≤x7 then(if x7<(x0.size:Int)then(if(bt x0 x7)<97 then(if(bt x0 x7)<48 then(if(bt x0 x7)=95 then(aD.l0 k x0 x6 (wrap64 (x7+1)))else(if(bt x0 x7)=45 then(aD.l0 k x0 x6 (wrap64 (x7+1)))else(if(bt x0 x7)=46 then(aD.l0 k x0 x6 (wrap64 (x7+1)))else(some false))))else(if(bt x0 x7)>57 then(if(bt x0 x7)=95 then(aD.l0 k x0 x6 (wrap64 (x7+1)))else(if(bt x0 x7)=45 then(aD.l0 k x0 x6 (wrap64 (x7+1)))else(if(bt x0 x7)=46 then(aD.l0 k x0 x6 (wrap64 (x7+1)))else(some false))))else(aD.l0 k x0 x6 (wrap64 (x7+1)))))else(if(bt x0 x7)>122 then(if(bt x0 x7)<48 then(if(bt x0 x7)=95 then(aD.l0 k x0 x6 (wrap64 (x7+1)))else(if(bt x0 x7)=45 then(aD.l0 k x0 x6 (wrap64 (x7+1)))else(if(bt x0 x7)=46 then(aD.l0 k x0 x6 (wrap64 (x7+1)))else(some false))))else(if(bt x0 x7)>57 then(if(bt x0 x7)=95 then(aD.l0 k x0 x6 (wrap64 (x7+1)))else(if(bt x0 x7)=45 then(aD.l0 k x0 x6 (wrap64 (x7+1)))else(if(bt x0 x7)=46 then(aD.l0 k x0 x6 (wrap64 (x7+1)))else(some false))))else(aD.l0 k x0 x6 (wrap64 (x7+1)))))else(aD.l0 k x0 x6 (wrap64 (x7+1)))))else(none))else(none))else(if(x0.size:Int)≥1 then(if(x0.size:Int)≤14 then(if x0.toList=([46]:List UInt8)then(some false)else(some (x0.toList !=([46,46]:List UInt8))))else(some false))else(some false))
def aD.f (k:Nat) (a0:ByteArray):Option (Bool):=aD.l0 k a0 (a0.size:Int) 0
theorem aD.calls (k:Nat) (a0:ByteArray) (r:Bool) (w:World) (h:aD.f k a0=some r):
  Calls Tryz.prog 65 #[.string a0] w fun e w'=>e= .returned (.bool r)∧fC w w':=by
 unfold aD.f at h;have H:=h;clear h;have H':=ae.mk H;clear H
 go_enter func65,ntmps65
 go_wp2
 go_loopg [7] k (fun kq v7 w'=>∃(b1:Int),v7= .int .i64 b1∧ae (aD.l0 kq a0 (a0.size:Int) b1=some r)∧ae (kq≤k)∧fC w w')
 case atStart=>exact⟨(0),oS,H',⟨Nat.le_refl _⟩,oD⟩
 case round=>
  clear H';obtain⟨b1,rfl,HA,b2,⟨m1,rfl⟩⟩:=hrel
  cases gk with
  |zero=>exact absurd HA.out (by simp[aD.l0])
  |succ k1=>
   have H:=HA.out;clear HA;simp only[aD.l0]at H;replace H:=jm H;rcases H with⟨dC,H⟩|⟨dC,H⟩;rotate_left
   ·by_cases bF:(a0.size:Int)≥1
    rotate_left
    ·rw[if_neg bF]at H;have bH:decide (1≤(a0.size:Int))=false:=decide_eq_false bF;have bI:decide (1≤a0.size)=false:=decide_eq_false (by omega);clear bF;obtain rfl:=Option.some.inj H
     go_wp2
     go_ret
     exact⟨oS,oD⟩
    rw[if_pos bF]at H;have bH:decide (1≤(a0.size:Int))=true:=decide_eq_true bF;have bI:decide (1≤a0.size)=true:=decide_eq_true (by omega);clear bF
    by_cases bG:(a0.size:Int)≤14
    rotate_left
    ·rw[if_neg bG]at H;have bJ:decide ((a0.size:Int)≤14)=false:=decide_eq_false bG;have bK:decide (a0.size≤14)=false:=decide_eq_false (by omega);clear bG;obtain rfl:=Option.some.inj H
     go_wp2
     go_ret
     exact⟨oS,oD⟩
    rw[if_pos bG]at H;have bJ:decide ((a0.size:Int)≤14)=true:=decide_eq_true bG;have bK:decide (a0.size≤14)=true:=decide_eq_true (by omega);clear bG
    by_cases b4:a0.toList=([46]:List UInt8)
    rotate_left
    ·rw[if_neg b4]at H;have bL:(a0.toList==([46]:List UInt8))=false:=beq_eq_false_iff_ne.mpr b4;have bM:(a0.toList !=([46]:List UInt8))=true:=bne_iff_ne.mpr b4;obtain rfl:=Option.some.inj H
     go_wp2
     go_ret
     exact⟨oS,oD⟩
    rw[if_pos b4]at H;have bL:(a0.toList==([46]:List UInt8))=true:=beq_iff_eq.mpr b4;have bM:(a0.toList !=([46]:List UInt8))=false:=bne_eq_false_iff_eq.mpr b4;clear b4;obtain rfl:=Option.some.inj H
    go_wp2
    go_ret
    exact⟨oS,oD⟩
   obtain⟨dJ,H⟩:=cU H;obtain⟨dK,H⟩:=cU H;replace H:=jm H;rcases H with⟨dD,H⟩|⟨dD,H⟩
   ·replace H:=jm H;rcases H with⟨dE,H⟩|⟨dE,H⟩
    ·by_cases c8:(bt a0 b1)=95
     ·rw[if_pos c8]at H;have dF:((bt a0 b1)==95)=true:=beq_iff_eq.mpr c8;have dG:((bt a0 b1) !=95)=false:=bne_eq_false_iff_eq.mpr c8;clear c8;have H':=ae.mk H;clear H;have p5:(0≤(b1:Int))=True:=oT;have q5:(b1<(a0.size:Int))=True:=oT;have b3:=iK a0 b1
      go_wp2
      go_roundg k1
      case measure=>have:=b2.out;omega
      case rel=>exact⟨(wrap64 (b1+1)),oS,H',⟨by have:=b2.out;omega⟩,oD⟩
     rw[if_neg c8]at H;have dF:((bt a0 b1)==95)=false:=beq_eq_false_iff_ne.mpr c8;have dG:((bt a0 b1) !=95)=true:=bne_iff_ne.mpr c8
     by_cases c9:(bt a0 b1)=45
     ·rw[if_pos c9]at H;have dH:((bt a0 b1)==45)=true:=beq_iff_eq.mpr c9;have dI:((bt a0 b1) !=45)=false:=bne_eq_false_iff_eq.mpr c9;clear c9;have H':=ae.mk H;clear H;have p5:(0≤(b1:Int))=True:=oT;have q5:(b1<(a0.size:Int))=True:=oT;have b3:=iK a0 b1
      go_wp2
      go_roundg k1
      case measure=>have:=b2.out;omega
      case rel=>exact⟨(wrap64 (b1+1)),oS,H',⟨by have:=b2.out;omega⟩,oD⟩
     rw[if_neg c9]at H;have dH:((bt a0 b1)==45)=false:=beq_eq_false_iff_ne.mpr c9;have dI:((bt a0 b1) !=45)=true:=bne_iff_ne.mpr c9
     by_cases c10:(bt a0 b1)=46
     rotate_left
     ·rw[if_neg c10]at H;have bN:((bt a0 b1)==46)=false:=beq_eq_false_iff_ne.mpr c10;have bO:((bt a0 b1) !=46)=true:=bne_iff_ne.mpr c10;obtain rfl:=Option.some.inj H;have p5:(0≤(b1:Int))=True:=oT;have q5:(b1<(a0.size:Int))=True:=oT;have b3:=iK a0 b1
      go_wp2
      go_ret
      exact⟨oS,oD⟩
     rw[if_pos c10]at H;have bN:((bt a0 b1)==46)=true:=beq_iff_eq.mpr c10;have bO:((bt a0 b1) !=46)=false:=bne_eq_false_iff_eq.mpr c10;clear c10;have H':=ae.mk H;clear H;have p5:(0≤(b1:Int))=True:=oT;have q5:(b1<(a0.size:Int))=True:=oT;have b3:=iK a0 b1
     go_wp2
     go_roundg k1
     case measure=>have:=b2.out;omega
     case rel=>exact⟨(wrap64 (b1+1)),oS,H',⟨by have:=b2.out;omega⟩,oD⟩
    replace H:=AA H;rcases H with⟨bP,H⟩|⟨bP,H⟩;rotate_left
    ·have H':=ae.mk H;clear H;have p5:(0≤(b1:Int))=True:=oT;have q5:(b1<(a0.size:Int))=True:=oT;have b3:=iK a0 b1
     go_wp2
     go_roundg k1
     case measure=>have:=b2.out;omega
     case rel=>exact⟨(wrap64 (b1+1)),oS,H',⟨by have:=b2.out;omega⟩,oD⟩
    by_cases b5:(bt a0 b1)=95
    ·rw[if_pos b5]at H;have bQ:((bt a0 b1)==95)=true:=beq_iff_eq.mpr b5;have bR:((bt a0 b1) !=95)=false:=bne_eq_false_iff_eq.mpr b5;clear b5;have H':=ae.mk H;clear H;have p5:(0≤(b1:Int))=True:=oT;have q5:(b1<(a0.size:Int))=True:=oT;have b3:=iK a0 b1
     go_wp2
     go_roundg k1
     case measure=>have:=b2.out;omega
     case rel=>exact⟨(wrap64 (b1+1)),oS,H',⟨by have:=b2.out;omega⟩,oD⟩
    rw[if_neg b5]at H;have bQ:((bt a0 b1)==95)=false:=beq_eq_false_iff_ne.mpr b5;have bR:((bt a0 b1) !=95)=true:=bne_iff_ne.mpr b5
    by_cases b6:(bt a0 b1)=45
    ·rw[if_pos b6]at H;have bS:((bt a0 b1)==45)=true:=beq_iff_eq.mpr b6;have bT:((bt a0 b1) !=45)=false:=bne_eq_false_iff_eq.mpr b6;clear b6;have H':=ae.mk H;clear H;have p5:(0≤(b1:Int))=True:=oT;have q5:(b1<(a0.size:Int))=True:=oT;have b3:=iK a0 b1
     go_wp2
     go_roundg k1
     case measure=>have:=b2.out;omega
     case rel=>exact⟨(wrap64 (b1+1)),oS,H',⟨by have:=b2.out;omega⟩,oD⟩
    rw[if_neg b6]at H;have bS:((bt a0 b1)==45)=false:=beq_eq_false_iff_ne.mpr b6;have bT:((bt a0 b1) !=45)=true:=bne_iff_ne.mpr b6
    by_cases b7:(bt a0 b1)=46
    rotate_left
    ·rw[if_neg b7]at H;have bU:((bt a0 b1)==46)=false:=beq_eq_false_iff_ne.mpr b7;have bV:((bt a0 b1) !=46)=true:=bne_iff_ne.mpr b7;obtain rfl:=Option.some.inj H;have p5:(0≤(b1:Int))=True:=oT;have q5:(b1<(a0.size:Int))=True:=oT;have b3:=iK a0 b1
     go_wp2
     go_ret
     exact⟨oS,oD⟩
    rw[if_pos b7]at H;have bU:((bt a0 b1)==46)=true:=beq_iff_eq.mpr b7;have bV:((bt a0 b1) !=46)=false:=bne_eq_false_iff_eq.mpr b7;clear b7;have H':=ae.mk H;clear H;have p5:(0≤(b1:Int))=True:=oT;have q5:(b1<(a0.size:Int))=True:=oT;have b3:=iK a0 b1
    go_wp2
    go_roundg k1
    case measure=>have:=b2.out;omega
    case rel=>exact⟨(wrap64 (b1+1)),oS,H',⟨by have:=b2.out;omega⟩,oD⟩
   replace H:=AA H;rcases H with⟨bW,H⟩|⟨bW,H⟩;rotate_left
   ·have H':=ae.mk H;clear H;have p5:(0≤(b1:Int))=True:=oT;have q5:(b1<(a0.size:Int))=True:=oT;have b3:=iK a0 b1
    go_wp2
    go_roundg k1
    case measure=>have:=b2.out;omega
    case rel=>exact⟨(wrap64 (b1+1)),oS,H',⟨by have:=b2.out;omega⟩,oD⟩
   replace H:=jm H;rcases H with⟨bX,H⟩|⟨bX,H⟩
   ·by_cases b8:(bt a0 b1)=95
    ·rw[if_pos b8]at H;have bY:((bt a0 b1)==95)=true:=beq_iff_eq.mpr b8;have bZ:((bt a0 b1) !=95)=false:=bne_eq_false_iff_eq.mpr b8;clear b8;have H':=ae.mk H;clear H;have p5:(0≤(b1:Int))=True:=oT;have q5:(b1<(a0.size:Int))=True:=oT;have b3:=iK a0 b1
     go_wp2
     go_roundg k1
     case measure=>have:=b2.out;omega
     case rel=>exact⟨(wrap64 (b1+1)),oS,H',⟨by have:=b2.out;omega⟩,oD⟩
    rw[if_neg b8]at H;have bY:((bt a0 b1)==95)=false:=beq_eq_false_iff_ne.mpr b8;have bZ:((bt a0 b1) !=95)=true:=bne_iff_ne.mpr b8
    by_cases b9:(bt a0 b1)=45
    ·rw[if_pos b9]at H;have d1:((bt a0 b1)==45)=true:=beq_iff_eq.mpr b9;have d2:((bt a0 b1) !=45)=false:=bne_eq_false_iff_eq.mpr b9;clear b9;have H':=ae.mk H;clear H;have p5:(0≤(b1:Int))=True:=oT;have q5:(b1<(a0.size:Int))=True:=oT;have b3:=iK a0 b1
     go_wp2
     go_roundg k1
     case measure=>have:=b2.out;omega
     case rel=>exact⟨(wrap64 (b1+1)),oS,H',⟨by have:=b2.out;omega⟩,oD⟩
    rw[if_neg b9]at H;have d1:((bt a0 b1)==45)=false:=beq_eq_false_iff_ne.mpr b9;have d2:((bt a0 b1) !=45)=true:=bne_iff_ne.mpr b9
    by_cases bB:(bt a0 b1)=46
    rotate_left
    ·rw[if_neg bB]at H;have d3:((bt a0 b1)==46)=false:=beq_eq_false_iff_ne.mpr bB;have d4:((bt a0 b1) !=46)=true:=bne_iff_ne.mpr bB;obtain rfl:=Option.some.inj H;have p5:(0≤(b1:Int))=True:=oT;have q5:(b1<(a0.size:Int))=True:=oT;have b3:=iK a0 b1
     go_wp2
     go_ret
     exact⟨oS,oD⟩
    rw[if_pos bB]at H;have d3:((bt a0 b1)==46)=true:=beq_iff_eq.mpr bB;have d4:((bt a0 b1) !=46)=false:=bne_eq_false_iff_eq.mpr bB;clear bB;have H':=ae.mk H;clear H;have p5:(0≤(b1:Int))=True:=oT;have q5:(b1<(a0.size:Int))=True:=oT;have b3:=iK a0 b1
    go_wp2
    go_roundg k1
    case measure=>have:=b2.out;omega
    case rel=>exact⟨(wrap64 (b1+1)),oS,H',⟨by have:=b2.out;omega⟩,oD⟩
   replace H:=AA H;rcases H with⟨d5,H⟩|⟨d5,H⟩;rotate_left
   ·have H':=ae.mk H;clear H;have p5:(0≤(b1:Int))=True:=oT;have q5:(b1<(a0.size:Int))=True:=oT;have b3:=iK a0 b1
    go_wp2
    go_roundg k1
    case measure=>have:=b2.out;omega
    case rel=>exact⟨(wrap64 (b1+1)),oS,H',⟨by have:=b2.out;omega⟩,oD⟩
   by_cases bC:(bt a0 b1)=95
   ·rw[if_pos bC]at H;have d6:((bt a0 b1)==95)=true:=beq_iff_eq.mpr bC;have d7:((bt a0 b1) !=95)=false:=bne_eq_false_iff_eq.mpr bC;clear bC;have H':=ae.mk H;clear H;have p5:(0≤(b1:Int))=True:=oT;have q5:(b1<(a0.size:Int))=True:=oT;have b3:=iK a0 b1
    go_wp2
    go_roundg k1
    case measure=>have:=b2.out;omega
    case rel=>exact⟨(wrap64 (b1+1)),oS,H',⟨by have:=b2.out;omega⟩,oD⟩
   rw[if_neg bC]at H;have d6:((bt a0 b1)==95)=false:=beq_eq_false_iff_ne.mpr bC;have d7:((bt a0 b1) !=95)=true:=bne_iff_ne.mpr bC
   by_cases bD:(bt a0 b1)=45
   ·rw[if_pos bD]at H;have d8:((bt a0 b1)==45)=true:=beq_iff_eq.mpr bD;have d9:((bt a0 b1) !=45)=false:=bne_eq_false_iff_eq.mpr bD;clear bD;have H':=ae.mk H;clear H;have p5:(0≤(b1:Int))=True:=oT;have q5:(b1<(a0.size:Int))=True:=oT;have b3:=iK a0 b1
    go_wp2
    go_roundg k1
    case measure=>have:=b2.out;omega
    case rel=>exact⟨(wrap64 (b1+1)),oS,H',⟨by have:=b2.out;omega⟩,oD⟩
   rw[if_neg bD]at H;have d8:((bt a0 b1)==45)=false:=beq_eq_false_iff_ne.mpr bD;have d9:((bt a0 b1) !=45)=true:=bne_iff_ne.mpr bD
   by_cases bE:(bt a0 b1)=46
   rotate_left
   ·rw[if_neg bE]at H;have dA:((bt a0 b1)==46)=false:=beq_eq_false_iff_ne.mpr bE;have dB:((bt a0 b1) !=46)=true:=bne_iff_ne.mpr bE;obtain rfl:=Option.some.inj H;have p5:(0≤(b1:Int))=True:=oT;have q5:(b1<(a0.size:Int))=True:=oT;have b3:=iK a0 b1
    go_wp2
    go_ret
    exact⟨oS,oD⟩
   rw[if_pos bE]at H;have dA:((bt a0 b1)==46)=true:=beq_iff_eq.mpr bE;have dB:((bt a0 b1) !=46)=false:=bne_eq_false_iff_eq.mpr bE;clear bE;have H':=ae.mk H;clear H;have p5:(0≤(b1:Int))=True:=oT;have q5:(b1<(a0.size:Int))=True:=oT;have b3:=iK a0 b1
   go_wp2
   go_roundg k1
   case measure=>have:=b2.out;omega
   case rel=>exact⟨(wrap64 (b1+1)),oS,H',⟨by have:=b2.out;omega⟩,oD⟩

mutual
def bl.l0:Nat→Int→Int→Int→List (aX)→Int→Option (Int)
 |0,_,_,_,_,_=>none
 |k+1,x1,x5,x6,b1,b2=>if x6<(b1.length:Int)then(bl.l1 k x1 x5 x6 0 b1 b2)else(some x5)
def bl.l1:Nat→Int→Int→Int→Int→List (aX)→Int→Option (Int)
 |0,_,_,_,_,_,_=>none
 |k+1,x1,x5,x6,x7,b1,b2=>if 0≤x6 then(if x6<(b1.length:Int)then(if x7<(((af b1 x6).f4).length:Int)then(bl.j2 k x1 x5 x6 x7 (((af b1 x6).f1)==2) b1 b2)else(bl.j2 k x1 x5 x6 x7 false b1 b2))else(none))else(none)
def bl.j2:Nat→Int→Int→Int→Int→Bool→List (aX)→Int→Option (Int)
 |0,_,_,_,_,_,_,_=>none
 |k+1,x1,x5,x6,x7,b3,b1,b2=>if b3=true then(if 0≤x6 then(if x6<(b1.length:Int)then(if 0≤x7 then(if x7<(((af b1 x6).f4).length:Int)then(if((al ((af b1 x6).f4) x7).f1)=x1 then(bl.l1 k x1 (wrap64 (x5+1)) x6 (wrap64 (x7+1)) b1 b2)else(bl.l1 k x1 x5 x6 (wrap64 (x7+1)) b1 b2))else(none))else(none))else(none))else(none))else(bl.l0 k x1 x5 (wrap64 (x6+1)) b1 b2)
end
def bl.f (k:Nat) (ag:List (aX)) (ak:Int) (a1:Int):Option (Int):=bl.l0 k a1 0 0 ag ak
theorem bl.calls (k:Nat) (bh:Option Addr) (aT:Nat) (ag:List (aX)) (ak:Int) (a1:Int) (r:Int) (w:World) (cj:Kd.C gh w bh ag.length ag) (ck:ag.length≤aT) (h:bl.f k ag ak a1=some r):
  Calls Tryz.prog 81 #[.agg #[.slice bh ag.length aT,.int .i64 ak],.int .i64 a1] w fun e w'=>e= .returned (.int .i64 r)∧Below w.heap.size w w':=by
 have j7:=underlying28;have b5:=ae.mk cj;have j1:=ae.mk ck;clear cj ck;have HB:=am (Below.refl w.heap.size w);unfold bl.f at h;have H:=h;clear h;have H':=ae.mk H;clear H
 go_enter func81,ntmps81
 go_wp2_with (first|((with_reducible refine aj (N:=2) rfl ?_);refine cO 2 #[.slice bh ag.length aT,.int .i64 ak] 28 ?_;intro bR hg w3 hbox hb;have b2:=am (hbox);have j2:=cN hg;replace HB:=hB HB hb;clear hb hbox hg))
 go_loopg [5,6] k (fun kq v5 v6 w'=>∃(bS:Int) (b1:Int),v5= .int .i64 bS∧v6= .int .i64 b1∧ae (bl.l0 kq a1 bS b1 ag ak=some r)∧ae (kq≤k)∧ae (w'.heap[bR]? =some (.cells #[(.slice bh ag.length aT),.int .i64 ak] 28 (0,0)))∧ae (Below w.heap.size w w'))
 case atStart=>exact⟨(0),(0),oS,oS,H',⟨Nat.le_refl _⟩,⟨oF b2⟩,⟨oB⟩⟩
 case round=>
  clear H';obtain⟨bS,b1,rfl,rfl,HA,bB,b2,HB⟩:=hrel
  cases gk with
  |zero=>exact absurd HA.out (by simp[bl.l0])
  |succ k1=>
   have H:=HA.out;clear HA;simp only[bl.l0]at H;replace H:=jm H;rcases H with⟨bU,H⟩|⟨bU,H⟩;rotate_left
   ·obtain rfl:=Option.some.inj H;obtain⟨⟨_,_⟩,_,_⟩:=z2 b2
    go_wp2
    go_ret
    exact⟨oE,oB⟩
   have H':=ae.mk H;clear H;obtain⟨⟨_,_⟩,_,_⟩:=z2 b2
   go_wp2
   go_loopg [5,7] k1 (fun kq v5 v7 w'=>∃(b4:Int) (b3:Int),v5= .int .i64 b4∧v7= .int .i64 b3∧ae (bl.l1 kq a1 b4 b1 b3 ag ak=some r)∧ae (kq≤k1)∧ae (w'.heap[bR]? =some (.cells #[(.slice bh ag.length aT),.int .i64 ak] 28 (0,0)))∧ae (Below w.heap.size w w'))
   case atStart=>exact⟨(bS),(0),oS,oS,H',⟨Nat.le_refl _⟩,⟨oF b2⟩,⟨oB⟩⟩
   case round=>
    clear H'
    try clear bU
    obtain⟨b4,b3,rfl,rfl,HA,bC,b2,HB⟩:=hrel
    cases gk with
    |zero=>exact absurd HA.out (by simp[bl.l1])
    |succ k2=>
     have H:=HA.out;clear HA;simp only[bl.l1]at H;have dM:=ae.mk H;clear H
     go_upto_region 6 with(fail)
     go_cut [32] (fun gT wc=>∃(kq:Nat) (bT:Bool),gT= .bool bT∧ae (bl.j2 kq a1 b4 b1 b3 bT ag ak=some r)∧ae (kq≤k2)∧ae (wc.heap[bR]? =some (.cells #[(.slice bh ag.length aT),.int .i64 ak] 28 (0,0)))∧ae (Below w.heap.size w wc))
     case first=>
      have H:=dM.out;clear dM;obtain⟨gE,H⟩:=cU H
      (first|rw[gE]|skip)
      obtain⟨j8,H⟩:=cU H;replace H:=jm H;rcases H with⟨gF,H⟩|⟨gF,H⟩;rotate_left
      ·have H':=ae.mk H;clear H;obtain⟨⟨_,_⟩,_,_⟩:=z2 b2;have gG:(0≤(b1:Int))=True:=oT;have gH:(b1<(ag.length:Int))=True:=oT;obtain⟨bY,dN,dO,dP,dQ,dR,dS,bV,bZ,d1,d2,bE,bF,bG,d3,d4,d5,d6,d7,d8⟩:=fN b5 HB b1 oa oa
       cases bV
       go_wp2
       go_meet
       case rel=>exact⟨_,(false),oS,H',⟨by have:=bB.out;have:=bC.out;first|omega|exact Nat.le_refl _⟩,⟨oF b2⟩,⟨oB⟩⟩
      have H':=ae.mk H;clear H;obtain⟨⟨_,_⟩,_,_⟩:=z2 b2;have gG:(0≤(b1:Int))=True:=oT;have gH:(b1<(ag.length:Int))=True:=oT;obtain⟨bY,dN,dO,dP,dQ,dR,dS,bV,bZ,d1,d2,bE,bF,bG,d3,d4,d5,d6,d7,d8⟩:=fN b5 HB b1 oa oa
      cases bV
      have j9:(0≤(b1:Int))=True:=oT;have jA:(b1<(ag.length:Int))=True:=oT;obtain⟨dZ,gU,gV,gW,gX,gY,gZ,gI,bH,bI,bJ,b6,b7,b8,bK,bL,bM,bN,bO,bP⟩:=gi b5.out b1 oa oa;obtain rfl:bY=dZ:=(by injection gI);replace bH:=cB HB bH;replace bI:=cB HB bI;replace bJ:=cB HB bJ;replace b6:=cB HB b6;replace b7:=cB HB b7;replace b8:=cB HB b8;have gN:=ae.mk bL;have gO:=ae.mk bK;clear bL bK;have gP:=ae.mk bN;have gQ:=ae.mk bM;clear bN bM;have gR:=ae.mk bP;have gS:=ae.mk bO;clear bP bO;have iF:=Option.some.inj (bE.symm.trans b6);injection iF with iF oc od;subst iF;subst od;clear oc;have iF:=Option.some.inj (bF.symm.trans b7);injection iF with iF oc od;subst iF;subst od;clear oc;have iF:=Option.some.inj (bG.symm.trans b8);injection iF with iF oc od;subst iF;subst od;clear oc
      go_wp2
      go_meet
      case rel=>exact⟨_,((((af ag b1).f1)==2)),oS,H',⟨by have:=bB.out;have:=bC.out;first|omega|exact Nat.le_refl _⟩,⟨oF b2⟩,⟨oB⟩⟩
     case rest=>
      clear dM
      try clear bU
      obtain⟨kq,bT,rfl,HA,bQ,b2,HB⟩:=hcut
      cases kq with
      |zero=>exact absurd HA.out (by simp[bl.j2])
      |succ xv=>
       have H:=HA.out;clear HA;simp only[bl.j2]at H;replace H:=lr H;rcases H with⟨rfl,H⟩|⟨rfl,H⟩;rotate_left
       ·have H':=ae.mk H;clear H
        go_wp2
        go_roundg xv
        case measure=>have:=bB.out;have:=bC.out;have:=bQ.out;omega
        case rel=>exact⟨(b4),(wrap64 (b1+1)),oS,oS,H',⟨by have:=bB.out;have:=bC.out;have:=bQ.out;omega⟩,⟨oF b2⟩,⟨oB⟩⟩
       obtain⟨j3,H⟩:=cU H;obtain⟨j4,H⟩:=cU H;obtain⟨j5,H⟩:=cU H;obtain⟨j6,H⟩:=cU H
       by_cases bD:((al ((af ag b1).f4) b3).f1)=a1
       rotate_left
       ·rw[if_neg bD]at H;have gA:(((al ((af ag b1).f4) b3).f1)==a1)=false:=beq_eq_false_iff_ne.mpr bD;have gB:(((al ((af ag b1).f4) b3).f1) !=a1)=true:=bne_iff_ne.mpr bD;have H':=ae.mk H;clear H;obtain⟨⟨_,_⟩,_,_⟩:=z2 b2;have gJ:(0≤(b1:Int))=True:=oT;have gK:(b1<(ag.length:Int))=True:=oT;obtain⟨gC,dT,dU,dV,dW,dX,dY,bW,d9,dA,dB,dC,dD,dE,dF,dG,dH,b9,dI,dJ⟩:=fN b5 HB b1 oa oa
        cases bW
        have gL:(0≤(b3:Int))=True:=oT;have gM:(b3<(((af ag b1).f4).length:Int))=True:=oT;obtain⟨gD,bX,dK,dL⟩:=kT b9 HB b3 oa oa
        cases bX
        go_wp2
        go_roundg xv
        case measure=>have:=bB.out;have:=bC.out;have:=bQ.out;omega
        case rel=>exact⟨(b4),(wrap64 (b3+1)),oS,oS,H',⟨by have:=bB.out;have:=bC.out;have:=bQ.out;omega⟩,⟨oF b2⟩,⟨oB⟩⟩
       rw[if_pos bD]at H;have gA:(((al ((af ag b1).f4) b3).f1)==a1)=true:=beq_iff_eq.mpr bD;have gB:(((al ((af ag b1).f4) b3).f1) !=a1)=false:=bne_eq_false_iff_eq.mpr bD;clear bD;have H':=ae.mk H;clear H;obtain⟨⟨_,_⟩,_,_⟩:=z2 b2;have gJ:(0≤(b1:Int))=True:=oT;have gK:(b1<(ag.length:Int))=True:=oT;obtain⟨gC,dT,dU,dV,dW,dX,dY,bW,d9,dA,dB,dC,dD,dE,dF,dG,dH,b9,dI,dJ⟩:=fN b5 HB b1 oa oa
       cases bW
       have gL:(0≤(b3:Int))=True:=oT;have gM:(b3<(((af ag b1).f4).length:Int))=True:=oT;obtain⟨gD,bX,dK,dL⟩:=kT b9 HB b3 oa oa
       cases bX
       go_wp2
       go_roundg xv
       case measure=>have:=bB.out;have:=bC.out;have:=bQ.out;omega
       case rel=>exact⟨(wrap64 (b4+1)),(wrap64 (b3+1)),oS,oS,H',⟨by have:=bB.out;have:=bC.out;have:=bQ.out;omega⟩,⟨oF b2⟩,⟨oB⟩⟩

mutual
def cd.l0:Nat→Int→Int→List (aX)→Int→Int→Option (Int)
 |0,_,_,_,_,_=>none
 |k+1,x1,x5,b2,b3,b1=>if b1<b3 then(if 0≤b1 then(if b1<(b2.length:Int)then(if((af b2 b1).f1)=2 then(cd.l1 k x1 x5 b2 b3 b1 ((af b2 b1).f4) (((af b2 b1).f4).length:Int) 0)else(cd.l0 k x1 x5 b2 b3 (wrap64 (b1+1))))else(none))else(none))else(some x5)
def cd.l1:Nat→Int→Int→List (aX)→Int→Int→List (cA)→Int→Int→Option (Int)
 |0,_,_,_,_,_,_,_,_=>none
 |k+1,x1,x5,b3,b4,b5,b2,b6,b1=>if b1<b6 then(if 0≤b1 then(if b1<(b2.length:Int)then(if((al b2 b1).f1)=x1 then(cd.l1 k x1 (wrap64 (x5+1)) b3 b4 b5 b2 b6 (wrap64 (b1+1)))else(cd.l1 k x1 x5 b3 b4 b5 b2 b6 (wrap64 (b1+1))))else(none))else(none))else(cd.l0 k x1 x5 b3 b4 (wrap64 (b5+1)))
end
def cd.f (k:Nat) (ag:List (aX)) (ak:Int) (a1:Int):Option (Int):=cd.l0 k a1 0 ag (ag.length:Int) 0
theorem cd.calls (k:Nat) (bh:Option Addr) (aT:Nat) (ag:List (aX)) (ak:Int) (a1:Int) (r:Int) (w:World) (cj:Kd.C gh w bh ag.length ag) (ck:ag.length≤aT) (h:cd.f k ag ak a1=some r):
  Calls Tryz.prog 125 #[.agg #[.slice bh ag.length aT,.int .i64 ak],.int .i64 a1] w fun e w'=>e= .returned (.int .i64 r)∧Below w.heap.size w w':=by
 have gH:=underlying28;have gI:=underlying58;have gJ:=underlying75;have bR:=ae.mk cj;have dR:=ae.mk ck;clear cj ck;have HB:=am (Below.refl w.heap.size w);unfold cd.f at h;have H:=h;clear h;have H':=ae.mk H;clear H
 go_enter func125,ntmps125
 go_wp2_with (first|((with_reducible refine aj (N:=2) rfl ?_);refine cO 2 #[.slice bh ag.length aT,.int .i64 ak] 28 ?_;intro bS hg w3 hbox hb;have b2:=am (hbox);have dS:=cN hg;replace HB:=hB HB hb;clear hb hbox hg;obtain⟨⟨_,_⟩,_,_⟩:=z2 b2))
 go_loopg [5,13] k (fun kq v5 dP w'=>∃(bF:Int) (b1:Int),v5= .int .i64 bF∧dP= .int .i64 b1∧ae (cd.l0 kq a1 bF ag (ag.length:Int) b1=some r)∧ae (kq≤k)∧ae (w'.heap[bS]? =some (.cells #[(.slice bh ag.length aT),.int .i64 ak] 28 (0,0)))∧ae (Below w.heap.size w w'))
 case atStart=>exact⟨(0),(0),oS,oS,H',⟨Nat.le_refl _⟩,⟨oF b2⟩,⟨oB⟩⟩
 case round=>
  clear H';obtain⟨bF,b1,rfl,rfl,HA,bE,b2,HB⟩:=hrel
  cases gk with
  |zero=>exact absurd HA.out (by simp[cd.l0])
  |succ k1=>
   have H:=HA.out;clear HA;simp only[cd.l0]at H;replace H:=jm H;rcases H with⟨d9,H⟩|⟨d9,H⟩;rotate_left
   ·obtain rfl:=Option.some.inj H
    go_wp2
    go_ret
    exact⟨oE,oB⟩
   obtain⟨dH,H⟩:=cU H;obtain⟨dI,H⟩:=cU H
   by_cases c8:((af ag b1).f1)=2
   rotate_left
   ·rw[if_neg c8]at H;have dJ:(((af ag b1).f1)==2)=false:=beq_eq_false_iff_ne.mpr c8;have dK:(((af ag b1).f1) !=2)=true:=bne_iff_ne.mpr c8;have H':=ae.mk H;clear H;have dL:(0≤(b1:Int))=True:=oT;have dM:(b1<(ag.length:Int))=True:=oT;obtain⟨bT,bJ,bK,bL,bM,bN,bO,bP,bV,bW,bX,bY,bZ,d1,d2,d3,d4,bC,d5,d6⟩:=fN bR HB b1 oa oa
    cases bP
    go_wp2_with (first|((with_reducible refine aj (N:=7) rfl ?_);refine cO 7 #[.int .i64 0,.int .i64 0,.int .i64 0,.slice none 0 0,.slice none 0 0,.slice none 0 0] 58 ?_;intro bU hg gK hbox hb;have b4:=am (hbox);have dA:=cN hg;have b5:=dm hg b2;have b6:=dn hg b2;replace b2:=aJ b2 hb;replace HB:=hB HB hb;clear hb hbox hg;have dT:=b6.out;have dU:=b5.out;obtain⟨⟨_,_,_,_,_,_⟩,_,_,_,_,_,_⟩:=z6 b4))
    go_roundg k1
    case measure=>have:=bE.out;omega
    case rel=>exact⟨(bF),(wrap64 (b1+1)),oS,oS,H',⟨by have:=bE.out;omega⟩,⟨oF b2⟩,⟨oB⟩⟩
   rw[if_pos c8]at H;have dJ:(((af ag b1).f1)==2)=true:=beq_iff_eq.mpr c8;have dK:(((af ag b1).f1) !=2)=false:=bne_eq_false_iff_eq.mpr c8;clear c8;have H':=ae.mk H;clear H;have dL:(0≤(b1:Int))=True:=oT;have dM:(b1<(ag.length:Int))=True:=oT;obtain⟨bT,bJ,bK,bL,bM,bN,bO,bP,bV,bW,bX,bY,bZ,d1,d2,d3,d4,bC,d5,d6⟩:=fN bR HB b1 oa oa
   cases bP
   go_wp2_with (first|((with_reducible refine aj (N:=7) rfl ?_);refine cO 7 #[.int .i64 0,.int .i64 0,.int .i64 0,.slice none 0 0,.slice none 0 0,.slice none 0 0] 58 ?_;intro bU hg w9 hbox hb;have b4:=am (hbox);have dA:=cN hg;have b5:=dm hg b2;have b6:=dn hg b2;replace b2:=aJ b2 hb;replace HB:=hB HB hb;clear hb hbox hg;have dV:=b6.out;have dW:=b5.out;obtain⟨⟨_,_,_,_,_,_⟩,_,_,_,_,_,_⟩:=z6 b4))
   go_loopg [5,23] k1 (fun kq v5 dQ w'=>∃(bD:Int) (b3:Int),v5= .int .i64 bD∧dQ= .int .i64 b3∧ae (cd.l1 kq a1 bD ag (ag.length:Int) b1 ((af ag b1).f4) (((af ag b1).f4).length:Int) b3=some r)∧ae (kq≤k1)∧ae (w'.heap[bS]? =some (.cells #[(.slice (some bT) ag.length aT),.int .i64 ak] 28 (0,0)))∧ae (w'.heap[bU]? =some (.cells #[.int .i64 ((af ag b1).f0),.int .i64 ((af ag b1).f1),.int .i64 ((af ag b1).f2),(.slice bJ ((af ag b1).f3).length bK),(.slice bL ((af ag b1).f4).length bM),(.slice bN ((af ag b1).f5).length bO)] 58 (0,0)))∧ae (Below w.heap.size w w'))
   case atStart=>exact⟨(bF),(0),oS,oS,H',⟨Nat.le_refl _⟩,⟨oF b2⟩,⟨oP b4⟩,⟨oB⟩⟩
   case round=>
    clear H'
    try clear d9
    try clear dH
    try clear dI
    try clear c8
    obtain⟨bD,b3,rfl,rfl,HA,bH,b2,b4,HB⟩:=hrel
    cases gk with
    |zero=>exact absurd HA.out (by simp[cd.l1])
    |succ k2=>
     have H:=HA.out;clear HA;simp only[cd.l1]at H;replace H:=jm H;rcases H with⟨dB,H⟩|⟨dB,H⟩;rotate_left
     ·have H':=ae.mk H;clear H
      go_wp2
      go_roundg k2
      case measure=>have:=bE.out;have:=bH.out;omega
      case rel=>exact⟨(bD),(wrap64 (b1+1)),oS,oS,H',⟨by have:=bE.out;have:=bH.out;omega⟩,⟨oF b2⟩,⟨oB⟩⟩
     obtain⟨dX,H⟩:=cU H;obtain⟨dY,H⟩:=cU H
     by_cases bG:((al ((af ag b1).f4) b3).f1)=a1
     rotate_left
     ·rw[if_neg bG]at H;have dC:(((al ((af ag b1).f4) b3).f1)==a1)=false:=beq_eq_false_iff_ne.mpr bG;have dD:(((al ((af ag b1).f4) b3).f1) !=a1)=true:=bne_iff_ne.mpr bG;have H':=ae.mk H;clear H;have dN:(0≤(b3:Int))=True:=oT;have dO:(b3<(((af ag b1).f4).length:Int))=True:=oT;obtain⟨dE,bQ,d7,d8⟩:=kT bC HB b3 oa oa
      cases bQ
      go_wp2_with (first|((with_reducible refine aj (N:=9) rfl ?_);refine cO 9 #[.string (⟨#[]⟩:ByteArray),.int .i64 0] 75 ?_;intro dF hg gL hbox hb;have bI:=am (hbox);have dG:=cN hg;have b7:=dm hg b2;have b8:=dn hg b2;have b9:=dm hg b4;have bB:=dn hg b4;replace b2:=aJ b2 hb;replace b4:=aJ b4 hb;replace HB:=hB HB hb;clear hb hbox hg;have dZ:=b8.out;have gA:=b7.out;have gB:=bB.out;have gC:=b9.out;obtain⟨⟨_,_⟩,_,_⟩:=z2 bI))
      go_roundg k2
      case measure=>have:=bE.out;have:=bH.out;omega
      case rel=>exact⟨(bD),(wrap64 (b3+1)),oS,oS,H',⟨by have:=bE.out;have:=bH.out;omega⟩,⟨oF b2⟩,⟨oF b4⟩,⟨oB⟩⟩
     rw[if_pos bG]at H;have dC:(((al ((af ag b1).f4) b3).f1)==a1)=true:=beq_iff_eq.mpr bG;have dD:(((al ((af ag b1).f4) b3).f1) !=a1)=false:=bne_eq_false_iff_eq.mpr bG;clear bG;have H':=ae.mk H;clear H;have dN:(0≤(b3:Int))=True:=oT;have dO:(b3<(((af ag b1).f4).length:Int))=True:=oT;obtain⟨dE,bQ,d7,d8⟩:=kT bC HB b3 oa oa
     cases bQ
     go_wp2_with (first|((with_reducible refine aj (N:=9) rfl ?_);refine cO 9 #[.string (⟨#[]⟩:ByteArray),.int .i64 0] 75 ?_;intro dF hg gM hbox hb;have bI:=am (hbox);have dG:=cN hg;have b7:=dm hg b2;have b8:=dn hg b2;have b9:=dm hg b4;have bB:=dn hg b4;replace b2:=aJ b2 hb;replace b4:=aJ b4 hb;replace HB:=hB HB hb;clear hb hbox hg;have gD:=b8.out;have gE:=b7.out;have gF:=bB.out;have gG:=b9.out;obtain⟨⟨_,_⟩,_,_⟩:=z2 bI))
     go_roundg k2
     case measure=>have:=bE.out;have:=bH.out;omega
     case rel=>exact⟨(wrap64 (bD+1)),(wrap64 (b3+1)),oS,oS,H',⟨by have:=bE.out;have:=bH.out;omega⟩,⟨oF b2⟩,⟨oF b4⟩,⟨oB⟩⟩
end Go.Proofs.YtlecajlnjmbilaaGreatDoor.P
