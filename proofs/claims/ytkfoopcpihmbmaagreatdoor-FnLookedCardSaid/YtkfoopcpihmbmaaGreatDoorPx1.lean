-- Printed walks.
import Derived.Test.YtkfoopcpihmbmaaGreatDoorPx0
set_option linter.all false
set_option maxHeartbeats 8000000
set_option maxRecDepth 100000
namespace Go.Proofs.YtkfoopcpihmbmaaGreatDoor.P
open Go.RowKit Go.Proofs.ab.av Go.Proofs.ab.aQ Go.Proofs.ab.aT Go.Proofs.Tryz
attribute [local go_sem] fP fQ hJ hO fm fo fR fS

def cm.l0:Nat→List (bj)→Int→ByteArray→ByteArray→Option ((List (bj)))
 |0,_,_,_,_=>none
 |k+1,x5,x6,b1,b2=>if x6>0 then(if 0≤(wrap64 (x6-1))then(if(wrap64 (x6-1))<(x5.length:Int)then(if(Op.bytesLess b1.toList (((bf x5 (wrap64 (x6-1))).f0).toList))=true then(if 0≤x6 then(if x6<(x5.length:Int)then(cm.l0 k (x5.set (x6:Int).toNat (⟨(bf x5 (wrap64 (x6-1))).f0,(bf x5 (wrap64 (x6-1))).f1⟩:bj)) (wrap64 (x6-1)) b1 b2)else(none))else(none))else(if 0≤x6 then(if x6<(x5.length:Int)then(some (x5.set (x6:Int).toNat (⟨b1,b2⟩:bj)))else(none))else(none)))else(none))else(none))else(if 0≤x6 then(if x6<(x5.length:Int)then(some (x5.set (x6:Int).toNat (⟨b1,b2⟩:bj)))else(none))else(none))
def cm.f (k:Nat) (l0:List (bj)) (cO:ByteArray) (ch:ByteArray):Option ((List (bj))):=(some (([]:List (bj)):List (bj))).bind fun b1=>(if b1.length+l0.length<4398046511104 then((some (b1++l0:List (bj))).bind fun b2=>((some (([(⟨cO,ch⟩:bj)]:List (bj)):List (bj))).bind fun b3=>(if b2.length+b3.length<4398046511104 then((some (b2++b3:List (bj))).bind fun b4=>(cm.l0 k b4 (wrap64 ((b4.length:Int)-1)) cO ch))else(none))))else(none))
def cm.T3:Bool×List (List Nat×List Nat):=(true,[([],[]),([0],[0]),([1],[1]),([2],[2]),([2],[2]),([4,2],[2,4]),([3,5,2],[2,3,5]),([6,2],[2,6]),([7,2],[2,7]),([2],[2]),([9,2],[2,9]),([8,10,2],[2,8,10]),([2,11],[2,11])])
def cm.B3:List Nat:=[0,1,3,7,7,23,63,127,255,7,519,2047,4095]
theorem cm.vM:fK .any (opsOf Tryz.f95 3)=cm.T3:=by kernel_rfl
theorem cm.rE:ep cm.T3.2 cm.B3=true:=by kernel_rfl
theorem cm.calls (k:Nat) (A0:Option Addr) (c0:Nat) (l0:List (bj)) (cO:ByteArray) (ch:ByteArray) (r:List (bj)) (w:World) (hr0:Kd.C dn w A0 l0.length l0) (hc0:l0.length≤c0) (h:cm.f k l0 cO ch=some r):
  Calls Tryz.prog 95 #[.slice A0 l0.length c0,.agg #[.string cO,.string ch]] w fun e w'=>∃fy:Value,e= .returned (fy)∧Kd.R dn 101 w' w.heap.size (fun _=>True) fy r∧Below w.heap.size w w':=by
 have mV:=underlying101;have dX:=ae.mk hr0;have zX:=ae.mk hc0;clear hr0 hc0;have HB:=am (Below.refl w.heap.size w);unfold cm.f at h;have H:=h;clear h;obtain⟨bI,cx⟩:∃y_:List (bj),y_=(([]:List (bj))):=⟨_,rfl⟩;replace H:(if bI.length+l0.length<4398046511104 then((some (bI++l0:List (bj))).bind fun bJ=>((some (([(⟨cO,ch⟩:bj)]:List (bj)):List (bj))).bind fun bC=>(if bJ.length+bC.length<4398046511104 then((some (bJ++bC:List (bj))).bind fun bE=>(cm.l0 k bE (wrap64 ((bE.length:Int)-1)) cO ch))else(none))))else(none))=some r:=oY;have bZ:=ae.mk cx;clear cx;obtain⟨c3,H⟩:=jm H;have dL:=ae.mk c3;clear c3;obtain⟨bJ,cx⟩:∃y_:List (bj),y_=(bI++l0):=⟨_,rfl⟩;replace H:((some (([(⟨cO,ch⟩:bj)]:List (bj)):List (bj))).bind fun bC=>(if bJ.length+bC.length<4398046511104 then((some (bJ++bC:List (bj))).bind fun bE=>(cm.l0 k bE (wrap64 ((bE.length:Int)-1)) cO ch))else(none)))=some r:=oY;have dA:=ae.mk cx;clear cx;obtain⟨bC,cx⟩:∃y_:List (bj),y_=(([(⟨cO,ch⟩:bj)]:List (bj))):=⟨_,rfl⟩;replace H:(if bJ.length+bC.length<4398046511104 then((some (bJ++bC:List (bj))).bind fun bE=>(cm.l0 k bE (wrap64 ((bE.length:Int)-1)) cO ch))else(none))=some r:=oY;have bU:=ae.mk cx;clear cx;obtain⟨c4,H⟩:=jm H;have m2:=ae.mk c4;clear c4;obtain⟨bE,cx⟩:∃y_:List (bj),y_=(bJ++bC):=⟨_,rfl⟩;replace H:(cm.l0 k bE (wrap64 ((bE.length:Int)-1)) cO ch)=some r:=oY;have jJ:=ae.mk cx;clear cx;have H':=ae.mk H;clear H
 go_enter func95,ntmps95
 try go_wp2_with (first|((with_reducible refine au (N:=3) rfl ?_);refine fz 3 #[.string cO,.string ch] 101 ?_;intro b5 hg w5 hbox hb;have b1:=am (hbox);have mW:=fO hg;replace HB:=hB HB hb;clear hb hbox hg))
 replace b1:=am (ar b1.out);replace HB:=am (bl HB.out);refine s0_ 7 (fun w'=>w'.cell? ⟨b5,0,none⟩=some (.string cO)∧w'.cell? ⟨b5,1,none⟩=some (.string ch)) oH (fun hHeld=> ?_);generalize w5.drew=w6 at b1 HB hHeld⊢;refine p0_ 1 8 ?_;refine t0_ 3 10 hHeld ?_;refine uc (σ:=Value×Value×Value) 2 (lb 7 31) (fun s_=>[(7,s_.1),(9,s_.2.1),(11,s_.2.2)]) (fun s_ w'=>(w'.cell? ⟨b5,0,none⟩=some (.string cO)∧w'.cell? ⟨b5,1,none⟩=some (.string ch))∧(Kd.R dn 101 w' w.heap.size (fun k_=>some k_≠(s_.2.2:Value).ownBlock∧k_≠b5) s_.2.1 bJ)∧(Kd.R dn 101 w' w.heap.size (fun k_=>some k_≠(s_.2.1:Value).ownBlock∧k_≠b5) s_.2.2 bC)∧(w'.heap[b5]? =some (.cells #[.string cO,.string ch] 101 (0,0)))∧(Below w.heap.size w w')) ?_ ?_;rotate_left
 ·intro kM;refine ub (i:=0) (j:=4) (Ni:=some 7) (Nj:=some 11) (lb 7 11) (lb 7 26) rfl rfl rfl rfl (by kernel_rfl) (by decide) (by decide) (fun K hK=> ?_) (fun K hK=> ?_)
  ·skip
   refine Kd.dv dn _ 101 ?hg (N:=7) ?hd (xs:=([]:List (bj))) (inner:=[]) (ok:=fun _=>True) (fw:=fun _=>True) ?hr ?hp (fun _ hk=>hk) trivial (Below.refl _ _) (Nat.le_refl _) (by simp) ?_;(case hd=>rfl);(case hg=>rfl);(case hr=>first|(go_simp;done)|(go_simp;rfl));(case hp=>exact(bp.none _ _));intro dY w7 bT hb fN cj;clear fN cj
   (first|rw[←bZ.out]at bT|(simp only[Int.reduceToNat]at bT;rw[←bZ.out]at bT))
   have bB:=am (Kd.aq (Kd.mf bT (g:=b5) (o:= .cells #[.string cO,.string ch] 101 (0,0)) (oF b1)) (af oB));replace b1:=ba b1 hb;replace HB:=hB HB hb;clear hb bT;obtain⟨bK,bL,pM⟩:=Kd.ao bB.out;subst pM;refine aZ hK 7 oH (fun hHeld=> ?_);clear hK K;refine ub (i:=2) (j:=4) (Ni:=some 9) (Nj:=some 11) (lb 7 15) (lb 7 27) rfl rfl rfl rfl (by kernel_rfl) (by decide) (by decide) (fun K hK=> ?_) (fun K hK=> ?_)
   ·skip
    refine Kd.eB dn (w0:=w) w.heap.size (by rfl) (.tmp 7) (.tmp 8) 30 101 (.agg #[(.string ⟨#[]⟩),(.string ⟨#[]⟩)]) 32 rfl underlying30 lh rfl (by decide) (by omega) (.slice bK bI.length bL) bI l0 _ _ _ (fun k_=>k_≠b5) (fun _=>False) rfl rfl ?aO ?aR (fun _ _ h=>h) (fun _ h=>h.elim) ?aF ?aB ?aS ?aL ?_
    (case aR=>repeat(first|exact(Kd.cR dX.out HB.out)|(with_reducible refine Kd.ji ?_ _)|(with_reducible refine Kd.iS ?_ _)|(with_reducible refine Kd.ks ?_)))
    (case aB=>exact oB)
    (case aF=>exact(fun k_ hk=>Kd.cM (g:=b5) (o:= .cells #[.string cO,.string ch] 101 (0,0)) (oF b1) k_ hk))
    (case aO=>exact(by(with_reducible repeat(first|apply Kd.cP|apply Kd.cQ|apply Kd.b_));exact Kd.aM bB.out (fun _ hk=>hk.2)))
    (case aS=>exact(af oB))
    (case aL=>have:=dL.out;omega)
    intro bP w9 ho hb hg hat;rw[←dA.out]at ho;have bD:=am (ho);replace b1:=iF b1 hg (Kd.kg bB.out (fun _ hk=>hk.2));replace HB:=am (hb);clear bB;clear ho hb hg hat;refine aZ hK 9 oH (fun hHeld=> ?_);clear hK K;refine wJ 4 11 (fun K hK=> ?_);refine Kd.dv dn _ 101 ?hg (N:=11) ?hd (xs:=([(⟨cO,ch⟩:bj)]:List (bj))) (inner:=[.string cO,.string ch]) (ok:=fun _=>True) (fw:=fun _=>True) ?hr ?hp (fun _ hk=>hk) trivial (Below.refl _ _) (Nat.le_refl _) (by simp) ?_;(case hd=>rfl);(case hg=>rfl);(case hr=>first|(go_simp;done)|(go_simp;rfl));(case hp=>exact(bp.c2 (show Kd.M dn _ _ _ (⟨cO,ch⟩:bj) [.string cO,.string ch]from(kb _ _ _ (⟨cO,ch⟩:bj))) (bp.none _ _)));intro d4 zY bY hb fN cj;clear fN cj
    (first|rw[←bU.out]at bY|(simp only[Int.reduceToNat]at bY;rw[←bU.out]at bY))
    have b9:=am (Kd.aq (Kd.mf (Kd.eS bY (iO bD)) (g:=b5) (o:= .cells #[.string cO,.string ch] 101 (0,0)) (oF b1)) (af oB));replace bD:=sb bD bY hb;replace b1:=ba b1 hb;replace HB:=hB HB hb;clear hb bY;obtain⟨bM,bN,pM⟩:=Kd.ao b9.out;subst pM;refine aZ hK 11 oH (fun hHeld=> ?_);clear hK K;exact ju (by simp only[ij,Act.put,List.setIfInBounds_toArray,List.set_cons_zero,List.set_cons_succ]) (kM ((.slice bK bI.length bL),bP,(.slice bM bC.length bN)) _ ⟨hHeld,(by(with_reducible repeat(first|apply Kd.cP|apply Kd.cQ|apply Kd.b_));exact Kd.aM bD.out (fun _ hk=>⟨hk.2,hk.1⟩)),(by(with_reducible repeat(first|apply Kd.cP|apply Kd.cQ|apply Kd.b_));exact Kd.aM b9.out (fun _ hk=>⟨hk.1.2,hk.2⟩)),(oF b1),oB⟩)
   ·skip
    refine Kd.dv dn _ 101 ?hg (N:=11) ?hd (xs:=([(⟨cO,ch⟩:bj)]:List (bj))) (inner:=[.string cO,.string ch]) (ok:=fun _=>True) (fw:=fun _=>True) ?hr ?hp (fun _ hk=>hk) trivial (Below.refl _ _) (Nat.le_refl _) (by simp) ?_;(case hd=>rfl);(case hg=>rfl);(case hr=>first|(go_simp;done)|(go_simp;rfl));(case hp=>exact(bp.c2 (show Kd.M dn _ _ _ (⟨cO,ch⟩:bj) [.string cO,.string ch]from(kb _ _ _ (⟨cO,ch⟩:bj))) (bp.none _ _)));intro d4 w9 bF hb fN cj;clear fN cj
    (first|rw[←bU.out]at bF|(simp only[Int.reduceToNat]at bF;rw[←bU.out]at bF))
    have b9:=am (Kd.aq (Kd.mf (Kd.eS bF (iO bB)) (g:=b5) (o:= .cells #[.string cO,.string ch] 101 (0,0)) (oF b1)) (af oB));replace bB:=sb bB bF hb;replace b1:=ba b1 hb;replace HB:=hB HB hb;clear hb bF;obtain⟨bM,bN,pM⟩:=Kd.ao b9.out;subst pM;refine aZ hK 11 oH (fun hHeld=> ?_);clear hK K;refine wJ 2 9 (fun K hK=> ?_);refine Kd.eB dn (w0:=w) w.heap.size (by rfl) (.tmp 7) (.tmp 8) 30 101 (.agg #[(.string ⟨#[]⟩),(.string ⟨#[]⟩)]) 32 rfl underlying30 lh rfl (by decide) (by omega) (.slice bK bI.length bL) bI l0 _ _ _ (fun k_=>some k_≠((.slice bM bC.length bN):Value).ownBlock∧k_≠b5) (fun _=>False) rfl rfl ?aO ?aR (fun _ _ h=>h) (fun _ h=>h.elim) ?aF ?aB ?aS ?aL ?_
    (case aR=>repeat(first|exact(Kd.cR dX.out HB.out)|(with_reducible refine Kd.ji ?_ _)|(with_reducible refine Kd.iS ?_ _)|(with_reducible refine Kd.ks ?_)))
    (case aB=>exact oB)
    (case aF=>exact(fun k_ hk=>⟨Kd.fresh' (iO b9) k_ hk,Kd.cM (g:=b5) (o:= .cells #[.string cO,.string ch] 101 (0,0)) (oF b1) k_ hk⟩))
    (case aO=>exact(by(with_reducible repeat(first|apply Kd.cP|apply Kd.cQ|apply Kd.b_));exact Kd.aM bB.out (fun _ hk=>⟨hk.2,hk.1.2⟩)))
    (case aS=>exact(af oB))
    (case aL=>have:=dL.out;omega)
    intro bP mE ho hb hg hat;rw[←dA.out]at ho;have bD:=am (ho);replace b1:=iF b1 hg (Kd.kg bB.out (fun _ hk=>hk.1.2));replace b9:=am (Kd.nk (ok:=(fun k_=>k_≠b5)) (by(with_reducible repeat(first|apply Kd.cP|apply Kd.cQ|apply Kd.b_));exact Kd.aM b9.out (fun _ hk=>⟨hk.2,hk.1.2⟩)) hg hat);replace HB:=am (hb);clear bB;clear ho hb hg hat;refine aZ hK 9 oH (fun hHeld=> ?_);clear hK K;exact ju (by simp only[ij,Act.put,List.setIfInBounds_toArray,List.set_cons_zero,List.set_cons_succ]) (kM ((.slice bK bI.length bL),bP,(.slice bM bC.length bN)) _ ⟨hHeld,(oR bD),(by(with_reducible repeat(first|apply Kd.cP|apply Kd.cQ|apply Kd.b_));exact Kd.aM b9.out (fun _ hk=>⟨hk.2,hk.1⟩)),(oF b1),oB⟩)
  ·skip
   refine Kd.dv dn _ 101 ?hg (N:=11) ?hd (xs:=([(⟨cO,ch⟩:bj)]:List (bj))) (inner:=[.string cO,.string ch]) (ok:=fun _=>True) (fw:=fun _=>True) ?hr ?hp (fun _ hk=>hk) trivial (Below.refl _ _) (Nat.le_refl _) (by simp) ?_;(case hd=>rfl);(case hg=>rfl);(case hr=>first|(go_simp;done)|(go_simp;rfl));(case hp=>exact(bp.c2 (show Kd.M dn _ _ _ (⟨cO,ch⟩:bj) [.string cO,.string ch]from(kb _ _ _ (⟨cO,ch⟩:bj))) (bp.none _ _)));intro d4 w7 bT hb fN cj;clear fN cj
   (first|rw[←bU.out]at bT|(simp only[Int.reduceToNat]at bT;rw[←bU.out]at bT))
   have b9:=am (Kd.aq (Kd.mf bT (g:=b5) (o:= .cells #[.string cO,.string ch] 101 (0,0)) (oF b1)) (af oB));replace b1:=ba b1 hb;replace HB:=hB HB hb;clear hb bT;obtain⟨bM,bN,pM⟩:=Kd.ao b9.out;subst pM;refine aZ hK 11 oH (fun hHeld=> ?_);clear hK K;refine wJ 0 7 (fun K hK=> ?_);refine Kd.dv dn _ 101 ?hg (N:=7) ?hd (xs:=([]:List (bj))) (inner:=[]) (ok:=fun _=>True) (fw:=fun _=>True) ?hr ?hp (fun _ hk=>hk) trivial (Below.refl _ _) (Nat.le_refl _) (by simp) ?_;(case hd=>rfl);(case hg=>rfl);(case hr=>first|(go_simp;done)|(go_simp;rfl));(case hp=>exact(bp.none _ _));intro dY w9 bF hb fN cj;clear fN cj
   (first|rw[←bZ.out]at bF|(simp only[Int.reduceToNat]at bF;rw[←bZ.out]at bF))
   have bB:=am (Kd.aq (Kd.mf (Kd.eS bF (iO b9)) (g:=b5) (o:= .cells #[.string cO,.string ch] 101 (0,0)) (oF b1)) (af oB));replace b9:=sb b9 bF hb;replace b1:=ba b1 hb;replace HB:=hB HB hb;clear hb bF;obtain⟨bK,bL,pM⟩:=Kd.ao bB.out;subst pM;refine aZ hK 7 oH (fun hHeld=> ?_);clear hK K;refine wJ 2 9 (fun K hK=> ?_);refine Kd.eB dn (w0:=w) w.heap.size (by rfl) (.tmp 7) (.tmp 8) 30 101 (.agg #[(.string ⟨#[]⟩),(.string ⟨#[]⟩)]) 32 rfl underlying30 lh rfl (by decide) (by omega) (.slice bK bI.length bL) bI l0 _ _ _ (fun k_=>some k_≠((.slice bM bC.length bN):Value).ownBlock∧k_≠b5) (fun _=>False) rfl rfl ?aO ?aR (fun _ _ h=>h) (fun _ h=>h.elim) ?aF ?aB ?aS ?aL ?_
   (case aR=>repeat(first|exact(Kd.cR dX.out HB.out)|(with_reducible refine Kd.ji ?_ _)|(with_reducible refine Kd.iS ?_ _)|(with_reducible refine Kd.ks ?_)))
   (case aB=>exact oB)
   (case aF=>exact(fun k_ hk=>⟨Kd.fresh' (iO b9) k_ hk,Kd.cM (g:=b5) (o:= .cells #[.string cO,.string ch] 101 (0,0)) (oF b1) k_ hk⟩))
   (case aO=>exact(by(with_reducible repeat(first|apply Kd.cP|apply Kd.cQ|apply Kd.b_));exact Kd.aM bB.out (fun _ hk=>⟨hk.1.2,hk.2⟩)))
   (case aS=>exact(af oB))
   (case aL=>have:=dL.out;omega)
   intro bP mE ho hb hg hat;rw[←dA.out]at ho;have bD:=am (ho);replace b1:=iF b1 hg (Kd.kg bB.out (fun _ hk=>hk.2));replace b9:=am (Kd.nk (ok:=(fun k_=>k_≠b5)) (by(with_reducible repeat(first|apply Kd.cP|apply Kd.cQ|apply Kd.b_));exact Kd.aM b9.out (fun _ hk=>⟨hk.1.2,hk.2⟩)) hg hat);replace HB:=am (hb);clear bB;clear ho hb hg hat;refine aZ hK 9 oH (fun hHeld=> ?_);clear hK K;exact ju (by simp only[ij,Act.put,List.setIfInBounds_toArray,List.set_cons_zero,List.set_cons_succ]) (kM ((.slice bK bI.length bL),bP,(.slice bM bC.length bN)) _ ⟨hHeld,(oR bD),(by(with_reducible repeat(first|apply Kd.cP|apply Kd.cQ|apply Kd.b_));exact Kd.aM b9.out (fun _ hk=>⟨hk.2,hk.1⟩)),(oF b1),oB⟩)
 rintro⟨dY,bP,d4⟩ d8 ⟨sO,jS,jT,jU,jV⟩;have jW:ae (Kd.R dn 101 d8 w.heap.size (fun k_=>some k_≠(d4:Value).ownBlock∧k_≠b5) bP bJ):=⟨jS⟩;have jX:ae (Kd.R dn 101 d8 w.heap.size (fun k_=>some k_≠(bP:Value).ownBlock∧k_≠b5) d4 bC):=⟨jT⟩;have jY:ae (d8.heap[b5]? =some (.cells #[.string cO,.string ch] 101 (0,0))):=⟨jU⟩;have jZ:ae (Below w.heap.size w d8):=⟨jV⟩;clear b1;clear HB;clear jS jT jU jV;have bD:=jW;have b9:=jX;have b1:=jY;have HB:=jZ;clear jW jX jY jZ;have hHeld:d8.cell? ⟨b5,0,none⟩=some (.string cO)∧d8.cell? ⟨b5,1,none⟩=some (.string ch):=sO;obtain⟨m3,m4,dZ⟩:=Kd.ao b9.out
 (first|subst dZ|(injection dZ with f1_ f2_ f3_;have mF:=f1_.symm;have mG:=f3_.symm;clear f1_ f2_ f3_;subst mF;subst mG))
 refine ju (a':= ?_) ?_ ?_;rotate_left
 ·simp only[ij,Act.put,List.setIfInBounds_toArray,List.set_cons_zero,List.set_cons_succ]
  rfl
 refine wJ 5 12 (fun K hK=> ?_);refine Kd.eB dn (w0:=w) w.heap.size (by rfl) (.tmp 9) (.tmp 11) 30 101 (.agg #[(.string ⟨#[]⟩),(.string ⟨#[]⟩)]) 32 rfl underlying30 lh rfl (by decide) (by omega) bP bJ bC _ _ _ (fun k_=>some k_≠(.slice m3 bC.length m4:Value).ownBlock∧k_≠b5) (fun _=>False) rfl rfl ?aO ?aR (fun _ _ h=>h) (fun _ h=>h.elim) ?aF ?aB ?aS ?aL ?_
 (case aR=>repeat(first|exact(Kd.aU b9.out).2.2|(with_reducible refine Kd.ji ?_ _)|(with_reducible refine Kd.iS ?_ _)|(with_reducible refine Kd.ks ?_)))
 (case aB=>exact oB)
 (case aF=>exact(fun k_ hk=>⟨Kd.fresh' (iO b9) k_ hk,Kd.cM (g:=b5) (o:= .cells #[.string cO,.string ch] 101 (0,0)) (oF b1) k_ hk⟩))
 (case aO=>exact(oR bD))
 (case aS=>exact(af oB))
 (case aL=>have:=m2.out;omega)
 intro zF zZ ho hb hg hat;rw[←jJ.out]at ho;have dR:=am (ho);replace b1:=iF b1 hg (Kd.kg bD.out (fun _ hk=>hk.2));replace b9:=am (Kd.nk (ok:=(fun k_=>k_≠b5)) (by(with_reducible repeat(first|apply Kd.cP|apply Kd.cQ|apply Kd.b_));exact Kd.aM b9.out (fun _ hk=>⟨hk.2,hk.1⟩)) hg hat);replace HB:=am (hb);clear bD;clear ho hb hg hat;refine aZ hK 12 oH (fun hHeld=> ?_);clear hK K;refine p0_ 6 5 ?_;refine sm (by kernel_rfl) ?_;obtain⟨m5,bW,m6⟩:=Kd.ao dR.out;subst m6
 try go_wp2
 go_loopg [6] k (fun kq v6 w'=>∃(b2:List (bj)) (b4:Int) (b3:ByteArray) (b7:ByteArray),v6= .int .i64 b4∧ae (cm.l0 kq b2 b4 b3 b7=some r)∧ae (kq≤k)∧ae (Kd.R dn 101 w' w.heap.size (fun k_=>k_≠b5) (.slice m5 bE.length bW) b2)∧ae (w'.heap[b5]? =some (.cells #[.string b3,.string b7] 101 (0,0)))∧ae (Below w.heap.size w w'))
 case atStart=>exact⟨(bE),(wrap64 ((bE.length:Int)-1)),(cO),(ch),oS,H',⟨Nat.le_refl _⟩,⟨by(with_reducible repeat(first|apply Kd.cP|apply Kd.cQ|apply Kd.b_));exact Kd.aM dR.out (fun _ hk=>hk.2)⟩,⟨oF b1⟩,⟨oB⟩⟩
 case round=>
  clear H'
  try clear c3
  try clear c4
  obtain⟨b2,b4,b3,b7,rfl,HA,m1,b8,b1,HB⟩:=hrel;have bV:=(Kd.aU b8.out).1;rw[bV]at b8
  (try simp only[bV])
  (try simp only[bV]at b1)
  cases gk with
  |zero=>exact absurd HA.out (by simp[cm.l0])
  |succ k1=>
   have H:=HA.out;clear HA;simp only[cm.l0]at H;replace H:=ym H;rcases H with⟨jK,H⟩|⟨jK,H⟩;rotate_left
   ·obtain⟨mX,H⟩:=dw H;obtain⟨mY,H⟩:=dw H;obtain⟨gA,cx⟩:∃y_:List (bj),y_=(b2.set (b4:Int).toNat (⟨b3,b7⟩:bj)):=⟨_,rfl⟩;replace H:(some gA)=some r:=oY;have jL:=ae.mk cx;clear cx;obtain rfl:=Option.some.inj H
    try go_wp2
    replace b8:=am (Kd.b_ b8.out);replace b1:=am (ar b1.out);replace HB:=am (bl HB.out);refine qS 13 (fun w'=>True) cm.vM cm.rE trivial (fun hHeld aV fA=> ?_);generalize wr.drew=d5 at b8 b1 HB hHeld⊢;refine cG 0 16 aV ?_;refine cG 1 17 aV ?_;refine cG 2 18 aV ?_;refine iM 3 19 aV ?_;refine iM 4 20 aV ?_;refine iM 5 21 aV ?_;refine iM 6 22 aV ?_;refine iM 7 23 aV ?_;refine iM 8 24 aV ?_;refine iM 9 25 aV ?_;refine iM 10 26 aV ?_;refine iM 11 27 aV ?_;refine cG 12 28 aV ?_;refine nF aV ?_;obtain⟨⟨_,_⟩,_,_⟩:=z2 b1;have gB:0≤(b4:Int):=oa;have gC:(b4:Int)<((b2.length:Int):Int):=oa;obtain⟨bQ,zG,gD,gE,m7,zH,gF⟩:=Kd.jt b8.out (by omega)
    (first|cases gD|(injection gD with kL ry rz;(first|subst kL|(injection kL with kL;subst kL));subst rz;clear ry))
    have gG:=ae.mk gE;have zI:=ae.mk gF;clear gE m7 gF;obtain⟨zJ,jM,gH,dB,dC⟩:=Kd.ky b8.out oU (b4:Int) gB gC;obtain rfl:=ku gH;have mH:d5.cell? ⟨bQ,(b4:Int).toNat*2,none⟩=some (.string ((bf b2 b4).f0)):=dB 0 _ rfl;have mI:d5.cell? ⟨bQ,(b4:Int).toNat*2+1,none⟩=some (.string ((bf b2 b4).f1)):=dB 1 _ rfl;have mJ:d5.frozen? ⟨bQ,(b4:Int).toNat*2,none⟩=false:=dC 0;have mK:d5.frozen? ⟨bQ,(b4:Int).toNat*2+1,none⟩=false:=dC 1;clear jM dB dC gH;replace gB:=eq_true gB;replace gC:=eq_true gC;have gI:=am (show Kd.R dn 101 d5 w.heap.size (fun k_=>k_≠b5) (.slice (some ⟨bQ,0,none⟩) b2.length bW) b2 from(oR b8));obtain⟨zK,dS,gJ,d1,dD⟩:=Kd.ky gI.out oU (b4:Int) oa (by have h_:(b4:Int)<((b2.length:Int):Int):=oa;first|exact h_|(have e_:=(Kd.aU b8.out).1;omega)|simpa using h_);obtain rfl:=ku gJ;have dM:=Kd.rj gI.out (b4:Int) oa (by have h_:(b4:Int)<((b2.length:Int):Int):=oa;first|exact h_|(have e_:=(Kd.aU b8.out).1;omega)|simpa using h_) (seg:=[.string b3,.string b7]) (j:=0) dS d1 (show 2≤2 from by decide) (x':=(⟨b3,b7⟩:bj)) (kb _ _ _ (⟨b3,b7⟩:bj)) (fun _ hk=>hk);have gK:=d1 0 _ rfl
    (try simp only[show(dn).sz=2 from rfl,Nat.mul_one,Nat.add_zero]at gK)
    have gL:=dD 0
    (try simp only[show(dn).sz=2 from rfl,Nat.mul_one,Nat.add_zero]at gL)
    have gM:=d1 1 _ rfl
    (try simp only[show(dn).sz=2 from rfl,Nat.mul_one,Nat.add_zero]at gM)
    have gN:=dD 1
    (try simp only[show(dn).sz=2 from rfl,Nat.mul_one,Nat.add_zero]at gN)
    clear dS d1 dD gJ
    try go_wp2_with (first|((with_reducible refine fI (t:=101) (p:=42) rfl ?_);refine fs (t:=101) (p:=42) (v:= ?acL) (w1:=((d5.setCell ⟨bQ,(b4:Int).toNat*2,none⟩ (.string b3)).setCell ⟨bQ,(b4:Int).toNat*2+1,none⟩ (.string b7))) ?hg ?ho ?hn ?hr ?_;(case ho=>rfl);(case hg=>rfl);(case hn=>rfl);(case hr=>first|(go_simp;done)|(go_simp;rfl));intro gO hw;have hg:d5.grownBy gO (some bQ):=(by rw[hw];exact dM.2);have nU:Kd.R dn 101 gO w.heap.size (fun k_=>k_≠b5) (.slice (some ⟨bQ,0,none⟩) b2.length bW) gA:=(by rw[hw,jL.out];exact dM.1);clear dM;replace b1:=iF b1 hg (Kd.kg b8.out (fun _ hk=>hk));replace b8:=am (nU);replace HB:=am ((by rw[hw];exact a_ (a_ (HB.out) gG.out) gG.out:Below w.heap.size w gO));clear hg hw nU))
    go_ret
    exact⟨_,oE,mR b8,oB⟩
   obtain⟨b6,bX⟩:∃j_:Int,(wrap64 (b4-1))=j_:=⟨_,rfl⟩
   replace H:(if 0≤(b6)then(if(b6)<(b2.length:Int)then(if(Op.bytesLess b3.toList (((bf b2 (b6)).f0).toList))=true then(if 0≤b4 then(if b4<(b2.length:Int)then(cm.l0 k1 (b2.set (b4:Int).toNat (⟨(bf b2 (b6)).f0,(bf b2 (b6)).f1⟩:bj)) b6 b3 b7)else(none))else(none))else(if 0≤b4 then(if b4<(b2.length:Int)then(some (b2.set (b4:Int).toNat (⟨b3,b7⟩:bj)))else(none))else(none)))else(none))else(none))=some r:=by first|(rw[bX]at H;exact H)|(simp only[bX]at H⊢;exact H)
   have mL:(IntKind.i64.wrap (b4-1))=b6:=(kn _).trans bX;obtain⟨mZ,H⟩:=dw H;obtain⟨zA,H⟩:=dw H
   by_cases d9:(Op.bytesLess b3.toList (((bf b2 (b6)).f0).toList))=true
   rotate_left
   ·rw[if_neg d9]at H
    have dE:(Op.bytesLess b3.toList (((bf b2 (b6)).f0).toList))=false:=by simpa using d9
    have m8:(!Op.bytesLess (((bf b2 (b6)).f0).toList) b3.toList&& !((((bf b2 (b6)).f0).toList)==b3.toList))=false:=(tS _ _).trans dE;clear d9;obtain⟨zB,H⟩:=dw H;obtain⟨zC,H⟩:=dw H;obtain⟨gP,cx⟩:∃y_:List (bj),y_=(b2.set (b4:Int).toNat (⟨b3,b7⟩:bj)):=⟨_,rfl⟩;replace H:(some gP)=some r:=oY;have jN:=ae.mk cx;clear cx;obtain rfl:=Option.some.inj H
    try go_wp2
    replace b8:=am (Kd.b_ b8.out);replace b1:=am (ar b1.out);replace HB:=am (bl HB.out);have m9:(0≤((b6):Int))=True:=oT;have mA:((b6)<(b2.length:Int))=True:=oT;obtain⟨bO,dN,bG,bH⟩:=ed (Kd.aU b8.out).2.2 (b6) oa oa
    cases dN
    refine qS 13 (fun w'=>w'.cell? ⟨b5,0,none⟩=some (.string b3)∧w'.cell? ⟨b5,1,none⟩=some (.string b7)∧w'.cell? (bO.add (((b6)).toNat*2))=some (.string ((bf b2 (b6)).f0))∧w'.cell? ⟨(bO.add (((b6)).toNat*2)).block,(bO.add (((b6)).toNat*2)).off+1,none⟩=some (.string ((bf b2 (b6)).f1))) cm.vM cm.rE ⟨(aj b1.out 0).trans rfl,(aj b1.out 1).trans rfl,bG,bH⟩ (fun hHeld aV fA=> ?_);generalize wr.drew=d6 at b8 b1 HB bG bH hHeld⊢;refine cG 0 16 aV ?_;refine cG 1 17 aV ?_;refine cG 2 18 aV ?_;refine cG 3 19 aV ?_;refine cG 4 20 aV ?_;refine cG 5 21 aV ?_;refine cG 6 22 aV ?_;refine cG 7 23 aV ?_;refine cG 9 25 aV ?_;refine iA 8 24 aV fA hHeld ?_;refine iA 10 26 aV fA hHeld ?_;refine cG 11 27 aV ?_;refine cG 12 28 aV ?_;refine nF aV ?_;obtain⟨⟨_,_⟩,_,_⟩:=z2 b1;have gQ:0≤(b4:Int):=oa;have gR:(b4:Int)<((b2.length:Int):Int):=oa;obtain⟨bR,zL,gS,gT,mB,zM,gU⟩:=Kd.jt b8.out (by omega)
    (first|cases gS|(injection gS with kL ry rz;(first|subst kL|(injection kL with kL;subst kL));subst rz;clear ry))
    have gV:=ae.mk gT;have zN:=ae.mk gU;clear gT mB gU
    (first|simp only[add_plain]at bG|skip)
    (first|simp only[add_plain]at bH|skip)
    obtain⟨zO,jO,gW,dF,dG⟩:=Kd.ky b8.out oU (b4:Int) gQ gR;obtain rfl:=ku gW;have mM:d6.cell? ⟨bR,(b4:Int).toNat*2,none⟩=some (.string ((bf b2 b4).f0)):=dF 0 _ rfl;have mN:d6.cell? ⟨bR,(b4:Int).toNat*2+1,none⟩=some (.string ((bf b2 b4).f1)):=dF 1 _ rfl;have mO:d6.frozen? ⟨bR,(b4:Int).toNat*2,none⟩=false:=dG 0;have mP:d6.frozen? ⟨bR,(b4:Int).toNat*2+1,none⟩=false:=dG 1;clear jO dF dG gW;replace gQ:=eq_true gQ;replace gR:=eq_true gR;have gX:=am (show Kd.R dn 101 d6 w.heap.size (fun k_=>k_≠b5) (.slice (some ⟨bR,0,none⟩) b2.length bW) b2 from(oR b8));obtain⟨zP,dT,gY,d2,dH⟩:=Kd.ky gX.out oU (b4:Int) oa (by have h_:(b4:Int)<((b2.length:Int):Int):=oa;first|exact h_|(have e_:=(Kd.aU b8.out).1;omega)|simpa using h_);obtain rfl:=ku gY;have dO:=Kd.rj gX.out (b4:Int) oa (by have h_:(b4:Int)<((b2.length:Int):Int):=oa;first|exact h_|(have e_:=(Kd.aU b8.out).1;omega)|simpa using h_) (seg:=[.string b3,.string b7]) (j:=0) dT d2 (show 2≤2 from by decide) (x':=(⟨b3,b7⟩:bj)) (kb _ _ _ (⟨b3,b7⟩:bj)) (fun _ hk=>hk);have gZ:=d2 0 _ rfl
    (try simp only[show(dn).sz=2 from rfl,Nat.mul_one,Nat.add_zero]at gZ)
    have j1:=dH 0
    (try simp only[show(dn).sz=2 from rfl,Nat.mul_one,Nat.add_zero]at j1)
    have j2:=d2 1 _ rfl
    (try simp only[show(dn).sz=2 from rfl,Nat.mul_one,Nat.add_zero]at j2)
    have j3:=dH 1
    (try simp only[show(dn).sz=2 from rfl,Nat.mul_one,Nat.add_zero]at j3)
    clear dT d2 dH gY
    try go_wp2_with (first|((with_reducible refine fI (t:=101) (p:=42) rfl ?_);refine fs (t:=101) (p:=42) (v:= ?aaJ) (w1:=((d6.setCell ⟨bR,(b4:Int).toNat*2,none⟩ (.string b3)).setCell ⟨bR,(b4:Int).toNat*2+1,none⟩ (.string b7))) ?hg ?ho ?hn ?hr ?_;(case ho=>rfl);(case hg=>rfl);(case hn=>rfl);(case hr=>first|(go_simp;done)|(go_simp;rfl));intro j4 hw;have hg:d6.grownBy j4 (some bR):=(by rw[hw];exact dO.2);have nU:Kd.R dn 101 j4 w.heap.size (fun k_=>k_≠b5) (.slice (some ⟨bR,0,none⟩) b2.length bW) gP:=(by rw[hw,jN.out];exact dO.1);clear dO;replace b1:=iF b1 hg (Kd.kg b8.out (fun _ hk=>hk));replace b8:=am (nU);replace HB:=am ((by rw[hw];exact a_ (a_ (HB.out) gV.out) gV.out:Below w.heap.size w j4));clear hg hw nU))
    go_ret
    exact⟨_,by first|rfl|(simp[iv,iw]<;>rfl)|(simp only[←bX];first|rfl|(simp[iv,iw]<;>rfl))|(simp[*,iv,iw]<;>rfl),mR b8,oB⟩
   rw[if_pos d9]at H;have dE:(Op.bytesLess b3.toList (((bf b2 (b6)).f0).toList))=true:=d9;have m8:(!Op.bytesLess (((bf b2 (b6)).f0).toList) b3.toList&& !((((bf b2 (b6)).f0).toList)==b3.toList))=true:=(tS _ _).trans dE;clear d9;obtain⟨zD,H⟩:=dw H;obtain⟨zE,H⟩:=dw H;obtain⟨dP,cx⟩:∃y_:List (bj),y_=(b2.set (b4:Int).toNat (⟨(bf b2 (b6)).f0,(bf b2 (b6)).f1⟩:bj)):=⟨_,rfl⟩;replace H:(cm.l0 k1 dP b6 b3 b7)=some r:=oY;have jP:=ae.mk cx;clear cx;have H':=ae.mk H;clear H
   try go_wp2
   replace b8:=am (Kd.b_ b8.out);replace b1:=am (ar b1.out);replace HB:=am (bl HB.out);have m9:(0≤((b6):Int))=True:=oT;have mA:((b6)<(b2.length:Int))=True:=oT;obtain⟨bO,dN,bG,bH⟩:=ed (Kd.aU b8.out).2.2 (b6) oa oa
   cases dN
   refine qS 13 (fun w'=>w'.cell? ⟨b5,0,none⟩=some (.string b3)∧w'.cell? ⟨b5,1,none⟩=some (.string b7)∧w'.cell? (bO.add (((b6)).toNat*2))=some (.string ((bf b2 (b6)).f0))∧w'.cell? ⟨(bO.add (((b6)).toNat*2)).block,(bO.add (((b6)).toNat*2)).off+1,none⟩=some (.string ((bf b2 (b6)).f1))) cm.vM cm.rE ⟨(aj b1.out 0).trans rfl,(aj b1.out 1).trans rfl,bG,bH⟩ (fun hHeld aV fA=> ?_);generalize wr.drew=d7 at b8 b1 HB bG bH hHeld⊢;refine cG 0 16 aV ?_;refine cG 1 17 aV ?_;refine cG 2 18 aV ?_;refine cG 3 19 aV ?_;refine cG 4 20 aV ?_;refine cG 5 21 aV ?_;refine cG 6 22 aV ?_;refine cG 7 23 aV ?_;refine cG 9 25 aV ?_;refine iA 8 24 aV fA hHeld ?_;refine iA 10 26 aV fA hHeld ?_;refine cG 11 27 aV ?_;refine cG 12 28 aV ?_;refine nF aV ?_;have zQ:(0≤((b6):Int))=True:=oT;have zR:((b6)<(b2.length:Int))=True:=oT;obtain⟨jQ,mC,dV,dW⟩:=ed (Kd.aU b8.out).2.2 (b6) oa oa;obtain rfl:bO=jQ:=(by injection mC);have j5:0≤(b4:Int):=oa;have j6:(b4:Int)<((b2.length:Int):Int):=oa;obtain⟨bS,zS,j7,j8,mD,zT,j9⟩:=Kd.jt b8.out (by omega)
   (first|cases j7|(injection j7 with kL ry rz;(first|subst kL|(injection kL with kL;subst kL));subst rz;clear ry))
   have jA:=ae.mk j8;have zU:=ae.mk j9;clear j8 mD j9
   (first|simp only[add_plain]at bG|skip)
   (first|simp only[add_plain]at bH|skip)
   (first|simp only[add_plain]at dV|skip)
   (first|simp only[add_plain]at dW|skip)
   obtain⟨zV,jR,jB,dI,dJ⟩:=Kd.ky b8.out oU (b4:Int) j5 j6;obtain rfl:=ku jB;have mQ:d7.cell? ⟨bS,(b4:Int).toNat*2,none⟩=some (.string ((bf b2 b4).f0)):=dI 0 _ rfl;have mS:d7.cell? ⟨bS,(b4:Int).toNat*2+1,none⟩=some (.string ((bf b2 b4).f1)):=dI 1 _ rfl;have mT:d7.frozen? ⟨bS,(b4:Int).toNat*2,none⟩=false:=dJ 0;have mU:d7.frozen? ⟨bS,(b4:Int).toNat*2+1,none⟩=false:=dJ 1;clear jR dI dJ jB;replace j5:=eq_true j5;replace j6:=eq_true j6;have jC:=am (show Kd.R dn 101 d7 w.heap.size (fun k_=>k_≠b5) (.slice (some ⟨bS,0,none⟩) b2.length bW) b2 from(oR b8));obtain⟨zW,dU,jD,d3,dK⟩:=Kd.ky jC.out oU (b4:Int) oa (by have h_:(b4:Int)<((b2.length:Int):Int):=oa;first|exact h_|(have e_:=(Kd.aU b8.out).1;omega)|simpa using h_);obtain rfl:=ku jD;have dQ:=Kd.rj jC.out (b4:Int) oa (by have h_:(b4:Int)<((b2.length:Int):Int):=oa;first|exact h_|(have e_:=(Kd.aU b8.out).1;omega)|simpa using h_) (seg:=[.string ((bf b2 (b6)).f0),.string ((bf b2 (b6)).f1)]) (j:=0) dU d3 (show 2≤2 from by decide) (x':=(⟨(bf b2 (b6)).f0,(bf b2 (b6)).f1⟩:bj)) (kb _ _ _ (⟨(bf b2 (b6)).f0,(bf b2 (b6)).f1⟩:bj)) (fun _ hk=>hk);have jE:=d3 0 _ rfl
   (try simp only[show(dn).sz=2 from rfl,Nat.mul_one,Nat.add_zero]at jE)
   have jF:=dK 0
   (try simp only[show(dn).sz=2 from rfl,Nat.mul_one,Nat.add_zero]at jF)
   have jG:=d3 1 _ rfl
   (try simp only[show(dn).sz=2 from rfl,Nat.mul_one,Nat.add_zero]at jG)
   have jH:=dK 1
   (try simp only[show(dn).sz=2 from rfl,Nat.mul_one,Nat.add_zero]at jH)
   clear dU d3 dK jD
   try go_wp2_with (first|((with_reducible refine fI (t:=101) (p:=36) rfl ?_);refine fs (t:=101) (p:=36) (v:= ?acM) (w1:=((d7.setCell ⟨bS,(b4:Int).toNat*2,none⟩ (.string ((bf b2 (b6)).f0))).setCell ⟨bS,(b4:Int).toNat*2+1,none⟩ (.string ((bf b2 (b6)).f1)))) ?hg ?ho ?hn ?hr ?_;(case ho=>rfl);(case hg=>rfl);(case hn=>rfl);(case hr=>first|(go_simp;done)|(go_simp;rfl));intro jI hw;have hg:d7.grownBy jI (some bS):=(by rw[hw];exact dQ.2);have nU:Kd.R dn 101 jI w.heap.size (fun k_=>k_≠b5) (.slice (some ⟨bS,0,none⟩) b2.length bW) dP:=(by rw[hw,jP.out];exact dQ.1);clear dQ;replace b1:=iF b1 hg (Kd.kg b8.out (fun _ hk=>hk));replace b8:=am (nU);replace HB:=am ((by rw[hw];exact a_ (a_ (HB.out) jA.out) jA.out:Below w.heap.size w jI));clear hg hw nU))
   (try simp only[←bV])
   go_roundg k1
   case measure=>have:=m1.out;omega
   case rel=>exact⟨(dP),(b6),(b3),(b7),(by first|rfl|(simp;done)|(simp only[←bX]<;>(first|rfl|simp))|(simp[*];done)),H',⟨by have:=m1.out;omega⟩,⟨by(try simp only[bV]);(with_reducible repeat(first|apply Kd.cP|apply Kd.cQ|apply Kd.b_));exact b8.out⟩,⟨by(try simp only[bV]);(with_reducible repeat(first|refine bm ?_ _|refine ar ?_|refine ax ?_ _));exact b1.out⟩,⟨oB⟩⟩

def cf.l0:Nat→List (cD)→Int→ByteArray→Int→Option ((List (cD)))
 |0,_,_,_,_=>none
 |k+1,x5,x6,b1,b2=>if x6>0 then(if 0≤(wrap64 (x6-1))then(if(wrap64 (x6-1))<(x5.length:Int)then(if(Op.bytesLess b1.toList (((aA x5 (wrap64 (x6-1))).f0).toList))=true then(if 0≤x6 then(if x6<(x5.length:Int)then(cf.l0 k (x5.set (x6:Int).toNat (⟨(aA x5 (wrap64 (x6-1))).f0,(aA x5 (wrap64 (x6-1))).f1⟩:cD)) (wrap64 (x6-1)) b1 b2)else(none))else(none))else(if 0≤x6 then(if x6<(x5.length:Int)then(some (x5.set (x6:Int).toNat (⟨b1,b2⟩:cD)))else(none))else(none)))else(none))else(none))else(if 0≤x6 then(if x6<(x5.length:Int)then(some (x5.set (x6:Int).toNat (⟨b1,b2⟩:cD)))else(none))else(none))
def cf.f (k:Nat) (l0:List (cD)) (cO:ByteArray) (ch:Int):Option ((List (cD))):=(some (([]:List (cD)):List (cD))).bind fun b1=>(if b1.length+l0.length<5864062014805 then((some (b1++l0:List (cD))).bind fun b2=>((some (([(⟨cO,ch⟩:cD)]:List (cD)):List (cD))).bind fun b3=>(if b2.length+b3.length<5864062014805 then((some (b2++b3:List (cD))).bind fun b4=>(cf.l0 k b4 (wrap64 ((b4.length:Int)-1)) cO ch))else(none))))else(none))
def cf.T3:Bool×List (List Nat×List Nat):=(true,[([],[]),([0],[0]),([1],[1]),([2],[2]),([2],[2]),([4,2],[2,4]),([3,5,2],[2,3,5]),([6,2],[2,6]),([7,2],[2,7]),([2],[2]),([9,2],[2,9]),([8,10,2],[2,8,10]),([2,11],[2,11])])
def cf.B3:List Nat:=[0,1,3,7,7,23,63,127,255,7,519,2047,4095]
theorem cf.vM:fK .any (opsOf Tryz.f165 3)=cf.T3:=by kernel_rfl
theorem cf.rE:ep cf.T3.2 cf.B3=true:=by kernel_rfl
theorem cf.calls (k:Nat) (A0:Option Addr) (c0:Nat) (l0:List (cD)) (cO:ByteArray) (ch:Int) (r:List (cD)) (w:World) (hr0:Kd.C fL w A0 l0.length l0) (hc0:l0.length≤c0) (h:cf.f k l0 cO ch=some r):
  Calls Tryz.prog 165 #[.slice A0 l0.length c0,.agg #[.string cO,.int .i64 ch]] w fun e w'=>∃fy:Value,e= .returned (fy)∧Kd.R fL 74 w' w.heap.size (fun _=>True) fy r∧Below w.heap.size w w':=by
 have zE:=underlying74;have dX:=ae.mk hr0;have zX:=ae.mk hc0;clear hr0 hc0;have HB:=am (Below.refl w.heap.size w);unfold cf.f at h;have H:=h;clear h;obtain⟨bF,cx⟩:∃y_:List (cD),y_=(([]:List (cD))):=⟨_,rfl⟩;replace H:(if bF.length+l0.length<5864062014805 then((some (bF++l0:List (cD))).bind fun bJ=>((some (([(⟨cO,ch⟩:cD)]:List (cD)):List (cD))).bind fun bC=>(if bJ.length+bC.length<5864062014805 then((some (bJ++bC:List (cD))).bind fun bE=>(cf.l0 k bE (wrap64 ((bE.length:Int)-1)) cO ch))else(none))))else(none))=some r:=oY;have bZ:=ae.mk cx;clear cx
 by_cases c3:bF.length+l0.length<5864062014805
 rotate_left
 ·rw[if_neg c3]at H;exact absurd H (by simp)
 rw[if_pos c3]at H;have dL:=ae.mk c3;clear c3;obtain⟨bJ,cx⟩:∃y_:List (cD),y_=(bF++l0):=⟨_,rfl⟩;replace H:((some (([(⟨cO,ch⟩:cD)]:List (cD)):List (cD))).bind fun bC=>(if bJ.length+bC.length<5864062014805 then((some (bJ++bC:List (cD))).bind fun bE=>(cf.l0 k bE (wrap64 ((bE.length:Int)-1)) cO ch))else(none)))=some r:=oY;have dA:=ae.mk cx;clear cx;obtain⟨bC,cx⟩:∃y_:List (cD),y_=(([(⟨cO,ch⟩:cD)]:List (cD))):=⟨_,rfl⟩;replace H:(if bJ.length+bC.length<5864062014805 then((some (bJ++bC:List (cD))).bind fun bE=>(cf.l0 k bE (wrap64 ((bE.length:Int)-1)) cO ch))else(none))=some r:=oY;have bU:=ae.mk cx;clear cx;obtain⟨c4,H⟩:=jm H;have m2:=ae.mk c4;clear c4;obtain⟨bE,cx⟩:∃y_:List (cD),y_=(bJ++bC):=⟨_,rfl⟩;replace H:(cf.l0 k bE (wrap64 ((bE.length:Int)-1)) cO ch)=some r:=oY;have jJ:=ae.mk cx;clear cx;have H':=ae.mk H;clear H
 go_enter func165,ntmps165
 try go_wp2_with (first|((with_reducible refine au (N:=3) rfl ?_);refine fz 3 #[.string cO,.int .i64 ch] 74 ?_;intro b5 hg w5 hbox hb;have b1:=am (hbox);have mV:=fO hg;replace HB:=hB HB hb;clear hb hbox hg))
 replace b1:=am (ar b1.out);replace HB:=am (bl HB.out);refine s0_ 7 (fun w'=>w'.cell? ⟨b5,0,none⟩=some (.string cO)∧w'.cell? ⟨b5,1,none⟩=some (.int .i64 ch)) oH (fun hHeld=> ?_);generalize w5.drew=w6 at b1 HB hHeld⊢;refine p0_ 1 8 ?_;refine t0_ 3 10 hHeld ?_;refine uc (σ:=Value×Value×Value) 2 (lb 7 31) (fun s_=>[(7,s_.1),(9,s_.2.1),(11,s_.2.2)]) (fun s_ w'=>(w'.cell? ⟨b5,0,none⟩=some (.string cO)∧w'.cell? ⟨b5,1,none⟩=some (.int .i64 ch))∧(Kd.R fL 74 w' w.heap.size (fun k_=>some k_≠(s_.2.2:Value).ownBlock∧k_≠b5) s_.2.1 bJ)∧(Kd.R fL 74 w' w.heap.size (fun k_=>some k_≠(s_.2.1:Value).ownBlock∧k_≠b5) s_.2.2 bC)∧(w'.heap[b5]? =some (.cells #[.string cO,.int .i64 ch] 74 (0,0)))∧(Below w.heap.size w w')) ?_ ?_;rotate_left
 ·intro kM;refine ub (i:=0) (j:=4) (Ni:=some 7) (Nj:=some 11) (lb 7 11) (lb 7 26) rfl rfl rfl rfl (by kernel_rfl) (by decide) (by decide) (fun K hK=> ?_) (fun K hK=> ?_)
  ·skip
   refine Kd.dv fL _ 74 ?hg (N:=7) ?hd (xs:=([]:List (cD))) (inner:=[]) (ok:=fun _=>True) (fw:=fun _=>True) ?hr ?hp (fun _ hk=>hk) trivial (Below.refl _ _) (Nat.le_refl _) (by simp) ?_;(case hd=>rfl);(case hg=>rfl);(case hr=>first|(go_simp;done)|(go_simp;rfl));(case hp=>exact(bp.none _ _));intro dY w7 bT hb fN cj;clear fN cj
   (first|rw[←bZ.out]at bT|(simp only[Int.reduceToNat]at bT;rw[←bZ.out]at bT))
   have bB:=am (Kd.aq (Kd.mf bT (g:=b5) (o:= .cells #[.string cO,.int .i64 ch] 74 (0,0)) (oF b1)) (af oB));replace b1:=ba b1 hb;replace HB:=hB HB hb;clear hb bT;obtain⟨bK,bL,pM⟩:=Kd.ao bB.out;subst pM;refine aZ hK 7 oH (fun hHeld=> ?_);clear hK K;refine ub (i:=2) (j:=4) (Ni:=some 9) (Nj:=some 11) (lb 7 15) (lb 7 27) rfl rfl rfl rfl (by kernel_rfl) (by decide) (by decide) (fun K hK=> ?_) (fun K hK=> ?_)
   ·skip
    refine Kd.eB fL (w0:=w) w.heap.size (by rfl) (.tmp 7) (.tmp 8) 29 74 (.agg #[(.string ⟨#[]⟩),(.int .i64 0)]) 24 rfl underlying29 nj rfl (by decide) (by omega) (.slice bK bF.length bL) bF l0 _ _ _ (fun k_=>k_≠b5) (fun _=>False) rfl rfl ?aO ?aR (fun _ _ h=>h) (fun _ h=>h.elim) ?aF ?aB ?aS ?aL ?_
    (case aR=>repeat(first|exact(Kd.cR dX.out HB.out)|(with_reducible refine Kd.ji ?_ _)|(with_reducible refine Kd.iS ?_ _)|(with_reducible refine Kd.ks ?_)))
    (case aB=>exact oB)
    (case aF=>exact(fun k_ hk=>Kd.cM (g:=b5) (o:= .cells #[.string cO,.int .i64 ch] 74 (0,0)) (oF b1) k_ hk))
    (case aO=>exact(by(with_reducible repeat(first|apply Kd.cP|apply Kd.cQ|apply Kd.b_));exact Kd.aM bB.out (fun _ hk=>hk.2)))
    (case aS=>exact(af oB))
    (case aL=>have:=dL.out;omega)
    intro bP w9 ho hb hg hat;rw[←dA.out]at ho;have bD:=am (ho);replace b1:=iF b1 hg (Kd.kg bB.out (fun _ hk=>hk.2));replace HB:=am (hb);clear bB;clear ho hb hg hat;refine aZ hK 9 oH (fun hHeld=> ?_);clear hK K;refine wJ 4 11 (fun K hK=> ?_);refine Kd.dv fL _ 74 ?hg (N:=11) ?hd (xs:=([(⟨cO,ch⟩:cD)]:List (cD))) (inner:=[.string cO,.int .i64 ch]) (ok:=fun _=>True) (fw:=fun _=>True) ?hr ?hp (fun _ hk=>hk) trivial (Below.refl _ _) (Nat.le_refl _) (by simp) ?_;(case hd=>rfl);(case hg=>rfl);(case hr=>first|(go_simp;done)|(go_simp;rfl));(case hp=>exact(bp.c2 (show Kd.M fL _ _ _ (⟨cO,ch⟩:cD) [.string cO,.int .i64 ch]from(ll _ _ _ (⟨cO,ch⟩:cD))) (bp.none _ _)));intro d4 zY bY hb fN cj;clear fN cj
    (first|rw[←bU.out]at bY|(simp only[Int.reduceToNat]at bY;rw[←bU.out]at bY))
    have b9:=am (Kd.aq (Kd.mf (Kd.eS bY (iO bD)) (g:=b5) (o:= .cells #[.string cO,.int .i64 ch] 74 (0,0)) (oF b1)) (af oB));replace bD:=sb bD bY hb;replace b1:=ba b1 hb;replace HB:=hB HB hb;clear hb bY;obtain⟨bM,bN,pM⟩:=Kd.ao b9.out;subst pM;refine aZ hK 11 oH (fun hHeld=> ?_);clear hK K;exact ju (by simp only[ij,Act.put,List.setIfInBounds_toArray,List.set_cons_zero,List.set_cons_succ]) (kM ((.slice bK bF.length bL),bP,(.slice bM bC.length bN)) _ ⟨hHeld,(by(with_reducible repeat(first|apply Kd.cP|apply Kd.cQ|apply Kd.b_));exact Kd.aM bD.out (fun _ hk=>⟨hk.2,hk.1⟩)),(by(with_reducible repeat(first|apply Kd.cP|apply Kd.cQ|apply Kd.b_));exact Kd.aM b9.out (fun _ hk=>⟨hk.1.2,hk.2⟩)),(oF b1),oB⟩)
   ·skip
    refine Kd.dv fL _ 74 ?hg (N:=11) ?hd (xs:=([(⟨cO,ch⟩:cD)]:List (cD))) (inner:=[.string cO,.int .i64 ch]) (ok:=fun _=>True) (fw:=fun _=>True) ?hr ?hp (fun _ hk=>hk) trivial (Below.refl _ _) (Nat.le_refl _) (by simp) ?_;(case hd=>rfl);(case hg=>rfl);(case hr=>first|(go_simp;done)|(go_simp;rfl));(case hp=>exact(bp.c2 (show Kd.M fL _ _ _ (⟨cO,ch⟩:cD) [.string cO,.int .i64 ch]from(ll _ _ _ (⟨cO,ch⟩:cD))) (bp.none _ _)));intro d4 w9 bG hb fN cj;clear fN cj
    (first|rw[←bU.out]at bG|(simp only[Int.reduceToNat]at bG;rw[←bU.out]at bG))
    have b9:=am (Kd.aq (Kd.mf (Kd.eS bG (iO bB)) (g:=b5) (o:= .cells #[.string cO,.int .i64 ch] 74 (0,0)) (oF b1)) (af oB));replace bB:=sb bB bG hb;replace b1:=ba b1 hb;replace HB:=hB HB hb;clear hb bG;obtain⟨bM,bN,pM⟩:=Kd.ao b9.out;subst pM;refine aZ hK 11 oH (fun hHeld=> ?_);clear hK K;refine wJ 2 9 (fun K hK=> ?_);refine Kd.eB fL (w0:=w) w.heap.size (by rfl) (.tmp 7) (.tmp 8) 29 74 (.agg #[(.string ⟨#[]⟩),(.int .i64 0)]) 24 rfl underlying29 nj rfl (by decide) (by omega) (.slice bK bF.length bL) bF l0 _ _ _ (fun k_=>some k_≠((.slice bM bC.length bN):Value).ownBlock∧k_≠b5) (fun _=>False) rfl rfl ?aO ?aR (fun _ _ h=>h) (fun _ h=>h.elim) ?aF ?aB ?aS ?aL ?_
    (case aR=>repeat(first|exact(Kd.cR dX.out HB.out)|(with_reducible refine Kd.ji ?_ _)|(with_reducible refine Kd.iS ?_ _)|(with_reducible refine Kd.ks ?_)))
    (case aB=>exact oB)
    (case aF=>exact(fun k_ hk=>⟨Kd.fresh' (iO b9) k_ hk,Kd.cM (g:=b5) (o:= .cells #[.string cO,.int .i64 ch] 74 (0,0)) (oF b1) k_ hk⟩))
    (case aO=>exact(by(with_reducible repeat(first|apply Kd.cP|apply Kd.cQ|apply Kd.b_));exact Kd.aM bB.out (fun _ hk=>⟨hk.2,hk.1.2⟩)))
    (case aS=>exact(af oB))
    (case aL=>have:=dL.out;omega)
    intro bP mE ho hb hg hat;rw[←dA.out]at ho;have bD:=am (ho);replace b1:=iF b1 hg (Kd.kg bB.out (fun _ hk=>hk.1.2));replace b9:=am (Kd.nk (ok:=(fun k_=>k_≠b5)) (by(with_reducible repeat(first|apply Kd.cP|apply Kd.cQ|apply Kd.b_));exact Kd.aM b9.out (fun _ hk=>⟨hk.2,hk.1.2⟩)) hg hat);replace HB:=am (hb);clear bB;clear ho hb hg hat;refine aZ hK 9 oH (fun hHeld=> ?_);clear hK K;exact ju (by simp only[ij,Act.put,List.setIfInBounds_toArray,List.set_cons_zero,List.set_cons_succ]) (kM ((.slice bK bF.length bL),bP,(.slice bM bC.length bN)) _ ⟨hHeld,(oR bD),(by(with_reducible repeat(first|apply Kd.cP|apply Kd.cQ|apply Kd.b_));exact Kd.aM b9.out (fun _ hk=>⟨hk.2,hk.1⟩)),(oF b1),oB⟩)
  ·skip
   refine Kd.dv fL _ 74 ?hg (N:=11) ?hd (xs:=([(⟨cO,ch⟩:cD)]:List (cD))) (inner:=[.string cO,.int .i64 ch]) (ok:=fun _=>True) (fw:=fun _=>True) ?hr ?hp (fun _ hk=>hk) trivial (Below.refl _ _) (Nat.le_refl _) (by simp) ?_;(case hd=>rfl);(case hg=>rfl);(case hr=>first|(go_simp;done)|(go_simp;rfl));(case hp=>exact(bp.c2 (show Kd.M fL _ _ _ (⟨cO,ch⟩:cD) [.string cO,.int .i64 ch]from(ll _ _ _ (⟨cO,ch⟩:cD))) (bp.none _ _)));intro d4 w7 bT hb fN cj;clear fN cj
   (first|rw[←bU.out]at bT|(simp only[Int.reduceToNat]at bT;rw[←bU.out]at bT))
   have b9:=am (Kd.aq (Kd.mf bT (g:=b5) (o:= .cells #[.string cO,.int .i64 ch] 74 (0,0)) (oF b1)) (af oB));replace b1:=ba b1 hb;replace HB:=hB HB hb;clear hb bT;obtain⟨bM,bN,pM⟩:=Kd.ao b9.out;subst pM;refine aZ hK 11 oH (fun hHeld=> ?_);clear hK K;refine wJ 0 7 (fun K hK=> ?_);refine Kd.dv fL _ 74 ?hg (N:=7) ?hd (xs:=([]:List (cD))) (inner:=[]) (ok:=fun _=>True) (fw:=fun _=>True) ?hr ?hp (fun _ hk=>hk) trivial (Below.refl _ _) (Nat.le_refl _) (by simp) ?_;(case hd=>rfl);(case hg=>rfl);(case hr=>first|(go_simp;done)|(go_simp;rfl));(case hp=>exact(bp.none _ _));intro dY w9 bG hb fN cj;clear fN cj
   (first|rw[←bZ.out]at bG|(simp only[Int.reduceToNat]at bG;rw[←bZ.out]at bG))
   have bB:=am (Kd.aq (Kd.mf (Kd.eS bG (iO b9)) (g:=b5) (o:= .cells #[.string cO,.int .i64 ch] 74 (0,0)) (oF b1)) (af oB));replace b9:=sb b9 bG hb;replace b1:=ba b1 hb;replace HB:=hB HB hb;clear hb bG;obtain⟨bK,bL,pM⟩:=Kd.ao bB.out;subst pM;refine aZ hK 7 oH (fun hHeld=> ?_);clear hK K;refine wJ 2 9 (fun K hK=> ?_);refine Kd.eB fL (w0:=w) w.heap.size (by rfl) (.tmp 7) (.tmp 8) 29 74 (.agg #[(.string ⟨#[]⟩),(.int .i64 0)]) 24 rfl underlying29 nj rfl (by decide) (by omega) (.slice bK bF.length bL) bF l0 _ _ _ (fun k_=>some k_≠((.slice bM bC.length bN):Value).ownBlock∧k_≠b5) (fun _=>False) rfl rfl ?aO ?aR (fun _ _ h=>h) (fun _ h=>h.elim) ?aF ?aB ?aS ?aL ?_
   (case aR=>repeat(first|exact(Kd.cR dX.out HB.out)|(with_reducible refine Kd.ji ?_ _)|(with_reducible refine Kd.iS ?_ _)|(with_reducible refine Kd.ks ?_)))
   (case aB=>exact oB)
   (case aF=>exact(fun k_ hk=>⟨Kd.fresh' (iO b9) k_ hk,Kd.cM (g:=b5) (o:= .cells #[.string cO,.int .i64 ch] 74 (0,0)) (oF b1) k_ hk⟩))
   (case aO=>exact(by(with_reducible repeat(first|apply Kd.cP|apply Kd.cQ|apply Kd.b_));exact Kd.aM bB.out (fun _ hk=>⟨hk.1.2,hk.2⟩)))
   (case aS=>exact(af oB))
   (case aL=>have:=dL.out;omega)
   intro bP mE ho hb hg hat;rw[←dA.out]at ho;have bD:=am (ho);replace b1:=iF b1 hg (Kd.kg bB.out (fun _ hk=>hk.2));replace b9:=am (Kd.nk (ok:=(fun k_=>k_≠b5)) (by(with_reducible repeat(first|apply Kd.cP|apply Kd.cQ|apply Kd.b_));exact Kd.aM b9.out (fun _ hk=>⟨hk.1.2,hk.2⟩)) hg hat);replace HB:=am (hb);clear bB;clear ho hb hg hat;refine aZ hK 9 oH (fun hHeld=> ?_);clear hK K;exact ju (by simp only[ij,Act.put,List.setIfInBounds_toArray,List.set_cons_zero,List.set_cons_succ]) (kM ((.slice bK bF.length bL),bP,(.slice bM bC.length bN)) _ ⟨hHeld,(oR bD),(by(with_reducible repeat(first|apply Kd.cP|apply Kd.cQ|apply Kd.b_));exact Kd.aM b9.out (fun _ hk=>⟨hk.2,hk.1⟩)),(oF b1),oB⟩)
 rintro⟨dY,bP,d4⟩ d8 ⟨sO,jS,jT,jU,jV⟩;have jW:ae (Kd.R fL 74 d8 w.heap.size (fun k_=>some k_≠(d4:Value).ownBlock∧k_≠b5) bP bJ):=⟨jS⟩;have jX:ae (Kd.R fL 74 d8 w.heap.size (fun k_=>some k_≠(bP:Value).ownBlock∧k_≠b5) d4 bC):=⟨jT⟩;have jY:ae (d8.heap[b5]? =some (.cells #[.string cO,.int .i64 ch] 74 (0,0))):=⟨jU⟩;have jZ:ae (Below w.heap.size w d8):=⟨jV⟩;clear b1;clear HB;clear jS jT jU jV;have bD:=jW;have b9:=jX;have b1:=jY;have HB:=jZ;clear jW jX jY jZ;have hHeld:d8.cell? ⟨b5,0,none⟩=some (.string cO)∧d8.cell? ⟨b5,1,none⟩=some (.int .i64 ch):=sO;obtain⟨m3,m4,dZ⟩:=Kd.ao b9.out
 (first|subst dZ|(injection dZ with f1_ f2_ f3_;have mF:=f1_.symm;have mG:=f3_.symm;clear f1_ f2_ f3_;subst mF;subst mG))
 refine ju (a':= ?_) ?_ ?_;rotate_left
 ·simp only[ij,Act.put,List.setIfInBounds_toArray,List.set_cons_zero,List.set_cons_succ]
  rfl
 refine wJ 5 12 (fun K hK=> ?_);refine Kd.eB fL (w0:=w) w.heap.size (by rfl) (.tmp 9) (.tmp 11) 29 74 (.agg #[(.string ⟨#[]⟩),(.int .i64 0)]) 24 rfl underlying29 nj rfl (by decide) (by omega) bP bJ bC _ _ _ (fun k_=>some k_≠(.slice m3 bC.length m4:Value).ownBlock∧k_≠b5) (fun _=>False) rfl rfl ?aO ?aR (fun _ _ h=>h) (fun _ h=>h.elim) ?aF ?aB ?aS ?aL ?_
 (case aR=>repeat(first|exact(Kd.aU b9.out).2.2|(with_reducible refine Kd.ji ?_ _)|(with_reducible refine Kd.iS ?_ _)|(with_reducible refine Kd.ks ?_)))
 (case aB=>exact oB)
 (case aF=>exact(fun k_ hk=>⟨Kd.fresh' (iO b9) k_ hk,Kd.cM (g:=b5) (o:= .cells #[.string cO,.int .i64 ch] 74 (0,0)) (oF b1) k_ hk⟩))
 (case aO=>exact(oR bD))
 (case aS=>exact(af oB))
 (case aL=>have:=m2.out;omega)
 intro zF zZ ho hb hg hat;rw[←jJ.out]at ho;have dR:=am (ho);replace b1:=iF b1 hg (Kd.kg bD.out (fun _ hk=>hk.2));replace b9:=am (Kd.nk (ok:=(fun k_=>k_≠b5)) (by(with_reducible repeat(first|apply Kd.cP|apply Kd.cQ|apply Kd.b_));exact Kd.aM b9.out (fun _ hk=>⟨hk.2,hk.1⟩)) hg hat);replace HB:=am (hb);clear bD;clear ho hb hg hat;refine aZ hK 12 oH (fun hHeld=> ?_);clear hK K;refine p0_ 6 5 ?_;refine sm (by kernel_rfl) ?_;obtain⟨m5,bW,m6⟩:=Kd.ao dR.out;subst m6
 try go_wp2
 go_loopg [6] k (fun kq v6 w'=>∃(b2:List (cD)) (b4:Int) (b3:ByteArray) (b7:Int),v6= .int .i64 b4∧ae (cf.l0 kq b2 b4 b3 b7=some r)∧ae (kq≤k)∧ae (Kd.R fL 74 w' w.heap.size (fun k_=>k_≠b5) (.slice m5 bE.length bW) b2)∧ae (w'.heap[b5]? =some (.cells #[.string b3,.int .i64 b7] 74 (0,0)))∧ae (Below w.heap.size w w'))
 case atStart=>exact⟨(bE),(wrap64 ((bE.length:Int)-1)),(cO),(ch),oS,H',⟨Nat.le_refl _⟩,⟨by(with_reducible repeat(first|apply Kd.cP|apply Kd.cQ|apply Kd.b_));exact Kd.aM dR.out (fun _ hk=>hk.2)⟩,⟨oF b1⟩,⟨oB⟩⟩
 case round=>
  clear H'
  try clear c3
  try clear c4
  obtain⟨b2,b4,b3,b7,rfl,HA,m1,b8,b1,HB⟩:=hrel;have bV:=(Kd.aU b8.out).1;rw[bV]at b8
  (try simp only[bV])
  (try simp only[bV]at b1)
  cases gk with
  |zero=>exact absurd HA.out (by simp[cf.l0])
  |succ k1=>
   have H:=HA.out;clear HA;simp only[cf.l0]at H;replace H:=ym H;rcases H with⟨jK,H⟩|⟨jK,H⟩;rotate_left
   ·obtain⟨mW,H⟩:=dw H;obtain⟨mX,H⟩:=dw H;obtain⟨gA,cx⟩:∃y_:List (cD),y_=(b2.set (b4:Int).toNat (⟨b3,b7⟩:cD)):=⟨_,rfl⟩;replace H:(some gA)=some r:=oY;have jL:=ae.mk cx;clear cx;obtain rfl:=Option.some.inj H
    try go_wp2
    replace b8:=am (Kd.b_ b8.out);replace b1:=am (ar b1.out);replace HB:=am (bl HB.out);refine qS 13 (fun w'=>True) cf.vM cf.rE trivial (fun hHeld aV fA=> ?_);generalize wr.drew=d5 at b8 b1 HB hHeld⊢;refine cG 0 16 aV ?_;refine cG 1 17 aV ?_;refine cG 2 18 aV ?_;refine iM 3 19 aV ?_;refine iM 4 20 aV ?_;refine iM 5 21 aV ?_;refine iM 6 22 aV ?_;refine iM 7 23 aV ?_;refine iM 8 24 aV ?_;refine iM 9 25 aV ?_;refine iM 10 26 aV ?_;refine iM 11 27 aV ?_;refine cG 12 28 aV ?_;refine nF aV ?_;obtain⟨⟨_,_⟩,_,_⟩:=z2 b1;have gB:0≤(b4:Int):=oa;have gC:(b4:Int)<((b2.length:Int):Int):=oa;obtain⟨bQ,zG,gD,gE,m7,zH,gF⟩:=Kd.jt b8.out (by omega)
    (first|cases gD|(injection gD with kL ry rz;(first|subst kL|(injection kL with kL;subst kL));subst rz;clear ry))
    have gG:=ae.mk gE;have zI:=ae.mk gF;clear gE m7 gF;obtain⟨zJ,jM,gH,dB,dC⟩:=Kd.ky b8.out z74 (b4:Int) gB gC;obtain rfl:=lr gH;have mH:d5.cell? ⟨bQ,(b4:Int).toNat*2,none⟩=some (.string ((aA b2 b4).f0)):=dB 0 _ rfl;have mI:d5.cell? ⟨bQ,(b4:Int).toNat*2+1,none⟩=some (.int .i64 ((aA b2 b4).f1)):=dB 1 _ rfl;have mJ:d5.frozen? ⟨bQ,(b4:Int).toNat*2,none⟩=false:=dC 0;have mK:d5.frozen? ⟨bQ,(b4:Int).toNat*2+1,none⟩=false:=dC 1;clear jM dB dC gH;replace gB:=eq_true gB;replace gC:=eq_true gC;have gI:=am (show Kd.R fL 74 d5 w.heap.size (fun k_=>k_≠b5) (.slice (some ⟨bQ,0,none⟩) b2.length bW) b2 from(oR b8));obtain⟨zK,dS,gJ,d1,dD⟩:=Kd.ky gI.out z74 (b4:Int) oa (by have h_:(b4:Int)<((b2.length:Int):Int):=oa;first|exact h_|(have e_:=(Kd.aU b8.out).1;omega)|simpa using h_);obtain rfl:=lr gJ;have dM:=Kd.rj gI.out (b4:Int) oa (by have h_:(b4:Int)<((b2.length:Int):Int):=oa;first|exact h_|(have e_:=(Kd.aU b8.out).1;omega)|simpa using h_) (seg:=[.string b3,.int .i64 b7]) (j:=0) dS d1 (show 2≤2 from by decide) (x':=(⟨b3,b7⟩:cD)) (ll _ _ _ (⟨b3,b7⟩:cD)) (fun _ hk=>hk);have gK:=d1 0 _ rfl
    (try simp only[show(fL).sz=2 from rfl,Nat.mul_one,Nat.add_zero]at gK)
    have gL:=dD 0
    (try simp only[show(fL).sz=2 from rfl,Nat.mul_one,Nat.add_zero]at gL)
    have gM:=d1 1 _ rfl
    (try simp only[show(fL).sz=2 from rfl,Nat.mul_one,Nat.add_zero]at gM)
    have gN:=dD 1
    (try simp only[show(fL).sz=2 from rfl,Nat.mul_one,Nat.add_zero]at gN)
    clear dS d1 dD gJ
    try go_wp2_with (first|((with_reducible refine fI (t:=74) (p:=42) rfl ?_);refine fs (t:=74) (p:=42) (v:= ?acL) (w1:=((d5.setCell ⟨bQ,(b4:Int).toNat*2,none⟩ (.string b3)).setCell ⟨bQ,(b4:Int).toNat*2+1,none⟩ (.int .i64 b7))) ?hg ?ho ?hn ?hr ?_;(case ho=>rfl);(case hg=>rfl);(case hn=>rfl);(case hr=>first|(go_simp;done)|(go_simp;rfl));intro gO hw;have hg:d5.grownBy gO (some bQ):=(by rw[hw];exact dM.2);have nU:Kd.R fL 74 gO w.heap.size (fun k_=>k_≠b5) (.slice (some ⟨bQ,0,none⟩) b2.length bW) gA:=(by rw[hw,jL.out];exact dM.1);clear dM;replace b1:=iF b1 hg (Kd.kg b8.out (fun _ hk=>hk));replace b8:=am (nU);replace HB:=am ((by rw[hw];exact a_ (a_ (HB.out) gG.out) gG.out:Below w.heap.size w gO));clear hg hw nU))
    go_ret
    exact⟨_,oE,mR b8,oB⟩
   obtain⟨b6,bX⟩:∃j_:Int,(wrap64 (b4-1))=j_:=⟨_,rfl⟩
   replace H:(if 0≤(b6)then(if(b6)<(b2.length:Int)then(if(Op.bytesLess b3.toList (((aA b2 (b6)).f0).toList))=true then(if 0≤b4 then(if b4<(b2.length:Int)then(cf.l0 k1 (b2.set (b4:Int).toNat (⟨(aA b2 (b6)).f0,(aA b2 (b6)).f1⟩:cD)) b6 b3 b7)else(none))else(none))else(if 0≤b4 then(if b4<(b2.length:Int)then(some (b2.set (b4:Int).toNat (⟨b3,b7⟩:cD)))else(none))else(none)))else(none))else(none))=some r:=by first|(rw[bX]at H;exact H)|(simp only[bX]at H⊢;exact H)
   have mL:(IntKind.i64.wrap (b4-1))=b6:=(kn _).trans bX;obtain⟨mY,H⟩:=dw H;obtain⟨mZ,H⟩:=dw H
   by_cases d9:(Op.bytesLess b3.toList (((aA b2 (b6)).f0).toList))=true
   rotate_left
   ·rw[if_neg d9]at H
    have dE:(Op.bytesLess b3.toList (((aA b2 (b6)).f0).toList))=false:=by simpa using d9
    have m8:(!Op.bytesLess (((aA b2 (b6)).f0).toList) b3.toList&& !((((aA b2 (b6)).f0).toList)==b3.toList))=false:=(tS _ _).trans dE;clear d9;obtain⟨zA,H⟩:=dw H;obtain⟨zB,H⟩:=dw H;obtain⟨gP,cx⟩:∃y_:List (cD),y_=(b2.set (b4:Int).toNat (⟨b3,b7⟩:cD)):=⟨_,rfl⟩;replace H:(some gP)=some r:=oY;have jN:=ae.mk cx;clear cx;obtain rfl:=Option.some.inj H
    try go_wp2
    replace b8:=am (Kd.b_ b8.out);replace b1:=am (ar b1.out);replace HB:=am (bl HB.out);have m9:(0≤((b6):Int))=True:=oT;have mA:((b6)<(b2.length:Int))=True:=oT;obtain⟨bO,dN,bH,bI⟩:=ec (Kd.aU b8.out).2.2 (b6) oa oa
    cases dN
    refine qS 13 (fun w'=>w'.cell? ⟨b5,0,none⟩=some (.string b3)∧w'.cell? ⟨b5,1,none⟩=some (.int .i64 b7)∧w'.cell? (bO.add (((b6)).toNat*2))=some (.string ((aA b2 (b6)).f0))∧w'.cell? ⟨(bO.add (((b6)).toNat*2)).block,(bO.add (((b6)).toNat*2)).off+1,none⟩=some (.int .i64 ((aA b2 (b6)).f1))) cf.vM cf.rE ⟨(aj b1.out 0).trans rfl,(aj b1.out 1).trans rfl,bH,bI⟩ (fun hHeld aV fA=> ?_);generalize wr.drew=d6 at b8 b1 HB bH bI hHeld⊢;refine cG 0 16 aV ?_;refine cG 1 17 aV ?_;refine cG 2 18 aV ?_;refine cG 3 19 aV ?_;refine cG 4 20 aV ?_;refine cG 5 21 aV ?_;refine cG 6 22 aV ?_;refine cG 7 23 aV ?_;refine cG 9 25 aV ?_;refine iA 8 24 aV fA hHeld ?_;refine iA 10 26 aV fA hHeld ?_;refine cG 11 27 aV ?_;refine cG 12 28 aV ?_;refine nF aV ?_;obtain⟨⟨_,_⟩,_,_⟩:=z2 b1;have gQ:0≤(b4:Int):=oa;have gR:(b4:Int)<((b2.length:Int):Int):=oa;obtain⟨bR,zL,gS,gT,mB,zM,gU⟩:=Kd.jt b8.out (by omega)
    (first|cases gS|(injection gS with kL ry rz;(first|subst kL|(injection kL with kL;subst kL));subst rz;clear ry))
    have gV:=ae.mk gT;have zN:=ae.mk gU;clear gT mB gU
    (first|simp only[add_plain]at bH|skip)
    (first|simp only[add_plain]at bI|skip)
    obtain⟨zO,jO,gW,dF,dG⟩:=Kd.ky b8.out z74 (b4:Int) gQ gR;obtain rfl:=lr gW;have mM:d6.cell? ⟨bR,(b4:Int).toNat*2,none⟩=some (.string ((aA b2 b4).f0)):=dF 0 _ rfl;have mN:d6.cell? ⟨bR,(b4:Int).toNat*2+1,none⟩=some (.int .i64 ((aA b2 b4).f1)):=dF 1 _ rfl;have mO:d6.frozen? ⟨bR,(b4:Int).toNat*2,none⟩=false:=dG 0;have mP:d6.frozen? ⟨bR,(b4:Int).toNat*2+1,none⟩=false:=dG 1;clear jO dF dG gW;replace gQ:=eq_true gQ;replace gR:=eq_true gR;have gX:=am (show Kd.R fL 74 d6 w.heap.size (fun k_=>k_≠b5) (.slice (some ⟨bR,0,none⟩) b2.length bW) b2 from(oR b8));obtain⟨zP,dT,gY,d2,dH⟩:=Kd.ky gX.out z74 (b4:Int) oa (by have h_:(b4:Int)<((b2.length:Int):Int):=oa;first|exact h_|(have e_:=(Kd.aU b8.out).1;omega)|simpa using h_);obtain rfl:=lr gY;have dO:=Kd.rj gX.out (b4:Int) oa (by have h_:(b4:Int)<((b2.length:Int):Int):=oa;first|exact h_|(have e_:=(Kd.aU b8.out).1;omega)|simpa using h_) (seg:=[.string b3,.int .i64 b7]) (j:=0) dT d2 (show 2≤2 from by decide) (x':=(⟨b3,b7⟩:cD)) (ll _ _ _ (⟨b3,b7⟩:cD)) (fun _ hk=>hk);have gZ:=d2 0 _ rfl
    (try simp only[show(fL).sz=2 from rfl,Nat.mul_one,Nat.add_zero]at gZ)
    have j1:=dH 0
    (try simp only[show(fL).sz=2 from rfl,Nat.mul_one,Nat.add_zero]at j1)
    have j2:=d2 1 _ rfl
    (try simp only[show(fL).sz=2 from rfl,Nat.mul_one,Nat.add_zero]at j2)
    have j3:=dH 1
    (try simp only[show(fL).sz=2 from rfl,Nat.mul_one,Nat.add_zero]at j3)
    clear dT d2 dH gY
    try go_wp2_with (first|((with_reducible refine fI (t:=74) (p:=42) rfl ?_);refine fs (t:=74) (p:=42) (v:= ?aaJ) (w1:=((d6.setCell ⟨bR,(b4:Int).toNat*2,none⟩ (.string b3)).setCell ⟨bR,(b4:Int).toNat*2+1,none⟩ (.int .i64 b7))) ?hg ?ho ?hn ?hr ?_;(case ho=>rfl);(case hg=>rfl);(case hn=>rfl);(case hr=>first|(go_simp;done)|(go_simp;rfl));intro j4 hw;have hg:d6.grownBy j4 (some bR):=(by rw[hw];exact dO.2);have nU:Kd.R fL 74 j4 w.heap.size (fun k_=>k_≠b5) (.slice (some ⟨bR,0,none⟩) b2.length bW) gP:=(by rw[hw,jN.out];exact dO.1);clear dO;replace b1:=iF b1 hg (Kd.kg b8.out (fun _ hk=>hk));replace b8:=am (nU);replace HB:=am ((by rw[hw];exact a_ (a_ (HB.out) gV.out) gV.out:Below w.heap.size w j4));clear hg hw nU))
    go_ret
    exact⟨_,by first|rfl|(simp[iv,iw]<;>rfl)|(simp only[←bX];first|rfl|(simp[iv,iw]<;>rfl))|(simp[*,iv,iw]<;>rfl),mR b8,oB⟩
   rw[if_pos d9]at H;have dE:(Op.bytesLess b3.toList (((aA b2 (b6)).f0).toList))=true:=d9;have m8:(!Op.bytesLess (((aA b2 (b6)).f0).toList) b3.toList&& !((((aA b2 (b6)).f0).toList)==b3.toList))=true:=(tS _ _).trans dE;clear d9;obtain⟨zC,H⟩:=dw H;obtain⟨zD,H⟩:=dw H;obtain⟨dP,cx⟩:∃y_:List (cD),y_=(b2.set (b4:Int).toNat (⟨(aA b2 (b6)).f0,(aA b2 (b6)).f1⟩:cD)):=⟨_,rfl⟩;replace H:(cf.l0 k1 dP b6 b3 b7)=some r:=oY;have jP:=ae.mk cx;clear cx;have H':=ae.mk H;clear H
   try go_wp2
   replace b8:=am (Kd.b_ b8.out);replace b1:=am (ar b1.out);replace HB:=am (bl HB.out);have m9:(0≤((b6):Int))=True:=oT;have mA:((b6)<(b2.length:Int))=True:=oT;obtain⟨bO,dN,bH,bI⟩:=ec (Kd.aU b8.out).2.2 (b6) oa oa
   cases dN
   refine qS 13 (fun w'=>w'.cell? ⟨b5,0,none⟩=some (.string b3)∧w'.cell? ⟨b5,1,none⟩=some (.int .i64 b7)∧w'.cell? (bO.add (((b6)).toNat*2))=some (.string ((aA b2 (b6)).f0))∧w'.cell? ⟨(bO.add (((b6)).toNat*2)).block,(bO.add (((b6)).toNat*2)).off+1,none⟩=some (.int .i64 ((aA b2 (b6)).f1))) cf.vM cf.rE ⟨(aj b1.out 0).trans rfl,(aj b1.out 1).trans rfl,bH,bI⟩ (fun hHeld aV fA=> ?_);generalize wr.drew=d7 at b8 b1 HB bH bI hHeld⊢;refine cG 0 16 aV ?_;refine cG 1 17 aV ?_;refine cG 2 18 aV ?_;refine cG 3 19 aV ?_;refine cG 4 20 aV ?_;refine cG 5 21 aV ?_;refine cG 6 22 aV ?_;refine cG 7 23 aV ?_;refine cG 9 25 aV ?_;refine iA 8 24 aV fA hHeld ?_;refine iA 10 26 aV fA hHeld ?_;refine cG 11 27 aV ?_;refine cG 12 28 aV ?_;refine nF aV ?_;have zQ:(0≤((b6):Int))=True:=oT;have zR:((b6)<(b2.length:Int))=True:=oT;obtain⟨jQ,mC,dV,dW⟩:=ec (Kd.aU b8.out).2.2 (b6) oa oa;obtain rfl:bO=jQ:=(by injection mC);have j5:0≤(b4:Int):=oa;have j6:(b4:Int)<((b2.length:Int):Int):=oa;obtain⟨bS,zS,j7,j8,mD,zT,j9⟩:=Kd.jt b8.out (by omega)
   (first|cases j7|(injection j7 with kL ry rz;(first|subst kL|(injection kL with kL;subst kL));subst rz;clear ry))
   have jA:=ae.mk j8;have zU:=ae.mk j9;clear j8 mD j9
   (first|simp only[add_plain]at bH|skip)
   (first|simp only[add_plain]at bI|skip)
   (first|simp only[add_plain]at dV|skip)
   (first|simp only[add_plain]at dW|skip)
   obtain⟨zV,jR,jB,dI,dJ⟩:=Kd.ky b8.out z74 (b4:Int) j5 j6;obtain rfl:=lr jB;have mQ:d7.cell? ⟨bS,(b4:Int).toNat*2,none⟩=some (.string ((aA b2 b4).f0)):=dI 0 _ rfl;have mS:d7.cell? ⟨bS,(b4:Int).toNat*2+1,none⟩=some (.int .i64 ((aA b2 b4).f1)):=dI 1 _ rfl;have mT:d7.frozen? ⟨bS,(b4:Int).toNat*2,none⟩=false:=dJ 0;have mU:d7.frozen? ⟨bS,(b4:Int).toNat*2+1,none⟩=false:=dJ 1;clear jR dI dJ jB;replace j5:=eq_true j5;replace j6:=eq_true j6;have jC:=am (show Kd.R fL 74 d7 w.heap.size (fun k_=>k_≠b5) (.slice (some ⟨bS,0,none⟩) b2.length bW) b2 from(oR b8));obtain⟨zW,dU,jD,d3,dK⟩:=Kd.ky jC.out z74 (b4:Int) oa (by have h_:(b4:Int)<((b2.length:Int):Int):=oa;first|exact h_|(have e_:=(Kd.aU b8.out).1;omega)|simpa using h_);obtain rfl:=lr jD;have dQ:=Kd.rj jC.out (b4:Int) oa (by have h_:(b4:Int)<((b2.length:Int):Int):=oa;first|exact h_|(have e_:=(Kd.aU b8.out).1;omega)|simpa using h_) (seg:=[.string ((aA b2 (b6)).f0),.int .i64 ((aA b2 (b6)).f1)]) (j:=0) dU d3 (show 2≤2 from by decide) (x':=(⟨(aA b2 (b6)).f0,(aA b2 (b6)).f1⟩:cD)) (ll _ _ _ (⟨(aA b2 (b6)).f0,(aA b2 (b6)).f1⟩:cD)) (fun _ hk=>hk);have jE:=d3 0 _ rfl
   (try simp only[show(fL).sz=2 from rfl,Nat.mul_one,Nat.add_zero]at jE)
   have jF:=dK 0
   (try simp only[show(fL).sz=2 from rfl,Nat.mul_one,Nat.add_zero]at jF)
   have jG:=d3 1 _ rfl
   (try simp only[show(fL).sz=2 from rfl,Nat.mul_one,Nat.add_zero]at jG)
   have jH:=dK 1
   (try simp only[show(fL).sz=2 from rfl,Nat.mul_one,Nat.add_zero]at jH)
   clear dU d3 dK jD
   try go_wp2_with (first|((with_reducible refine fI (t:=74) (p:=36) rfl ?_);refine fs (t:=74) (p:=36) (v:= ?acM) (w1:=((d7.setCell ⟨bS,(b4:Int).toNat*2,none⟩ (.string ((aA b2 (b6)).f0))).setCell ⟨bS,(b4:Int).toNat*2+1,none⟩ (.int .i64 ((aA b2 (b6)).f1)))) ?hg ?ho ?hn ?hr ?_;(case ho=>rfl);(case hg=>rfl);(case hn=>rfl);(case hr=>first|(go_simp;done)|(go_simp;rfl));intro jI hw;have hg:d7.grownBy jI (some bS):=(by rw[hw];exact dQ.2);have nU:Kd.R fL 74 jI w.heap.size (fun k_=>k_≠b5) (.slice (some ⟨bS,0,none⟩) b2.length bW) dP:=(by rw[hw,jP.out];exact dQ.1);clear dQ;replace b1:=iF b1 hg (Kd.kg b8.out (fun _ hk=>hk));replace b8:=am (nU);replace HB:=am ((by rw[hw];exact a_ (a_ (HB.out) jA.out) jA.out:Below w.heap.size w jI));clear hg hw nU))
   (try simp only[←bV])
   go_roundg k1
   case measure=>have:=m1.out;omega
   case rel=>exact⟨(dP),(b6),(b3),(b7),(by first|rfl|(simp;done)|(simp only[←bX]<;>(first|rfl|simp))|(simp[*];done)),H',⟨by have:=m1.out;omega⟩,⟨by(try simp only[bV]);(with_reducible repeat(first|apply Kd.cP|apply Kd.cQ|apply Kd.b_));exact b8.out⟩,⟨by(try simp only[bV]);(with_reducible repeat(first|refine bm ?_ _|refine ar ?_|refine ax ?_ _));exact b1.out⟩,⟨oB⟩⟩
end Go.Proofs.YtkfoopcpihmbmaaGreatDoor.P
