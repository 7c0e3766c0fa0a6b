-- Printed walks.
import Derived.Test.YtkfoopcpihmbmaaGreatDoorPx6
set_option linter.all false
set_option maxHeartbeats 8000000
set_option maxRecDepth 100000
namespace Go.Proofs.YtkfoopcpihmbmaaGreatDoor.P
open Go.RowKit Go.Proofs.ab.av Go.Proofs.ab.aQ Go.Proofs.ab.aT Go.Proofs.Tryz
attribute [local go_sem] fP fQ hJ hO fm fo fR fS

mutual
def aX.j1:Nat→List ByteArray→List Int→Int→Int→Int→Int→Int→List Int→List (cD)→Option (Int×Int×Int×List Int×(List (cD))×(List (bj))×Int×Int)
 |0,_,_,_,_,_,_,_,_,_=>none
 |k+1,x4,b6,b7,b8,b1,b2,b3,b4,b5=>aX.l1 k x4 0 b6 b7 b8 b1 b2 b3 b4 b5 ([]:List (bj))
def aX.l1:Nat→List ByteArray→Int→List Int→Int→Int→Int→Int→Int→List Int→List (cD)→List (bj)→Option (Int×Int×Int×List Int×(List (cD))×(List (bj))×Int×Int)
 |0,_,_,_,_,_,_,_,_,_,_,_=>none
 |k+1,x4,x6,b8,bB,bC,b3,b4,b5,b6,b7,b1=>if x6<2 then((eF.f b8 bB bC 3).bind fun b2=>(if b2.1=true then(if 0≤x6 then(if x6<(x4.length:Int)then((dj.f b8 b2.2.1 b2.2.2 (([(⟨#[120]⟩:ByteArray),(⟨#[118,97,108,117,101]⟩:ByteArray),(⟨#[115,105,120,116,101,101,110,98,121,116,101,115,120,120,120,120]⟩:ByteArray)]:List ByteArray))).bind fun b9=>(if b1.length<4398046511104 then(aX.l1 k x4 (wrap64 (x6+1)) b8 b9.2.1 b9.2.2 b3 b4 b5 b6 b7 (b1++[(⟨dr ByteArray.empty x4 x6,b9.1⟩:bj)]))else(none)))else(none))else(none))else(aX.l1 k x4 (wrap64 (x6+1)) b8 b2.2.1 b2.2.2 b3 b4 b5 b6 b7 b1)))else(some (b3,b4,b5,b6,b7,b1,bB,bC))
def aX.l0:Nat→List ByteArray→Int→List Int→Int→Int→Int→Int→Int→List (cD)→Option (Int×Int×Int×List Int×(List (cD))×(List (bj))×Int×Int)
 |0,_,_,_,_,_,_,_,_,_=>none
 |k+1,x4,x5,b6,b8,b9,b3,b4,b5,b1=>if x5<4 then((eF.f b6 b8 b9 2).bind fun b2=>(if b2.1=true then(if 0≤x5 then(if x5<(x4.length:Int)then((br.f b6 b2.2.1 b2.2.2 8).bind fun b7=>(if b1.length<5864062014805 then(aX.l0 k x4 (wrap64 (x5+1)) b6 b7.2.1 b7.2.2 b3 b4 b5 (b1++[(⟨dr ByteArray.empty x4 x5,wrap64 (2+b7.1)⟩:cD)]))else(none)))else(none))else(none))else(aX.l0 k x4 (wrap64 (x5+1)) b6 b2.2.1 b2.2.2 b3 b4 b5 b1)))else(aX.j1 k x4 b6 b8 b9 b3 b4 b5 ([]:List Int) b1)
end
def aX.f (k:Nat) (bd:List Int) (de:Int) (df:Int):Option (Int×Int×Int×List Int×(List (cD))×(List (bj))×Int×Int):=(br.f bd de df 6).bind fun b2=>((br.f bd b2.2.1 b2.2.2 2).bind fun b1=>((some (([(⟨#[97]⟩:ByteArray),(⟨#[98]⟩:ByteArray),(⟨#[99]⟩:ByteArray),(⟨#[100,46,116,120,116]⟩:ByteArray)]:List ByteArray):List ByteArray)).bind fun b6=>(if(wrap64 (1+b1.1))=1 then((cN.f bd b1.2.1 b1.2.2 (([0,1,5,20,100]:List Int))).bind fun b3=>((cV.f k bd b3.2.1 b3.2.2 b3.1).bind fun b4=>((br.f bd b4.2.1 b4.2.2 2).bind fun b5=>(aX.j1 k b6 bd b5.2.1 b5.2.2 (wrap64 (2+b2.1)) (wrap64 (1+b1.1)) (wrap64 (1+b5.1)) b4.1 ([]:List (cD))))))else(aX.l0 k b6 0 bd b1.2.1 b1.2.2 (wrap64 (2+b2.1)) (wrap64 (1+b1.1)) 1 ([]:List (cD))))))
def aX.T10:Bool×List (List Nat×List Nat):=(true,[([],[]),([0],[0]),([],[]),([],[]),([2,3],[2,3]),([4],[4]),([],[]),([6],[6]),([7],[7]),([5,8],[5,8]),([9],[9]),([1,10,7],[1,10]),([0,1,2,3,4,5,6,7,8,9,10,11],[]),([12,11,11,0,1,2,3,4,5,6,7,8,9,10,11],[11,12])])
def aX.B10:List Nat:=[0,1,0,0,12,28,0,64,192,508,1020,2047,4095,8191]
theorem aX.rD:fK .any (opsOf Tryz.f139 10)=aX.T10:=by kernel_rfl
theorem aX.pk:ep aX.T10.2 aX.B10=true:=by kernel_rfl
def aX.T15:Bool×List (List Nat×List Nat):=(true,[([],[]),([0],[0]),([],[]),([],[]),([2,3],[2,3]),([4],[4]),([],[]),([],[]),([6,7],[6,7]),([5,8],[5,8]),([9],[9]),([1,10,8],[1,10]),([0,1,2,3,4,5,6,7,8,9,10,11],[]),([12,11,11,0,1,2,3,4,5,6,7,8,9,10,11],[11,12])])
def aX.B15:List Nat:=[0,1,0,0,12,28,0,0,192,508,1020,2047,4095,8191]
theorem aX.adh:fK .any (opsOf Tryz.f139 15)=aX.T15:=by kernel_rfl
theorem aX.acJ:ep aX.T15.2 aX.B15=true:=by kernel_rfl
theorem aX.calls (k:Nat) (g:Nat) (bd:List Int) (de:Int) (df:Int) (r1:Int) (r2:Int) (r3:Int) (r4:List Int) (r5:List (cD)) (r6:List (bj)) (r7:Int) (r8:Int) (w0 w:World) (hI:ak w0 w g bd de df) (hB:Below w0.heap.size w0 w) (h:aX.f k bd de df=some (r1,r2,r3,r4,r5,r6,r7,r8)):
  Calls Tryz.prog 139 #[.pointer (some ⟨g,0,none⟩)] w fun e w'=>∃pJ pK pL:Value,e= .returned (.agg #[.int .i64 r1,.int .i64 r2,.int .i64 r3,pJ,pK,pL])∧Kd.R (Kd.int .u8) 5 w' w.heap.size (fun _=>True) pJ r4∧Kd.R fL 74 w' w.heap.size (fun _=>True) pK r5∧Kd.R dn 101 w' w.heap.size (fun _=>True) pL r6∧ak w0 w' g bd r7 r8∧Below w0.heap.size w0 w'∧aI w w' g none:=by
 have zL:=underlying32;have zM:=underlying74;have mK:=underlying101;have HI0:=ae.mk hI;have HK:=am (aI.refl w g none);have HL:=ae.mk hB.size;clear hI;have HW0:=ae.mk hB.size;have HB:=ae.mk hB;clear hB;unfold aX.f at h;have H:=h;clear h;replace H:=bA H;obtain⟨⟨bD,gJ,gK⟩,A2,H⟩:=H
 try dsimp only at H
 replace H:=bA H;obtain⟨⟨b8,d5,d6⟩,A3,H⟩:=H
 try dsimp only at H
 obtain⟨b9,cx⟩:∃y_:List ByteArray,y_=(([(⟨#[97]⟩:ByteArray),(⟨#[98]⟩:ByteArray),(⟨#[99]⟩:ByteArray),(⟨#[100,46,116,120,116]⟩:ByteArray)]:List ByteArray)):=⟨_,rfl⟩;replace H:(if(wrap64 (1+b8))=1 then((cN.f bd d5 d6 (([0,1,5,20,100]:List Int))).bind fun bZ=>((cV.f k bd bZ.2.1 bZ.2.2 bZ.1).bind fun d1=>((br.f bd d1.2.1 d1.2.2 2).bind fun d2=>(aX.j1 k b9 bd d2.2.1 d2.2.2 (wrap64 (2+bD)) (wrap64 (1+b8)) (wrap64 (1+d2.1)) d1.1 ([]:List (cD))))))else(aX.l0 k b9 0 bd d5 d6 (wrap64 (2+bD)) (wrap64 (1+b8)) 1 ([]:List (cD))))=some (r1,r2,r3,r4,r5,r6,r7,r8):=oY;have gD:=ae.mk cx;clear cx;have gX:=ae.mk H;clear H
 go_enter func139,ntmps139
 go_upto_if 17 with(first|((with_reducible refine au (N:=2) rfl ?_);refine fz 2 #[.int .i64 0,.int .i64 0,.int .i64 0,.slice none 0 0,.slice none 0 0,.slice none 0 0] 32 ?_;intro dB hg w5 hbox hb;have b3:=am (hbox);have bN:=gw_ hg HK;have bV:=ge_ HW0 bN;have bI:=nV hg HI0;have bJ:=nW hg HI0;replace HK:=hk1 HK hb;replace HI0:=fk HI0 hb;replace HB:=fi hb;clear hb hbox hg)|((with_reducible refine ag (f:=101) rfl ?_);refine dk 8 func101 (br.calls g bd de df 6 bD gJ gK w0 _ ?aC ?bh A2.out) ?_;(case aC=>exact cK);(case bh=>exact dg);rintro e w6 ⟨rfl,hi,hb,hk⟩;refine⟨_,rfl,?_⟩;replace b3:=iL b3 hk bJ;replace HK:=hk2 HK hk;replace HI0:=am (hi);replace HB:=am (hb);(try clear hk);(try clear hi))|((with_reducible refine ag (f:=101) rfl ?_);refine dk 11 func101 (br.calls g bd gJ gK 2 b8 d5 d6 w0 _ ?aC ?bh A3.out) ?_;(case aC=>exact cK);(case bh=>exact dg);rintro e w7 ⟨rfl,hi,hb,hk⟩;refine⟨_,rfl,?_⟩;replace b3:=iL b3 hk bJ;replace HK:=hk2 HK hk;replace HI0:=am (hi);replace HB:=am (hb);(try clear hk);(try clear hi))|((with_reducible refine au (N:=3) rfl ?_);refine fz 3 #[.int .i64 0,.int .i64 0,.int .i64 0,.slice none 0 0,.slice none 0 0,.slice none 0 0] 32 ?_;intro b7 hg w8 hbox hb;have b1:=am (hbox);have bO:=gw_ hg HK;have bW:=ge_ HW0 bO;have bP:=fX hg b3;have bQ:=fY hg b3;have bC:=nV hg HI0;have bK:=nW hg HI0;replace b3:=ba b3 hb;replace HK:=hk1 HK hb;replace HI0:=fk HI0 hb;replace HB:=fi hb;clear hb hbox hg;have zN:=bQ.out;have zO:=bP.out;have mL:=bK.out;have mM:=bC.out;obtain⟨⟨_,_,_,_,_,_⟩,_,_,_,_,_,_⟩:=z6 b1)|((with_reducible refine au (N:=14) rfl ?_);refine Kd.gu Kd.string _ 9 ?hg (N:=14) ?hd (xs:=([(⟨#[97]⟩:ByteArray),(⟨#[98]⟩:ByteArray),(⟨#[99]⟩:ByteArray),(⟨#[100,46,116,120,116]⟩:ByteArray)]:List ByteArray)) (inner:=[.string (⟨#[97]⟩:ByteArray),.string (⟨#[98]⟩:ByteArray),.string (⟨#[99]⟩:ByteArray),.string (⟨#[100,46,116,120,116]⟩:ByteArray)]) (ok:=fun _=>True) (fw:=fun _=>True) ?hr ?hp (fun _ hk=>hk) trivial (Below.refl _ _) (Nat.le_refl _) (by simp) ?_;(case hd=>rfl);(case hg=>rfl);(case hr=>(go_simp;done));(case hp=>exact(bp.one (show Kd.M Kd.string _ _ _ (⟨#[97]⟩:ByteArray) [.string (⟨#[97]⟩:ByteArray)]from rfl) (bp.one (show Kd.M Kd.string _ _ _ (⟨#[98]⟩:ByteArray) [.string (⟨#[98]⟩:ByteArray)]from rfl) (bp.one (show Kd.M Kd.string _ _ _ (⟨#[99]⟩:ByteArray) [.string (⟨#[99]⟩:ByteArray)]from rfl) (bp.one (show Kd.M Kd.string _ _ _ (⟨#[100,46,116,120,116]⟩:ByteArray) [.string (⟨#[100,46,116,120,116]⟩:ByteArray)]from rfl) (bp.none _ _))))));intro dT zZ dN hb fN cj;clear fN cj;(rw[←gD.out]at dN);have bR:=am (Kd.aq dN (kz HK));replace b3:=ba b3 hb;replace b1:=mc #[.int .i64 (wrap64 (2+bD)),.int .i64 (wrap64 (1+b8)),.int .i64 1,.slice none 0 0,.slice none 0 0,.slice none 0 0] b1 hb;replace HK:=hk1 HK hb;replace HI0:=am (ak.below (show ak w0 ((((((w8.setCell ⟨b7,0,none⟩ (.int .i64 (wrap64 (2+bD)))).setCell ⟨b7,1,none⟩ (.int .i64 (wrap64 (1+b8)))).setCell ⟨b7,2,none⟩ (.int .i64 1)).setCell ⟨b7,3,none⟩ (.slice none 0 0)).setCell ⟨b7,4,none⟩ (.slice none 0 0)).setCell ⟨b7,5,none⟩ (.slice none 0 0)) g bd d5 d6 from cK) hb);replace HB:=fi hb;clear hb dN;obtain⟨⟨_,_,_,_,_,_⟩,_,_,_,_,_,_⟩:=z6 b1))
 go_cut [] (fun wc=>∃(kq:Nat) (d7:Int) (d8:Int) (bE:Int) (bG:List Int) (bH:List (cD)) (bX:Value) (bB:Value),ae (aX.j1 kq b9 bd d7 d8 (wrap64 (2+bD)) (wrap64 (1+b8)) bE bG bH=some (r1,r2,r3,r4,r5,r6,r7,r8))∧ae (kq≤k)∧ae (Kd.R Kd.string 9 wc w.heap.size (fun _=>True) dT b9)∧ae (Kd.R (Kd.int .u8) 5 wc w.heap.size (fun _=>True) bX bG)∧ae (Kd.R fL 74 wc w.heap.size (fun _=>True) bB bH)∧ae (wc.heap[dB]? =some (.cells #[.int .i64 0,.int .i64 0,.int .i64 0,(.slice none 0 0),(.slice none 0 0),(.slice none 0 0)] 32 (0,0)))∧ae (wc.heap[b7]? =some (.cells #[.int .i64 (wrap64 (2+bD)),.int .i64 (wrap64 (1+b8)),.int .i64 bE,bX,bB,(.slice none 0 0)] 32 (0,0)))∧ae (ak w0 wc g bd d7 d8)∧ae (aI w wc g none)∧ae (Below w0.heap.size w0 wc))
 case first=>
  have H:=gX.out;clear gX
  by_cases dJ:(wrap64 (1+b8))=1
  ·rw[if_pos dJ]at H;have dC:((wrap64 (1+b8))==1)=true:=beq_iff_eq.mpr dJ;have dU:((wrap64 (1+b8)) !=1)=false:=bne_eq_false_iff_eq.mpr dJ;clear dJ
   (rw[dC])
   obtain⟨gL,cx⟩:∃y_:List Int,y_=(([0,1,5,20,100]:List Int)):=⟨_,rfl⟩;replace H:((cN.f bd d5 d6 gL).bind fun bZ=>((cV.f k bd bZ.2.1 bZ.2.2 bZ.1).bind fun d1=>((br.f bd d1.2.1 d1.2.2 2).bind fun d2=>(aX.j1 k b9 bd d2.2.1 d2.2.2 (wrap64 (2+bD)) (wrap64 (1+b8)) (wrap64 (1+d2.1)) d1.1 ([]:List (cD))))))=some (r1,r2,r3,r4,r5,r6,r7,r8):=oY;have gE:=ae.mk cx;clear cx;replace H:=bA H;obtain⟨⟨gM,gN,gO⟩,m8,H⟩:=H
   try dsimp only at H
   replace H:=bA H;obtain⟨⟨dK,gP,gQ⟩,m9,H⟩:=H
   try dsimp only at H
   replace H:=bA H;obtain⟨⟨gR,gS,gT⟩,mA,H⟩:=H
   try dsimp only at H
   have H':=ae.mk H;clear H
   go_wp2_with (first|((with_reducible refine au (N:=20) rfl ?_);refine Kd.gu (Kd.int .i64) _ 3 ?hg (N:=20) ?hd (xs:=([0,1,5,20,100]:List Int)) (inner:=[.int .i64 0,.int .i64 1,.int .i64 5,.int .i64 20,.int .i64 100]) (ok:=fun _=>True) (fw:=fun _=>True) ?hr ?hp (fun _ hk=>hk) trivial (Below.refl _ _) (Nat.le_refl _) (by simp) ?_;(case hd=>rfl);(case hg=>rfl);(case hr=>(go_simp;done));(case hp=>exact(bp.one (show Kd.M (Kd.int .i64) _ _ _ 0 [.int .i64 0]from rfl) (bp.one (show Kd.M (Kd.int .i64) _ _ _ 1 [.int .i64 1]from rfl) (bp.one (show Kd.M (Kd.int .i64) _ _ _ 5 [.int .i64 5]from rfl) (bp.one (show Kd.M (Kd.int .i64) _ _ _ 20 [.int .i64 20]from rfl) (bp.one (show Kd.M (Kd.int .i64) _ _ _ 100 [.int .i64 100]from rfl) (bp.none _ _)))))));intro mN w19 dO hb fN cj;clear fN cj;(rw[←gE.out]at dO);have bS:=am (Kd.aq dO (kz HK));replace bR:=dm bR hb;replace b3:=ba b3 hb;replace b1:=ba b1 hb;replace HK:=hk1 HK hb;replace HI0:=fk HI0 hb;replace HB:=fi hb;clear hb dO;obtain⟨zP,zQ,jO⟩:=Kd.ao bS.out;subst jO)|((with_reducible refine ag (f:=53) rfl ?_);refine dk 21 func53 (cN.calls g bd d5 d6 _ _ gL gM gN gO w0 _ ?aC ?bh (kO bS) (ko bS) ?ga m8.out) ?_;(case aC=>exact cK);(case bh=>exact dg);(case ga=>exact fC (ak.own_ne HI0.out bS.out (by decide)));rintro e w22 ⟨rfl,hi,hb,hk⟩;refine⟨_,rfl,?_⟩;replace b3:=iL b3 hk bJ;replace b1:=iL b1 hk bK;replace bR:=cY HI0 (oR bR) hk;replace bS:=cY HI0 (oR bS) hk;replace HK:=hk2 HK hk;replace HI0:=am (hi);replace HB:=am (hb);(try clear hk);(try clear hi))|((with_reducible refine ag (f:=132) rfl ?_);refine dk 22 func132 (cV.calls k g bd gN gO gM dK gP gQ w0 _ ?aC ?bh m9.out) ?_;(case aC=>exact cK);(case bh=>exact dg);rintro e w23 ⟨mO,rfl,mB,hi,hb,hk⟩;refine⟨_,rfl,?_⟩;have dD:=am (Kd.aq mB (kz HK));replace b3:=iL b3 hk bJ;replace b1:=iL b1 hk bK;replace bR:=cY HI0 (oR bR) hk;replace bS:=cY HI0 (oR bS) hk;replace HK:=hk2 HK hk;replace HI0:=am (hi);replace HB:=am (hb);(try clear hk);(try clear hi);obtain⟨gY,gZ,jP⟩:=Kd.ao dD.out;subst jP;have mP:=bQ.out;have mQ:=bP.out;have mS:=bK.out;have mT:=bC.out;obtain⟨⟨_,_,_,_,_,_⟩,_,_,_,_,_,_⟩:=z6 b1)|((with_reducible refine ag (f:=101) rfl ?_);refine dk 25 func101 (br.calls g bd gP gQ 2 gR gS gT w0 _ ?aC ?bh mA.out) ?_;(case aC=>exact cK);(case bh=>exact dg);rintro e w28 ⟨rfl,hi,hb,hk⟩;refine⟨_,rfl,?_⟩;replace b3:=iL b3 hk bJ;replace bR:=cY HI0 (vp bR b1) hk;replace bS:=cY HI0 (vp bS b1) hk;replace dD:=cY HI0 (vp dD b1) hk;replace b1:=kq_ #[.int .i64 (wrap64 (2+bD)),.int .i64 (wrap64 (1+b8)),.int .i64 1,.slice gY dK.length gZ,.slice none 0 0,.slice none 0 0] b1 hk bK;replace HK:=hk2 HK hk;replace HI0:=am (hi);replace HB:=am (hb);(try clear hk);(try clear hi);obtain⟨⟨_,_,_,_,_,_⟩,_,_,_,_,_,_⟩:=z6 b1))
   go_meet
   case rel=>exact⟨_,(gS),(gT),(wrap64 (1+gR)),(dK),(([]:List (cD))),(.slice gY dK.length gZ),(.slice none 0 0),H',⟨by omega⟩,⟨nM bR b1⟩,⟨nM dD b1⟩,⟨by exact Kd.er _ _ _ _ _⟩,⟨oF b3⟩,⟨oP b1⟩,⟨by repeat((with_reducible first|exact HI0.out|refine ak.far ?_ bC.out _))⟩,⟨by repeat((with_reducible first|exact HK.out|refine cu ?_ bO.out _))⟩,⟨by repeat((with_reducible first|exact HB.out|refine a_ ?_ bW.out))⟩⟩
  rw[if_neg dJ]at H;have dC:((wrap64 (1+b8))==1)=false:=beq_eq_false_iff_ne.mpr dJ;have dU:((wrap64 (1+b8)) !=1)=true:=bne_iff_ne.mpr dJ
  (rw[dC])
  have H':=ae.mk H;clear H
  go_wp2
  go_loopg [5] k (fun kq v5 w'=>∃(bT:Int) (d3:Int) (d4:Int) (bL:List (cD)) (bB:Value),v5= .int .i64 bT∧ae (aX.l0 kq b9 bT bd d3 d4 (wrap64 (2+bD)) (wrap64 (1+b8)) 1 bL=some (r1,r2,r3,r4,r5,r6,r7,r8))∧ae (kq≤k)∧ae (Kd.R Kd.string 9 w' w.heap.size (fun _=>True) dT b9)∧ae (Kd.R fL 74 w' w.heap.size (fun _=>True) bB bL)∧ae (w'.heap[dB]? =some (.cells #[.int .i64 0,.int .i64 0,.int .i64 0,(.slice none 0 0),(.slice none 0 0),(.slice none 0 0)] 32 (0,0)))∧ae (w'.heap[b7]? =some (.cells #[.int .i64 (wrap64 (2+bD)),.int .i64 (wrap64 (1+b8)),.int .i64 1,(.slice none 0 0),bB,(.slice none 0 0)] 32 (0,0)))∧ae (ak w0 w' g bd d3 d4)∧ae (aI w w' g none)∧ae (Below w0.heap.size w0 w'))
  case atStart=>exact⟨(0),(d5),(d6),(([]:List (cD))),(.slice none 0 0),oS,H',⟨Nat.le_refl _⟩,⟨oR bR⟩,⟨by exact Kd.er _ _ _ _ _⟩,⟨oF b3⟩,⟨oF b1⟩,⟨HI0.out⟩,⟨HK.out⟩,⟨HB.out⟩⟩
  case round=>
   clear H'
   try clear dJ
   obtain⟨bT,d3,d4,bL,bB,rfl,HA,gF,b6,b2,b3,b1,HI0,HK,HB⟩:=hrel
   cases gk with
   |zero=>exact absurd HA.out (by simp[aX.l0])
   |succ k1=>
    have H:=HA.out;clear HA;simp only[aX.l0]at H;replace H:=kU H;rcases H with⟨jC,H⟩|⟨jC,H⟩;rotate_left
    ·have H':=ae.mk H;clear H
     go_wp2
     go_meet
     case rel=>exact⟨_,(d3),(d4),(1),(([]:List Int)),(bL),(.slice none 0 0),(bB),H',⟨by have:=gF.out;omega⟩,⟨oR b6⟩,⟨by exact Kd.er _ _ _ _ _⟩,⟨oR b2⟩,⟨oF b3⟩,⟨oF b1⟩,⟨HI0.out⟩,⟨HK.out⟩,⟨HB.out⟩⟩
    replace H:=bA H;obtain⟨⟨jD,dV,dW⟩,mC,H⟩:=H
    try dsimp only at H
    have j1:=ae.mk H;clear H
    go_upto_if 33 with(((with_reducible refine ag (f:=68) rfl ?_);refine dk 33 func68 (eF.calls g bd d3 d4 2 jD dV dW w0 _ ?aC ?bh mC.out) ?_;(case aC=>exact cK);(case bh=>exact dg);rintro e mD ⟨rfl,hi,hb,hk⟩;refine⟨_,rfl,?_⟩;replace b6:=cY HI0 (oR b6) hk;replace b2:=cY HI0 (oR b2) hk;replace b3:=iL b3 hk bJ;replace b1:=iL b1 hk bK;replace HK:=hk2 HK hk;replace HI0:=am (hi);replace HB:=am (hb);(try clear hk);(try clear hi)))
    have H:=j1.out;clear j1;replace H:=jl H;rcases H with⟨rfl,H⟩|⟨rfl,H⟩;rotate_left
    ·have H':=ae.mk H;clear H
     go_wp2
     go_roundg k1
     case measure=>have:=gF.out;omega
     case rel=>exact⟨(wrap64 (bT+1)),(dV),(dW),(bL),(bB),oS,H',⟨by have:=gF.out;omega⟩,⟨oR b6⟩,⟨oR b2⟩,⟨oF b3⟩,⟨oF b1⟩,⟨HI0.out⟩,⟨HK.out⟩,⟨HB.out⟩⟩
    obtain⟨jE,H⟩:=dw H
    (skip)
    obtain⟨mU,H⟩:=dw H;replace H:=bA H;obtain⟨⟨dE,dX,dY⟩,mE,H⟩:=H
    try dsimp only at H
    obtain⟨jM,H⟩:=jm H;have jF:=ae.mk jM;clear jM;obtain⟨dZ,cx⟩:∃y_:List (cD),y_=(bL++[(⟨dr ByteArray.empty b9 bT,wrap64 (2+dE)⟩:cD)]):=⟨_,rfl⟩;replace H:(aX.l0 k1 b9 (wrap64 (bT+1)) bd dX dY (wrap64 (2+bD)) (wrap64 (1+b8)) 1 dZ)=some (r1,r2,r3,r4,r5,r6,r7,r8):=oY;have j2:=ae.mk cx;clear cx;have H':=ae.mk H;clear H
    try go_wp2
    replace b6:=am (Kd.b_ b6.out);replace b2:=am (Kd.b_ b2.out);replace b3:=am (ar b3.out);replace b1:=am (ar b1.out);replace HI0:=am (ak.drew HI0.out);replace HK:=am (fH HK.out);replace HB:=am (bl HB.out);obtain⟨zR,zS,j3⟩:=Kd.ao b6.out
    (subst j3)
    have mV:(0≤(bT:Int))=True:=oT;have mW:(bT<(b9.length:Int))=True:=oT;obtain⟨j4,jG,dP⟩:=Kd.ei (Kd.aU b6.out).2.2 bT oa oa
    cases jG
    refine iY (n:=14) (S:=fun w'=>w'.cell? ⟨b7,0,none⟩=some (.int .i64 (wrap64 (2+bD)))∧w'.cell? ⟨b7,1,none⟩=some (.int .i64 (wrap64 (1+b8)))∧w'.cell? ⟨b7,2,none⟩=some (.int .i64 1)∧w'.cell? ⟨b7,3,none⟩=some (.slice none 0 0)∧w'.cell? ⟨b7,4,none⟩=some (bB)∧w'.cell? ⟨b7,5,none⟩=some (.slice none 0 0)∧w'.cell? (j4.add (bT).toNat)=some (.string (dr ByteArray.empty b9 bT))) (ds:=[11,13]) (lb 14 0) (by kernel_rfl) rfl rfl ⟨(aj b1.out 0).trans rfl,(aj b1.out 1).trans rfl,(aj b1.out 2).trans rfl,(aj b1.out 3).trans rfl,(aj b1.out 4).trans rfl,(aj b1.out 5).trans rfl,dP⟩ (fun hHeld=> ?_);refine fW aX.rD aX.pk (fun aV fA=> ?_);generalize mD.drew=w39 at b6 b2 b3 b1 HI0 HK HB dP hHeld⊢;refine cG 0 34 aV ?_;refine cG 2 36 aV ?_;refine cG 3 37 aV ?_;refine cG 4 38 aV ?_;refine cG 6 40 aV ?_;refine iA 1 35 aV fA hHeld ?_;refine iA 5 39 aV fA hHeld ?_;refine jg 7 41 aV (fun K hK=> ?_);refine mo 41 func101 (br.calls g bd dV dW 8 dE dX dY w0 _ ?aC ?bh mE.out) ?_
    (case aC=>exact cK)
    (case bh=>exact dg)
    rintro e w41 ⟨rfl,hi,hb,hk⟩;have dQ:=ov hk (hHeld.2.2.2.2.2.2) (by(rw[add_block];exact Kd.sX (ak.own_ne HI0.out b6.out (by decide))));refine⟨_,rfl,?_⟩;replace b6:=cY HI0 (oR b6) hk;replace b2:=cY HI0 (oR b2) hk;replace b3:=iL b3 hk bJ;replace b1:=iL b1 hk bK;replace HK:=hk2 HK hk;replace HI0:=am (hi);replace HB:=am (hb)
    (try clear hk)
    (try clear hi)
    refine aZ hK 41 ⟨(aj b1.out 0).trans rfl,(aj b1.out 1).trans rfl,(aj b1.out 2).trans rfl,(aj b1.out 3).trans rfl,(aj b1.out 4).trans rfl,(aj b1.out 5).trans rfl,dQ⟩ (fun hHeld=> ?_);clear hK K;refine cG 8 42 aV ?_;refine cG 9 43 aV ?_;refine jg 10 44 aV (fun K hK=> ?_);refine mg (w1:= ?_) (v:= ?_) (by rfl) rfl ?_ ?_;rotate_left 2
    ·go_simp
     constructor
     ·rfl
     ·rfl
    refine aZ hK 44 ⟨(aj (ax b1.out _) 0).trans rfl,(aj (ax b1.out _) 1).trans rfl,(aj (ax b1.out _) 2).trans rfl,(aj (ax b1.out _) 3).trans rfl,(aj (ax b1.out _) 4).trans rfl,(aj (ax b1.out _) 5).trans rfl,(World.cell?_alloc_lt _ _ _ (World.block_lt_of_cell? _ _ (hHeld.2.2.2.2.2.2))).trans (hHeld.2.2.2.2.2.2)⟩ (fun hHeld=> ?_);clear hK K;refine kJ (i:=11) (N:=some 45) (lb 14 4095) rfl rfl (iE aV.out (by kernel_rfl)) (by decide) (fun K hK=> ?_);refine Kd.iQ fL w.heap.size (by rfl) (.tmp 35) (.tmp 44) 29 74 (.agg #[(.string ⟨#[]⟩),(.int .i64 0)]) 24 rfl underlying29 nj rfl (by decide) (by omega) bB bL (⟨dr ByteArray.empty b9 bT,wrap64 (2+dE)⟩:cD) [.string (dr ByteArray.empty b9 bT),.int .i64 (wrap64 (2+dE))] (fun _=>True) (fun _=>False) rfl rfl ?aP (fun _ hk=>hk.elim) ?aF ?aO (Below.refl _ _) ?aS ?aL ?_
    (case aP=>exact ll _ _ _ (⟨dr ByteArray.empty b9 bT,wrap64 (2+dE)⟩:cD))
    (case aF=>exact(fun _ _=>trivial))
    (case aO=>exact(oR b2))
    (case aS=>exact(kz HK))
    (case aL=>have:=jF.out;omega)
    intro mX mF ho hb hg hat;rw[←j2.out]at ho;have gG:=am (ho);replace b6:=am (Kd.ev (oR b6) (Kd.ee (oR b2)) (by decide) hg);replace b3:=iF b3 hg (Kd.ig b2.out b3.out (by decide));replace b1:=iF b1 hg (Kd.ig b2.out b1.out (by decide));replace HI0:=am (ak.grown cK hg (ak.own_ne HI0.out b2.out (by decide)));replace HK:=am (aI.trans (ra HK) (aI.ke hg g) (Kd.nn b2.out));replace HB:=am (iH dg HL.out hb);clear b2;clear ho hb hg hat;obtain⟨jQ,jR,j5⟩:=Kd.ao gG.out
    (subst j5)
    refine hK.out _ _ ?_;clear hK K;refine ju (a':= ?_) ?_ ?_;rotate_left
    ·show Act.put _ (some 45) _=_
     simp only[Act.put,List.setIfInBounds_toArray,List.set_cons_zero,List.set_cons_succ,kn,qu]
     rfl
    refine cG 12 46 aV ?_;refine kJ (i:=13) (N:=none) (lb 14 16383) rfl rfl (iE aV.out (by kernel_rfl)) (by decide) (fun K hK=> ?_);have zT:mF.cell? ⟨b7,4,none⟩=some (bB):=(aj b1.out 4).trans rfl;have mY:=aK b1.out 4;have m4:=bP.out;have m5:=bQ.out;refine kp (w1:= ?_) (by rfl) rfl ?_ ?_;rotate_left
    ·go_simp
     rfl
    refine hK.out _ _ ?_;clear hK K;refine nF aV ?_
    try go_wp2
    go_roundg k1
    case measure=>have:=gF.out;omega
    case rel=>exact⟨(wrap64 (bT+1)),(dX),(dY),(dZ),(.slice jQ dZ.length jR),oS,H',⟨by have:=gF.out;omega⟩,⟨nM b6 b1⟩,⟨nM gG b1⟩,⟨oF b3⟩,⟨oP b1⟩,⟨by repeat((with_reducible first|exact HI0.out|refine ak.far ?_ bC.out _))⟩,⟨by repeat((with_reducible first|exact HK.out|refine cu ?_ bO.out _))⟩,⟨by repeat((with_reducible first|exact HB.out|refine a_ ?_ bW.out))⟩⟩
 case rest=>
  clear gX;obtain⟨kq,d7,d8,bE,bG,bH,bX,bB,HA,gU,b6,b5,b2,b3,b1,HI0,HK,HB⟩:=hcut
  cases kq with
  |zero=>exact absurd HA.out (by simp[aX.j1])
  |succ td=>
   have H:=HA.out;clear HA;simp only[aX.j1]at H;have H':=ae.mk H;clear H
   go_wp2
   go_loopg [6] td (fun kq v6 w'=>∃(bM:Int) (d9:Int) (dA:Int) (bF:List (bj)) (bU:Value),v6= .int .i64 bM∧ae (aX.l1 kq b9 bM bd d9 dA (wrap64 (2+bD)) (wrap64 (1+b8)) bE bG bH bF=some (r1,r2,r3,r4,r5,r6,r7,r8))∧ae (kq≤td)∧ae (Kd.R Kd.string 9 w' w.heap.size (fun _=>True) dT b9)∧ae (Kd.R (Kd.int .u8) 5 w' w.heap.size (fun _=>True) bX bG)∧ae (Kd.R fL 74 w' w.heap.size (fun _=>True) bB bH)∧ae (Kd.R dn 101 w' w.heap.size (fun _=>True) bU bF)∧ae (w'.heap[dB]? =some (.cells #[.int .i64 0,.int .i64 0,.int .i64 0,(.slice none 0 0),(.slice none 0 0),(.slice none 0 0)] 32 (0,0)))∧ae (w'.heap[b7]? =some (.cells #[.int .i64 (wrap64 (2+bD)),.int .i64 (wrap64 (1+b8)),.int .i64 bE,bX,bB,bU] 32 (0,0)))∧ae (ak w0 w' g bd d9 dA)∧ae (aI w w' g none)∧ae (Below w0.heap.size w0 w'))
   case atStart=>exact⟨(0),(d7),(d8),(([]:List (bj))),(.slice none 0 0),oS,H',⟨Nat.le_refl _⟩,⟨oR b6⟩,⟨oR b5⟩,⟨oR b2⟩,⟨by exact Kd.er _ _ _ _ _⟩,⟨oF b3⟩,⟨oF b1⟩,⟨HI0.out⟩,⟨HK.out⟩,⟨HB.out⟩⟩
   case round=>
    clear H';obtain⟨bM,d9,dA,bF,bU,rfl,HA,gV,b6,b5,b2,b4,b3,b1,HI0,HK,HB⟩:=hrel
    cases gk with
    |zero=>exact absurd HA.out (by simp[aX.l1])
    |succ k2=>
     have H:=HA.out;clear HA;simp only[aX.l1]at H;replace H:=kU H;rcases H with⟨jH,H⟩|⟨jH,H⟩;rotate_left
     ·simp only[Option.some.injEq,Prod.mk.injEq]at H;obtain⟨rfl,rfl,rfl,rfl,rfl,rfl,rfl,rfl⟩:=H;have mZ:=bQ.out;have zA:=bP.out;have zB:=bK.out;have zC:=bC.out;obtain⟨⟨_,_,_,_,_,_⟩,_,_,_,_,_,_⟩:=z6 b1;have zD:=bJ.out;have zE:=bI.out;obtain⟨⟨_,_,_,_,_,_⟩,_,_,_,_,_,_⟩:=z6 b3;obtain⟨jS,jT,jU⟩:=Kd.ao b5.out;subst jU;obtain⟨jV,jW,jX⟩:=Kd.ao b2.out;subst jX;obtain⟨jY,jZ,m1⟩:=Kd.ao b4.out;subst m1
      go_wp2
      refine bodyPost_ret (results_cell_row rfl _ _ dB 32 #[.int .i64 (wrap64 (2+bD)),.int .i64 (wrap64 (1+b8)),.int .i64 bE,.slice jS bG.length jT,.slice jV bH.length jW,.slice jY bF.length jZ] (0,0) _ rfl (oP b3) underlying32 rfl (by kernel_rfl)) rfl ?_;exact⟨_,_,_,oE,nM b5 b3,nM b2 b3,nM b4 b3,by repeat((with_reducible first|exact HI0.out|refine ak.far ?_ bI.out _)),by repeat((with_reducible first|exact HB.out|refine a_ ?_ bV.out)),by repeat((with_reducible first|exact HK.out|refine cu ?_ bN.out _))⟩
     replace H:=bA H;obtain⟨⟨jI,dL,dM⟩,mG,H⟩:=H
     try dsimp only at H
     have j6:=ae.mk H;clear H
     go_upto_if 52 with(((with_reducible refine ag (f:=68) rfl ?_);refine dk 52 func68 (eF.calls g bd d9 dA 3 jI dL dM w0 _ ?aC ?bh mG.out) ?_;(case aC=>exact cK);(case bh=>exact dg);rintro e mH ⟨rfl,hi,hb,hk⟩;refine⟨_,rfl,?_⟩;replace b6:=cY HI0 (oR b6) hk;replace b5:=cY HI0 (oR b5) hk;replace b2:=cY HI0 (oR b2) hk;replace b4:=cY HI0 (oR b4) hk;replace b3:=iL b3 hk bJ;replace b1:=iL b1 hk bK;replace HK:=hk2 HK hk;replace HI0:=am (hi);replace HB:=am (hb);(try clear hk);(try clear hi)))
     have H:=j6.out;clear j6;replace H:=jl H;rcases H with⟨rfl,H⟩|⟨rfl,H⟩;rotate_left
     ·have H':=ae.mk H;clear H
      go_wp2
      go_roundg k2
      case measure=>have:=gU.out;have:=gV.out;omega
      case rel=>exact⟨(wrap64 (bM+1)),(dL),(dM),(bF),(bU),oS,H',⟨by have:=gU.out;have:=gV.out;omega⟩,⟨oR b6⟩,⟨oR b5⟩,⟨oR b2⟩,⟨oR b4⟩,⟨oF b3⟩,⟨oF b1⟩,⟨HI0.out⟩,⟨HK.out⟩,⟨HB.out⟩⟩
     obtain⟨jJ,H⟩:=dw H
     (skip)
     obtain⟨zF,H⟩:=dw H;obtain⟨gW,cx⟩:∃y_:List ByteArray,y_=(([(⟨#[120]⟩:ByteArray),(⟨#[118,97,108,117,101]⟩:ByteArray),(⟨#[115,105,120,116,101,101,110,98,121,116,101,115,120,120,120,120]⟩:ByteArray)]:List ByteArray)):=⟨_,rfl⟩;replace H:((dj.f bd dL dM gW).bind fun dR=>(if bF.length<4398046511104 then(aX.l1 k2 b9 (wrap64 (bM+1)) bd dR.2.1 dR.2.2 (wrap64 (2+bD)) (wrap64 (1+b8)) bE bG bH (bF++[(⟨dr ByteArray.empty b9 bM,dR.1⟩:bj)]))else(none)))=some (r1,r2,r3,r4,r5,r6,r7,r8):=oY;have gH:=ae.mk cx;clear cx;replace H:=bA H;obtain⟨⟨dH,gA,gB⟩,mI,H⟩:=H
     try dsimp only at H
     obtain⟨jN,H⟩:=jm H;have jK:=ae.mk jN;clear jN;obtain⟨gC,cx⟩:∃y_:List (bj),y_=(bF++[(⟨dr ByteArray.empty b9 bM,dH⟩:bj)]):=⟨_,rfl⟩;replace H:(aX.l1 k2 b9 (wrap64 (bM+1)) bd gA gB (wrap64 (2+bD)) (wrap64 (1+b8)) bE bG bH gC)=some (r1,r2,r3,r4,r5,r6,r7,r8):=oY;have j7:=ae.mk cx;clear cx;have H':=ae.mk H;clear H
     try go_wp2
     replace b6:=am (Kd.b_ b6.out);replace b5:=am (Kd.b_ b5.out);replace b2:=am (Kd.b_ b2.out);replace b4:=am (Kd.b_ b4.out);replace b3:=am (ar b3.out);replace b1:=am (ar b1.out);replace HI0:=am (ak.drew HI0.out);replace HK:=am (fH HK.out);replace HB:=am (bl HB.out);obtain⟨zU,zV,j8⟩:=Kd.ao b6.out
     (subst j8)
     have zG:(0≤(bM:Int))=True:=oT;have zH:(bM<(b9.length:Int))=True:=oT;obtain⟨j9,jL,dS⟩:=Kd.ei (Kd.aU b6.out).2.2 bM oa oa
     cases jL
     refine iY (n:=14) (S:=fun w'=>w'.cell? ⟨b7,0,none⟩=some (.int .i64 (wrap64 (2+bD)))∧w'.cell? ⟨b7,1,none⟩=some (.int .i64 (wrap64 (1+b8)))∧w'.cell? ⟨b7,2,none⟩=some (.int .i64 bE)∧w'.cell? ⟨b7,3,none⟩=some (bX)∧w'.cell? ⟨b7,4,none⟩=some (bB)∧w'.cell? ⟨b7,5,none⟩=some (bU)∧w'.cell? (j9.add (bM).toNat)=some (.string (dr ByteArray.empty b9 bM))) (ds:=[11,13]) (lb 14 0) (by kernel_rfl) rfl rfl ⟨(aj b1.out 0).trans rfl,(aj b1.out 1).trans rfl,(aj b1.out 2).trans rfl,(aj b1.out 3).trans rfl,(aj b1.out 4).trans rfl,(aj b1.out 5).trans rfl,dS⟩ (fun hHeld=> ?_);refine fW aX.adh aX.acJ (fun aV fA=> ?_);generalize mH.drew=w54 at b6 b5 b2 b4 b3 b1 HI0 HK HB dS hHeld⊢;refine cG 0 53 aV ?_;refine cG 2 55 aV ?_;refine cG 3 56 aV ?_;refine cG 4 57 aV ?_;refine cG 6 59 aV ?_;refine iA 1 54 aV fA hHeld ?_;refine iA 5 58 aV fA hHeld ?_;refine jg 7 60 aV (fun K hK=> ?_);refine Kd.dv Kd.string _ 9 ?hg (N:=60) ?hd (xs:=([(⟨#[120]⟩:ByteArray),(⟨#[118,97,108,117,101]⟩:ByteArray),(⟨#[115,105,120,116,101,101,110,98,121,116,101,115,120,120,120,120]⟩:ByteArray)]:List ByteArray)) (inner:=[.string (⟨#[120]⟩:ByteArray),.string (⟨#[118,97,108,117,101]⟩:ByteArray),.string (⟨#[115,105,120,116,101,101,110,98,121,116,101,115,120,120,120,120]⟩:ByteArray)]) (ok:=fun _=>True) (fw:=fun _=>True) ?hr ?hp (fun _ hk=>hk) trivial (Below.refl _ _) (Nat.le_refl _) (by simp) ?_;(case hd=>rfl);(case hg=>rfl);(case hr=>(go_simp;done));(case hp=>exact(bp.one (show Kd.M Kd.string _ _ _ (⟨#[120]⟩:ByteArray) [.string (⟨#[120]⟩:ByteArray)]from rfl) (bp.one (show Kd.M Kd.string _ _ _ (⟨#[118,97,108,117,101]⟩:ByteArray) [.string (⟨#[118,97,108,117,101]⟩:ByteArray)]from rfl) (bp.one (show Kd.M Kd.string _ _ _ (⟨#[115,105,120,116,101,101,110,98,121,116,101,115,120,120,120,120]⟩:ByteArray) [.string (⟨#[115,105,120,116,101,101,110,98,121,116,101,115,120,120,120,120]⟩:ByteArray)]from rfl) (bp.none _ _)))));intro zI w56 dI hb fN cj;have dQ:=(hb.cell (World.block_lt_of_cell? _ _ (hHeld.2.2.2.2.2.2))).trans (hHeld.2.2.2.2.2.2);clear fN cj
     (rw[←gH.out]at dI)
     have bY:=am (Kd.aq (Kd.eS dI (iO b6)) (kz HK));replace b6:=sb b6 dI hb;replace b5:=dm b5 hb;replace b2:=dm b2 hb;replace b4:=dm b4 hb;replace b3:=ba b3 hb;replace b1:=ba b1 hb;replace HK:=hk1 HK hb;replace HI0:=fk HI0 hb;replace HB:=fi hb;clear hb dI;obtain⟨zW,zX,jA⟩:=Kd.ao bY.out
     (subst jA)
     refine aZ hK 60 ⟨(aj b1.out 0).trans rfl,(aj b1.out 1).trans rfl,(aj b1.out 2).trans rfl,(aj b1.out 3).trans rfl,(aj b1.out 4).trans rfl,(aj b1.out 5).trans rfl,dQ⟩ (fun hHeld=> ?_);clear hK K;refine jg 8 61 aV (fun K hK=> ?_);refine mo 61 func88 (dj.calls g bd dL dM _ _ gW dH gA gB w0 _ ?aC ?bh (kO bY) (ko bY) ?ga mI.out) ?_
     (case aC=>exact cK)
     (case bh=>exact dg)
     (case ga=>exact fC (ak.own_ne HI0.out bY.out (by decide)))
     rintro e w59 ⟨rfl,hi,hb,hk⟩;have dQ:=ov hk (hHeld.2.2.2.2.2.2) (by(rw[add_block];exact Kd.sX (ak.own_ne HI0.out b6.out (by decide))));refine⟨_,rfl,?_⟩;replace b6:=cY HI0 (oR b6) hk;replace b5:=cY HI0 (oR b5) hk;replace b2:=cY HI0 (oR b2) hk;replace b4:=cY HI0 (oR b4) hk;replace b3:=iL b3 hk bJ;replace b1:=iL b1 hk bK;replace bY:=cY HI0 (oR bY) hk;replace HK:=hk2 HK hk;replace HI0:=am (hi);replace HB:=am (hb)
     (try clear hk)
     (try clear hi)
     refine aZ hK 61 ⟨(aj b1.out 0).trans rfl,(aj b1.out 1).trans rfl,(aj b1.out 2).trans rfl,(aj b1.out 3).trans rfl,(aj b1.out 4).trans rfl,(aj b1.out 5).trans rfl,dQ⟩ (fun hHeld=> ?_);clear hK K;refine cG 9 62 aV ?_;refine jg 10 63 aV (fun K hK=> ?_);refine mg (w1:= ?_) (v:= ?_) (by rfl) rfl ?_ ?_;rotate_left 2
     ·go_simp
      constructor
      ·rfl
      ·rfl
     refine aZ hK 63 ⟨(aj (ax b1.out _) 0).trans rfl,(aj (ax b1.out _) 1).trans rfl,(aj (ax b1.out _) 2).trans rfl,(aj (ax b1.out _) 3).trans rfl,(aj (ax b1.out _) 4).trans rfl,(aj (ax b1.out _) 5).trans rfl,(World.cell?_alloc_lt _ _ _ (World.block_lt_of_cell? _ _ (hHeld.2.2.2.2.2.2))).trans (hHeld.2.2.2.2.2.2)⟩ (fun hHeld=> ?_);clear hK K;refine kJ (i:=11) (N:=some 64) (lb 14 4095) rfl rfl (iE aV.out (by kernel_rfl)) (by decide) (fun K hK=> ?_);refine Kd.iQ dn w.heap.size (by rfl) (.tmp 54) (.tmp 63) 30 101 (.agg #[(.string ⟨#[]⟩),(.string ⟨#[]⟩)]) 32 rfl underlying30 lh rfl (by decide) (by omega) bU bF (⟨dr ByteArray.empty b9 bM,dH⟩:bj) [.string (dr ByteArray.empty b9 bM),.string dH] (fun _=>True) (fun _=>False) rfl rfl ?aP (fun _ hk=>hk.elim) ?aF ?aO (Below.refl _ _) ?aS ?aL ?_
     (case aP=>exact kb _ _ _ (⟨dr ByteArray.empty b9 bM,dH⟩:bj))
     (case aF=>exact(fun _ _=>trivial))
     (case aO=>exact(oR b4))
     (case aS=>exact(kz HK))
     (case aL=>have:=jK.out;omega)
     intro zJ mJ ho hb hg hat;rw[←j7.out]at ho;have gI:=am (ho);replace b6:=am (Kd.ev (oR b6) (Kd.ee (oR b4)) (by decide) hg);replace b5:=am (Kd.ev (oR b5) (Kd.ee (oR b4)) (by decide) hg);replace b2:=am (Kd.ev (oR b2) (Kd.ee (oR b4)) (by decide) hg);replace b3:=iF b3 hg (Kd.ig b4.out b3.out (by decide));replace b1:=iF b1 hg (Kd.ig b4.out b1.out (by decide));replace bY:=am (Kd.ev (oR bY) (Kd.ee (oR b4)) (by decide) hg);replace HI0:=am (ak.grown cK hg (ak.own_ne HI0.out b4.out (by decide)));replace HK:=am (aI.trans (ra HK) (aI.ke hg g) (Kd.nn b4.out));replace HB:=am (iH dg HL.out hb);clear b4;clear ho hb hg hat;obtain⟨m2,m3,jB⟩:=Kd.ao gI.out
     (subst jB)
     refine hK.out _ _ ?_;clear hK K;refine ju (a':= ?_) ?_ ?_;rotate_left
     ·show Act.put _ (some 64) _=_
      simp only[Act.put,List.setIfInBounds_toArray,List.set_cons_zero,List.set_cons_succ,kn,qu]
      rfl
     refine cG 12 65 aV ?_;refine kJ (i:=13) (N:=none) (lb 14 16383) rfl rfl (iE aV.out (by kernel_rfl)) (by decide) (fun K hK=> ?_);have zY:mJ.cell? ⟨b7,5,none⟩=some (bU):=(aj b1.out 5).trans rfl;have zK:=aK b1.out 5;have m6:=bP.out;have m7:=bQ.out;refine kp (w1:= ?_) (by rfl) rfl ?_ ?_;rotate_left
     ·go_simp
      rfl
     refine hK.out _ _ ?_;clear hK K;refine nF aV ?_
     try go_wp2
     go_roundg k2
     case measure=>have:=gU.out;have:=gV.out;omega
     case rel=>exact⟨(wrap64 (bM+1)),(gA),(gB),(gC),(.slice m2 gC.length m3),oS,H',⟨by have:=gU.out;have:=gV.out;omega⟩,⟨nM b6 b1⟩,⟨nM b5 b1⟩,⟨nM b2 b1⟩,⟨nM gI b1⟩,⟨oF b3⟩,⟨oP b1⟩,⟨by repeat((with_reducible first|exact HI0.out|refine ak.far ?_ bC.out _))⟩,⟨by repeat((with_reducible first|exact HK.out|refine cu ?_ bO.out _))⟩,⟨by repeat((with_reducible first|exact HB.out|refine a_ ?_ bW.out))⟩⟩

def jh.f (k:Nat) (ah:List (aW)) (al:Int) (a1:ByteArray):Option (Int×Int×Int×List Int×(List (cD))×(List (bj))×Int):=(fE.f k ah al a1).bind fun b2=>(if b2.2=0 then((gi.f k ah al b2.1).bind fun b1=>(if b1.2.2.2.2.2.2=true then(some (b1.1,b1.2.1,b1.2.2.1,b1.2.2.2.1,b1.2.2.2.2.1,b1.2.2.2.2.2.1,0))else(some (0,0,0,([]:List Int),([]:List (cD)),([]:List (bj)),2))))else(some (0,0,0,([]:List Int),([]:List (cD)),([]:List (bj)),b2.2)))
theorem jh.calls (k:Nat) (bs:Option Addr) (bo:Nat) (ah:List (aW)) (al:Int) (a1:ByteArray) (r1:Int) (r2:Int) (r3:Int) (r4:List Int) (r5:List (cD)) (r6:List (bj)) (r7:Int) (w:World) (cy:Kd.C k32 w bs ah.length ah) (cA:ah.length≤bo) (h:jh.f k ah al a1=some (r1,r2,r3,r4,r5,r6,r7)) (hG:GOk w:=by exact gk_ oB (by first|(with_reducible assumption)|assumption)):
  Calls Tryz.prog 12 #[.agg #[.slice bs ah.length bo,.int .i64 al],.string a1] w fun e w'=>∃pJ pK pL:Value,e= .returned (.tuple #[.agg #[.int .i64 r1,.int .i64 r2,.int .i64 r3,pJ,pK,pL],.int .i64 r7])∧Kd.R (Kd.int .u8) 5 w' w.heap.size (fun _=>True) pJ r4∧Kd.R fL 74 w' w.heap.size (fun _=>True) pK r5∧Kd.R dn 101 w' w.heap.size (fun _=>True) pL r6∧Below w.heap.size w w':=by
 have HG:=ae.mk hG;clear hG;have dY:=underlying26;have dZ:=underlying32;have bI:=ae.mk cy;have bJ:=ae.mk cA;clear cy cA;have HB:=am (Below.refl w.heap.size w);unfold jh.f at h;have H:=h;clear h;replace H:=bA H;obtain⟨⟨bK,b8⟩,A3,H⟩:=H
 try dsimp only at H
 have bT:=ae.mk H;clear H
 go_enter func12,ntmps12
 go_upto_if 17 with(first|((with_reducible refine au (N:=2) rfl ?_);refine fz 2 #[.slice bs ah.length bo,.int .i64 al] 26 ?_;intro d6 hg w5 hbox hb;have b2:=am (hbox);have d7:=fO hg;replace HB:=hB HB hb;clear hb hbox hg)|((with_reducible refine au (N:=4) rfl ?_);refine fz 4 #[.int .i64 0,.int .i64 0,.int .i64 0,.slice none 0 0,.slice none 0 0,.slice none 0 0] 32 ?_;intro bF hg w6 hbox hb;have b1:=am (hbox);have d8:=fO hg;have b3:=fX hg b2;have b4:=fY hg b2;replace b2:=ba b2 hb;replace HB:=hB HB hb;clear hb hbox hg;have gA:=b3.out;have gB:=b4.out;obtain⟨⟨_,_⟩,_,_⟩:=z2 b2)|((with_reducible refine ag (f:=22) rfl ?_);refine dk 13 func22 (fE.calls k _ _ ah al a1 bK b8 _ (kC bI) bJ.out A3.out) ?_;rintro e w9 ⟨rfl,hb⟩;refine⟨_,rfl,?_⟩;replace b2:=ba b2 hb;replace b1:=ba b1 hb;replace HB:=hB HB hb))
 have H:=bT.out;clear bT
 by_cases c10:b8=0
 rotate_left
 ·rw[if_neg c10]at H;have bG:(b8==0)=false:=beq_eq_false_iff_ne.mpr c10;have bH:(b8 !=0)=true:=bne_iff_ne.mpr c10
  (rw[bH])
  simp only[Option.some.injEq,Prod.mk.injEq]at H;obtain⟨rfl,rfl,rfl,rfl,rfl,rfl,rfl⟩:=H;have dD:=b4.out;have dE:=b3.out;obtain⟨⟨_,_,_,_,_,_⟩,_,_,_,_,_,_⟩:=z6 b1
  go_wp2
  refine bodyPost_ret (bu rfl _ _ bF 32 #[.int .i64 0,.int .i64 0,.int .i64 0,.slice none 0 0,.slice none 0 0,.slice none 0 0] (0,0) _ rfl (oP b1) underlying32 rfl (by kernel_rfl)) rfl ?_;exact⟨_,_,_,oE,by exact Kd.er _ _ _ _ _,by exact Kd.er _ _ _ _ _,by exact Kd.er _ _ _ _ _,oB⟩
 rw[if_pos c10]at H;have bG:(b8==0)=true:=beq_iff_eq.mpr c10;have bH:(b8 !=0)=false:=bne_eq_false_iff_eq.mpr c10;clear c10
 (rw[bH])
 replace H:=bA H;obtain⟨⟨bL,bM,bN,bO,bP,bQ,bS⟩,d9,H⟩:=H
 try dsimp only at H
 have bR:=ae.mk H;clear H;have dF:=b3.out;have dG:=b4.out;obtain⟨⟨_,_⟩,_,_⟩:=z2 b2
 go_upto_if 27 with(first|((with_reducible refine ag (f:=47) rfl ?_);refine dk 23 func47 (gi.calls k _ _ ah al bK bL bM bN bO bP bQ bS _ (kC bI) bJ.out d9.out) ?_;rintro e gC ⟨dH,dI,dJ,rfl,dA,bU,bV,hb⟩;refine⟨_,rfl,?_⟩;have bC:=am (Kd.aq dA (af oB));have bD:=am (Kd.aq bU (af oB));have bE:=am (Kd.aq bV (af oB));replace b2:=ba b2 hb;replace b1:=ba b1 hb;replace HB:=hB HB hb;(try clear bU);(try clear bV))|((with_reducible refine au (N:=8) rfl ?_);refine fz 8 #[.int .i64 0,.int .i64 0,.int .i64 0,.slice none 0 0,.slice none 0 0,.slice none 0 0] 32 ?_;intro dB hg gD hbox hb;have b7:=am (hbox);have dC:=fO hg;have b9:=fX hg b2;have bB:=fY hg b2;have b5:=fX hg b1;have b6:=fY hg b1;replace bC:=dm bC hb;replace bD:=dm bD hb;replace bE:=dm bE hb;replace b2:=ba b2 hb;replace b1:=ba b1 hb;replace HB:=hB HB hb;clear hb hbox hg;have dK:=bB.out;have dL:=b9.out;have dM:=b6.out;have dN:=b5.out;obtain⟨⟨_,_,_,_,_,_⟩,_,_,_,_,_,_⟩:=z6 b7;obtain⟨bW,bX,bY⟩:=Kd.ao bC.out;subst bY;obtain⟨bZ,d1,d2⟩:=Kd.ao bD.out;subst d2;obtain⟨d3,d4,d5⟩:=Kd.ao bE.out;subst d5))
 have H:=bR.out;clear bR;replace H:=jl H;rcases H with⟨rfl,H⟩|⟨rfl,H⟩
 ·simp only[Option.some.injEq,Prod.mk.injEq]at H;obtain⟨rfl,rfl,rfl,rfl,rfl,rfl,rfl⟩:=H;have dO:=bB.out;have dP:=b9.out;have dQ:=b6.out;have dR:=b5.out;obtain⟨⟨_,_,_,_,_,_⟩,_,_,_,_,_,_⟩:=z6 b7;have dS:=b4.out;have dT:=b3.out;obtain⟨⟨_,_,_,_,_,_⟩,_,_,_,_,_,_⟩:=z6 b1
  go_wp2
  refine bodyPost_ret (bu rfl _ _ bF 32 #[.int .i64 bL,.int .i64 bM,.int .i64 bN,.slice bW bO.length bX,.slice bZ bP.length d1,.slice d3 bQ.length d4] (0,0) _ rfl (oP b1) underlying32 rfl (by kernel_rfl)) rfl ?_;exact⟨_,_,_,oE,nO bC b7 b1,nO bD b7 b1,nO bE b7 b1,oB⟩
 simp only[Option.some.injEq,Prod.mk.injEq]at H;obtain⟨rfl,rfl,rfl,rfl,rfl,rfl,rfl⟩:=H;have dU:=b4.out;have dV:=b3.out;have dW:=b5.out;have dX:=b6.out;obtain⟨⟨_,_,_,_,_,_⟩,_,_,_,_,_,_⟩:=z6 b1
 go_wp2
 refine bodyPost_ret (bu rfl _ _ bF 32 #[.int .i64 0,.int .i64 0,.int .i64 0,.slice none 0 0,.slice none 0 0,.slice none 0 0] (0,0) _ rfl (oP b1) underlying32 rfl (by kernel_rfl)) rfl ?_;exact⟨_,_,_,oE,by exact Kd.er _ _ _ _ _,by exact Kd.er _ _ _ _ _,by exact Kd.er _ _ _ _ _,oB⟩

def eA.f (k:Nat) (ah:List (aW)) (al:Int) (a1:ByteArray):Option (Int×Int×Int×List Int×(List (cD))×(List (bj))×Int):=(ix.f k ah al a1).bind fun b2=>(if b2.2=0 then((eV.f k ah al b2.1).bind fun b1=>(if b1.2.2.2.2.2.2=true then(some (b1.1,b1.2.1,b1.2.2.1,b1.2.2.2.1,b1.2.2.2.2.1,b1.2.2.2.2.2.1,0))else(some (0,0,0,([]:List Int),([]:List (cD)),([]:List (bj)),2))))else(some (0,0,0,([]:List Int),([]:List (cD)),([]:List (bj)),b2.2)))
theorem eA.calls (k:Nat) (bs:Option Addr) (bo:Nat) (ah:List (aW)) (al:Int) (a1:ByteArray) (r1:Int) (r2:Int) (r3:Int) (r4:List Int) (r5:List (cD)) (r6:List (bj)) (r7:Int) (w:World) (cy:Kd.C k32 w bs ah.length ah) (cA:ah.length≤bo) (h:eA.f k ah al a1=some (r1,r2,r3,r4,r5,r6,r7)):
  Calls Tryz.prog 13 #[.agg #[.slice bs ah.length bo,.int .i64 al],.string a1] w fun e w'=>∃pJ pK pL:Value,e= .returned (.tuple #[.agg #[.int .i64 r1,.int .i64 r2,.int .i64 r3,pJ,pK,pL],.int .i64 r7])∧Kd.R (Kd.int .u8) 5 w' w.heap.size (fun _=>True) pJ r4∧Kd.R fL 74 w' w.heap.size (fun _=>True) pK r5∧Kd.R dn 101 w' w.heap.size (fun _=>True) pL r6∧Below w.heap.size w w':=by
 have dV:=underlying26;have dW:=underlying32;have bI:=ae.mk cy;have bJ:=ae.mk cA;clear cy cA;have HB:=am (Below.refl w.heap.size w);unfold eA.f at h;have H:=h;clear h;replace H:=bA H;obtain⟨⟨bK,b8⟩,A3,H⟩:=H
 try dsimp only at H
 have bS:=ae.mk H;clear H
 go_enter func13,ntmps13
 go_upto_if 17 with(first|((with_reducible refine au (N:=2) rfl ?_);refine fz 2 #[.slice bs ah.length bo,.int .i64 al] 26 ?_;intro d8 hg w5 hbox hb;have b2:=am (hbox);have d9:=fO hg;replace HB:=hB HB hb;clear hb hbox hg)|((with_reducible refine au (N:=4) rfl ?_);refine fz 4 #[.int .i64 0,.int .i64 0,.int .i64 0,.slice none 0 0,.slice none 0 0,.slice none 0 0] 32 ?_;intro bF hg w6 hbox hb;have b1:=am (hbox);have dA:=fO hg;have b3:=fX hg b2;have b4:=fY hg b2;replace b2:=ba b2 hb;replace HB:=hB HB hb;clear hb hbox hg;have dX:=b3.out;have dY:=b4.out;obtain⟨⟨_,_⟩,_,_⟩:=z2 b2)|((with_reducible refine ag (f:=48) rfl ?_);refine dk 13 func48 (ix.calls k _ _ ah al a1 bK b8 _ (kC bI) bJ.out A3.out) ?_;rintro e w9 ⟨rfl,hb⟩;refine⟨_,rfl,?_⟩;replace b2:=ba b2 hb;replace b1:=ba b1 hb;replace HB:=hB HB hb))
 have H:=bS.out;clear bS
 by_cases c10:b8=0
 rotate_left
 ·rw[if_neg c10]at H;have bG:(b8==0)=false:=beq_eq_false_iff_ne.mpr c10;have bH:(b8 !=0)=true:=bne_iff_ne.mpr c10
  (rw[bH])
  simp only[Option.some.injEq,Prod.mk.injEq]at H;obtain⟨rfl,rfl,rfl,rfl,rfl,rfl,rfl⟩:=H;have dB:=b4.out;have dC:=b3.out;obtain⟨⟨_,_,_,_,_,_⟩,_,_,_,_,_,_⟩:=z6 b1
  go_wp2
  refine bodyPost_ret (bu rfl _ _ bF 32 #[.int .i64 0,.int .i64 0,.int .i64 0,.slice none 0 0,.slice none 0 0,.slice none 0 0] (0,0) _ rfl (oP b1) underlying32 rfl (by kernel_rfl)) rfl ?_;exact⟨_,_,_,oE,by exact Kd.er _ _ _ _ _,by exact Kd.er _ _ _ _ _,by exact Kd.er _ _ _ _ _,oB⟩
 rw[if_pos c10]at H;have bG:(b8==0)=true:=beq_iff_eq.mpr c10;have bH:(b8 !=0)=false:=bne_eq_false_iff_eq.mpr c10;clear c10
 (rw[bH])
 replace H:=bA H;obtain⟨⟨bL,bM,bN,bO,bP,bQ,bV⟩,d6,H⟩:=H
 try dsimp only at H
 have bR:=ae.mk H;clear H;have dD:=b3.out;have dE:=b4.out;obtain⟨⟨_,_⟩,_,_⟩:=z2 b2
 go_upto_if 27 with(first|((with_reducible refine ag (f:=49) rfl ?_);refine dk 23 func49 (eV.calls k _ _ ah al bK bL bM bN bO bP bQ bV _ (kC bI) bJ.out d6.out) ?_;rintro e gC ⟨dZ,gA,gB,rfl,d7,bT,bU,hb⟩;refine⟨_,rfl,?_⟩;have bC:=am (Kd.aq d7 (af oB));have bD:=am (Kd.aq bT (af oB));have bE:=am (Kd.aq bU (af oB));replace b2:=ba b2 hb;replace b1:=ba b1 hb;replace HB:=hB HB hb;(try clear bT);(try clear bU))|((with_reducible refine au (N:=8) rfl ?_);refine fz 8 #[.int .i64 0,.int .i64 0,.int .i64 0,.slice none 0 0,.slice none 0 0,.slice none 0 0] 32 ?_;intro dF hg gD hbox hb;have b7:=am (hbox);have dG:=fO hg;have b9:=fX hg b2;have bB:=fY hg b2;have b5:=fX hg b1;have b6:=fY hg b1;replace bC:=dm bC hb;replace bD:=dm bD hb;replace bE:=dm bE hb;replace b2:=ba b2 hb;replace b1:=ba b1 hb;replace HB:=hB HB hb;clear hb hbox hg;have dH:=bB.out;have dI:=b9.out;have dJ:=b6.out;have dK:=b5.out;obtain⟨⟨_,_,_,_,_,_⟩,_,_,_,_,_,_⟩:=z6 b7;obtain⟨bW,bX,bY⟩:=Kd.ao bC.out;subst bY;obtain⟨bZ,d1,d2⟩:=Kd.ao bD.out;subst d2;obtain⟨d3,d4,d5⟩:=Kd.ao bE.out;subst d5))
 have H:=bR.out;clear bR;replace H:=jl H;rcases H with⟨rfl,H⟩|⟨rfl,H⟩
 ·simp only[Option.some.injEq,Prod.mk.injEq]at H;obtain⟨rfl,rfl,rfl,rfl,rfl,rfl,rfl⟩:=H;have dL:=bB.out;have dM:=b9.out;have dN:=b6.out;have dO:=b5.out;obtain⟨⟨_,_,_,_,_,_⟩,_,_,_,_,_,_⟩:=z6 b7;have dP:=b4.out;have dQ:=b3.out;obtain⟨⟨_,_,_,_,_,_⟩,_,_,_,_,_,_⟩:=z6 b1
  go_wp2
  refine bodyPost_ret (bu rfl _ _ bF 32 #[.int .i64 bL,.int .i64 bM,.int .i64 bN,.slice bW bO.length bX,.slice bZ bP.length d1,.slice d3 bQ.length d4] (0,0) _ rfl (oP b1) underlying32 rfl (by kernel_rfl)) rfl ?_;exact⟨_,_,_,oE,nO bC b7 b1,nO bD b7 b1,nO bE b7 b1,oB⟩
 simp only[Option.some.injEq,Prod.mk.injEq]at H;obtain⟨rfl,rfl,rfl,rfl,rfl,rfl,rfl⟩:=H;have dR:=b4.out;have dS:=b3.out;have dT:=b5.out;have dU:=b6.out;obtain⟨⟨_,_,_,_,_,_⟩,_,_,_,_,_,_⟩:=z6 b1
 go_wp2
 refine bodyPost_ret (bu rfl _ _ bF 32 #[.int .i64 0,.int .i64 0,.int .i64 0,.slice none 0 0,.slice none 0 0,.slice none 0 0] (0,0) _ rfl (oP b1) underlying32 rfl (by kernel_rfl)) rfl ?_;exact⟨_,_,_,oE,by exact Kd.er _ _ _ _ _,by exact Kd.er _ _ _ _ _,by exact Kd.er _ _ _ _ _,oB⟩

def iB.f (k:Nat) (bd:List Int) (de:Int) (df:Int):Option (List Int×Int×Int):=(cN.f bd de df (([0,1,2,5,9]:List Int))).bind fun b1=>((cV.f k bd b1.2.1 b1.2.2 b1.1).bind fun b2=>(some (b2.1,b2.2.1,b2.2.2)))
theorem iB.calls (k:Nat) (g:Nat) (bd:List Int) (de:Int) (df:Int) (r1:List Int) (r2:Int) (r3:Int) (w0 w:World) (hI:ak w0 w g bd de df) (hB:Below w0.heap.size w0 w) (h:iB.f k bd de df=some (r1,r2,r3)):
  Calls Tryz.prog 87 #[.pointer (some ⟨g,0,none⟩)] w fun e w'=>∃fy:Value,e= .returned (fy)∧Kd.R (Kd.int .u8) 5 w' w.heap.size (fun _=>True) fy r1∧ak w0 w' g bd r2 r3∧Below w0.heap.size w0 w'∧aI w w' g none:=by
 have HI0:=ae.mk hI;have HK:=am (aI.refl w g none);have HL:=ae.mk hB.size;clear hI;have HW0:=ae.mk hB.size;have HB:=ae.mk hB;clear hB;unfold iB.f at h;have H:=h;clear h;obtain⟨b6,cx⟩:∃y_:List Int,y_=(([0,1,2,5,9]:List Int)):=⟨_,rfl⟩;replace H:((cN.f bd de df b6).bind fun b2=>((cV.f k bd b2.2.1 b2.2.2 b2.1).bind fun b3=>(some (b3.1,b3.2.1,b3.2.2))))=some (r1,r2,r3):=oY;have b5:=ae.mk cx;clear cx;replace H:=bA H;obtain⟨⟨b7,b8,b9⟩,A2,H⟩:=H
 try dsimp only at H
 replace H:=bA H;obtain⟨⟨bC,bD,bE⟩,A3,H⟩:=H
 try dsimp only at H
 simp only[Option.some.injEq,Prod.mk.injEq]at H;obtain⟨rfl,rfl,rfl⟩:=H
 go_enter func87,ntmps87
 go_wp2_with (first|((with_reducible refine au (N:=5) rfl ?_);refine Kd.gu (Kd.int .i64) _ 3 ?hg (N:=5) ?hd (xs:=([0,1,2,5,9]:List Int)) (inner:=[.int .i64 0,.int .i64 1,.int .i64 2,.int .i64 5,.int .i64 9]) (ok:=fun _=>True) (fw:=fun _=>True) ?hr ?hp (fun _ hk=>hk) trivial (Below.refl _ _) (Nat.le_refl _) (by simp) ?_;(case hd=>rfl);(case hg=>rfl);(case hr=>(go_simp;done));(case hp=>exact(bp.one (show Kd.M (Kd.int .i64) _ _ _ 0 [.int .i64 0]from rfl) (bp.one (show Kd.M (Kd.int .i64) _ _ _ 1 [.int .i64 1]from rfl) (bp.one (show Kd.M (Kd.int .i64) _ _ _ 2 [.int .i64 2]from rfl) (bp.one (show Kd.M (Kd.int .i64) _ _ _ 5 [.int .i64 5]from rfl) (bp.one (show Kd.M (Kd.int .i64) _ _ _ 9 [.int .i64 9]from rfl) (bp.none _ _)))))));intro bH w4 b4 hb fN cj;clear fN cj;(rw[←b5.out]at b4);have b1:=am (Kd.aq b4 (kz HK));replace HK:=hk1 HK hb;replace HI0:=fk HI0 hb;replace HB:=fi hb;clear hb b4;obtain⟨bJ,bK,bF⟩:=Kd.ao b1.out;subst bF)|((with_reducible refine ag (f:=53) rfl ?_);refine dk 6 func53 (cN.calls g bd de df _ _ b6 b7 b8 b9 w0 _ ?aC ?bh (kO b1) (ko b1) ?ga A2.out) ?_;(case aC=>exact cK);(case bh=>exact dg);(case ga=>exact fC (ak.own_ne HI0.out b1.out (by decide)));rintro e w7 ⟨rfl,hi,hb,hk⟩;refine⟨_,rfl,?_⟩;replace b1:=cY HI0 (oR b1) hk;replace HK:=hk2 HK hk;replace HI0:=am (hi);replace HB:=am (hb);(try clear hk);(try clear hi))|((with_reducible refine ag (f:=132) rfl ?_);refine dk 7 func132 (cV.calls k g bd b8 b9 b7 bC bD bE w0 _ ?aC ?bh A3.out) ?_;(case aC=>exact cK);(case bh=>exact dg);rintro e w8 ⟨bI,rfl,bG,hi,hb,hk⟩;refine⟨_,rfl,?_⟩;have bB:=am (Kd.aq bG (kz HK));replace b1:=cY HI0 (oR b1) hk;replace HK:=hk2 HK hk;replace HI0:=am (hi);replace HB:=am (hb);(try clear hk);(try clear hi)))
 go_ret
 exact⟨_,oE,oR bB,HI0.out,HB.out,HK.out⟩

def gl.f (bd:List Int) (de:Int) (df:Int):Option (ByteArray×Int×Int):=(dj.f bd de df (([(⟨#[97]⟩:ByteArray),(⟨#[98]⟩:ByteArray),(⟨#[99]⟩:ByteArray),(⟨#[100,46,116,120,116]⟩:ByteArray)]:List ByteArray))).bind fun b1=>(some (b1.1,b1.2.1,b1.2.2))
theorem gl.calls (g:Nat) (bd:List Int) (de:Int) (df:Int) (r1:ByteArray) (r2:Int) (r3:Int) (w0 w:World) (hI:ak w0 w g bd de df) (hB:Below w0.heap.size w0 w) (h:gl.f bd de df=some (r1,r2,r3)):
  Calls Tryz.prog 104 #[.pointer (some ⟨g,0,none⟩)] w fun e w'=>e= .returned (.string r1)∧ak w0 w' g bd r2 r3∧Below w0.heap.size w0 w'∧aI w w' g none:=by
 have HI0:=ae.mk hI;have HK:=am (aI.refl w g none);have HL:=ae.mk hB.size;clear hI;have HW0:=ae.mk hB.size;have HB:=ae.mk hB;clear hB;unfold gl.f at h;have H:=h;clear h;obtain⟨b5,cx⟩:∃y_:List ByteArray,y_=(([(⟨#[97]⟩:ByteArray),(⟨#[98]⟩:ByteArray),(⟨#[99]⟩:ByteArray),(⟨#[100,46,116,120,116]⟩:ByteArray)]:List ByteArray)):=⟨_,rfl⟩;replace H:((dj.f bd de df b5).bind fun b2=>(some (b2.1,b2.2.1,b2.2.2)))=some (r1,r2,r3):=oY;have b4:=ae.mk cx;clear cx;replace H:=bA H;obtain⟨⟨b6,b7,b8⟩,A2,H⟩:=H
 try dsimp only at H
 simp only[Option.some.injEq,Prod.mk.injEq]at H;obtain⟨rfl,rfl,rfl⟩:=H
 go_enter func104,ntmps104
 go_wp2_with (first|((with_reducible refine au (N:=4) rfl ?_);refine Kd.gu Kd.string _ 9 ?hg (N:=4) ?hd (xs:=([(⟨#[97]⟩:ByteArray),(⟨#[98]⟩:ByteArray),(⟨#[99]⟩:ByteArray),(⟨#[100,46,116,120,116]⟩:ByteArray)]:List ByteArray)) (inner:=[.string (⟨#[97]⟩:ByteArray),.string (⟨#[98]⟩:ByteArray),.string (⟨#[99]⟩:ByteArray),.string (⟨#[100,46,116,120,116]⟩:ByteArray)]) (ok:=fun _=>True) (fw:=fun _=>True) ?hr ?hp (fun _ hk=>hk) trivial (Below.refl _ _) (Nat.le_refl _) (by simp) ?_;(case hd=>rfl);(case hg=>rfl);(case hr=>(go_simp;done));(case hp=>exact(bp.one (show Kd.M Kd.string _ _ _ (⟨#[97]⟩:ByteArray) [.string (⟨#[97]⟩:ByteArray)]from rfl) (bp.one (show Kd.M Kd.string _ _ _ (⟨#[98]⟩:ByteArray) [.string (⟨#[98]⟩:ByteArray)]from rfl) (bp.one (show Kd.M Kd.string _ _ _ (⟨#[99]⟩:ByteArray) [.string (⟨#[99]⟩:ByteArray)]from rfl) (bp.one (show Kd.M Kd.string _ _ _ (⟨#[100,46,116,120,116]⟩:ByteArray) [.string (⟨#[100,46,116,120,116]⟩:ByteArray)]from rfl) (bp.none _ _))))));intro bB w3 b3 hb fN cj;clear fN cj;(rw[←b4.out]at b3);have b1:=am (Kd.aq b3 (kz HK));replace HK:=hk1 HK hb;replace HI0:=fk HI0 hb;replace HB:=fi hb;clear hb b3;obtain⟨bC,bD,b9⟩:=Kd.ao b1.out;subst b9)|((with_reducible refine ag (f:=88) rfl ?_);refine dk 5 func88 (dj.calls g bd de df _ _ b5 b6 b7 b8 w0 _ ?aC ?bh (kO b1) (ko b1) ?ga A2.out) ?_;(case aC=>exact cK);(case bh=>exact dg);(case ga=>exact fC (ak.own_ne HI0.out b1.out (by decide)));rintro e w6 ⟨rfl,hi,hb,hk⟩;refine⟨_,rfl,?_⟩;replace b1:=cY HI0 (oR b1) hk;replace HK:=hk2 HK hk;replace HI0:=am (hi);replace HB:=am (hb);(try clear hk);(try clear hi)))
 go_ret
 exact⟨oE,HI0.out,HB.out,HK.out⟩
end Go.Proofs.YtkfoopcpihmbmaaGreatDoor.P
