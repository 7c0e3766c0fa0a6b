-- Printed walks.
import Derived.Test.YtkfoopcpihmbmaaGreatDoorPx11
import Derived.Test.YtkfoopcpihmbmaaGreatDoorPx12
import Derived.Test.YtkfoopcpihmbmaaGreatDoorPx13
set_option linter.all false
set_option maxHeartbeats 8000000
set_option maxRecDepth 100000
namespace Go.Proofs.YtkfoopcpihmbmaaGreatDoor.P
open Go.RowKit Go.Proofs.ab.av Go.Proofs.ab.aQ Go.Proofs.ab.aT Go.Proofs.Tryz
attribute [local go_sem] fP fQ hJ hO fm fo fR fS

def eI.j0:Nat→List ByteArray→Bool→List Int→Int→Int→Option (ByteArray×Int×Int)
 |0,_,_,_,_,_=>none
 |k+1,x5,b6,b3,b4,b5=>if b6=true then((br.f b3 b4 b5 (x5.length:Int)).bind fun b1=>(if 0≤b1.1 then(if b1.1<(x5.length:Int)then(some (dr ByteArray.empty x5 b1.1,b1.2.1,b1.2.2))else(none))else(none)))else((iD.f k b3 b4 b5).bind fun b2=>(some (b2.1,b2.2.1,b2.2.2)))
def eI.f (k:Nat) (bd:List Int) (de:Int) (df:Int) (gf:List (aW)) (ch:Int):Option (ByteArray×Int×Int):=(iJ.f k gf ch).bind fun b2=>(if(b2.length:Int)>0 then((eF.f bd de df 4).bind fun b1=>(eI.j0 k b2 (!b1.1) bd b1.2.1 b1.2.2))else(eI.j0 k b2 false bd de df))
theorem eI.calls (k:Nat) (g:Nat) (bd:List Int) (de:Int) (df:Int) (ml:Option Addr) (mm:Nat) (gf:List (aW)) (ch:Int) (r1:ByteArray) (r2:Int) (r3:Int) (w0 w:World) (hI:ak w0 w g bd de df) (hB:Below w0.heap.size w0 w) (ux:∀W_,aI w W_ g none→Kd.C k32 W_ ml gf.length gf) (uy:gf.length≤mm) (h:eI.f k bd de df gf ch=some (r1,r2,r3)):
  Calls Tryz.prog 52 #[.pointer (some ⟨g,0,none⟩),.agg #[.slice ml gf.length mm,.int .i64 ch]] w fun e w'=>e= .returned (.string r1)∧ak w0 w' g bd r2 r3∧Below w0.heap.size w0 w'∧aI w w' g none:=by
 have d7:=underlying26;have bK:=ae.mk ux;have bL:=ae.mk uy;clear ux uy;have HI0:=ae.mk hI;have HK:=am (aI.refl w g none);have HL:=ae.mk hB.size;clear hI;have HW0:=ae.mk hB.size;have HB:=ae.mk hB;clear hB;unfold eI.f at h;have H:=h;clear h;replace H:=bA H;obtain⟨b2,A3,H⟩:=H;have bG:=ae.mk H;clear H
 go_enter func52,ntmps52
 go_upto_region 2 with(first|((with_reducible refine au (N:=3) rfl ?_);refine fz 3 #[.slice ml gf.length mm,.int .i64 ch] 26 ?_;intro bM hg w5 hbox hb;have b1:=am (hbox);have b8:=gw_ hg HK;have bB:=ge_ HW0 b8;have b3:=nV hg HI0;have b6:=nW hg HI0;replace HK:=hk1 HK hb;replace HI0:=fk HI0 hb;replace HB:=fi hb;clear hb hbox hg;have d8:=b6.out;have d9:=b3.out;obtain⟨⟨_,_⟩,_,_⟩:=z2 b1)|((with_reducible refine ag (f:=27) rfl ?_);refine dk 7 func27 (iJ.calls k _ _ gf ch b2 _ ?aC bL.out A3.out) ?_;(case aC=>exact Kd.ik bK.out (ra HK));rintro e w8 ⟨bN,rfl,bY,hb⟩;refine⟨_,rfl,?_⟩;have b7:=am (Kd.aq bY (kz HK));replace b1:=ba b1 hb;replace HK:=hk1 HK hb;replace HI0:=fk HI0 hb;replace HB:=fi hb))
 go_cut [15] (fun bZ wc=>∃(kq:Nat) (bC:Bool) (b4:Int) (b5:Int),bZ= .bool bC∧ae (eI.j0 kq b2 bC bd b4 b5=some (r1,r2,r3))∧ae (kq≤k)∧ae (Kd.R Kd.string 9 wc w.heap.size (fun _=>True) bN b2)∧ae (wc.heap[bM]? =some (.cells #[(.slice ml gf.length mm),.int .i64 ch] 26 (0,0)))∧ae (ak w0 wc g bd b4 b5)∧ae (aI w wc g none)∧ae (Below w0.heap.size w0 wc))
 case first=>
  have H:=bG.out;clear bG
  by_cases c9:(b2.length:Int)>0
  rotate_left
  ·rw[if_neg c9]at H;have bE:decide (0<(b2.length:Int))=false:=decide_eq_false c9;have bF:decide (0<b2.length)=false:=decide_eq_false (by omega);clear c9
   (skip)
   have H':=ae.mk H;clear H;obtain⟨dA,dB,bO⟩:=Kd.ao b7.out;subst bO
   go_wp2
   go_meet
   case rel=>exact⟨_,(false),(de),(df),oS,H',⟨by omega⟩,⟨oR b7⟩,⟨oF b1⟩,⟨HI0.out⟩,⟨HK.out⟩,⟨HB.out⟩⟩
  rw[if_pos c9]at H;have bE:decide (0<(b2.length:Int))=true:=decide_eq_true c9;have bF:decide (0<b2.length)=true:=decide_eq_true (by omega);clear c9
  (skip)
  replace H:=bA H;obtain⟨⟨bH,bI,bJ⟩,d1,H⟩:=H
  try dsimp only at H
  have H':=ae.mk H;clear H;obtain⟨dC,dD,bP⟩:=Kd.ao b7.out;subst bP
  go_wp2_with ((go_at_call 68;(with_reducible refine(eF.calls g bd de df 4 bH bI bJ w0 _ ?aC ?bh d1.out).mono ?_);(case aC=>exact cK);(case bh=>exact dg);rintro e dI ⟨rfl,hi,hb,hk⟩;replace b1:=iL b1 hk b6;replace b7:=cY HI0 (oR b7) hk;replace HK:=hk2 HK hk;replace HI0:=am (hi);replace HB:=am (hb);(try clear hk);(try clear hi)))
  go_meet
  case rel=>exact⟨_,(!bH),(bI),(bJ),oS,H',⟨by omega⟩,⟨oR b7⟩,⟨oF b1⟩,⟨HI0.out⟩,⟨HK.out⟩,⟨HB.out⟩⟩
 case rest=>
  clear bG;obtain⟨kq,bC,b4,b5,rfl,HA,dJ,b9,b1,HI0,HK,HB⟩:=hcut
  cases kq with
  |zero=>exact absurd HA.out (by simp[eI.j0])
  |succ td=>
   have H:=HA.out;clear HA;simp only[eI.j0]at H;replace H:=jl H;rcases H with⟨rfl,H⟩|⟨rfl,H⟩;rotate_left
   ·replace H:=bA H;obtain⟨⟨bQ,bR,bS⟩,d2,H⟩:=H
    try dsimp only at H
    simp only[Option.some.injEq,Prod.mk.injEq]at H;obtain⟨rfl,rfl,rfl⟩:=H
    go_wp2_with (((with_reducible refine ag (f:=96) rfl ?_);refine dk 24 func96 (iD.calls td g bd b4 b5 bQ bR bS w0 _ ?aC ?bh d2.out) ?_;(case aC=>exact cK);(case bh=>exact dg);rintro e dK ⟨rfl,hi,hb,hk⟩;refine⟨_,rfl,?_⟩;replace b9:=cY HI0 (oR b9) hk;replace b1:=iL b1 hk b6;replace HK:=hk2 HK hk;replace HI0:=am (hi);replace HB:=am (hb);(try clear hk);(try clear hi)))
    go_ret
    exact⟨oE,HI0.out,HB.out,HK.out⟩
   replace H:=bA H;obtain⟨⟨bD,bT,bU⟩,d3,H⟩:=H
   try dsimp only at H
   obtain⟨d4,H⟩:=dw H;obtain⟨d5,H⟩:=dw H;simp only[Option.some.injEq,Prod.mk.injEq]at H;obtain⟨rfl,rfl,rfl⟩:=H;obtain⟨dE,dF,bV⟩:=Kd.ao b9.out;subst bV
   go_wp2_with (((with_reducible refine ag (f:=101) rfl ?_);refine dk 20 func101 (br.calls g bd b4 b5 (b2.length:Int) bD bT bU w0 _ ?aC ?bh d3.out) ?_;(case aC=>exact cK);(case bh=>exact dg);rintro e dL ⟨rfl,hi,hb,hk⟩;refine⟨_,rfl,?_⟩;replace b9:=cY HI0 (oR b9) hk;replace b1:=iL b1 hk b6;replace HK:=hk2 HK hk;replace HI0:=am (hi);replace HB:=am (hb);(try clear hk);(try clear hi);have dG:(0≤(bD:Int))=True:=oT;have dH:(bD<(b2.length:Int))=True:=oT;obtain⟨d6,bW,bX⟩:=Kd.ei (Kd.aU b9.out).2.2 bD oa oa;cases bW))
   go_ret
   exact⟨oE,HI0.out,HB.out,HK.out⟩

def iK.f (k:Nat) (ah:List (aW)) (al:Int) (a1:ByteArray):Option ((List (aW))×Int×Int):=(bw.f k ah al a1 2).bind fun b1=>(some (b1.1,b1.2.1,b1.2.2))
theorem iK.calls (k:Nat) (bs:Option Addr) (bo:Nat) (ah:List (aW)) (al:Int) (a1:ByteArray) (r1:List (aW)) (r2:Int) (r3:Int) (w:World) (cy:Kd.C k32 w bs ah.length ah) (cA:ah.length≤bo) (h:iK.f k ah al a1=some (r1,r2,r3)):
  Calls Tryz.prog 116 #[.agg #[.slice bs ah.length bo,.int .i64 al],.string a1] w fun e w'=>∃fy:Value,e= .returned (.tuple #[.agg #[fy,.int .i64 r2],.int .i64 r3])∧Kd.N k32 32 w' w.heap.size (fun k_=>(w.heap.size≤k_)) fy r1∧Below w.heap.size w w':=by
 have bK:=underlying26;have b9:=ae.mk cy;have bB:=ae.mk cA;clear cy cA;have HB:=am (Below.refl w.heap.size w);unfold iK.f at h;have H:=h;clear h;replace H:=bA H;obtain⟨⟨b6,b7,bF⟩,A3,H⟩:=H
 try dsimp only at H
 simp only[Option.some.injEq,Prod.mk.injEq]at H;obtain⟨rfl,rfl,rfl⟩:=H
 go_enter func116,ntmps116
 go_wp2_with (first|((with_reducible refine au (N:=2) rfl ?_);refine fz 2 #[.slice bs ah.length bo,.int .i64 al] 26 ?_;intro bC hg w4 hbox hb;have b1:=am (hbox);have bI:=fO hg;replace HB:=hB HB hb;clear hb hbox hg)|((with_reducible refine au (N:=4) rfl ?_);refine fz 4 #[.slice none 0 0,.int .i64 0] 26 ?_;intro b2 hg w5 hbox hb;have b3:=am (hbox);have bJ:=fO hg;have b4:=fX hg b1;have b5:=fY hg b1;replace b1:=ba b1 hb;replace HB:=hB HB hb;clear hb hbox hg;have bL:=b4.out;have bM:=b5.out;obtain⟨⟨_,_⟩,_,_⟩:=z2 b1)|((with_reducible refine ag (f:=160) rfl ?_);refine dk 8 func160 (bw.calls k _ _ ah al a1 2 b6 b7 bF _ (kC b9) bB.out A3.out) ?_;rintro e w8 ⟨bN,rfl,bG,hb⟩;refine⟨_,rfl,?_⟩;have b8:=am (Kd.cz (Kd.an (ok':=fun k_=>(w.heap.size≤k_)∧k_≠bC∧k_≠b2) bG (fun k_ aZ=>⟨(Nat.le_trans (af oB) aZ),(fB b1 aZ),(fB b3 aZ)⟩)) (af oB));replace b1:=ba b1 hb;replace b3:=ba b3 hb;replace HB:=hB HB hb;obtain⟨bD,bE,bH⟩:=Kd.cl b8.out;subst bH;obtain⟨⟨_,_⟩,_,_⟩:=z2 b3))
 refine bodyPost_ret (bu rfl _ _ b2 26 #[.slice bD b6.length bE,.int .i64 b7] (0,0) _ rfl (oP b3) underlying26 rfl (by kernel_rfl)) rfl ?_;exact⟨_,oE,Kd.an (Kd.aN (p:=⟨b2,1,none⟩) (Kd.aN (p:=⟨b2,0,none⟩) (Kd.an b8.out (fun k_ hk=>(⟨hk,hk.2.2⟩:_∧k_≠b2))) (fun _ hk=>hk.2) (.slice bD b6.length bE)) (fun _ hk=>hk.2) (.int .i64 b7)) (fun _ hk=>hk.1.1),oB⟩

def il.f (k:Nat) (ah:List (aW)) (al:Int) (a1:ByteArray):Option ((List (aW))×Int×Int):=(bw.f k ah al a1 1).bind fun b1=>(some (b1.1,b1.2.1,b1.2.2))
theorem il.calls (k:Nat) (bs:Option Addr) (bo:Nat) (ah:List (aW)) (al:Int) (a1:ByteArray) (r1:List (aW)) (r2:Int) (r3:Int) (w:World) (cy:Kd.C k32 w bs ah.length ah) (cA:ah.length≤bo) (h:il.f k ah al a1=some (r1,r2,r3)):
  Calls Tryz.prog 117 #[.agg #[.slice bs ah.length bo,.int .i64 al],.string a1] w fun e w'=>∃fy:Value,e= .returned (.tuple #[.agg #[fy,.int .i64 r2],.int .i64 r3])∧Kd.N k32 32 w' w.heap.size (fun k_=>(w.heap.size≤k_)) fy r1∧Below w.heap.size w w':=by
 have bK:=underlying26;have b9:=ae.mk cy;have bB:=ae.mk cA;clear cy cA;have HB:=am (Below.refl w.heap.size w);unfold il.f at h;have H:=h;clear h;replace H:=bA H;obtain⟨⟨b6,b7,bF⟩,A3,H⟩:=H
 try dsimp only at H
 simp only[Option.some.injEq,Prod.mk.injEq]at H;obtain⟨rfl,rfl,rfl⟩:=H
 go_enter func117,ntmps117
 go_wp2_with (first|((with_reducible refine au (N:=2) rfl ?_);refine fz 2 #[.slice bs ah.length bo,.int .i64 al] 26 ?_;intro bC hg w4 hbox hb;have b1:=am (hbox);have bI:=fO hg;replace HB:=hB HB hb;clear hb hbox hg)|((with_reducible refine au (N:=4) rfl ?_);refine fz 4 #[.slice none 0 0,.int .i64 0] 26 ?_;intro b2 hg w5 hbox hb;have b3:=am (hbox);have bJ:=fO hg;have b4:=fX hg b1;have b5:=fY hg b1;replace b1:=ba b1 hb;replace HB:=hB HB hb;clear hb hbox hg;have bL:=b4.out;have bM:=b5.out;obtain⟨⟨_,_⟩,_,_⟩:=z2 b1)|((with_reducible refine ag (f:=160) rfl ?_);refine dk 8 func160 (bw.calls k _ _ ah al a1 1 b6 b7 bF _ (kC b9) bB.out A3.out) ?_;rintro e w8 ⟨bN,rfl,bG,hb⟩;refine⟨_,rfl,?_⟩;have b8:=am (Kd.cz (Kd.an (ok':=fun k_=>(w.heap.size≤k_)∧k_≠bC∧k_≠b2) bG (fun k_ aZ=>⟨(Nat.le_trans (af oB) aZ),(fB b1 aZ),(fB b3 aZ)⟩)) (af oB));replace b1:=ba b1 hb;replace b3:=ba b3 hb;replace HB:=hB HB hb;obtain⟨bD,bE,bH⟩:=Kd.cl b8.out;subst bH;obtain⟨⟨_,_⟩,_,_⟩:=z2 b3))
 refine bodyPost_ret (bu rfl _ _ b2 26 #[.slice bD b6.length bE,.int .i64 b7] (0,0) _ rfl (oP b3) underlying26 rfl (by kernel_rfl)) rfl ?_;exact⟨_,oE,Kd.an (Kd.aN (p:=⟨b2,1,none⟩) (Kd.aN (p:=⟨b2,0,none⟩) (Kd.an b8.out (fun k_ hk=>(⟨hk,hk.2.2⟩:_∧k_≠b2))) (fun _ hk=>hk.2) (.slice bD b6.length bE)) (fun _ hk=>hk.2) (.int .i64 b7)) (fun _ hk=>hk.1.1),oB⟩

mutual
def az.j0:Nat→ByteArray→ByteArray→Int→Bool→List Int→Int→Int→List (aW)→Int→Option ((List (aW))×Int×Int×Int)
 |0,_,_,_,_,_,_,_,_,_=>none
 |k+1,x5,x6,b5,b8,b7,b3,b4,b1,b2=>if b8=true then((iK.f k b1 b2 x6).bind fun b6=>(some (b6.1,b6.2.1,b3,b4)))else(if b5=2 then(az.j1 k x5 x6 b5 (b5==2) b7 b3 b4 b1 b2)else(az.j1 k x5 x6 b5 (b5==3) b7 b3 b4 b1 b2))
def az.j1:Nat→ByteArray→ByteArray→Int→Bool→List Int→Int→Int→List (aW)→Int→Option ((List (aW))×Int×Int×Int)
 |0,_,_,_,_,_,_,_,_,_=>none
 |k+1,x5,x6,b3,b8,b6,b4,b5,b1,b2=>if b8=true then((il.f k b1 b2 x6).bind fun b7=>(some (b7.1,b7.2.1,b4,b5)))else(if b3=4 then(az.j2 k x5 x6 b3 (b3==4) b6 b4 b5 b1 b2)else(if b3=5 then(az.j2 k x5 x6 b3 (b3==5) b6 b4 b5 b1 b2)else(az.j2 k x5 x6 b3 (b3==6) b6 b4 b5 b1 b2)))
def az.j2:Nat→ByteArray→ByteArray→Int→Bool→List Int→Int→Int→List (aW)→Int→Option ((List (aW))×Int×Int×Int)
 |0,_,_,_,_,_,_,_,_,_=>none
 |k+1,x5,x6,bK,bL,b4,b5,b6,b1,b2=>if bL=true then((cN.f b4 b5 b6 (([0,1,20]:List Int))).bind fun b7=>((iB.f k b4 b7.2.1 b7.2.2).bind fun b8=>((aE.f k b1 b2 x5 b7.1 b8.1).bind fun bD=>(some (bD.1,bD.2.1,b8.2.1,b8.2.2)))))else(if bK=7 then((cN.f b4 b5 b6 (([0,3,50]:List Int))).bind fun b9=>((cr.f k b1 b2 x5 b9.1).bind fun bE=>(some (bE.1,bE.2.1,b9.2.1,b9.2.2))))else(if bK=8 then((eG.f k b1 b2 x5).bind fun bF=>(some (bF.1,bF.2.1,b5,b6)))else(if bK=9 then((dt.f k b1 b2 x5 x6).bind fun bG=>(some (bG.1,bG.2.1,b5,b6)))else(if bK=10 then((ez.f k b1 b2 x5 x6).bind fun bH=>(some (bH.1,bH.2.1,b5,b6)))else((eF.f b4 b5 b6 2).bind fun b3=>(if b3.1=true then((cv.f k b1 b2 x5).bind fun bI=>(some (bI.1,bI.2.1,b3.2.1,b3.2.2)))else((gl.f b4 b3.2.1 b3.2.2).bind fun bB=>((dj.f b4 bB.2.1 bB.2.2 (([(⟨#[120]⟩:ByteArray),(⟨#[]⟩:ByteArray),(⟨#[118,97,108,117,101]⟩:ByteArray)]:List ByteArray))).bind fun bC=>((ck.f k b1 b2 x5 bB.1 bC.1).bind fun bJ=>(some (bJ.1,bJ.2.1,bC.2.1,bC.2.2)))))))))))
end
def az.f (k:Nat) (bd:List Int) (de:Int) (df:Int) (gf:List (aW)) (ch:Int):Option ((List (aW))×Int×Int×Int):=(eI.f k bd de df gf ch).bind fun b2=>((eo.f k bd b2.2.1 b2.2.2).bind fun b3=>((br.f bd b3.2.1 b3.2.2 12).bind fun b1=>(if b1.1=0 then(az.j0 k b2.1 b3.1 b1.1 (b1.1==0) bd b1.2.1 b1.2.2 gf ch)else(az.j0 k b2.1 b3.1 b1.1 (b1.1==1) bd b1.2.1 b1.2.2 gf ch))))
def az.T6:Bool×List (List Nat×List Nat):=(true,[([],[]),([],[]),([],[]),([2],[2]),([],[]),([],[]),([4,5,3],[4,5]),([0,1,3,6,6],[0,1,3,6]),([7],[7]),([8],[8]),([8],[8]),([9,7,0,1,2,3,4,5,6,7,8,9],[9])])
def az.B6:List Nat:=[0,0,0,4,0,0,60,127,255,511,511,1023]
theorem az.tab6:fK .any (opsOf Tryz.f70 6)=az.T6:=by kernel_rfl
theorem az.ur:ep az.T6.2 az.B6=true:=by kernel_rfl
def az.T16:Bool×List (List Nat×List Nat):=(true,[([],[]),([],[]),([],[]),([],[]),([2,3],[2,3]),([],[]),([5,4],[5]),([0,1,4,6,6],[0,1,4,6]),([7],[7]),([8],[8]),([8],[8]),([9,7,0,1,2,3,4,5,6,7,8,9],[9])])
def az.B16:List Nat:=[0,0,0,0,12,0,60,127,255,511,511,1023]
theorem az.adk:fK .any (opsOf Tryz.f70 16)=az.T16:=by kernel_rfl
theorem az.acN:ep az.T16.2 az.B16=true:=by kernel_rfl
def az.T18:Bool×List (List Nat×List Nat):=(true,[([],[]),([],[]),([],[]),([],[]),([2,3],[2,3]),([0,1,4,4],[0,1,4]),([5],[5]),([6],[6]),([6],[6]),([7,5,0,1,2,3,4,5,6,7],[7])])
def az.B18:List Nat:=[0,0,0,0,12,31,63,127,127,255]
theorem az.adl:fK .any (opsOf Tryz.f70 18)=az.T18:=by kernel_rfl
theorem az.acO:ep az.T18.2 az.B18=true:=by kernel_rfl
theorem az.calls (k:Nat) (g:Nat) (bd:List Int) (de:Int) (df:Int) (ml:Option Addr) (mm:Nat) (gf:List (aW)) (ch:Int) (r1:List (aW)) (r2:Int) (r3:Int) (r4:Int) (w0 w:World) (hI:ak w0 w g bd de df) (hB:Below w0.heap.size w0 w) (ux:∀W_,aI w W_ g none→Kd.C k32 W_ ml gf.length gf) (uy:gf.length≤mm) (h:az.f k bd de df gf ch=some (r1,r2,r3,r4)):
  Calls Tryz.prog 70 #[.pointer (some ⟨g,0,none⟩),.agg #[.slice ml gf.length mm,.int .i64 ch]] w fun e w'=>∃fy:Value,e= .returned (.agg #[fy,.int .i64 r2])∧Kd.N k32 32 w' w.heap.size (fun k_=>(w.heap.size≤k_)) fy r1∧ak w0 w' g bd r3 r4∧Below w0.heap.size w0 w'∧aI w w' g none:=by
 have b2n:=underlying26;have bO:=ae.mk ux;have bP:=ae.mk uy;clear ux uy;have HI0:=ae.mk hI;have HK:=am (aI.refl w g none);have HL:=ae.mk hB.size;clear hI;have HW0:=ae.mk hB.size;have HB:=ae.mk hB;clear hB;unfold az.f at h;have H:=h;clear h;replace H:=bA H;obtain⟨⟨bI,jR,jS⟩,A3,H⟩:=H
 try dsimp only at H
 replace H:=bA H;obtain⟨⟨bQ,jT,jU⟩,A4,H⟩:=H
 try dsimp only at H
 replace H:=bA H;obtain⟨⟨b5,bK,bL⟩,A5,H⟩:=H
 try dsimp only at H
 have m3:=ae.mk H;clear H
 go_enter func70,ntmps70
 go_upto_if 33 with(first|((with_reducible refine au (N:=3) rfl ?_);refine fz 3 #[.slice ml gf.length mm,.int .i64 ch] 26 ?_;intro b3 hg w7 hbox hb;have b1:=am (hbox);have bD:=gw_ hg HK;have bG:=ge_ HW0 bD;have b6:=nV hg HI0;have bB:=nW hg HI0;replace HK:=hk1 HK hb;replace HI0:=fk HI0 hb;replace HB:=fi hb;clear hb hbox hg)|((with_reducible refine au (N:=4) rfl ?_);refine fz 4 #[.slice none 0 0,.int .i64 0] 26 ?_;intro b4 hg w8 hbox hb;have b2:=am (hbox);have bE:=gw_ hg HK;have bH:=ge_ HW0 bE;have b8:=fX hg b1;have b9:=fY hg b1;have b7:=nV hg HI0;have bC:=nW hg HI0;replace b1:=ba b1 hb;replace HK:=hk1 HK hb;replace HI0:=fk HI0 hb;replace HB:=fi hb;clear hb hbox hg;have b2o:=b8.out;have b2p:=b9.out;have b1s:=bB.out;have b1t:=b6.out;obtain⟨⟨_,_⟩,_,_⟩:=z2 b1)|((with_reducible refine ag (f:=52) rfl ?_);refine dk 9 func52 (eI.calls k g bd de df _ _ gf ch bI jR jS w0 _ ?aC ?bh ?uw bP.out A3.out) ?_;(case aC=>exact cK);(case bh=>exact dg);(case uw=>exact Kd.uf bO.out (ra HK));rintro e w12 ⟨rfl,hi,hb,hk⟩;refine⟨_,rfl,?_⟩;replace b1:=iL b1 hk bB;replace b2:=iL b2 hk bC;replace HK:=hk2 HK hk;replace HI0:=am (hi);replace HB:=am (hb);(try clear hk);(try clear hi))|((with_reducible refine ag (f:=56) rfl ?_);refine dk 11 func56 (eo.calls k g bd jR jS bQ jT jU w0 _ ?aC ?bh A4.out) ?_;(case aC=>exact cK);(case bh=>exact dg);rintro e w13 ⟨rfl,hi,hb,hk⟩;refine⟨_,rfl,?_⟩;replace b1:=iL b1 hk bB;replace b2:=iL b2 hk bC;replace HK:=hk2 HK hk;replace HI0:=am (hi);replace HB:=am (hb);(try clear hk);(try clear hi))|((with_reducible refine ag (f:=101) rfl ?_);refine dk 13 func101 (br.calls g bd jT jU 12 b5 bK bL w0 _ ?aC ?bh A5.out) ?_;(case aC=>exact cK);(case bh=>exact dg);rintro e w14 ⟨rfl,hi,hb,hk⟩;refine⟨_,rfl,?_⟩;replace b1:=iL b1 hk bB;replace b2:=iL b2 hk bC;replace HK:=hk2 HK hk;replace HI0:=am (hi);replace HB:=am (hb);(try clear hk);(try clear hi)))
 go_cut [33] (fun v33 wc=>∃(kq:Nat) (gF:Bool),v33= .bool gF∧ae (az.j0 kq bI bQ b5 gF bd bK bL gf ch=some (r1,r2,r3,r4))∧ae (kq≤k)∧ae (wc.heap[b3]? =some (.cells #[(.slice ml gf.length mm),.int .i64 ch] 26 (0,0)))∧ae (wc.heap[b4]? =some (.cells #[(.slice none 0 0),.int .i64 0] 26 (0,0)))∧ae (ak w0 wc g bd bK bL)∧ae (aI w wc g none)∧ae (Below w0.heap.size w0 wc))
 case first=>
  have H:=m3.out;clear m3
  by_cases dP:b5=0
  rotate_left
  ·rw[if_neg dP]at H;have gG:(b5==0)=false:=beq_eq_false_iff_ne.mpr dP;have gH:(b5 !=0)=true:=bne_iff_ne.mpr dP
   (rw[gG])
   have H':=ae.mk H;clear H
   go_wp2
   go_meet
   case rel=>exact⟨_,((b5==1)),oS,H',⟨by omega⟩,⟨oF b1⟩,⟨oF b2⟩,⟨HI0.out⟩,⟨HK.out⟩,⟨HB.out⟩⟩
  rw[if_pos dP]at H;have gG:(b5==0)=true:=beq_iff_eq.mpr dP;have gH:(b5 !=0)=false:=bne_eq_false_iff_eq.mpr dP;clear dP
  (rw[gG])
  have H':=ae.mk H;clear H
  go_wp2
  go_meet
  case rel=>exact⟨_,((b5==0)),oS,H',⟨by omega⟩,⟨oF b1⟩,⟨oF b2⟩,⟨HI0.out⟩,⟨HK.out⟩,⟨HB.out⟩⟩
 case rest=>
  clear m3;obtain⟨kq,gF,rfl,HA,gW,b1,b2,HI0,HK,HB⟩:=hcut
  cases kq with
  |zero=>exact absurd HA.out (by simp[az.j0])
  |succ ng=>
   have H:=HA.out;clear HA;simp only[az.j0]at H;replace H:=jl H;rcases H with⟨rfl,H⟩|⟨rfl,H⟩
   ·replace H:=bA H;obtain⟨⟨d5,d6,mC⟩,A17,H⟩:=H
    try dsimp only at H
    simp only[Option.some.injEq,Prod.mk.injEq]at H;obtain⟨rfl,rfl,rfl,rfl⟩:=H;have b1u:=b8.out;have b1v:=b9.out;have b1w:=bB.out;have b1x:=b6.out;obtain⟨⟨_,_⟩,_,_⟩:=z2 b1
    go_wp2_with (((with_reducible refine ag (f:=116) rfl ?_);refine dk 39 func116 (iK.calls ng _ _ gf ch bQ d5 d6 mC _ ?aC bP.out A17.out) ?_;(case aC=>exact Kd.ik bO.out (ra HK));rintro e w21 ⟨b1y,rfl,bM,hb⟩;refine⟨_,rfl,?_⟩;have gX:=am (Kd.cz (Kd.an (ok':=fun k_=>(w.heap.size≤k_)∧k_≠b3∧k_≠b4∧k_≠g) bM (fun k_ aZ=>⟨(Nat.le_trans (kz HK) aZ),(fB b1 aZ),(fB b2 aZ),(ak.fresh cK k_ aZ)⟩)) (kz HK));replace b1:=ba b1 hb;replace b2:=ba b2 hb;replace HK:=hk1 HK hb;replace HI0:=fk HI0 hb;replace HB:=fi hb;obtain⟨jC,jD,zU⟩:=Kd.cl gX.out;subst zU;obtain⟨⟨_,_⟩,_,_⟩:=z2 b1;have b1z:=bC.out;have b20:=b7.out;obtain⟨⟨_,_⟩,_,_⟩:=z2 b2))
    refine bodyPost_ret (results_cell_row rfl _ _ b4 26 #[.slice jC d5.length jD,.int .i64 d6] (0,0) _ rfl (oP b2) underlying26 rfl (by kernel_rfl)) rfl ?_;exact⟨_,oE,Kd.an (Kd.aN (p:=⟨b4,1,none⟩) (Kd.aN (p:=⟨b4,0,none⟩) (Kd.aN (p:=⟨b3,1,none⟩) (Kd.aN (p:=⟨b3,0,none⟩) (Kd.an (Kd.an gX.out (fun k_ hk=>(⟨hk,hk.2.1⟩:_∧k_≠b3))) (fun k_ hk=>(⟨hk,hk.1.2.2.1⟩:_∧k_≠b4))) (fun _ hk=>hk.1.2) (.slice jC d5.length jD)) (fun _ hk=>hk.1.2) (.int .i64 d6)) (fun _ hk=>hk.2) (.slice jC d5.length jD)) (fun _ hk=>hk.2) (.int .i64 d6)) (fun _ hk=>hk.1.1.1),by repeat((with_reducible first|exact HI0.out|refine ak.far ?_ b6.out _|refine ak.far ?_ b7.out _)),by repeat((with_reducible first|exact HB.out|refine a_ ?_ bG.out|refine a_ ?_ bH.out)),by repeat((with_reducible first|exact HK.out|refine cu ?_ bD.out _|refine cu ?_ bE.out _))⟩
   have jE:=ae.mk H;clear H
   go_upto_if 42 with(fail)
   go_cut [42] (fun v42 wc=>∃(kq:Nat) (dQ:Bool),v42= .bool dQ∧ae (az.j1 kq bI bQ b5 dQ bd bK bL gf ch=some (r1,r2,r3,r4))∧ae (kq≤ng)∧ae (wc.heap[b3]? =some (.cells #[(.slice ml gf.length mm),.int .i64 ch] 26 (0,0)))∧ae (wc.heap[b4]? =some (.cells #[(.slice none 0 0),.int .i64 0] 26 (0,0)))∧ae (ak w0 wc g bd bK bL)∧ae (aI w wc g none)∧ae (Below w0.heap.size w0 wc))
   case first=>
    have H:=jE.out;clear jE
    by_cases dR:b5=2
    rotate_left
    ·rw[if_neg dR]at H;have gI:(b5==2)=false:=beq_eq_false_iff_ne.mpr dR;have gJ:(b5 !=2)=true:=bne_iff_ne.mpr dR
     (rw[gI])
     have H':=ae.mk H;clear H
     go_wp2
     go_meet
     case rel=>exact⟨_,((b5==3)),oS,H',⟨by have:=gW.out;omega⟩,⟨oF b1⟩,⟨oF b2⟩,⟨HI0.out⟩,⟨HK.out⟩,⟨HB.out⟩⟩
    rw[if_pos dR]at H;have gI:(b5==2)=true:=beq_iff_eq.mpr dR;have gJ:(b5 !=2)=false:=bne_eq_false_iff_eq.mpr dR;clear dR
    (rw[gI])
    have H':=ae.mk H;clear H
    go_wp2
    go_meet
    case rel=>exact⟨_,((b5==2)),oS,H',⟨by have:=gW.out;omega⟩,⟨oF b1⟩,⟨oF b2⟩,⟨HI0.out⟩,⟨HK.out⟩,⟨HB.out⟩⟩
   case rest=>
    clear jE;obtain⟨kq,dQ,rfl,HA,jF,b1,b2,HI0,HK,HB⟩:=hcut
    cases kq with
    |zero=>exact absurd HA.out (by simp[az.j1])
    |succ adm=>
     have H:=HA.out;clear HA;simp only[az.j1]at H;replace H:=jl H;rcases H with⟨rfl,H⟩|⟨rfl,H⟩
     ·replace H:=bA H;obtain⟨⟨d7,d8,mD⟩,A29,H⟩:=H
      try dsimp only at H
      simp only[Option.some.injEq,Prod.mk.injEq]at H;obtain⟨rfl,rfl,rfl,rfl⟩:=H;have b21:=b8.out;have b22:=b9.out;have b23:=bB.out;have b24:=b6.out;obtain⟨⟨_,_⟩,_,_⟩:=z2 b1
      go_wp2_with (((with_reducible refine ag (f:=117) rfl ?_);refine dk 48 func117 (il.calls adm _ _ gf ch bQ d7 d8 mD _ ?aC bP.out A29.out) ?_;(case aC=>exact Kd.ik bO.out (ra HK));rintro e w33 ⟨b25,rfl,bM,hb⟩;refine⟨_,rfl,?_⟩;have gY:=am (Kd.cz (Kd.an (ok':=fun k_=>(w.heap.size≤k_)∧k_≠b3∧k_≠b4∧k_≠g) bM (fun k_ aZ=>⟨(Nat.le_trans (kz HK) aZ),(fB b1 aZ),(fB b2 aZ),(ak.fresh cK k_ aZ)⟩)) (kz HK));replace b1:=ba b1 hb;replace b2:=ba b2 hb;replace HK:=hk1 HK hb;replace HI0:=fk HI0 hb;replace HB:=fi hb;obtain⟨jG,jH,zV⟩:=Kd.cl gY.out;subst zV;obtain⟨⟨_,_⟩,_,_⟩:=z2 b1;have b26:=bC.out;have b27:=b7.out;obtain⟨⟨_,_⟩,_,_⟩:=z2 b2))
      refine bodyPost_ret (results_cell_row rfl _ _ b4 26 #[.slice jG d7.length jH,.int .i64 d8] (0,0) _ rfl (oP b2) underlying26 rfl (by kernel_rfl)) rfl ?_;exact⟨_,oE,Kd.an (Kd.aN (p:=⟨b4,1,none⟩) (Kd.aN (p:=⟨b4,0,none⟩) (Kd.aN (p:=⟨b3,1,none⟩) (Kd.aN (p:=⟨b3,0,none⟩) (Kd.an (Kd.an gY.out (fun k_ hk=>(⟨hk,hk.2.1⟩:_∧k_≠b3))) (fun k_ hk=>(⟨hk,hk.1.2.2.1⟩:_∧k_≠b4))) (fun _ hk=>hk.1.2) (.slice jG d7.length jH)) (fun _ hk=>hk.1.2) (.int .i64 d8)) (fun _ hk=>hk.2) (.slice jG d7.length jH)) (fun _ hk=>hk.2) (.int .i64 d8)) (fun _ hk=>hk.1.1.1),by repeat((with_reducible first|exact HI0.out|refine ak.far ?_ b6.out _|refine ak.far ?_ b7.out _)),by repeat((with_reducible first|exact HB.out|refine a_ ?_ bG.out|refine a_ ?_ bH.out)),by repeat((with_reducible first|exact HK.out|refine cu ?_ bD.out _|refine cu ?_ bE.out _))⟩
     have jI:=ae.mk H;clear H
     go_upto_if 51 with(fail)
     go_cut [51] (fun v51 wc=>∃(kq:Nat) (dS:Bool),v51= .bool dS∧ae (az.j2 kq bI bQ b5 dS bd bK bL gf ch=some (r1,r2,r3,r4))∧ae (kq≤adm)∧ae (wc.heap[b3]? =some (.cells #[(.slice ml gf.length mm),.int .i64 ch] 26 (0,0)))∧ae (wc.heap[b4]? =some (.cells #[(.slice none 0 0),.int .i64 0] 26 (0,0)))∧ae (ak w0 wc g bd bK bL)∧ae (aI w wc g none)∧ae (Below w0.heap.size w0 wc))
     case first=>
      have H:=jI.out;clear jI
      by_cases dT:b5=4
      ·rw[if_pos dT]at H;have gK:(b5==4)=true:=beq_iff_eq.mpr dT;have gL:(b5 !=4)=false:=bne_eq_false_iff_eq.mpr dT;clear dT
       (rw[gK])
       have H':=ae.mk H;clear H
       go_wp2
       go_meet
       case rel=>exact⟨_,((b5==4)),oS,H',⟨by have:=gW.out;have:=jF.out;omega⟩,⟨oF b1⟩,⟨oF b2⟩,⟨HI0.out⟩,⟨HK.out⟩,⟨HB.out⟩⟩
      rw[if_neg dT]at H;have gK:(b5==4)=false:=beq_eq_false_iff_ne.mpr dT;have gL:(b5 !=4)=true:=bne_iff_ne.mpr dT
      (rw[gK])
      by_cases dU:b5=5
      rotate_left
      ·rw[if_neg dU]at H;have mE:(b5==5)=false:=beq_eq_false_iff_ne.mpr dU;have mF:(b5 !=5)=true:=bne_iff_ne.mpr dU;have H':=ae.mk H;clear H
       go_wp2
       go_meet
       case rel=>exact⟨_,((b5==6)),oS,H',⟨by have:=gW.out;have:=jF.out;omega⟩,⟨oF b1⟩,⟨oF b2⟩,⟨HI0.out⟩,⟨HK.out⟩,⟨HB.out⟩⟩
      rw[if_pos dU]at H;have mE:(b5==5)=true:=beq_iff_eq.mpr dU;have mF:(b5 !=5)=false:=bne_eq_false_iff_eq.mpr dU;clear dU;have H':=ae.mk H;clear H
      go_wp2
      go_meet
      case rel=>exact⟨_,((b5==5)),oS,H',⟨by have:=gW.out;have:=jF.out;omega⟩,⟨oF b1⟩,⟨oF b2⟩,⟨HI0.out⟩,⟨HK.out⟩,⟨HB.out⟩⟩
     case rest=>
      clear jI;obtain⟨kq,dS,rfl,HA,b2q,b1,b2,HI0,HK,HB⟩:=hcut
      cases kq with
      |zero=>exact absurd HA.out (by simp[az.j2])
      |succ qQ=>
       have H:=HA.out;clear HA;simp only[az.j2]at H;replace H:=jl H;rcases H with⟨rfl,H⟩|⟨rfl,H⟩
       ·obtain⟨gM,cx⟩:∃y_:List Int,y_=(([0,1,20]:List Int)):=⟨_,rfl⟩;replace H:((cN.f bd bK bL gM).bind fun dV=>((iB.f qQ bd dV.2.1 dV.2.2).bind fun dW=>((aE.f qQ gf ch bI dV.1 dW.1).bind fun gZ=>(some (gZ.1,gZ.2.1,dW.2.1,dW.2.2)))))=some (r1,r2,r3,r4):=oY;have j1:=ae.mk cx;clear cx;replace H:=bA H;obtain⟨⟨jV,jW,jX⟩,A42,H⟩:=H
        try dsimp only at H
        replace H:=bA H;obtain⟨⟨gN,mG,mH⟩,A43,H⟩:=H
        try dsimp only at H
        replace H:=bA H;obtain⟨⟨d9,dA,mI⟩,A44,H⟩:=H
        try dsimp only at H
        simp only[Option.some.injEq,Prod.mk.injEq]at H;obtain⟨rfl,rfl,rfl,rfl⟩:=H
        try go_wp2
        replace b1:=am (ar b1.out);replace b2:=am (ar b2.out);replace HI0:=am (ak.drew HI0.out);replace HK:=am (fH HK.out);replace HB:=am (bl HB.out);refine iY (n:=12) (S:=fun w'=>w'.cell? ⟨b3,0,none⟩=some (.slice ml gf.length mm)∧w'.cell? ⟨b3,1,none⟩=some (.int .i64 ch)) (ds:=[11]) (lb 12 0) (by kernel_rfl) rfl rfl oH (fun hHeld=> ?_);refine fW az.adk az.acN (fun aV fA=> ?_);generalize wc.drew=w45 at b1 b2 HI0 HK HB hHeld⊢;refine cG 1 57 aV ?_;refine cG 2 58 aV ?_;refine cG 5 61 aV ?_;refine iA 0 56 aV fA hHeld ?_;refine jg 3 59 aV (fun K hK=> ?_);refine Kd.dv (Kd.int .i64) _ 3 ?hg (N:=59) ?hd (xs:=([0,1,20]:List Int)) (inner:=[.int .i64 0,.int .i64 1,.int .i64 20]) (ok:=fun _=>True) (fw:=fun _=>True) ?hr ?hp (fun _ hk=>hk) trivial (Below.refl _ _) (Nat.le_refl _) (by simp) ?_;(case hd=>rfl);(case hg=>rfl);(case hr=>(go_simp;done));(case hp=>exact(bp.one (show Kd.M (Kd.int .i64) _ _ _ 0 [.int .i64 0]from rfl) (bp.one (show Kd.M (Kd.int .i64) _ _ _ 1 [.int .i64 1]from rfl) (bp.one (show Kd.M (Kd.int .i64) _ _ _ 20 [.int .i64 20]from rfl) (bp.none _ _)))));intro b28 w46 dX hb fN cj;clear fN cj
        (rw[←j1.out]at dX)
        have bJ:=am (Kd.aq (Kd.cI (M:=fun k_=>(w.heap.size≤k_)) dX (kz HK) (fun k_ h_=>h_)) (kz HK));replace b1:=ba b1 hb;replace b2:=ba b2 hb;replace HK:=hk1 HK hb;replace HI0:=fk HI0 hb;replace HB:=fi hb;clear hb dX;obtain⟨zW,zX,m4⟩:=Kd.ao bJ.out
        (subst m4)
        refine aZ hK 59 oH (fun hHeld=> ?_);clear hK K;refine jg 4 60 aV (fun K hK=> ?_);refine mo 60 func53 (cN.calls g bd bK bL _ _ gM jV jW jX w0 _ ?aC ?bh (kO bJ) (ko bJ) ?ga A42.out) ?_
        (case aC=>exact cK)
        (case bh=>exact dg)
        (case ga=>exact fC (ak.own_ne HI0.out bJ.out (by decide)))
        rintro e w49 ⟨rfl,hi,hb,hk⟩;refine⟨_,rfl,?_⟩;replace b1:=iL b1 hk bB;replace b2:=iL b2 hk bC;replace bJ:=cY HI0 (oR bJ) hk;replace HK:=hk2 HK hk;replace HI0:=am (hi);replace HB:=am (hb)
        (try clear hk)
        (try clear hi)
        refine aZ hK 60 oH (fun hHeld=> ?_);clear hK K;refine jg 6 62 aV (fun K hK=> ?_);refine mo 62 func87 (iB.calls qQ g bd jW jX gN mG mH w0 _ ?aC ?bh A43.out) ?_
        (case aC=>exact cK)
        (case bh=>exact dg)
        rintro e w50 ⟨b29,rfl,bM,hi,hb,hk⟩;refine⟨_,rfl,?_⟩;have bT:=am (Kd.aq (Kd.cI (M:=fun k_=>(w.heap.size≤k_)) bM (kz HK) (fun k_ h_=>h_)) (kz HK));replace b1:=iL b1 hk bB;replace b2:=iL b2 hk bC;replace bJ:=cY HI0 (oR bJ) hk;replace HK:=hk2 HK hk;replace HI0:=am (hi);replace HB:=am (hb)
        (try clear hk)
        (try clear hi)
        obtain⟨zY,zZ,m5⟩:=Kd.ao bT.out
        (subst m5)
        refine aZ hK 62 oH (fun hHeld=> ?_);clear hK K;refine jg 7 63 aV (fun K hK=> ?_);refine mo 63 func41 (aE.calls qQ _ _ gf ch bI jV _ _ gN d9 dA mI _ ?aC bP.out (kO bT) (ko bT) A44.out) ?_
        (case aC=>exact Kd.ik bO.out (ra HK))
        rintro e zG ⟨b2A,rfl,bM,hb⟩;refine⟨_,rfl,?_⟩;have j2:=am (Kd.cz (Kd.an (ok':=fun k_=>(w.heap.size≤k_)∧some k_≠(.slice zW gM.length zX:Value).ownBlock∧some k_≠(.slice zY gN.length zZ:Value).ownBlock∧k_≠b3∧k_≠b4∧k_≠g) bM (fun k_ aZ=>⟨(Nat.le_trans (kz HK) aZ),(Kd.fresh' (iO bJ) k_ aZ),(Kd.fresh' (iO bT) k_ aZ),(fB b1 aZ),(fB b2 aZ),(ak.fresh cK k_ aZ)⟩)) (kz HK));replace bJ:=dm bJ hb;replace bT:=dm bT hb;replace b1:=ba b1 hb;replace b2:=ba b2 hb;replace HK:=hk1 HK hb;replace HI0:=fk HI0 hb;replace HB:=fi hb;obtain⟨jJ,jK,m6⟩:=Kd.cl j2.out
        (subst m6)
        refine aZ hK 63 oH (fun hHeld=> ?_);clear hK K;refine cG 8 55 aV ?_;refine cG 9 64 aV ?_;refine cG 10 65 aV ?_;refine kJ (i:=11) (N:=none) (lb 12 4095) rfl rfl (iE aV.out (by kernel_rfl)) (by decide) (fun K hK=> ?_);have b2r:zG.cell? ⟨b3,0,none⟩=some (.slice ml gf.length mm):=(aj b1.out 0).trans rfl;have b2B:=aK b1.out 0;have b1D:=b9.out;have b1E:=b8.out;have b2s:zG.cell? ⟨b3,1,none⟩=some (.int .i64 ch):=(aj b1.out 1).trans rfl;have b2C:=aK b1.out 1;have b1F:=b9.out;have b1G:=b8.out;refine kp (w1:= ?_) (by rfl) rfl ?_ ?_;rotate_left
        ·go_simp
         rfl
        refine hK.out _ _ ?_;clear hK K;refine nF aV ?_;have b2D:=b8.out;have b2E:=b9.out;have b2F:=bB.out;have b2G:=b6.out;obtain⟨⟨_,_⟩,_,_⟩:=z2 b1;have b2H:=bC.out;have b2I:=b7.out;obtain⟨⟨_,_⟩,_,_⟩:=z2 b2
        try go_wp2
        refine bodyPost_ret (results_cell_row rfl _ _ b4 26 #[.slice jJ d9.length jK,.int .i64 dA] (0,0) _ rfl (oP b2) underlying26 rfl (by kernel_rfl)) rfl ?_;exact⟨_,oE,Kd.an (Kd.aN (p:=⟨b4,1,none⟩) (Kd.aN (p:=⟨b4,0,none⟩) (Kd.aN (p:=⟨b3,1,none⟩) (Kd.aN (p:=⟨b3,0,none⟩) (Kd.an (Kd.an j2.out (fun k_ hk=>(⟨hk,hk.2.2.2.1⟩:_∧k_≠b3))) (fun k_ hk=>(⟨hk,hk.1.2.2.2.2.1⟩:_∧k_≠b4))) (fun _ hk=>hk.1.2) (.slice jJ d9.length jK)) (fun _ hk=>hk.1.2) (.int .i64 dA)) (fun _ hk=>hk.2) (.slice jJ d9.length jK)) (fun _ hk=>hk.2) (.int .i64 dA)) (fun _ hk=>hk.1.1.1),by repeat((with_reducible first|exact HI0.out|refine ak.far ?_ b6.out _|refine ak.far ?_ b7.out _)),by repeat((with_reducible first|exact HB.out|refine a_ ?_ bG.out|refine a_ ?_ bH.out)),by repeat((with_reducible first|exact HK.out|refine cu ?_ bD.out _|refine cu ?_ bE.out _))⟩
       by_cases dY:b5=7
       ·rw[if_pos dY]at H;have mJ:(b5==7)=true:=beq_iff_eq.mpr dY;have mK:(b5 !=7)=false:=bne_eq_false_iff_eq.mpr dY;clear dY;obtain⟨gO,cx⟩:∃y_:List Int,y_=(([0,3,50]:List Int)):=⟨_,rfl⟩;replace H:((cN.f bd bK bL gO).bind fun dZ=>((cr.f qQ gf ch bI dZ.1).bind fun j3=>(some (j3.1,j3.2.1,dZ.2.1,dZ.2.2))))=some (r1,r2,r3,r4):=oY;have j4:=ae.mk cx;clear cx;replace H:=bA H;obtain⟨⟨jY,mL,mM⟩,A62,H⟩:=H
        try dsimp only at H
        replace H:=bA H;obtain⟨⟨dB,dC,mN⟩,A63,H⟩:=H
        try dsimp only at H
        simp only[Option.some.injEq,Prod.mk.injEq]at H;obtain⟨rfl,rfl,rfl,rfl⟩:=H
        try go_wp2
        replace b1:=am (ar b1.out);replace b2:=am (ar b2.out);replace HI0:=am (ak.drew HI0.out);replace HK:=am (fH HK.out);replace HB:=am (bl HB.out);refine iY (n:=10) (S:=fun w'=>w'.cell? ⟨b3,0,none⟩=some (.slice ml gf.length mm)∧w'.cell? ⟨b3,1,none⟩=some (.int .i64 ch)) (ds:=[9]) (lb 10 0) (by kernel_rfl) rfl rfl oH (fun hHeld=> ?_);refine fW az.adl az.acO (fun aV fA=> ?_);generalize wc.drew=lV at b1 b2 HI0 HK HB hHeld⊢;refine cG 1 70 aV ?_;refine cG 2 71 aV ?_;refine iA 0 69 aV fA hHeld ?_;refine jg 3 72 aV (fun K hK=> ?_);refine Kd.dv (Kd.int .i64) _ 3 ?hg (N:=72) ?hd (xs:=([0,3,50]:List Int)) (inner:=[.int .i64 0,.int .i64 3,.int .i64 50]) (ok:=fun _=>True) (fw:=fun _=>True) ?hr ?hp (fun _ hk=>hk) trivial (Below.refl _ _) (Nat.le_refl _) (by simp) ?_;(case hd=>rfl);(case hg=>rfl);(case hr=>(go_simp;done));(case hp=>exact(bp.one (show Kd.M (Kd.int .i64) _ _ _ 0 [.int .i64 0]from rfl) (bp.one (show Kd.M (Kd.int .i64) _ _ _ 3 [.int .i64 3]from rfl) (bp.one (show Kd.M (Kd.int .i64) _ _ _ 50 [.int .i64 50]from rfl) (bp.none _ _)))));intro b2J w65 gA hb fN cj;clear fN cj
        (rw[←j4.out]at gA)
        have bN:=am (Kd.aq (Kd.cI (M:=fun k_=>(w.heap.size≤k_)) gA (kz HK) (fun k_ h_=>h_)) (kz HK));replace b1:=ba b1 hb;replace b2:=ba b2 hb;replace HK:=hk1 HK hb;replace HI0:=fk HI0 hb;replace HB:=fi hb;clear hb gA;obtain⟨b10,b11,m7⟩:=Kd.ao bN.out
        (subst m7)
        refine aZ hK 72 oH (fun hHeld=> ?_);clear hK K;refine jg 4 73 aV (fun K hK=> ?_);refine mo 73 func53 (cN.calls g bd bK bL _ _ gO jY mL mM w0 _ ?aC ?bh (kO bN) (ko bN) ?ga A62.out) ?_
        (case aC=>exact cK)
        (case bh=>exact dg)
        (case ga=>exact fC (ak.own_ne HI0.out bN.out (by decide)))
        rintro e w68 ⟨rfl,hi,hb,hk⟩;refine⟨_,rfl,?_⟩;replace b1:=iL b1 hk bB;replace b2:=iL b2 hk bC;replace bN:=cY HI0 (oR bN) hk;replace HK:=hk2 HK hk;replace HI0:=am (hi);replace HB:=am (hb)
        (try clear hk)
        (try clear hi)
        refine aZ hK 73 oH (fun hHeld=> ?_);clear hK K;refine jg 5 74 aV (fun K hK=> ?_);refine mo 74 func38 (cr.calls qQ _ _ gf ch bI jY dB dC mN _ ?aC bP.out A63.out) ?_
        (case aC=>exact Kd.ik bO.out (ra HK))
        rintro e zH ⟨b2K,rfl,bM,hb⟩;refine⟨_,rfl,?_⟩;have j5:=am (Kd.cz (Kd.an (ok':=fun k_=>(w.heap.size≤k_)∧some k_≠(.slice b10 gO.length b11:Value).ownBlock∧k_≠b3∧k_≠b4∧k_≠g) bM (fun k_ aZ=>⟨(Nat.le_trans (kz HK) aZ),(Kd.fresh' (iO bN) k_ aZ),(fB b1 aZ),(fB b2 aZ),(ak.fresh cK k_ aZ)⟩)) (kz HK));replace bN:=dm bN hb;replace b1:=ba b1 hb;replace b2:=ba b2 hb;replace HK:=hk1 HK hb;replace HI0:=fk HI0 hb;replace HB:=fi hb;obtain⟨jL,jM,m8⟩:=Kd.cl j5.out
        (subst m8)
        refine aZ hK 74 oH (fun hHeld=> ?_);clear hK K;refine cG 6 68 aV ?_;refine cG 7 75 aV ?_;refine cG 8 76 aV ?_;refine kJ (i:=9) (N:=none) (lb 10 1023) rfl rfl (iE aV.out (by kernel_rfl)) (by decide) (fun K hK=> ?_);have b2t:zH.cell? ⟨b3,0,none⟩=some (.slice ml gf.length mm):=(aj b1.out 0).trans rfl;have b2L:=aK b1.out 0;have b1H:=b9.out;have b1I:=b8.out;have b2u:zH.cell? ⟨b3,1,none⟩=some (.int .i64 ch):=(aj b1.out 1).trans rfl;have b2M:=aK b1.out 1;have b1J:=b9.out;have b1K:=b8.out;refine kp (w1:= ?_) (by rfl) rfl ?_ ?_;rotate_left
        ·go_simp
         rfl
        refine hK.out _ _ ?_;clear hK K;refine nF aV ?_;have b2N:=b8.out;have b2O:=b9.out;have b2P:=bB.out;have b2Q:=b6.out;obtain⟨⟨_,_⟩,_,_⟩:=z2 b1;have b2R:=bC.out;have b2S:=b7.out;obtain⟨⟨_,_⟩,_,_⟩:=z2 b2
        try go_wp2
        refine bodyPost_ret (results_cell_row rfl _ _ b4 26 #[.slice jL dB.length jM,.int .i64 dC] (0,0) _ rfl (oP b2) underlying26 rfl (by kernel_rfl)) rfl ?_;exact⟨_,oE,Kd.an (Kd.aN (p:=⟨b4,1,none⟩) (Kd.aN (p:=⟨b4,0,none⟩) (Kd.aN (p:=⟨b3,1,none⟩) (Kd.aN (p:=⟨b3,0,none⟩) (Kd.an (Kd.an j5.out (fun k_ hk=>(⟨hk,hk.2.2.1⟩:_∧k_≠b3))) (fun k_ hk=>(⟨hk,hk.1.2.2.2.1⟩:_∧k_≠b4))) (fun _ hk=>hk.1.2) (.slice jL dB.length jM)) (fun _ hk=>hk.1.2) (.int .i64 dC)) (fun _ hk=>hk.2) (.slice jL dB.length jM)) (fun _ hk=>hk.2) (.int .i64 dC)) (fun _ hk=>hk.1.1.1),by repeat((with_reducible first|exact HI0.out|refine ak.far ?_ b6.out _|refine ak.far ?_ b7.out _)),by repeat((with_reducible first|exact HB.out|refine a_ ?_ bG.out|refine a_ ?_ bH.out)),by repeat((with_reducible first|exact HK.out|refine cu ?_ bD.out _|refine cu ?_ bE.out _))⟩
       rw[if_neg dY]at H;have mJ:(b5==7)=false:=beq_eq_false_iff_ne.mpr dY;have mK:(b5 !=7)=true:=bne_iff_ne.mpr dY
       by_cases gB:b5=8
       ·rw[if_pos gB]at H;have mO:(b5==8)=true:=beq_iff_eq.mpr gB;have mP:(b5 !=8)=false:=bne_eq_false_iff_eq.mpr gB;clear gB;replace H:=bA H;obtain⟨⟨dD,dE,mQ⟩,A79,H⟩:=H
        try dsimp only at H
        simp only[Option.some.injEq,Prod.mk.injEq]at H;obtain⟨rfl,rfl,rfl,rfl⟩:=H;have b2T:=b8.out;have b2U:=b9.out;have b2V:=bB.out;have b2W:=b6.out;obtain⟨⟨_,_⟩,_,_⟩:=z2 b1
        go_wp2_with (((with_reducible refine ag (f:=118) rfl ?_);refine dk 82 func118 (eG.calls qQ _ _ gf ch bI dD dE mQ _ ?aC bP.out A79.out) ?_;(case aC=>exact Kd.ik bO.out (ra HK));rintro e w83 ⟨b2X,rfl,bM,hb⟩;refine⟨_,rfl,?_⟩;have j6:=am (Kd.cz (Kd.an (ok':=fun k_=>(w.heap.size≤k_)∧k_≠b3∧k_≠b4∧k_≠g) bM (fun k_ aZ=>⟨(Nat.le_trans (kz HK) aZ),(fB b1 aZ),(fB b2 aZ),(ak.fresh cK k_ aZ)⟩)) (kz HK));replace b1:=ba b1 hb;replace b2:=ba b2 hb;replace HK:=hk1 HK hb;replace HI0:=fk HI0 hb;replace HB:=fi hb;obtain⟨jN,jO,b12⟩:=Kd.cl j6.out;subst b12;obtain⟨⟨_,_⟩,_,_⟩:=z2 b1;have b2Y:=bC.out;have b2Z:=b7.out;obtain⟨⟨_,_⟩,_,_⟩:=z2 b2))
        refine bodyPost_ret (results_cell_row rfl _ _ b4 26 #[.slice jN dD.length jO,.int .i64 dE] (0,0) _ rfl (oP b2) underlying26 rfl (by kernel_rfl)) rfl ?_;exact⟨_,oE,Kd.an (Kd.aN (p:=⟨b4,1,none⟩) (Kd.aN (p:=⟨b4,0,none⟩) (Kd.aN (p:=⟨b3,1,none⟩) (Kd.aN (p:=⟨b3,0,none⟩) (Kd.an (Kd.an j6.out (fun k_ hk=>(⟨hk,hk.2.1⟩:_∧k_≠b3))) (fun k_ hk=>(⟨hk,hk.1.2.2.1⟩:_∧k_≠b4))) (fun _ hk=>hk.1.2) (.slice jN dD.length jO)) (fun _ hk=>hk.1.2) (.int .i64 dE)) (fun _ hk=>hk.2) (.slice jN dD.length jO)) (fun _ hk=>hk.2) (.int .i64 dE)) (fun _ hk=>hk.1.1.1),by repeat((with_reducible first|exact HI0.out|refine ak.far ?_ b6.out _|refine ak.far ?_ b7.out _)),by repeat((with_reducible first|exact HB.out|refine a_ ?_ bG.out|refine a_ ?_ bH.out)),by repeat((with_reducible first|exact HK.out|refine cu ?_ bD.out _|refine cu ?_ bE.out _))⟩
       rw[if_neg gB]at H;have mO:(b5==8)=false:=beq_eq_false_iff_ne.mpr gB;have mP:(b5 !=8)=true:=bne_iff_ne.mpr gB
       by_cases gC:b5=9
       ·rw[if_pos gC]at H;have mS:(b5==9)=true:=beq_iff_eq.mpr gC;have mT:(b5 !=9)=false:=bne_eq_false_iff_eq.mpr gC;clear gC;replace H:=bA H;obtain⟨⟨dF,dG,mU⟩,A89,H⟩:=H
        try dsimp only at H
        simp only[Option.some.injEq,Prod.mk.injEq]at H;obtain⟨rfl,rfl,rfl,rfl⟩:=H;have b2a:=b8.out;have b2b:=b9.out;have b2c:=bB.out;have b2d:=b6.out;obtain⟨⟨_,_⟩,_,_⟩:=z2 b1
        go_wp2_with (((with_reducible refine ag (f:=119) rfl ?_);refine dk 91 func119 (dt.calls qQ _ _ gf ch bI bQ dF dG mU _ ?aC bP.out A89.out) ?_;(case aC=>exact Kd.ik bO.out (ra HK));rintro e w93 ⟨b2e,rfl,bM,hb⟩;refine⟨_,rfl,?_⟩;have j7:=am (Kd.cz (Kd.an (ok':=fun k_=>(w.heap.size≤k_)∧k_≠b3∧k_≠b4∧k_≠g) bM (fun k_ aZ=>⟨(Nat.le_trans (kz HK) aZ),(fB b1 aZ),(fB b2 aZ),(ak.fresh cK k_ aZ)⟩)) (kz HK));replace b1:=ba b1 hb;replace b2:=ba b2 hb;replace HK:=hk1 HK hb;replace HI0:=fk HI0 hb;replace HB:=fi hb;obtain⟨jP,jQ,b13⟩:=Kd.cl j7.out;subst b13;obtain⟨⟨_,_⟩,_,_⟩:=z2 b1;have b2f:=bC.out;have b2g:=b7.out;obtain⟨⟨_,_⟩,_,_⟩:=z2 b2))
        refine bodyPost_ret (results_cell_row rfl _ _ b4 26 #[.slice jP dF.length jQ,.int .i64 dG] (0,0) _ rfl (oP b2) underlying26 rfl (by kernel_rfl)) rfl ?_;exact⟨_,oE,Kd.an (Kd.aN (p:=⟨b4,1,none⟩) (Kd.aN (p:=⟨b4,0,none⟩) (Kd.aN (p:=⟨b3,1,none⟩) (Kd.aN (p:=⟨b3,0,none⟩) (Kd.an (Kd.an j7.out (fun k_ hk=>(⟨hk,hk.2.1⟩:_∧k_≠b3))) (fun k_ hk=>(⟨hk,hk.1.2.2.1⟩:_∧k_≠b4))) (fun _ hk=>hk.1.2) (.slice jP dF.length jQ)) (fun _ hk=>hk.1.2) (.int .i64 dG)) (fun _ hk=>hk.2) (.slice jP dF.length jQ)) (fun _ hk=>hk.2) (.int .i64 dG)) (fun _ hk=>hk.1.1.1),by repeat((with_reducible first|exact HI0.out|refine ak.far ?_ b6.out _|refine ak.far ?_ b7.out _)),by repeat((with_reducible first|exact HB.out|refine a_ ?_ bG.out|refine a_ ?_ bH.out)),by repeat((with_reducible first|exact HK.out|refine cu ?_ bD.out _|refine cu ?_ bE.out _))⟩
       rw[if_neg gC]at H;have mS:(b5==9)=false:=beq_eq_false_iff_ne.mpr gC;have mT:(b5 !=9)=true:=bne_iff_ne.mpr gC
       by_cases gD:b5=10
       ·rw[if_pos gD]at H;have mV:(b5==10)=true:=beq_iff_eq.mpr gD;have mW:(b5 !=10)=false:=bne_eq_false_iff_eq.mpr gD;clear gD;replace H:=bA H;obtain⟨⟨dH,dI,mX⟩,A99,H⟩:=H
        try dsimp only at H
        simp only[Option.some.injEq,Prod.mk.injEq]at H;obtain⟨rfl,rfl,rfl,rfl⟩:=H;have b1Y:=b8.out;have b1Z:=b9.out;have b1a:=bB.out;have b1b:=b6.out;obtain⟨⟨_,_⟩,_,_⟩:=z2 b1
        go_wp2_with (((with_reducible refine ag (f:=120) rfl ?_);refine dk 100 func120 (ez.calls qQ _ _ gf ch bI bQ dH dI mX _ ?aC bP.out A99.out) ?_;(case aC=>exact Kd.ik bO.out (ra HK));rintro e b2v ⟨b2h,rfl,bM,hb⟩;refine⟨_,rfl,?_⟩;have j8:=am (Kd.cz (Kd.an (ok':=fun k_=>(w.heap.size≤k_)∧k_≠b3∧k_≠b4∧k_≠g) bM (fun k_ aZ=>⟨(Nat.le_trans (kz HK) aZ),(fB b1 aZ),(fB b2 aZ),(ak.fresh cK k_ aZ)⟩)) (kz HK));replace b1:=ba b1 hb;replace b2:=ba b2 hb;replace HK:=hk1 HK hb;replace HI0:=fk HI0 hb;replace HB:=fi hb;obtain⟨gP,gQ,mY⟩:=Kd.cl j8.out;subst mY;obtain⟨⟨_,_⟩,_,_⟩:=z2 b1;have b1c:=bC.out;have b1d:=b7.out;obtain⟨⟨_,_⟩,_,_⟩:=z2 b2))
        refine bodyPost_ret (results_cell_row rfl _ _ b4 26 #[.slice gP dH.length gQ,.int .i64 dI] (0,0) _ rfl (oP b2) underlying26 rfl (by kernel_rfl)) rfl ?_;exact⟨_,oE,Kd.an (Kd.aN (p:=⟨b4,1,none⟩) (Kd.aN (p:=⟨b4,0,none⟩) (Kd.aN (p:=⟨b3,1,none⟩) (Kd.aN (p:=⟨b3,0,none⟩) (Kd.an (Kd.an j8.out (fun k_ hk=>(⟨hk,hk.2.1⟩:_∧k_≠b3))) (fun k_ hk=>(⟨hk,hk.1.2.2.1⟩:_∧k_≠b4))) (fun _ hk=>hk.1.2) (.slice gP dH.length gQ)) (fun _ hk=>hk.1.2) (.int .i64 dI)) (fun _ hk=>hk.2) (.slice gP dH.length gQ)) (fun _ hk=>hk.2) (.int .i64 dI)) (fun _ hk=>hk.1.1.1),by repeat((with_reducible first|exact HI0.out|refine ak.far ?_ b6.out _|refine ak.far ?_ b7.out _)),by repeat((with_reducible first|exact HB.out|refine a_ ?_ bG.out|refine a_ ?_ bH.out)),by repeat((with_reducible first|exact HK.out|refine cu ?_ bD.out _|refine cu ?_ bE.out _))⟩
       rw[if_neg gD]at H;have mV:(b5==10)=false:=beq_eq_false_iff_ne.mpr gD;have mW:(b5 !=10)=true:=bne_iff_ne.mpr gD;replace H:=bA H;obtain⟨⟨b2i,dJ,dK⟩,m9,H⟩:=H
       try dsimp only at H
       replace H:=jl H;rcases H with⟨rfl,H⟩|⟨rfl,H⟩
       ·replace H:=bA H;obtain⟨⟨dL,dM,mZ⟩,b14,H⟩:=H
        try dsimp only at H
        simp only[Option.some.injEq,Prod.mk.injEq]at H;obtain⟨rfl,rfl,rfl,rfl⟩:=H
        go_wp2_with (first|((with_reducible refine ag (f:=68) rfl ?_);refine dk 15 func68 (eF.calls g bd bK bL 2 true dJ dK w0 _ ?aC ?bh m9.out) ?_;(case aC=>exact cK);(case bh=>exact dg);rintro e b2w ⟨rfl,hi,hb,hk⟩;refine⟨_,rfl,?_⟩;replace b1:=iL b1 hk bB;replace b2:=iL b2 hk bC;replace HK:=hk2 HK hk;replace HI0:=am (hi);replace HB:=am (hb);(try clear hk);(try clear hi);have b1e:=b8.out;have b1f:=b9.out;have b1g:=bB.out;have b1h:=b6.out;obtain⟨⟨_,_⟩,_,_⟩:=z2 b1)|((with_reducible refine ag (f:=121) rfl ?_);refine dk 19 func121 (cv.calls qQ _ _ gf ch bI dL dM mZ _ ?aC bP.out b14.out) ?_;(case aC=>exact Kd.ik bO.out (ra HK));rintro e b2x ⟨b2j,rfl,bM,hb⟩;refine⟨_,rfl,?_⟩;have j9:=am (Kd.cz (Kd.an (ok':=fun k_=>(w.heap.size≤k_)∧k_≠b3∧k_≠b4∧k_≠g) bM (fun k_ aZ=>⟨(Nat.le_trans (kz HK) aZ),(fB b1 aZ),(fB b2 aZ),(ak.fresh cK k_ aZ)⟩)) (kz HK));replace b1:=ba b1 hb;replace b2:=ba b2 hb;replace HK:=hk1 HK hb;replace HI0:=fk HI0 hb;replace HB:=fi hb;obtain⟨gR,gS,zA⟩:=Kd.cl j9.out;subst zA;obtain⟨⟨_,_⟩,_,_⟩:=z2 b1;have b1i:=bC.out;have b1j:=b7.out;obtain⟨⟨_,_⟩,_,_⟩:=z2 b2))
        refine bodyPost_ret (results_cell_row rfl _ _ b4 26 #[.slice gR dL.length gS,.int .i64 dM] (0,0) _ rfl (oP b2) underlying26 rfl (by kernel_rfl)) rfl ?_;exact⟨_,oE,Kd.an (Kd.aN (p:=⟨b4,1,none⟩) (Kd.aN (p:=⟨b4,0,none⟩) (Kd.aN (p:=⟨b3,1,none⟩) (Kd.aN (p:=⟨b3,0,none⟩) (Kd.an (Kd.an j9.out (fun k_ hk=>(⟨hk,hk.2.1⟩:_∧k_≠b3))) (fun k_ hk=>(⟨hk,hk.1.2.2.1⟩:_∧k_≠b4))) (fun _ hk=>hk.1.2) (.slice gR dL.length gS)) (fun _ hk=>hk.1.2) (.int .i64 dM)) (fun _ hk=>hk.2) (.slice gR dL.length gS)) (fun _ hk=>hk.2) (.int .i64 dM)) (fun _ hk=>hk.1.1.1),by repeat((with_reducible first|exact HI0.out|refine ak.far ?_ b6.out _|refine ak.far ?_ b7.out _)),by repeat((with_reducible first|exact HB.out|refine a_ ?_ bG.out|refine a_ ?_ bH.out)),by repeat((with_reducible first|exact HK.out|refine cu ?_ bD.out _|refine cu ?_ bE.out _))⟩
       replace H:=bA H;obtain⟨⟨bY,bW,bX⟩,mA,H⟩:=H
       try dsimp only at H
       obtain⟨bU,cx⟩:∃y_:List ByteArray,y_=(([(⟨#[120]⟩:ByteArray),(⟨#[]⟩:ByteArray),(⟨#[118,97,108,117,101]⟩:ByteArray)]:List ByteArray)):=⟨_,rfl⟩;replace H:((dj.f bd bW bX bU).bind fun gE=>((ck.f qQ gf ch bI bY gE.1).bind fun jA=>(some (jA.1,jA.2.1,gE.2.1,gE.2.2))))=some (r1,r2,r3,r4):=oY;have bZ:=ae.mk cx;clear cx;replace H:=bA H;obtain⟨⟨jZ,zB,zC⟩,b15,H⟩:=H
       try dsimp only at H
       replace H:=bA H;obtain⟨⟨dN,dO,zD⟩,b16,H⟩:=H
       try dsimp only at H
       simp only[Option.some.injEq,Prod.mk.injEq]at H;obtain⟨rfl,rfl,rfl,rfl⟩:=H
       try go_wp2_with (((with_reducible refine ag (f:=68) rfl ?_);refine dk 15 func68 (eF.calls g bd bK bL 2 false dJ dK w0 _ ?aC ?bh m9.out) ?_;(case aC=>exact cK);(case bh=>exact dg);rintro e b17 ⟨rfl,hi,hb,hk⟩;refine⟨_,rfl,?_⟩;replace b1:=iL b1 hk bB;replace b2:=iL b2 hk bC;replace HK:=hk2 HK hk;replace HI0:=am (hi);replace HB:=am (hb);(try clear hk);(try clear hi)))
       replace b1:=am (ar b1.out);replace b2:=am (ar b2.out);replace HI0:=am (ak.drew HI0.out);replace HK:=am (fH HK.out);replace HB:=am (bl HB.out);refine iY (n:=12) (S:=fun w'=>w'.cell? ⟨b3,0,none⟩=some (.slice ml gf.length mm)∧w'.cell? ⟨b3,1,none⟩=some (.int .i64 ch)) (ds:=[11]) (lb 12 0) (by kernel_rfl) rfl rfl oH (fun hHeld=> ?_);refine fW az.tab6 az.ur (fun aV fA=> ?_);generalize b17.drew=b2y at b1 b2 HI0 HK HB hHeld⊢;refine cG 1 24 aV ?_;refine cG 2 25 aV ?_;refine cG 4 27 aV ?_;refine iA 0 23 aV fA hHeld ?_;refine uc (σ:=Value) 6 (lb 12 63) (fun s_=>[(26,.string bY),(28,s_)]) (fun s_ w'=>(w'.cell? ⟨b3,0,none⟩=some (.slice ml gf.length mm)∧w'.cell? ⟨b3,1,none⟩=some (.int .i64 ch))∧(Kd.R Kd.string 9 w' w.heap.size (fun k_=>(w.heap.size≤k_)) s_ bU)∧(w'.heap[b3]? =some (.cells #[.slice ml gf.length mm,.int .i64 ch] 26 (0,0)))∧(w'.heap[b4]? =some (.cells #[.slice none 0 0,.int .i64 0] 26 (0,0)))∧(ak w0 w' g bd bW bX)∧(aI w w' g none)∧(Below w0.heap.size w0 w')) ?_ ?_;rotate_left
       ·intro kM;refine ub (i:=3) (j:=5) (Ni:=some 26) (Nj:=some 28) (lb 12 31) (lb 12 55) rfl rfl rfl rfl (ta aV.out (by kernel_rfl)) (by decide) (by decide) (fun K hK=> ?_) (fun K hK=> ?_)
        ·skip
         refine mo 26 func104 (gl.calls g bd dJ dK bY bW bX w0 _ ?aC ?bh mA.out) ?_
         (case aC=>exact cK)
         (case bh=>exact dg)
         rintro e b18 ⟨rfl,hi,hb,hk⟩;refine⟨_,rfl,?_⟩;replace b1:=iL b1 hk bB;replace b2:=iL b2 hk bC;replace HK:=hk2 HK hk;replace HI0:=am (hi);replace HB:=am (hb)
         (try clear hk)
         (try clear hi)
         refine aZ hK 26 oH (fun hHeld=> ?_);clear hK K;refine jg 5 28 aV (fun K hK=> ?_);refine Kd.dv Kd.string _ 9 ?hg (N:=28) ?hd (xs:=([(⟨#[120]⟩:ByteArray),(⟨#[]⟩:ByteArray),(⟨#[118,97,108,117,101]⟩:ByteArray)]:List ByteArray)) (inner:=[.string (⟨#[120]⟩:ByteArray),.string (⟨#[]⟩:ByteArray),.string (⟨#[118,97,108,117,101]⟩:ByteArray)]) (ok:=fun _=>True) (fw:=fun _=>True) ?hr ?hp (fun _ hk=>hk) trivial (Below.refl _ _) (Nat.le_refl _) (by simp) ?_;(case hd=>rfl);(case hg=>rfl);(case hr=>(go_simp;done));(case hp=>exact(bp.one (show Kd.M Kd.string _ _ _ (⟨#[120]⟩:ByteArray) [.string (⟨#[120]⟩:ByteArray)]from rfl) (bp.one (show Kd.M Kd.string _ _ _ (⟨#[]⟩:ByteArray) [.string (⟨#[]⟩:ByteArray)]from rfl) (bp.one (show Kd.M Kd.string _ _ _ (⟨#[118,97,108,117,101]⟩:ByteArray) [.string (⟨#[118,97,108,117,101]⟩:ByteArray)]from rfl) (bp.none _ _)))));intro gT b2z d1 hb fN cj;clear fN cj
         (rw[←bZ.out]at d1)
         have bF:=am (Kd.aq (Kd.cI (M:=fun k_=>(w.heap.size≤k_)) d1 (kz HK) (fun k_ h_=>h_)) (kz HK));replace b1:=ba b1 hb;replace b2:=ba b2 hb;replace HK:=hk1 HK hb;replace HI0:=fk HI0 hb;replace HB:=fi hb;clear hb d1;obtain⟨d3,d4,pM⟩:=Kd.ao bF.out;subst pM;refine aZ hK 28 oH (fun hHeld=> ?_);clear hK K;exact ju (by simp only[ij,Act.put,List.setIfInBounds_toArray,List.set_cons_zero,List.set_cons_succ]) (kM ((.slice d3 bU.length d4)) _ ⟨hHeld,(Kd.aM bF.out (fun _ hk=>hk.1)),(oF b1),(oF b2),cK,(ra HK),dg⟩)
        ·skip
         refine Kd.dv Kd.string _ 9 ?hg (N:=28) ?hd (xs:=([(⟨#[120]⟩:ByteArray),(⟨#[]⟩:ByteArray),(⟨#[118,97,108,117,101]⟩:ByteArray)]:List ByteArray)) (inner:=[.string (⟨#[120]⟩:ByteArray),.string (⟨#[]⟩:ByteArray),.string (⟨#[118,97,108,117,101]⟩:ByteArray)]) (ok:=fun _=>True) (fw:=fun _=>True) ?hr ?hp (fun _ hk=>hk) trivial (Below.refl _ _) (Nat.le_refl _) (by simp) ?_;(case hd=>rfl);(case hg=>rfl);(case hr=>(go_simp;done));(case hp=>exact(bp.one (show Kd.M Kd.string _ _ _ (⟨#[120]⟩:ByteArray) [.string (⟨#[120]⟩:ByteArray)]from rfl) (bp.one (show Kd.M Kd.string _ _ _ (⟨#[]⟩:ByteArray) [.string (⟨#[]⟩:ByteArray)]from rfl) (bp.one (show Kd.M Kd.string _ _ _ (⟨#[118,97,108,117,101]⟩:ByteArray) [.string (⟨#[118,97,108,117,101]⟩:ByteArray)]from rfl) (bp.none _ _)))));intro gT b18 d2 hb fN cj;clear fN cj
         (rw[←bZ.out]at d2)
         have bF:=am (Kd.aq (Kd.cI (M:=fun k_=>(w.heap.size≤k_)) d2 (kz HK) (fun k_ h_=>h_)) (kz HK));replace b1:=ba b1 hb;replace b2:=ba b2 hb;replace HK:=hk1 HK hb;replace HI0:=fk HI0 hb;replace HB:=fi hb;clear hb d2;obtain⟨d3,d4,pM⟩:=Kd.ao bF.out;subst pM;refine aZ hK 28 oH (fun hHeld=> ?_);clear hK K;refine jg 3 26 aV (fun K hK=> ?_);refine mo 26 func104 (gl.calls g bd dJ dK bY bW bX w0 _ ?aC ?bh mA.out) ?_
         (case aC=>exact cK)
         (case bh=>exact dg)
         rintro e b30 ⟨rfl,hi,hb,hk⟩;refine⟨_,rfl,?_⟩;replace b1:=iL b1 hk bB;replace b2:=iL b2 hk bC;replace bF:=cY HI0 (oR bF) hk;replace HK:=hk2 HK hk;replace HI0:=am (hi);replace HB:=am (hb)
         (try clear hk)
         (try clear hi)
         refine aZ hK 26 oH (fun hHeld=> ?_);clear hK K;exact ju (by simp only[ij,Act.put,List.setIfInBounds_toArray,List.set_cons_zero,List.set_cons_succ]) (kM ((.slice d3 bU.length d4)) _ ⟨hHeld,(Kd.aM bF.out (fun _ hk=>hk.1)),(oF b1),(oF b2),cK,(ra HK),dg⟩)
       rintro gT bV ⟨sO,zI,zJ,zK,zL,zM,zN⟩;have zO:ae (Kd.R Kd.string 9 bV w.heap.size (fun k_=>(w.heap.size≤k_)) gT bU):=⟨zI⟩;have zP:ae (bV.heap[b3]? =some (.cells #[.slice ml gf.length mm,.int .i64 ch] 26 (0,0))):=⟨zJ⟩;have zQ:ae (bV.heap[b4]? =some (.cells #[.slice none 0 0,.int .i64 0] 26 (0,0))):=⟨zK⟩;have zR:ae (ak w0 bV g bd bW bX):=⟨zL⟩;have zS:ae (aI w bV g none):=⟨zM⟩;have zT:ae (Below w0.heap.size w0 bV):=⟨zN⟩;clear b1;clear b2;clear HI0;clear HK;clear HB;clear zI zJ zK zL zM zN;have bF:=zO;have b1:=zP;have b2:=zQ;have HI0:=zR;have HK:=zS;have HB:=zT;clear zO zP zQ zR zS zT;have hHeld:bV.cell? ⟨b3,0,none⟩=some (.slice ml gf.length mm)∧bV.cell? ⟨b3,1,none⟩=some (.int .i64 ch):=sO;obtain⟨zE,zF,m1⟩:=Kd.ao bF.out
       (subst m1)
       refine ju (a':= ?_) ?_ ?_;rotate_left
       ·simp only[ij,Act.put,List.setIfInBounds_toArray,List.set_cons_zero,List.set_cons_succ]
        rfl
       refine jg 6 29 aV (fun K hK=> ?_);refine mo 29 func88 (dj.calls g bd bW bX _ _ bU jZ zB zC w0 _ ?aC ?bh (kO bF) (ko bF) ?ga b15.out) ?_
       (case aC=>exact cK)
       (case bh=>exact dg)
       (case ga=>exact fC (ak.own_ne HI0.out bF.out (by decide)))
       rintro e b31 ⟨rfl,hi,hb,hk⟩;refine⟨_,rfl,?_⟩;replace b1:=iL b1 hk bB;replace b2:=iL b2 hk bC;replace bF:=cY HI0 (oR bF) hk;replace HK:=hk2 HK hk;replace HI0:=am (hi);replace HB:=am (hb)
       (try clear hk)
       (try clear hi)
       refine aZ hK 29 oH (fun hHeld=> ?_);clear hK K;refine jg 7 30 aV (fun K hK=> ?_);refine mo 30 func44 (ck.calls qQ _ _ gf ch bI bY jZ dN dO zD _ ?aC bP.out b16.out) ?_
       (case aC=>exact Kd.ik bO.out (ra HK))
       rintro e mB ⟨b2k,rfl,bM,hb⟩;refine⟨_,rfl,?_⟩;have jB:=am (Kd.cz (Kd.an (ok':=fun k_=>(w.heap.size≤k_)∧some k_≠(.slice zE bU.length zF:Value).ownBlock∧k_≠b3∧k_≠b4∧k_≠g) bM (fun k_ aZ=>⟨(Nat.le_trans (kz HK) aZ),(Kd.fresh' (iO bF) k_ aZ),(fB b1 aZ),(fB b2 aZ),(ak.fresh cK k_ aZ)⟩)) (kz HK));replace bF:=dm bF hb;replace b1:=ba b1 hb;replace b2:=ba b2 hb;replace HK:=hk1 HK hb;replace HI0:=fk HI0 hb;replace HB:=fi hb;obtain⟨gU,gV,m2⟩:=Kd.cl jB.out
       (subst m2)
       refine aZ hK 30 oH (fun hHeld=> ?_);clear hK K;refine cG 8 22 aV ?_;refine cG 9 31 aV ?_;refine cG 10 32 aV ?_;refine kJ (i:=11) (N:=none) (lb 12 4095) rfl rfl (iE aV.out (by kernel_rfl)) (by decide) (fun K hK=> ?_);have b2l:mB.cell? ⟨b3,0,none⟩=some (.slice ml gf.length mm):=(aj b1.out 0).trans rfl;have b1k:=aK b1.out 0;have b19:=b9.out;have b1A:=b8.out;have b2m:mB.cell? ⟨b3,1,none⟩=some (.int .i64 ch):=(aj b1.out 1).trans rfl;have b1l:=aK b1.out 1;have b1B:=b9.out;have b1C:=b8.out;refine kp (w1:= ?_) (by rfl) rfl ?_ ?_;rotate_left
       ·go_simp
        rfl
       refine hK.out _ _ ?_;clear hK K;refine nF aV ?_;have b1m:=b8.out;have b1n:=b9.out;have b1o:=bB.out;have b1p:=b6.out;obtain⟨⟨_,_⟩,_,_⟩:=z2 b1;have b1q:=bC.out;have b1r:=b7.out;obtain⟨⟨_,_⟩,_,_⟩:=z2 b2
       try go_wp2
       refine bodyPost_ret (results_cell_row rfl _ _ b4 26 #[.slice gU dN.length gV,.int .i64 dO] (0,0) _ rfl (oP b2) underlying26 rfl (by kernel_rfl)) rfl ?_;exact⟨_,oE,Kd.an (Kd.aN (p:=⟨b4,1,none⟩) (Kd.aN (p:=⟨b4,0,none⟩) (Kd.aN (p:=⟨b3,1,none⟩) (Kd.aN (p:=⟨b3,0,none⟩) (Kd.an (Kd.an jB.out (fun k_ hk=>(⟨hk,hk.2.2.1⟩:_∧k_≠b3))) (fun k_ hk=>(⟨hk,hk.1.2.2.2.1⟩:_∧k_≠b4))) (fun _ hk=>hk.1.2) (.slice gU dN.length gV)) (fun _ hk=>hk.1.2) (.int .i64 dO)) (fun _ hk=>hk.2) (.slice gU dN.length gV)) (fun _ hk=>hk.2) (.int .i64 dO)) (fun _ hk=>hk.1.1.1),by repeat((with_reducible first|exact HI0.out|refine ak.far ?_ b6.out _|refine ak.far ?_ b7.out _)),by repeat((with_reducible first|exact HB.out|refine a_ ?_ bG.out|refine a_ ?_ bH.out)),by repeat((with_reducible first|exact HK.out|refine cu ?_ bD.out _|refine cu ?_ bE.out _))⟩
end Go.Proofs.YtkfoopcpihmbmaaGreatDoor.P
