-- Printed walks.
import Derived.Test.YtkfoopcpihmbmaaGreatDoorPx15
set_option linter.all false
set_option maxHeartbeats 8000000
set_option maxRecDepth 100000
namespace Go.Proofs.YtkfoopcpihmbmaaGreatDoor.P
open Go.RowKit Go.Proofs.ab.av Go.Proofs.ab.aQ Go.Proofs.ab.aT Go.Proofs.Tryz
attribute [local go_sem] fP fQ hJ hO fm fo fR fS

def ic.f (k:Nat) (l0:List Int):Option ((List (aW))×Int×ByteArray):=(eP.f k l0).bind fun b1=>((cE.f k b1.1 b1.2.1 b1.2.2).bind fun b2=>((iD.f k b1.1 b2.2.2.1 b2.2.2.2).bind fun b3=>(some (b2.1,b2.2.1,b3.1))))
theorem ic.calls (k:Nat) (A0:Option Addr) (c0:Nat) (l0:List Int) (r1:List (aW)) (r2:Int) (r3:ByteArray) (w:World) (hr0:Kd.C (Kd.int .u8) w A0 l0.length l0) (hc0:l0.length≤c0) (h:ic.f k l0=some (r1,r2,r3)):
  Calls Tryz.prog 46 #[.slice A0 l0.length c0] w fun e w'=>∃fy:Value,e= .returned (.tuple #[.agg #[fy,.int .i64 r2],.string r3])∧Kd.N k32 32 w' w.heap.size (fun k_=>(w.heap.size≤k_)) fy r1∧Below w.heap.size w w':=by
 have bU:=underlying26;have bN:=ae.mk hr0;have bO:=ae.mk hc0;clear hr0 hc0;have HB:=am (Below.refl w.heap.size w);unfold ic.f at h;have H:=h;clear h;replace H:=bA H;obtain⟨⟨b9,bD,bE⟩,A2,H⟩:=H
 try dsimp only at H
 replace H:=bA H;obtain⟨⟨bB,bC,bF,bG⟩,A3,H⟩:=H
 try dsimp only at H
 replace H:=bA H;obtain⟨⟨bI,bJ,bK⟩,A4,H⟩:=H
 try dsimp only at H
 simp only[Option.some.injEq,Prod.mk.injEq]at H;obtain⟨rfl,rfl,rfl⟩:=H
 go_enter func46,ntmps46
 go_wp2_with (first|((with_reducible refine au (N:=2) rfl ?_);refine fz 2 #[.slice none 0 0,.int .i64 0] 26 ?_;intro b3 hg w5 hbox hb;have b2:=am (hbox);have b6:=fO hg;replace HB:=hB HB hb;clear hb hbox hg)|((with_reducible refine ag (f:=50) rfl ?_);refine dk 6 func50 (eP.calls k _ _ l0 b9 bD bE w _ ?aC bN.out bO.out A2.out) ?_;(case aC=>repeat(with_reducible exact HB.out));rintro e w6 ⟨b7,rfl,hi,hb,bH⟩;refine⟨_,rfl,?_⟩;have b1:=am (hi);have b4:=am (ak.aaa hi (mq (g:=b3) (o:= .cells #[.slice none 0 0,.int .i64 0] 26 (0,0)) (oF b2) bH) (by decide));have b5:=am (Ne.symm (ak.aaa hi (mq (g:=b3) (o:= .cells #[.slice none 0 0,.int .i64 0] 26 (0,0)) (oF b2) bH) (by decide)));replace b2:=am (mq (g:=b3) (o:= .cells #[.slice none 0 0,.int .i64 0] 26 (0,0)) (oF b2) bH);replace HB:=am (hb);(try clear hi))|((with_reducible refine ag (f:=51) rfl ?_);refine dk 8 func51 (cE.calls k b7 b9 bD bE bB bC bF bG w _ ?aC ?bh A3.out) ?_;(case aC=>repeat(with_reducible exact b1.out));(case bh=>repeat(with_reducible exact HB.out));rintro e w7 ⟨bR,rfl,bP,hi,hb,hk⟩;refine⟨_,rfl,?_⟩;have b8:=am (Kd.cz (Kd.an (ok':=fun k_=>(w.heap.size≤k_)∧k_≠b3∧k_≠b7) bP (fun k_ aZ=>⟨(Nat.le_trans (af HB.out) aZ),(fB b2 aZ),(ak.fresh b1.out k_ aZ)⟩)) (af HB.out));replace b2:=iL b2 hk b5;replace b1:=am (hi);replace HB:=am (hb);(try clear hk);(try clear hi))|((with_reducible refine ag (f:=96) rfl ?_);refine dk 10 func96 (iD.calls k b7 b9 bF bG bI bJ bK w _ ?aC ?bh A4.out) ?_;(case aC=>repeat(with_reducible exact b1.out));(case bh=>repeat(with_reducible exact HB.out));rintro e w8 ⟨rfl,hi,hb,hk⟩;refine⟨_,rfl,?_⟩;replace b2:=iL b2 hk b5;replace b8:=am (Kd.an (Kd.pf (Kd.an (ok:=fun k_=>(((w.heap.size≤k_))∧(k_≠b3∧k_≠b7))) (b8.out) (fun k_ aZ=>(⟨aZ,aZ.2.2⟩:_∧k_≠b7))) hk (fun _ h=>h.2)) (fun _ h=>h.1));replace b1:=am (hi);replace HB:=am (hb);(try clear hk);(try clear hi);obtain⟨bL,bM,bQ⟩:=Kd.cl b8.out;subst bQ;have bS:=b5.out;have bT:=b4.out;obtain⟨⟨_,_⟩,_,_⟩:=z2 b2))
 refine bodyPost_ret (bu rfl _ _ b3 26 #[.slice bL bB.length bM,.int .i64 bC] (0,0) _ rfl (oP b2) underlying26 rfl (by kernel_rfl)) rfl ?_;exact⟨_,oE,Kd.an (Kd.aN (p:=⟨b3,1,none⟩) (Kd.aN (p:=⟨b3,0,none⟩) (Kd.an b8.out (fun k_ hk=>(⟨hk,hk.2.1⟩:_∧k_≠b3))) (fun _ hk=>hk.2) (.slice bL bB.length bM)) (fun _ hk=>hk.2) (.int .i64 bC)) (fun _ hk=>hk.1.1),by repeat((with_reducible first|exact HB.out|refine a_ ?_ b6.out))⟩

def ie.f (k:Nat) (l0:List Int):Option ((List (aW))×Int×ByteArray):=(ic.f k l0).bind fun b1=>(some (b1.1,b1.2.1,b1.2.2))
theorem ie.calls (k:Nat) (A0:Option Addr) (c0:Nat) (l0:List Int) (r1:List (aW)) (r2:Int) (r3:ByteArray) (w:World) (hr0:Kd.C (Kd.int .u8) w A0 l0.length l0) (hc0:l0.length≤c0) (h:ie.f k l0=some (r1,r2,r3)):
  Calls Tryz.prog 11 #[.slice A0 l0.length c0] w fun e w'=>∃fy:Value,e= .returned (.tuple #[.agg #[fy,.int .i64 r2],.string r3])∧Kd.N k32 32 w' w.heap.size (fun k_=>(w.heap.size≤k_)) fy r1∧Below w.heap.size w w':=by
 have bG:=underlying26;have b9:=ae.mk hr0;have bB:=ae.mk hc0;clear hr0 hc0;have HB:=am (Below.refl w.heap.size w);unfold ie.f at h;have H:=h;clear h;replace H:=bA H;obtain⟨⟨b3,b4,b6⟩,A2,H⟩:=H
 try dsimp only at H
 simp only[Option.some.injEq,Prod.mk.injEq]at H;obtain⟨rfl,rfl,rfl⟩:=H
 go_enter func11,ntmps11
 go_wp2_with (first|((with_reducible refine au (N:=2) rfl ?_);refine fz 2 #[.slice none 0 0,.int .i64 0] 26 ?_;intro b1 hg w3 hbox hb;have b2:=am (hbox);have bC:=fO hg;replace HB:=hB HB hb;clear hb hbox hg)|((with_reducible refine ag (f:=46) rfl ?_);refine dk 5 func46 (ic.calls k _ _ l0 b3 b4 b6 _ (kC b9) bB.out A2.out) ?_;rintro e w4 ⟨bF,rfl,bD,hb⟩;refine⟨_,rfl,?_⟩;have b5:=am (Kd.cz (Kd.an (ok':=fun k_=>(w.heap.size≤k_)∧k_≠b1) bD (fun k_ aZ=>⟨(Nat.le_trans (af oB) aZ),(fB b2 aZ)⟩)) (af oB));replace b2:=ba b2 hb;replace HB:=hB HB hb;obtain⟨b7,b8,bE⟩:=Kd.cl b5.out;subst bE;obtain⟨⟨_,_⟩,_,_⟩:=z2 b2))
 refine bodyPost_ret (bu rfl _ _ b1 26 #[.slice b7 b3.length b8,.int .i64 b4] (0,0) _ rfl (oP b2) underlying26 rfl (by kernel_rfl)) rfl ?_;exact⟨_,oE,Kd.an (Kd.aN (p:=⟨b1,1,none⟩) (Kd.aN (p:=⟨b1,0,none⟩) (Kd.an b5.out (fun k_ hk=>(⟨hk,hk.2⟩:_∧k_≠b1))) (fun _ hk=>hk.2) (.slice b7 b3.length b8)) (fun _ hk=>hk.2) (.int .i64 b4)) (fun _ hk=>hk.1.1),oB⟩

def fg.f (k:Nat) (l0:List Int):Option (Bool):=(mr.f l0).bind fun b6=>(if b6=true then(some true)else((ie.f k l0).bind fun b1=>((jh.f k b1.1 b1.2.1 b1.2.2).bind fun b2=>((eA.f k b1.1 b1.2.1 b1.2.2).bind fun b4=>((fe.f k b1.1 b1.2.1 b1.2.2).bind fun b3=>((ff.f k b1.1 b1.2.1 b1.2.2).bind fun b5=>(if b2.2.2.2.2.2.2=b4.2.2.2.2.2.2 then(if b3.2=b5.2 then(if b2.2.2.2.2.2.2=0 then(if b3.2=0 then(some true)else(if(b3.1.length:Int)=0 then(if b3.2=b2.2.2.2.2.2.2 then(some true)else(if b3.2=3 then(if b2.2.1=1 then(some true)else(some (b2.2.1 !=2)))else(some (b2.2.1 !=2))))else(some false)))else(if b2.1=0 then(if b3.2=b2.2.2.2.2.2.2 then(if b3.2=0 then(some true)else(if(b3.1.length:Int)=0 then(some true)else(some false)))else(some false))else(some false)))else(some false))else(some false))))))))
theorem fg.calls (k:Nat) (A0:Option Addr) (c0:Nat) (l0:List Int) (r:Bool) (w:World) (hr0:Kd.C (Kd.int .u8) w A0 l0.length l0) (hc0:l0.length≤c0) (h:fg.f k l0=some r) (hG:GOk w:=by exact gk_ oB (by first|(with_reducible assumption)|assumption)):
  Calls Tryz.prog 3 #[.slice A0 l0.length c0] w fun e w'=>e= .returned (.bool r)∧Below w.heap.size w w':=by
 have HG:=ae.mk hG;clear hG;have mV:=underlying26;have mW:=underlying32;have j6:=ae.mk hr0;have j7:=ae.mk hc0;clear hr0 hc0;have HB:=am (Below.refl w.heap.size w);unfold fg.f at h;have H:=h;clear h;replace H:=bA H;obtain⟨gH,A2,H⟩:=H;have j8:=ae.mk H;clear H
 go_enter func3,ntmps3
 go_upto_if 14 with(((with_reducible refine ag (f:=10) rfl ?_);refine dk 14 func10 (mr.calls _ _ l0 gH _ (kD j6) j7.out A2.out) ?_;rintro e w' ⟨rfl,⟨nd,rfl⟩⟩;refine⟨_,rfl,?_⟩))
 have H:=j8.out;clear j8;replace H:=jl H;rcases H with⟨rfl,H⟩|⟨rfl,H⟩
 ·obtain rfl:=Option.some.inj H
  go_wp2
  go_ret
  exact⟨oE,oB⟩
 replace H:=bA H;obtain⟨⟨bJ,bQ,bX⟩,A5,H⟩:=H
 try dsimp only at H
 replace H:=bA H;obtain⟨⟨bK,bL,d7,bS,bT,bU,b5⟩,A6,H⟩:=H
 try dsimp only at H
 replace H:=bA H;obtain⟨⟨d8,d9,dA,bY,bZ,d1,bV⟩,A7,H⟩:=H
 try dsimp only at H
 replace H:=bA H;obtain⟨⟨bH,b1⟩,A8,H⟩:=H
 try dsimp only at H
 replace H:=bA H;obtain⟨⟨gI,bW⟩,A9,H⟩:=H
 try dsimp only at H
 have gE:=ae.mk H;clear H
 go_upto_region 8 with(first|((with_reducible refine ag (f:=11) rfl ?_);refine dk 17 func11 (ie.calls k _ _ l0 bJ bQ bX _ (kC j6) j7.out A5.out) ?_;rintro e zB ⟨jM,rfl,bM,hb⟩;refine⟨_,rfl,?_⟩;have b3:=am (Kd.cz (Kd.an (ok':=fun k_=>True) bM (fun k_ aZ=>trivial)) (af oB));replace HB:=hB HB hb)|((with_reducible refine au (N:=3) rfl ?_);(try(refine c_ (by rfl) ?_;dsimp only));refine fz 3 #[.slice none 0 0,.int .i64 0] 26 ?_;intro bI hg zC hbox hb;have b4:=am (hbox);have jI:=fO hg;replace b3:=am (Kd.hY (Kd.iX (b3.out) bI (Nat.le_of_eq hg.symm)) hb);replace HB:=hB HB hb;clear hb hbox hg;obtain⟨gD,d2,j9⟩:=Kd.cl b3.out;subst j9;obtain⟨⟨_,_⟩,_,_⟩:=z2 b4)|((with_reducible refine ag (f:=12) rfl ?_);refine dk 23 func12 (jh.calls k _ _ bJ bQ bX bK bL d7 bS bT bU b5 _ ?aC ?bh A6.out) ?_;(case aC=>refine(Kd.dq (e:=32) (base:=w.heap.size) (ok:=fun k_=>(True∧k_≠bI)) (n:=bJ.length) (c:=d2) ?_).2.2;exact((Kd.an (Kd.aN (p:=⟨bI,1,none⟩) (Kd.aN (p:=⟨bI,0,none⟩) (Kd.an b3.out (fun k_ hk=>(⟨hk,hk.2⟩:_∧k_≠bI))) (fun _ hk=>hk.2) (.slice gD bJ.length d2)) (fun _ hk=>hk.2) (.int .i64 bQ)) (fun _ h_=>h_.1))));(case bh=>exact(Kd.dq b3.out).2.1);rintro e zD ⟨jN,jO,jP,rfl,bM,d3,d4,hb⟩;refine⟨_,rfl,?_⟩;have bD:=am (Kd.aq bM (af oB));have bE:=am (Kd.aq d3 (af oB));have bF:=am (Kd.aq d4 (af oB));replace b3:=am (Kd.an (Kd.fl (Kd.fl (Kd.fl (Kd.qt ((Kd.an (Kd.aN (p:=⟨bI,1,none⟩) (Kd.aN (p:=⟨bI,0,none⟩) (Kd.an b3.out (fun k_ hk=>(⟨hk,hk.2⟩:_∧k_≠bI))) (fun _ hk=>hk.2) (.slice gD bJ.length d2)) (fun _ hk=>hk.2) (.int .i64 bQ)) (fun _ h_=>h_.1))) hb) (Kd.cL bM)) (Kd.cL d3)) (Kd.cL d4)) (fun _ h_=>h_.1));replace b4:=mc #[.slice gD bJ.length d2,.int .i64 bQ] b4 hb;replace HB:=hB HB hb;(try clear d3);(try clear d4))|((with_reducible refine au (N:=5) rfl ?_);(try(refine c_ (by rfl) ?_;dsimp only));refine fz 5 #[.int .i64 0,.int .i64 0,.int .i64 0,.slice none 0 0,.slice none 0 0,.slice none 0 0] 32 ?_;intro b6 hg zE hbox hb;have b2:=am (hbox);have jJ:=fO hg;have b8:=fX hg b4;have b9:=fY hg b4;replace b3:=am (Kd.hY (Kd.iX (b3.out) b6 (Nat.le_of_eq hg.symm)) hb);replace bD:=dm bD hb;replace bE:=dm bE hb;replace bF:=dm bF hb;replace b4:=ba b4 hb;replace HB:=hB HB hb;clear hb hbox hg;have jQ:=b9.out;have jR:=b8.out;obtain⟨⟨_,_,_,_,_,_⟩,_,_,_,_,_,_⟩:=z6 b2;obtain⟨dB,dC,jA⟩:=Kd.ao bD.out;subst jA;obtain⟨dD,dE,jB⟩:=Kd.ao bE.out;subst jB;obtain⟨dF,dG,jC⟩:=Kd.ao bF.out;subst jC;obtain⟨⟨_,_⟩,_,_⟩:=z2 b4)|((with_reducible refine ag (f:=13) rfl ?_);refine dk 29 func13 (eA.calls k _ _ bJ bQ bX d8 d9 dA bY bZ d1 bV _ ?aC ?bh A7.out) ?_;(case aC=>refine(Kd.dq (e:=32) (base:=w.heap.size) (ok:=fun k_=>(((((True∧k_≠bI)∧some k_≠(.slice dB bS.length dC:Value).ownBlock)∧some k_≠(.slice dD bT.length dE:Value).ownBlock)∧some k_≠(.slice dF bU.length dG:Value).ownBlock)∧k_≠b6)) (n:=bJ.length) (c:=d2) ?_).2.2;exact((Kd.an (Kd.aN (p:=⟨b6,5,none⟩) (Kd.aN (p:=⟨b6,4,none⟩) (Kd.aN (p:=⟨b6,3,none⟩) (Kd.aN (p:=⟨b6,2,none⟩) (Kd.aN (p:=⟨b6,1,none⟩) (Kd.aN (p:=⟨b6,0,none⟩) (Kd.an b3.out (fun k_ hk=>(⟨hk,hk.2⟩:_∧k_≠b6))) (fun _ hk=>hk.2) (.int .i64 bK)) (fun _ hk=>hk.2) (.int .i64 bL)) (fun _ hk=>hk.2) (.int .i64 d7)) (fun _ hk=>hk.2) (.slice dB bS.length dC)) (fun _ hk=>hk.2) (.slice dD bT.length dE)) (fun _ hk=>hk.2) (.slice dF bU.length dG)) (fun _ h_=>h_.1))));(case bh=>exact(Kd.dq b3.out).2.1);rintro e zF ⟨jS,jT,jU,rfl,bM,d3,d4,hb⟩;refine⟨_,rfl,?_⟩;have bN:=am (Kd.aq (Kd.eS bM (eN bD b2)) (af oB));have bO:=am (Kd.aq (Kd.eS d3 (eN bE b2)) (af oB));have bP:=am (Kd.aq (Kd.eS d4 (eN bF b2)) (af oB));replace b3:=am (Kd.an (Kd.fl (Kd.fl (Kd.fl (Kd.qt ((Kd.an (Kd.aN (p:=⟨b6,5,none⟩) (Kd.aN (p:=⟨b6,4,none⟩) (Kd.aN (p:=⟨b6,3,none⟩) (Kd.aN (p:=⟨b6,2,none⟩) (Kd.aN (p:=⟨b6,1,none⟩) (Kd.aN (p:=⟨b6,0,none⟩) (Kd.an b3.out (fun k_ hk=>(⟨hk,hk.2⟩:_∧k_≠b6))) (fun _ hk=>hk.2) (.int .i64 bK)) (fun _ hk=>hk.2) (.int .i64 bL)) (fun _ hk=>hk.2) (.int .i64 d7)) (fun _ hk=>hk.2) (.slice dB bS.length dC)) (fun _ hk=>hk.2) (.slice dD bT.length dE)) (fun _ hk=>hk.2) (.slice dF bU.length dG)) (fun _ h_=>h_.1))) hb) (Kd.cL bM)) (Kd.cL d3)) (Kd.cL d4)) (fun _ h_=>h_.1));replace bD:=qZ bD b2 (Kd.cL bM) hb;replace bE:=qZ bE b2 (Kd.cL d3) hb;replace bF:=qZ bF b2 (Kd.cL d4) hb;replace b4:=ba b4 hb;replace b2:=mc #[.int .i64 bK,.int .i64 bL,.int .i64 d7,.slice dB bS.length dC,.slice dD bT.length dE,.slice dF bU.length dG] b2 hb;replace HB:=hB HB hb;(try clear d3);(try clear d4))|((with_reducible refine au (N:=7) rfl ?_);(try(refine c_ (by rfl) ?_;dsimp only));refine fz 7 #[.int .i64 0,.int .i64 0,.int .i64 0,.slice none 0 0,.slice none 0 0,.slice none 0 0] 32 ?_;intro b7 hg zG hbox hb;have bG:=am (hbox);have jK:=fO hg;have dR:=fX hg b4;have dS:=fY hg b4;have bB:=fX hg b2;have bC:=fY hg b2;replace b3:=am (Kd.hY (Kd.iX (b3.out) b7 (Nat.le_of_eq hg.symm)) hb);replace bD:=dm bD hb;replace bE:=dm bE hb;replace bF:=dm bF hb;replace bN:=dm bN hb;replace bO:=dm bO hb;replace bP:=dm bP hb;replace b4:=ba b4 hb;replace b2:=ba b2 hb;replace HB:=hB HB hb;clear hb hbox hg;have jV:=dS.out;have jW:=dR.out;have jX:=bC.out;have jY:=bB.out;obtain⟨⟨_,_,_,_,_,_⟩,_,_,_,_,_,_⟩:=z6 bG;obtain⟨dT,dU,jD⟩:=Kd.ao bN.out;subst jD;obtain⟨dV,dW,jE⟩:=Kd.ao bO.out;subst jE;obtain⟨dX,dY,jF⟩:=Kd.ao bP.out;subst jF;obtain⟨⟨_,_⟩,_,_⟩:=z2 b4)|((with_reducible refine ag (f:=14) rfl ?_);refine dk 35 func14 (fe.calls k _ _ bJ bQ bX bH b1 _ ?aC ?bh A8.out) ?_;(case aC=>refine(Kd.dq (e:=32) (base:=w.heap.size) (ok:=fun k_=>(((((((((True∧k_≠bI)∧some k_≠(.slice dB bS.length dC:Value).ownBlock)∧some k_≠(.slice dD bT.length dE:Value).ownBlock)∧some k_≠(.slice dF bU.length dG:Value).ownBlock)∧k_≠b6)∧some k_≠(.slice dT bY.length dU:Value).ownBlock)∧some k_≠(.slice dV bZ.length dW:Value).ownBlock)∧some k_≠(.slice dX d1.length dY:Value).ownBlock)∧k_≠b7)) (n:=bJ.length) (c:=d2) ?_).2.2;exact((Kd.an (Kd.aN (p:=⟨b7,5,none⟩) (Kd.aN (p:=⟨b7,4,none⟩) (Kd.aN (p:=⟨b7,3,none⟩) (Kd.aN (p:=⟨b7,2,none⟩) (Kd.aN (p:=⟨b7,1,none⟩) (Kd.aN (p:=⟨b7,0,none⟩) (Kd.an b3.out (fun k_ hk=>(⟨hk,hk.2⟩:_∧k_≠b7))) (fun _ hk=>hk.2) (.int .i64 d8)) (fun _ hk=>hk.2) (.int .i64 d9)) (fun _ hk=>hk.2) (.int .i64 dA)) (fun _ hk=>hk.2) (.slice dT bY.length dU)) (fun _ hk=>hk.2) (.slice dV bZ.length dW)) (fun _ hk=>hk.2) (.slice dX d1.length dY)) (fun _ h_=>h_.1))));(case bh=>exact(Kd.dq b3.out).2.1);rintro e zH ⟨jZ,rfl,bM,hb⟩;refine⟨_,rfl,?_⟩;have bR:=am (Kd.aq bM (af oB));replace b3:=am (Kd.gq ((Kd.an (Kd.aN (p:=⟨b7,5,none⟩) (Kd.aN (p:=⟨b7,4,none⟩) (Kd.aN (p:=⟨b7,3,none⟩) (Kd.aN (p:=⟨b7,2,none⟩) (Kd.aN (p:=⟨b7,1,none⟩) (Kd.aN (p:=⟨b7,0,none⟩) (Kd.an b3.out (fun k_ hk=>(⟨hk,hk.2⟩:_∧k_≠b7))) (fun _ hk=>hk.2) (.int .i64 d8)) (fun _ hk=>hk.2) (.int .i64 d9)) (fun _ hk=>hk.2) (.int .i64 dA)) (fun _ hk=>hk.2) (.slice dT bY.length dU)) (fun _ hk=>hk.2) (.slice dV bZ.length dW)) (fun _ hk=>hk.2) (.slice dX d1.length dY)) (fun _ h_=>h_.1))) (Kd.cL bM) hb);replace bD:=du bD bG hb;replace bE:=du bE bG hb;replace bF:=du bF bG hb;replace bN:=du bN bG hb;replace bO:=du bO bG hb;replace bP:=du bP bG hb;replace b4:=ba b4 hb;replace b2:=ba b2 hb;replace bG:=mc #[.int .i64 d8,.int .i64 d9,.int .i64 dA,.slice dT bY.length dU,.slice dV bZ.length dW,.slice dX d1.length dY] bG hb;replace HB:=hB HB hb;obtain⟨⟨_,_⟩,_,_⟩:=z2 b4)|((with_reducible refine ag (f:=15) rfl ?_);refine dk 41 func15 (ff.calls k _ _ bJ bQ bX gI bW _ ?aC ?bh A9.out) ?_;(case aC=>repeat(exact(Kd.dq b3.out).2.2));(case bh=>exact(Kd.dq b3.out).2.1);rintro e zI ⟨m1,rfl,bM,hb⟩;refine⟨_,rfl,?_⟩;have jL:=am (Kd.aq (Kd.eS bM (iO bR)) (af oB));replace b3:=am (Kd.gq (b3.out) (Kd.cL bM) hb);replace bD:=dm bD hb;replace bE:=dm bE hb;replace bF:=dm bF hb;replace bN:=dm bN hb;replace bO:=dm bO hb;replace bP:=dm bP hb;replace bR:=sb bR bM hb;replace b4:=ba b4 hb;replace b2:=ba b2 hb;replace bG:=ba bG hb;replace HB:=hB HB hb))
 have H:=gE.out;clear gE
 by_cases dH:b5=bV
 rotate_left
 ·rw[if_neg dH]at H;have gJ:(b5==bV)=false:=beq_eq_false_iff_ne.mpr dH;have gK:(b5 !=bV)=true:=bne_iff_ne.mpr dH;obtain rfl:=Option.some.inj H
  go_wp2
  go_ret
  exact⟨oE,oB⟩
 rw[if_pos dH]at H;have gJ:(b5==bV)=true:=beq_iff_eq.mpr dH;have gK:(b5 !=bV)=false:=bne_eq_false_iff_eq.mpr dH;clear dH
 by_cases dI:b1=bW
 rotate_left
 ·rw[if_neg dI]at H;have gL:(b1==bW)=false:=beq_eq_false_iff_ne.mpr dI;have gM:(b1 !=bW)=true:=bne_iff_ne.mpr dI;obtain rfl:=Option.some.inj H
  go_wp2
  go_ret
  exact⟨oE,oB⟩
 rw[if_pos dI]at H;have gL:(b1==bW)=true:=beq_iff_eq.mpr dI;have gM:(b1 !=bW)=false:=bne_eq_false_iff_eq.mpr dI;clear dI
 by_cases dJ:b5=0
 rotate_left
 ·rw[if_neg dJ]at H;have gN:(b5==0)=false:=beq_eq_false_iff_ne.mpr dJ;have gO:(b5 !=0)=true:=bne_iff_ne.mpr dJ
  by_cases dK:bK=0
  rotate_left
  ·rw[if_neg dK]at H;have gP:(bK==0)=false:=beq_eq_false_iff_ne.mpr dK;have gQ:(bK !=0)=true:=bne_iff_ne.mpr dK;obtain rfl:=Option.some.inj H;have m2:=b9.out;have m3:=b8.out;have m4:=bB.out;have m5:=bC.out;obtain⟨⟨_,_,_,_,_,_⟩,_,_,_,_,_,_⟩:=z6 b2
   go_wp2
   go_ret
   exact⟨oE,oB⟩
  rw[if_pos dK]at H;have gP:(bK==0)=true:=beq_iff_eq.mpr dK;have gQ:(bK !=0)=false:=bne_eq_false_iff_eq.mpr dK;clear dK
  by_cases dL:b1=b5
  rotate_left
  ·rw[if_neg dL]at H;have gR:(b1==b5)=false:=beq_eq_false_iff_ne.mpr dL;have gS:(b1 !=b5)=true:=bne_iff_ne.mpr dL;obtain rfl:=Option.some.inj H;have m6:=b9.out;have m7:=b8.out;have m8:=bB.out;have m9:=bC.out;obtain⟨⟨_,_,_,_,_,_⟩,_,_,_,_,_,_⟩:=z6 b2
   go_wp2
   go_ret
   exact⟨oE,oB⟩
  rw[if_pos dL]at H;have gR:(b1==b5)=true:=beq_iff_eq.mpr dL;have gS:(b1 !=b5)=false:=bne_eq_false_iff_eq.mpr dL;clear dL
  by_cases dM:b1=0
  ·rw[if_pos dM]at H;have gT:(b1==0)=true:=beq_iff_eq.mpr dM;have gU:(b1 !=0)=false:=bne_eq_false_iff_eq.mpr dM;clear dM;obtain rfl:=Option.some.inj H;have mA:=b9.out;have mB:=b8.out;have mC:=bB.out;have mD:=bC.out;obtain⟨⟨_,_,_,_,_,_⟩,_,_,_,_,_,_⟩:=z6 b2
   go_wp2
   go_ret
   exact⟨oE,oB⟩
  rw[if_neg dM]at H;have gT:(b1==0)=false:=beq_eq_false_iff_ne.mpr dM;have gU:(b1 !=0)=true:=bne_iff_ne.mpr dM;have gF:=ae.mk H;clear H;have mE:=b9.out;have mF:=b8.out;have mG:=bB.out;have mH:=bC.out;obtain⟨⟨_,_,_,_,_,_⟩,_,_,_,_,_,_⟩:=z6 b2;obtain⟨mX,mY,jG⟩:=Kd.ao bR.out;subst jG
  go_upto_if 74 with(fail)
  have H:=gF.out;clear gF
  by_cases d5:(bH.length:Int)=0
  ·rw[if_pos d5]at H;have dZ:((bH.length:Int)==0)=true:=beq_iff_eq.mpr d5;have gA:((bH.length:Int) !=0)=false:=bne_eq_false_iff_eq.mpr d5;clear d5
   (rw[gA])
   obtain rfl:=Option.some.inj H
   go_wp2
   go_ret
   exact⟨oE,oB⟩
  rw[if_neg d5]at H;have dZ:((bH.length:Int)==0)=false:=beq_eq_false_iff_ne.mpr d5;have gA:((bH.length:Int) !=0)=true:=bne_iff_ne.mpr d5
  have gV:¬(bH=[]):=fun h_=>d5 (by rw[h_];rfl)
  (rw[gA])
  obtain rfl:=Option.some.inj H
  go_wp2
  go_ret
  exact⟨oE,oB⟩
 rw[if_pos dJ]at H;have gN:(b5==0)=true:=beq_iff_eq.mpr dJ;have gO:(b5 !=0)=false:=bne_eq_false_iff_eq.mpr dJ;clear dJ
 by_cases dN:b1=0
 ·rw[if_pos dN]at H;have gW:(b1==0)=true:=beq_iff_eq.mpr dN;have gX:(b1 !=0)=false:=bne_eq_false_iff_eq.mpr dN;clear dN;obtain rfl:=Option.some.inj H
  go_wp2
  go_ret
  exact⟨oE,oB⟩
 rw[if_neg dN]at H;have gW:(b1==0)=false:=beq_eq_false_iff_ne.mpr dN;have gX:(b1 !=0)=true:=bne_iff_ne.mpr dN;have gG:=ae.mk H;clear H;obtain⟨mZ,zA,jH⟩:=Kd.ao bR.out;subst jH
 go_upto_if 74 with(fail)
 have H:=gG.out;clear gG
 by_cases d6:(bH.length:Int)=0
 rotate_left
 ·rw[if_neg d6]at H;have gB:((bH.length:Int)==0)=false:=beq_eq_false_iff_ne.mpr d6;have gC:((bH.length:Int) !=0)=true:=bne_iff_ne.mpr d6
  have gY:¬(bH=[]):=fun h_=>d6 (by rw[h_];rfl)
  (rw[gC])
  obtain rfl:=Option.some.inj H
  go_wp2
  go_ret
  exact⟨oE,oB⟩
 rw[if_pos d6]at H;have gB:((bH.length:Int)==0)=true:=beq_iff_eq.mpr d6;have gC:((bH.length:Int) !=0)=false:=bne_eq_false_iff_eq.mpr d6;clear d6
 (rw[gC])
 by_cases dO:b1=b5
 ·rw[if_pos dO]at H;have gZ:(b1==b5)=true:=beq_iff_eq.mpr dO;have j1:(b1 !=b5)=false:=bne_eq_false_iff_eq.mpr dO;clear dO;obtain rfl:=Option.some.inj H
  go_wp2
  go_ret
  exact⟨oE,oB⟩
 rw[if_neg dO]at H;have gZ:(b1==b5)=false:=beq_eq_false_iff_ne.mpr dO;have j1:(b1 !=b5)=true:=bne_iff_ne.mpr dO
 by_cases dP:b1=3
 rotate_left
 ·rw[if_neg dP]at H;have j2:(b1==3)=false:=beq_eq_false_iff_ne.mpr dP;have j3:(b1 !=3)=true:=bne_iff_ne.mpr dP;obtain rfl:=Option.some.inj H;have mI:=b9.out;have mJ:=b8.out;have mK:=bB.out;have mL:=bC.out;obtain⟨⟨_,_,_,_,_,_⟩,_,_,_,_,_,_⟩:=z6 b2
  go_wp2
  go_ret
  exact⟨oE,oB⟩
 rw[if_pos dP]at H;have j2:(b1==3)=true:=beq_iff_eq.mpr dP;have j3:(b1 !=3)=false:=bne_eq_false_iff_eq.mpr dP;clear dP
 by_cases dQ:bL=1
 rotate_left
 ·rw[if_neg dQ]at H;have j4:(bL==1)=false:=beq_eq_false_iff_ne.mpr dQ;have j5:(bL !=1)=true:=bne_iff_ne.mpr dQ;obtain rfl:=Option.some.inj H;have mM:=b9.out;have mN:=b8.out;have mO:=bB.out;have mP:=bC.out;obtain⟨⟨_,_,_,_,_,_⟩,_,_,_,_,_,_⟩:=z6 b2
  go_wp2
  go_ret
  exact⟨oE,oB⟩
 rw[if_pos dQ]at H;have j4:(bL==1)=true:=beq_iff_eq.mpr dQ;have j5:(bL !=1)=false:=bne_eq_false_iff_eq.mpr dQ;clear dQ;obtain rfl:=Option.some.inj H;have mQ:=b9.out;have mS:=b8.out;have mT:=bB.out;have mU:=bC.out;obtain⟨⟨_,_,_,_,_,_⟩,_,_,_,_,_,_⟩:=z6 b2
 go_wp2
 go_ret
 exact⟨oE,oB⟩
/-- THE ONE PURE STATEMENT of laws_FnLooked: yours. -/
def fg.Pure:Prop:=∀(l0:List Int),l0.length≤maxLen→l0.length*1≤140737488351232→(∀x∈l0,(Lit.int .u8 x).wf=true)→∃k,fg.f k l0=some true
theorem fg.walk (P:fg.Pure) (a0:Option Addr) (len0 cap0:Nat) (z0:List Int) (w:World) (w0:(a0=none∧len0=0∧cap0=0∧z0=[])∨∃x,a0=some x∧len0≤cap0∧cap0≤maxLen∧z0.length=cap0∧(∀i,i<z0.length→w.cell? (x.add i)=some (.int .u8 (z0.getD i 0)))∧∀n∈z0,(Lit.int .u8 n).wf=true) (y0:len0*1≤140737488351232) (hG:GOk w):
  Calls Tryz.prog 3 #[.slice a0 len0 cap0] w fun e w'=>e= .returned (.bool true)∧Below w.heap.size w w':=by
 obtain⟨l0,rfl,hr0,hm0,hw0,hc0⟩:=fp.acb w0;obtain⟨k,h⟩:=P l0 hm0 y0 hw0;refine(fg.calls k _ _ l0 true w (Kd.vt (d:=(0:Int)) (h1:=fun _=>rfl) hr0) hc0 h hG).mono ?_;rintro e w' ⟨rfl,hd⟩;exact⟨rfl,hd⟩
end Go.Proofs.YtkfoopcpihmbmaaGreatDoor.P
