-- Printed walks.
import Derived.Test.YtlecajlnjmbilaaGreatDoorPx14
set_option linter.all false
set_option maxHeartbeats 8000000
set_option maxRecDepth 100000
namespace Go.Proofs.YtlecajlnjmbilaaGreatDoor.P
open Go.RowKit Go.Proofs.ab.aq Go.Proofs.ab.aH Go.Proofs.ab.aK
attribute [local go_sem] gy gz i_ ja fR fS g_ hD

def ib.f (k:Nat) (ag:List (bf)) (ak:Int) (a1:ByteArray):Option ((List (bf))×Int×Int):=(bq.f k ag ak a1 1).bind fun b1=>(some (b1.1,b1.2.1,b1.2.2))
theorem ib.calls (k:Nat) (bh:Option Addr) (aW:Nat) (ag:List (bf)) (ak:Int) (a1:ByteArray) (r1:List (bf)) (r2:Int) (r3:Int) (w:World) (ck:Kd.C fK w bh ag.length ag) (cl:ag.length≤aW) (h:ib.f k ag ak a1=some (r1,r2,r3)) (hG:yf w:=by exact gk_ oB (by first|(with_reducible assumption)|assumption)):
  Calls Tryz.prog 13 #[.agg #[.slice bh ag.length aW,.int .i64 ak],.string a1] w fun e w'=>∃jg:Value,e= .returned (.tuple #[.agg #[jg,.int .i64 r2],.int .i64 r3])∧Kd.S fK 58 w' w.heap.size (fun _=>True) jg r1∧Below w.heap.size w w':=by
 have HG:=ae.mk hG;clear hG;have bK:=Tryz.underlying28;have b9:=ae.mk ck;have bB:=ae.mk cl;clear ck cl;have HB:=am (Below.refl w.heap.size w);unfold ib.f at h;have H:=h;clear h;replace H:=bA H;obtain⟨⟨b6,b7,bE⟩,A3,H⟩:=H
 try dsimp only at H
 simp only[Option.some.injEq,Prod.mk.injEq]at H;obtain⟨rfl,rfl,rfl⟩:=H
 go_enter Tryz.func13,Tryz.ntmps13
 go_wp2_with (first|((with_reducible refine aj (N:=2) rfl ?_);refine cY 2 #[.slice bh ag.length aW,.int .i64 ak] 28 ?_;intro bH hg w4 hbox hb;have b1:=am (hbox);have bI:=cZ hg;replace HB:=hB HB hb;clear hb hbox hg)|((with_reducible refine aj (N:=4) rfl ?_);refine cY 4 #[.slice none 0 0,.int .i64 0] 28 ?_;intro b3 hg w5 hbox hb;have b2:=am (hbox);have bJ:=cZ hg;have b4:=eG hg b1;have b5:=eH hg b1;replace b1:=aY b1 hb;replace HB:=hB HB hb;clear hb hbox hg;have bL:=b4.out;have bM:=b5.out;obtain⟨⟨_,_⟩,_,_⟩:=z2 b1)|((with_reducible refine ai (f:=35) rfl ?_);refine eB 8 Tryz.func35 (bq.calls k _ _ ag ak a1 1 b6 b7 bE _ (kC b9) bB.out A3.out) ?_;rintro e w8 ⟨bN,rfl,bF,hb⟩;refine⟨_,rfl,?_⟩;have b8:=am (Kd.nM bF (ah oB));replace b1:=aY b1 hb;replace b2:=aY b2 hb;replace HB:=hB HB hb;obtain⟨bC,bD,bG⟩:=Kd.hJ b8.out;subst bG;obtain⟨⟨_,_⟩,_,_⟩:=z2 b2))
 refine bodyPost_ret (dw rfl _ _ b3 28 #[.slice bC b6.length bD,.int .i64 b7] (0,0) _ rfl (oP b2) Tryz.underlying28 rfl (by kernel_rfl)) rfl ?_;exact⟨_,oE,by(with_reducible repeat(first|apply Kd.ey|apply Kd.eI|apply Kd.eY));exact Kd.eS (Kd.eC (p:=⟨b3,1,none⟩) (Kd.eC (p:=⟨b3,0,none⟩) (Kd.jn b8.out b2.out (by decide)) (fun _ hk=>hk.2) (.slice bC b6.length bD)) (fun _ hk=>hk.2) (.int .i64 b7)) (fun _ hk=>trivial),oB⟩

def iS.f (k:Nat) (ag:List (bf)) (ak:Int) (a1:ByteArray):Option ((List (bf))×Int×Int):=(bw.f k ag ak a1 1).bind fun b1=>(some (b1.1,b1.2.1,b1.2.2))
theorem iS.calls (k:Nat) (bh:Option Addr) (aW:Nat) (ag:List (bf)) (ak:Int) (a1:ByteArray) (r1:List (bf)) (r2:Int) (r3:Int) (w:World) (ck:Kd.C fK w bh ag.length ag) (cl:ag.length≤aW) (h:iS.f k ag ak a1=some (r1,r2,r3)):
  Calls Tryz.prog 11 #[.agg #[.slice bh ag.length aW,.int .i64 ak],.string a1] w fun e w'=>∃jg:Value,e= .returned (.tuple #[.agg #[jg,.int .i64 r2],.int .i64 r3])∧Kd.N fK 58 w' w.heap.size (fun k_=>(w.heap.size≤k_)) jg r1∧Below w.heap.size w w':=by
 have bK:=Tryz.underlying28;have b9:=ae.mk ck;have bB:=ae.mk cl;clear ck cl;have HB:=am (Below.refl w.heap.size w);unfold iS.f at h;have H:=h;clear h;replace H:=bA H;obtain⟨⟨b6,b7,bF⟩,A3,H⟩:=H
 try dsimp only at H
 simp only[Option.some.injEq,Prod.mk.injEq]at H;obtain⟨rfl,rfl,rfl⟩:=H
 go_enter Tryz.func11,Tryz.ntmps11
 go_wp2_with (first|((with_reducible refine aj (N:=2) rfl ?_);refine cY 2 #[.slice bh ag.length aW,.int .i64 ak] 28 ?_;intro bC hg w4 hbox hb;have b1:=am (hbox);have bI:=cZ hg;replace HB:=hB HB hb;clear hb hbox hg)|((with_reducible refine aj (N:=4) rfl ?_);refine cY 4 #[.slice none 0 0,.int .i64 0] 28 ?_;intro b2 hg w5 hbox hb;have b3:=am (hbox);have bJ:=cZ hg;have b4:=eG hg b1;have b5:=eH hg b1;replace b1:=aY b1 hb;replace HB:=hB HB hb;clear hb hbox hg;have bL:=b4.out;have bM:=b5.out;obtain⟨⟨_,_⟩,_,_⟩:=z2 b1)|((with_reducible refine ai (f:=33) rfl ?_);refine eB 8 Tryz.func33 (bw.calls k _ _ ag ak a1 1 b6 b7 bF _ (kC b9) bB.out A3.out) ?_;rintro e w8 ⟨bN,rfl,bG,hb⟩;refine⟨_,rfl,?_⟩;have b8:=am (Kd.kW (Kd.da (ok':=fun k_=>(w.heap.size≤k_)∧k_≠bC∧k_≠b2) bG (fun k_ eZ=>⟨(Nat.le_trans (ah oB) eZ),(fB b1 eZ),(fB b3 eZ)⟩)) (ah oB));replace b1:=aY b1 hb;replace b3:=aY b3 hb;replace HB:=hB HB hb;obtain⟨bD,bE,bH⟩:=Kd.kH b8.out;subst bH;obtain⟨⟨_,_⟩,_,_⟩:=z2 b3))
 refine bodyPost_ret (dw rfl _ _ b2 28 #[.slice bD b6.length bE,.int .i64 b7] (0,0) _ rfl (oP b3) Tryz.underlying28 rfl (by kernel_rfl)) rfl ?_;exact⟨_,oE,by(with_reducible repeat(first|apply Kd.cQ|apply Kd.cS|apply Kd.de));exact Kd.da (Kd.jk (p:=⟨b2,1,none⟩) (Kd.jk (p:=⟨b2,0,none⟩) (Kd.da b8.out (fun k_ hk=>(⟨hk,hk.2.2⟩:_∧k_≠b2))) (fun _ hk=>hk.2) (.slice bD b6.length bE)) (fun _ hk=>hk.2) (.int .i64 b7)) (fun _ hk=>hk.1.1),oB⟩

def cw.T12:Bool×List (List Nat×List Nat):=(true,[([],[]),([],[]),([1],[1]),([0,2,2],[0,2]),([3],[3])])
def cw.B12:List Nat:=[0,0,2,7,15]
theorem cw.xG:gu .any (opsOf Tryz.f3 12)=cw.T12:=by kernel_rfl
theorem cw.tI:eP cw.T12.2 cw.B12=true:=by kernel_rfl
section
variable {α:Type}{d:Kd α}{e base n:Nat}{ok:Nat→Prop}{w w1:World}{A:Option Addr}{c:Nat}{v:Value}{xs:List α}
theorem nS (_:ae (Kd.N d e w base ok (.slice A n c) xs)) (hd:Kd.N d e w1 base ok (.slice A n c) xs:=by(with_reducible repeat(first|apply Kd.cQ|apply Kd.cS|apply Kd.de));exact ae.out (by first|(with_reducible assumption)|assumption)):Kd.C d w1 A xs.length xs:=(Kd.ij hd).2.2
theorem nl (h:ae (Kd.N d e w base ok (.slice A n c) xs)):xs.length≤c:=by have:=(Kd.ij h.out).1;have:=(Kd.ij h.out).2.1;omega
theorem nb (h:ae (Kd.N d e w base ok v xs)) (hb:Below w.heap.size w w1):ae (Kd.N d e w1 base ok v xs):=⟨Kd.kX h.out hb⟩
theorem nk {S:Nat→Prop}(h:ae (Kd.N d e w base ok v xs)) (hk:Kept w w1 S) (hn:∀k,ok k→¬S k):ae (Kd.N d e w1 base ok v xs):=⟨Kd.acH h.out hk hn⟩
theorem adE (h:ae (Kd.N d e w base ok v xs)):ae (Kd.N d e w.drew base ok v xs):=⟨Kd.de h.out⟩
theorem aeg (h:Kd.N d e w base (fun k=>base≤k) v xs) (lo B:Nat) (hl:lo≤base) (hB:B≤base):ae (Kd.N d e w B (fun k=>lo≤k∧k<w.heap.size) v xs):=⟨Kd.kW (Kd.da (Kd.o_ h) (fun _ hk=>⟨Nat.le_trans hl hk.1,hk.2⟩)) hB⟩
theorem nbd (h:ae (Kd.N d e w base ok v xs)):ae (Kd.N d e w base (fun k=>ok k∧k<w.heap.size) v xs):=⟨Kd.o_ h.out⟩
theorem sbd (h:ae (Kd.S d e w base ok v xs)):ae (Kd.S d e w base (fun k=>ok k∧k<w.heap.size) v xs):=⟨Kd.eS (Kd.kY h.out) (fun _ hk=>⟨hk.1,hk.2.2.1⟩)⟩
theorem rbd (h:ae (Kd.R d e w base ok v xs)):ae (Kd.R d e w base (fun k=>ok k∧k<w.heap.size) v xs):=⟨Kd.bb (Kd.jb h.out) (fun _ hk=>⟨hk.1,hk.2.2.1⟩)⟩
theorem two_far_N {g:Nat}{a b:Value}(h:ae (Kd.N d e w base ok v xs)) (hn:∀k,ok k→k≠g):ae (Kd.N d e ((w.setCell ⟨g,0,none⟩ a).setCell ⟨g,1,none⟩ b) base ok v xs):=⟨Kd.qo h.out (fun k hk _=>by rw[Below.heap_setCell _ _ _ _ (hn k hk),Below.heap_setCell _ _ _ _ (hn k hk)])⟩
theorem two_far_S {g:Nat}{a b:Value}(h:ae (Kd.S d e w base ok v xs)) (hn:∀k,ok k→k≠g):ae (Kd.S d e ((w.setCell ⟨g,0,none⟩ a).setCell ⟨g,1,none⟩ b) base ok v xs):=⟨Kd.rF h.out (fun k hk _=>by rw[Below.heap_setCell _ _ _ _ (hn k hk),Below.heap_setCell _ _ _ _ (hn k hk)])⟩
theorem two_far_R {g:Nat}{a b:Value}(h:ae (Kd.R d e w base ok v xs)) (hn:∀k,ok k→k≠g):ae (Kd.R d e ((w.setCell ⟨g,0,none⟩ a).setCell ⟨g,1,none⟩ b) base ok v xs):=⟨Kd.nu h.out (fun k hk _=>by rw[Below.heap_setCell _ _ _ _ (hn k hk),Below.heap_setCell _ _ _ _ (hn k hk)])⟩
theorem two_far_b {g g':Nat}{o:Obj}{a b:Value}(h:ae (w.heap[g']? =some o)) (hn:g'≠g):ae (((w.setCell ⟨g,0,none⟩ a).setCell ⟨g,1,none⟩ b).heap[g']? =some o):=⟨by rw[Below.heap_setCell _ _ _ _ hn,Below.heap_setCell _ _ _ _ hn];exact h.out⟩
theorem two_put {g:Nat}{t:TypeId}{a0 b0:Value}(h:ae (w.heap[g]? =some (.cells #[a0,b0] t (0,0)))) (a b:Value):ae (((w.setCell ⟨g,0,none⟩ a).setCell ⟨g,1,none⟩ b).heap[g]? =some (.cells #[a,b] t (0,0))):=⟨iq (cs:= #[a,b0]) (iq h.out 0 _ rfl) 1 _ rfl⟩
end
def cw.f (k:Nat) (ag:List nD) (ak:Int) (a1:ByteArray):Option Bool:=
 if(a1.size:Int)>1048576 then some true else(jz.f k ag ak 1048576).bind fun R=>if R<0 then some true else
 (iT.f k ag ak).bind fun t=>(iS.f k t.1 t.2 a1).bind fun p=>(ib.f k t.1 t.2 a1).bind fun s=>
 (ga.f k s.1 s.2.1 p.1 p.2.1).bind fun e1=>(ga.f k t.1 t.2 t.1 t.2).bind fun e2=>(eA.f k t.1 1).bind fun mt=>
 (eA.f k s.1 1).bind fun m=>(fv.f k m.2 s.2.1 1).bind fun q=>
 if s.2.2=p.2.2∧e1=true∧e2=true∧¬mt.1<0∧¬q<0∧q=m.1∧m.2.length=s.1.length then some true else none
theorem cw.calls (k:Nat) (bh:Option Addr) (aW:Nat) (ag:List nD) (ak:Int) (a1:ByteArray) (r:Bool) (w:World) (ck:Kd.C k92 w bh ag.length ag) (cl:ag.length≤aW) (h:cw.f k ag ak a1=some r) (hG:yf w:=by exact gk_ oB (by first|(with_reducible assumption)|assumption)):
  Calls Tryz.prog 3 #[.agg #[.slice bh ag.length aW,.int .i64 ak],.string a1] w fun e w'=>e= .returned (.bool r)∧Below w.heap.size w w':=by
 have HG:=ae.mk hG;clear hG;have td:=ae.mk ck;have te:=ae.mk cl;clear ck cl;have HB:=am (Below.refl w.heap.size w);unfold cw.f at h
 split at h
 case isTrue hg=>
  have cg0:decide ((a1.size:Int)>1048576)=true:=decide_eq_true hg;have dg0:decide (1048576<(a1.size:Int))=true:=decide_eq_true (by omega);obtain rfl:=Option.some.inj h;clear h hg
  go_enter Tryz.func3,Tryz.ntmps3
  go_wp2
  go_ret
  exact⟨rfl,oB⟩
 case isFalse hg=>
 have cg0:decide ((a1.size:Int)>1048576)=false:=decide_eq_false hg;have dg0:decide (1048576<(a1.size:Int))=false:=decide_eq_false (by omega);clear hg;replace h:=bA h;obtain⟨R,H1,h⟩:=h
 split at h
 case isTrue hR=>
  have cR:decide (R<0)=true:=decide_eq_true hR;obtain rfl:=Option.some.inj h;clear h hR
  go_enter Tryz.func3,Tryz.ntmps3
  go_wp2_with fail
  refine(jz.calls k _ _ ag ak 1048576 R _ (kC td) te.out H1.out).mono ?_;rintro e w1 ⟨rfl,hb⟩;replace HB:=hB HB hb
  go_wp2
  go_ret
  exact⟨rfl,oB⟩
 case isFalse hR=>
 have cR:decide (R<0)=false:=decide_eq_false hR;clear hR;replace h:=bA h;obtain⟨⟨tl,tn⟩,H2,h⟩:=h;replace h:=bA h;obtain⟨⟨p1,p2,p3⟩,H3,h⟩:=h;replace h:=bA h;obtain⟨⟨s1,s2,s3⟩,H4,h⟩:=h;replace h:=bA h;obtain⟨e1,H5,h⟩:=h;replace h:=bA h;obtain⟨e2,H6,h⟩:=h;replace h:=bA h;obtain⟨⟨mt,ml⟩,H7,h⟩:=h;replace h:=bA h;obtain⟨⟨mk,mg⟩,H8,h⟩:=h;replace h:=bA h;obtain⟨q,H9,h⟩:=h
 split at h
 case isFalse=>cases h
 case isTrue hh=>
 try dsimp only at hh
 obtain⟨rfl,rfl,rfl,hmt,hq,rfl,l4⟩:=hh;obtain rfl:=Option.some.inj h;clear h;have cm:decide (mt<0)=false:=decide_eq_false hmt;have cq:decide (q<0)=false:=decide_eq_false hq;clear hmt hq;have L4:=ae.mk l4;clear l4
 try dsimp only at H3 H4 H5 H6 H7 H8 H9 L4
 go_enter Tryz.func3,Tryz.ntmps3
 go_wp2_with fail
 refine(jz.calls k _ _ ag ak 1048576 R _ (kC td) te.out H1.out).mono ?_;rintro e w1 ⟨rfl,hb⟩
 have n1:w.heap.size+1≤w1.heap.size:=by have:=hb.size;simpa using this
 have fz:=aab hb;replace hb:=bold hb;replace HB:=hB HB hb;clear hb;have pC:=z2 fz;have pD:=nC fz
 go_wp2_with fail
 refine(iT.calls k _ _ ag ak tl tn _ (kC td) te.out H2.out).mono ?_;rintro e w2 ⟨v_t0,rfl,acI,hb⟩;obtain⟨A_t0,c_t0,rfl⟩:=Kd.hJ acI;have aac:=uJ acI (w1.heap.size) w.heap.size (by simp) (ah oB);clear acI
 have n2:w1.heap.size≤w2.heap.size:=by have:=hb.size;simpa using this
 replace fz:=gn fz hb;replace HB:=hB HB hb;clear hb;replace pC:=z2 fz;replace pD:=nC fz
 go_wp2_with fail
 refine(iS.calls k _ _ tl tn a1 p1 p2 s3 _ (rS aac) (rl aac) H3.out).mono ?_;rintro e w3 ⟨v_w0,rfl,acJ,hb⟩;obtain⟨A_w0,c_w0,rfl⟩:=Kd.kH acJ;have ka:=aeg acJ (w2.heap.size) w.heap.size (by simp) (ah oB);clear acJ
 have n3:w2.heap.size≤w3.heap.size:=by have:=hb.size;simpa using this
 replace fz:=gn fz hb;replace aac:=sb aac hb;replace HB:=hB HB hb;clear hb;replace pC:=z2 fz;replace pD:=nC fz;clear aac
 go_wp2_with fail
 refine(iT.calls k _ _ ag ak tl tn _ (kC td) te.out H2.out).mono ?_;rintro e w4 ⟨v_x0,rfl,aad,hb⟩;obtain⟨aeh,aei,rfl⟩:=Kd.hJ aad;have oy:=uJ aad (w3.heap.size+1) w.heap.size (by simp) (ah oB);clear aad
 have n4:w3.heap.size+1≤w4.heap.size:=by have:=hb.size;simpa using this
 have gv:=aab hb;replace hb:=bold hb;replace fz:=gn fz hb;replace ka:=nb ka hb;replace HB:=hB HB hb;clear hb;replace pC:=z2 fz;replace pD:=nC fz;have qZ:=z2 gv;have q_:=nC gv
 go_wp2_with fail
 refine(ib.calls k _ _ tl tn a1 s1 s2 s3 _ (rS oy) (rl oy) H4.out).mono ?_;rintro e w5 ⟨v_g0,rfl,yg,hb⟩;obtain⟨A_g0,c_g0,rfl⟩:=Kd.hJ yg;have ks:=uJ yg (w4.heap.size+1) w.heap.size (by simp) (ah oB);clear yg
 have n5:w4.heap.size+1≤w5.heap.size:=by have:=hb.size;simpa using this
 have pl:=aab hb;replace hb:=bold hb;replace fz:=gn fz hb;replace gv:=gn gv hb;replace ka:=nb ka hb;replace oy:=sb oy hb;replace HB:=hB HB hb;clear hb;replace pC:=z2 fz;replace pD:=nC fz;replace qZ:=z2 gv;replace q_:=nC gv;have abO:=z2 pl;have abP:=nC pl
 go_wp2_with fail
 refine(ga.calls k _ _ s1 s2 _ _ p1 p2 true _ (rS ks) (rl ks) (nS ka) (nl ka) H5.out).mono ?_;rintro e w6 ⟨rfl,hb⟩
 have n6:w5.heap.size+1≤w6.heap.size:=by have:=hb.size;simpa using this
 have iU:=aab hb;replace hb:=bold hb;replace fz:=gn fz hb;replace gv:=gn gv hb;replace pl:=gn pl hb;replace ka:=nb ka hb;replace oy:=sb oy hb;replace ks:=sb ks hb;replace HB:=hB HB hb;clear hb;replace pC:=z2 fz;replace pD:=nC fz;replace qZ:=z2 gv;replace q_:=nC gv;replace abO:=z2 pl;replace abP:=nC pl;have sQ:=z2 iU;have sR:=nC iU
 go_wp2_with fail
 replace fz:=xH fz;replace gv:=xH gv;replace pl:=xH pl;replace iU:=xH iU;replace ka:=adE ka;replace oy:=acv oy;replace ks:=acv ks;replace HB:=am (ar HB.out);have n7:w6.heap.size≤w6.drew.heap.size:=Nat.le_refl _;clear pC pD qZ q_ abO abP sQ sR;refine mz 5 (fun w'=>w'.cell? ⟨w4.heap.size,0,none⟩=some (.slice aeh tl.length aei)∧w'.cell? ⟨w4.heap.size,1,none⟩=some (.int .i64 tn)∧w'.cell? ⟨w.heap.size,0,none⟩=some (.slice bh ag.length aW)∧w'.cell? ⟨w.heap.size,1,none⟩=some (.int .i64 ak)) cw.xG cw.tI oH (fun hHeld ax eD=> ?_);generalize w6.drew=w7 at HB hHeld n7 fz gv pl iU ka oy ks⊢;refine fX 0 48 ax eD hHeld ?_;refine fX 1 49 ax eD hHeld ?_;refine kU 2 50 ax (fun K hK=> ?_);refine lO 50 Tryz.func12 (iT.calls k _ _ ag ak tl tn _ (kC td) te.out H2.out) ?_;rintro e w8 ⟨v_y0,rfl,acK,hb⟩;obtain⟨A_y0,c_y0,rfl⟩:=Kd.hJ acK;have aae:=uJ acK (w7.heap.size) w.heap.size (by simp) (ah oB);clear acK;refine⟨_,rfl,?_⟩
 have n8:w7.heap.size≤w8.heap.size:=by have:=hb.size;simpa using this
 replace fz:=gn fz hb;replace gv:=gn gv hb;replace pl:=gn pl hb;replace iU:=gn iU hb;replace ka:=nb ka hb;replace oy:=sb oy hb;replace ks:=sb ks hb;replace HB:=hB HB hb;clear hb hHeld;refine eZ hK 50 oH (fun hHeld=> ?_);clear hK K;refine kU 3 51 ax (fun K hK=> ?_);refine lO 51 Tryz.func14 (ga.calls k _ _ tl tn _ _ tl tn true _ (rS oy) (rl oy) (rS aae) (rl aae) H6.out) ?_;rintro e w9 ⟨rfl,hb⟩;refine⟨_,rfl,?_⟩
 have n9:w8.heap.size≤w9.heap.size:=by have:=hb.size;simpa using this
 replace fz:=gn fz hb;replace gv:=gn gv hb;replace pl:=gn pl hb;replace iU:=gn iU hb;replace ka:=nb ka hb;replace oy:=sb oy hb;replace ks:=sb ks hb;replace aae:=sb aae hb;replace HB:=hB HB hb;clear hb hHeld;refine eZ hK 51 oH (fun hHeld=> ?_);clear hK K;refine bz 4 52 ax ?_;refine lZ ax ?_;clear hHeld ax eD;have pC:=z2 fz;have pD:=nC fz;have qZ:=z2 gv;have q_:=nC gv;have abO:=z2 pl;have abP:=nC pl;have sQ:=z2 iU;have sR:=nC iU;clear aae
 go_wp2_with fail
 refine(pQ.calls k _ _ tl tn 1 mt ml w _ HB.out oy.out H7.out).mono ?_;rintro e w10 ⟨rfl,aad,hb,hk⟩;have n10:w9.heap.size≤w10.heap.size:=hk.1;replace ka:=nk ka hk (fun q h h'=>by omega);replace ks:=sk ks hk (fun q h h'=>by omega);replace fz:=tf fz hk (fun h=>by omega);replace gv:=tf gv hk (fun h=>by omega);clear pl abO abP;replace iU:=tf iU hk (fun h=>by omega);clear oy;clear aad;replace HB:=ae.mk hb;clear hb hk;replace pC:=z2 fz;replace pD:=nC fz;replace qZ:=z2 gv;replace q_:=nC gv;replace sQ:=z2 iU;replace sR:=nC iU
 go_wp2_with fail
 refine(ga.calls k _ _ s1 s2 _ _ p1 p2 true _ (rS ks) (rl ks) (nS ka) (nl ka) H5.out).mono ?_;rintro e w11 ⟨rfl,hb⟩
 have n11:w10.heap.size≤w11.heap.size:=by have:=hb.size;simpa using this
 replace fz:=gn fz hb;replace gv:=gn gv hb;replace iU:=gn iU hb;replace ka:=nb ka hb;replace ks:=sb ks hb;replace HB:=hB HB hb;clear hb;replace pC:=z2 fz;replace pD:=nC fz;replace qZ:=z2 gv;replace q_:=nC gv;replace sQ:=z2 iU;replace sR:=nC iU
 go_wp2_with fail
 refine(pQ.calls k _ _ s1 s2 1 q mg w _ HB.out ks.out H8.out).mono ?_;rintro e w12 ⟨rfl,yg,hb,hk⟩;have n12:w11.heap.size≤w12.heap.size:=hk.1;replace ka:=nk ka hk (fun q h h'=>by omega);replace fz:=tf fz hk (fun h=>by omega);replace gv:=tf gv hk (fun h=>by omega);replace iU:=tf iU hk (fun h=>by omega);replace ks:=ae.mk yg;clear yg;replace HB:=ae.mk hb;clear hb hk;replace pC:=z2 fz;replace pD:=nC fz;replace qZ:=z2 gv;replace q_:=nC gv;replace sQ:=z2 iU;replace sR:=nC iU
 go_wp2_with fail
 refine(fv.calls' k _ _ _ mg s2 1 q _ L4.out (rS ks) (rl ks) H9.out).mono ?_;rintro e w13 ⟨rfl,hb⟩
 have n13:w12.heap.size≤w13.heap.size:=by have:=hb.size;simpa using this
 replace fz:=gn fz hb;replace gv:=gn gv hb;replace iU:=gn iU hb;replace ka:=nb ka hb;replace ks:=sb ks hb;replace HB:=hB HB hb;clear hb;replace pC:=z2 fz;replace pD:=nC fz;replace qZ:=z2 gv;replace q_:=nC gv;replace sQ:=z2 iU;replace sR:=nC iU
 go_wp2_with fail
 refine(iT.calls k _ _ ag ak tl tn _ (kC td) te.out H2.out).mono ?_;rintro e w14 ⟨v_z0,rfl,acL,hb⟩;obtain⟨A_z0,c_z0,rfl⟩:=Kd.hJ acL;have uK:=uJ acL (w13.heap.size) w.heap.size (by simp) (ah oB);clear acL
 have n14:w13.heap.size≤w14.heap.size:=by have:=hb.size;simpa using this
 replace fz:=gn fz hb;replace gv:=gn gv hb;replace iU:=gn iU hb;replace ka:=nb ka hb;replace ks:=sb ks hb;replace HB:=hB HB hb;clear hb;replace pC:=z2 fz;replace pD:=nC fz;replace qZ:=z2 gv;replace q_:=nC gv;replace sQ:=z2 iU;replace sR:=nC iU
 go_wp2_with fail
 refine(ib.calls k _ _ tl tn a1 s1 s2 s3 _ (rS uK) (rl uK) H4.out).mono ?_;rintro e w15 ⟨v_h0,rfl,acM,hb⟩;obtain⟨A_h0,c_h0,rfl⟩:=Kd.hJ acM;have yh:=uJ acM (w14.heap.size) w.heap.size (by simp) (ah oB);clear acM
 have n15:w14.heap.size≤w15.heap.size:=by have:=hb.size;simpa using this
 replace fz:=gn fz hb;replace gv:=gn gv hb;replace iU:=gn iU hb;replace ka:=nb ka hb;replace ks:=sb ks hb;replace uK:=sb uK hb;replace HB:=hB HB hb;clear hb;replace pC:=z2 fz;replace pD:=nC fz;replace qZ:=z2 gv;replace q_:=nC gv;replace sQ:=z2 iU;replace sR:=nC iU
 go_wp2_with fail
 refine(ga.calls k _ _ s1 s2 _ _ p1 p2 true _ (rS yh) (rl yh) (nS ka) (nl ka) H5.out).mono ?_;rintro e w16 ⟨rfl,hb⟩
 have n16:w15.heap.size+1≤w16.heap.size:=by have:=hb.size;simpa using this
 have yi:=aab hb;replace hb:=bold hb;replace fz:=gn fz hb;replace gv:=gn gv hb;replace iU:=gn iU hb;replace ka:=nb ka hb;replace ks:=sb ks hb;replace uK:=sb uK hb;replace yh:=sb yh hb;replace HB:=hB HB hb;clear hb;replace pC:=z2 fz;replace pD:=nC fz;replace qZ:=z2 gv;replace q_:=nC gv;replace sQ:=z2 iU;replace sR:=nC iU;have aej:=z2 yi;have aek:=nC yi
 go_wp2_with fail
 refine(fv.calls' k _ _ _ mg s2 1 q _ L4.out (rS ks) (rl ks) H9.out).mono ?_;rintro e w17 ⟨rfl,hb⟩
 have n17:w16.heap.size≤w17.heap.size:=by have:=hb.size;simpa using this
 replace fz:=gn fz hb;replace gv:=gn gv hb;replace iU:=gn iU hb;replace yi:=gn yi hb;replace ka:=nb ka hb;replace ks:=sb ks hb;replace uK:=sb uK hb;replace yh:=sb yh hb;replace HB:=hB HB hb;clear hb;replace pC:=z2 fz;replace pD:=nC fz;replace qZ:=z2 gv;replace q_:=nC gv;replace sQ:=z2 iU;replace sR:=nC iU;replace aej:=z2 yi;replace aek:=nC yi
 go_wp2_with fail
 go_ret
 exact⟨rfl,oB⟩
end Go.Proofs.YtlecajlnjmbilaaGreatDoor.P
