-- Printed walks.
import Derived.Test.YtlecajlnjmbilaaGreatDoorPx5
set_option linter.all false
set_option maxHeartbeats 8000000
set_option maxRecDepth 100000
namespace Go.Proofs.YtlecajlnjmbilaaGreatDoor.P
open Go.RowKit Go.Proofs.ab.ar Go.Proofs.ab.aH Go.Proofs.ab.aN Go.Proofs.Tryz
attribute [local go_sem] ib ic jc jd fU fV ie ig

/-- An element of a row of inodes, lent: its cells, its rows, and the row without it. -/
structure pc (w0 W:World) (ok:Nat→Prop) (g n co:Nat) (xs:List aX) (i:Nat) (kQ:Nat→Prop) (v3 v4 v5:Value) (y:aX):Prop where
 lt:i<n
 h:Kd.H gh 58 W w0.heap.size ok (.slice (some ⟨g,0,none⟩) n co) xs (i:Int) kQ [.int .i64 y.f0,.int .i64 y.f1,.int .i64 y.f2,v3,v4,v5]
 r3:(Kd.int .u8).R 5 W w0.heap.size kQ v3 y.f3
 r4:fI.R 75 W w0.heap.size kQ v4 y.f4
 r5:jl.R 82 W w0.heap.size kQ v5 y.f5
 fr:∀j,W.frozen? ⟨g,i*6+j,none⟩=false
 hg:∀k,kQ k→ok k∧k≠g
section
variable {w0 W W':World}{ok kQ:Nat→Prop}{g n co i:Nat}{xs:List aX}{v3 v4 v5:Value}{y:aX}
theorem pc.start (hS:Kd.S gh 58 W w0.heap.size ok (.slice (some ⟨g,0,none⟩) n co) xs) (hi:i<n):∃kQ v3 v4 v5,pc w0 W ok g n co xs i kQ v3 v4 v5 (af xs (i:Int)):=by
 obtain⟨kQ,c,hcl,hM,hcc,hfr,ada,hH⟩:=Kd.xl hS z58 (i:Int) (by omega) (by omega);obtain⟨v3,v4,v5,rfl,g3,g4,g5⟩:=qO hM;exact⟨kQ,v3,v4,v5,hi,hH,g3,g4,g5,hfr,ada⟩
theorem pc.cells (m:pc w0 W ok g n co xs i kQ v3 v4 v5 y):W.cell? ⟨g,i*6,none⟩=some (.int .i64 y.f0)∧W.cell? ⟨g,i*6+1,none⟩=some (.int .i64 y.f1)∧W.cell? ⟨g,i*6+2,none⟩=some (.int .i64 y.f2)∧W.cell? ⟨g,i*6+3,none⟩=some v3∧W.cell? ⟨g,i*6+4,none⟩=some v4∧W.cell? ⟨g,i*6+5,none⟩=some v5:=by
 obtain⟨_,_,_,_,_,hcc,_⟩:=Kd.acs m.h (by omega) (by have:=m.lt;omega);exact⟨hcc 0 _ rfl,hcc 1 _ rfl,hcc 2 _ rfl,hcc 3 _ rfl,hcc 4 _ rfl,hcc 5 _ rfl⟩
theorem pc.typed (m:pc w0 W ok g n co xs i kQ v3 v4 v5 y):∃cells,W.heap[g]? =some (.cells cells 58 (0,0)):=by
 obtain⟨_,f,hR⟩:=m.h;exact Kd.iC hR g (by simp[Value.ownBlock])
theorem pc.AB (m:pc w0 W ok g n co xs i kQ v3 v4 v5 y):ok g:=by
 obtain⟨_,f,hR⟩:=m.h;exact(hR.1 g (by simp[Value.ownBlock])).1
theorem pc.base (m:pc w0 W ok g n co xs i kQ v3 v4 v5 y):w0.heap.size≤g:=by
 obtain⟨_,f,hR⟩:=m.h;exact Kd.cf hR g (by simp[Value.ownBlock])
theorem pc.back (m:pc w0 W ok g n co xs i kQ v3 v4 v5 y):Kd.S gh 58 W w0.heap.size ok (.slice (some ⟨g,0,none⟩) n co) (xs.set i y):=by
 have:=Kd.aaE m.h (pq W w0.heap.size kQ y m.r3 m.r4 m.r5) (fun _ hk=>hk)
 simpa using this
theorem pc.aaO (m:pc w0 W ok g n co xs i kQ v3 v4 v5 y) (j:Nat) (u:Value):∀q,(W.setCell ⟨g,i*6+j,none⟩ u).frozen? ⟨g,i*6+q,none⟩=false:=by
 intro q;obtain⟨cs,hc⟩:=m.typed;exact ay (ql hc _ _) _
theorem pc.set0 (m:pc w0 W ok g n co xs i kQ v3 v4 v5 y) (a:Int):pc w0 (W.setCell ⟨g,i*6,none⟩ (.int .i64 a)) ok g n co xs i kQ v3 v4 v5 ⟨a,y.f1,y.f2,y.f3,y.f4,y.f5⟩:=
 ⟨m.lt,(Kd.yv m.h (seg:=[.int .i64 a]) (j:=0) (by omega) (by have:=m.lt;omega) (show 1≤6 by decide) (by simp;rfl)).1,Kd.hD m.r3 (fun k hk=>(m.hg k hk).2) _,Kd.hD m.r4 (fun k hk=>(m.hg k hk).2) _,Kd.hD m.r5 (fun k hk=>(m.hg k hk).2) _,m.aaO 0 _,m.hg⟩
theorem pc.set1 (m:pc w0 W ok g n co xs i kQ v3 v4 v5 y) (a:Int):pc w0 (W.setCell ⟨g,i*6+1,none⟩ (.int .i64 a)) ok g n co xs i kQ v3 v4 v5 ⟨y.f0,a,y.f2,y.f3,y.f4,y.f5⟩:=
 ⟨m.lt,(Kd.yv m.h (seg:=[.int .i64 a]) (j:=1) (by omega) (by have:=m.lt;omega) (show 2≤6 by decide) (by simp;rfl)).1,Kd.hD m.r3 (fun k hk=>(m.hg k hk).2) _,Kd.hD m.r4 (fun k hk=>(m.hg k hk).2) _,Kd.hD m.r5 (fun k hk=>(m.hg k hk).2) _,m.aaO 1 _,m.hg⟩
theorem pc.set2 (m:pc w0 W ok g n co xs i kQ v3 v4 v5 y) (a:Int):pc w0 (W.setCell ⟨g,i*6+2,none⟩ (.int .i64 a)) ok g n co xs i kQ v3 v4 v5 ⟨y.f0,y.f1,a,y.f3,y.f4,y.f5⟩:=
 ⟨m.lt,(Kd.yv m.h (seg:=[.int .i64 a]) (j:=2) (by omega) (by have:=m.lt;omega) (show 3≤6 by decide) (by simp;rfl)).1,Kd.hD m.r3 (fun k hk=>(m.hg k hk).2) _,Kd.hD m.r4 (fun k hk=>(m.hg k hk).2) _,Kd.hD m.r5 (fun k hk=>(m.hg k hk).2) _,m.aaO 2 _,m.hg⟩
theorem pc.xr (m:pc w0 W ok g n co xs i kQ v3 v4 v5 y) {S:Nat→Prop}(hk:Kept W W' S) (hn:¬S g):∀q,W'.frozen? ⟨g,i*6+q,none⟩=false:=by
 intro q;obtain⟨cs,hc⟩:=m.typed;exact ay (vx hc hk hn) _
theorem pc.ado (m:pc w0 W ok g n co xs i kQ v3 v4 v5 y) {l:List Int}(hk:Kept W W' (fun k=>some k=v3.ownBlock)) (hr:(Kd.int .u8).R 5 W' w0.heap.size (fun k=>some k=v3.ownBlock∨W.heap.size≤k) v3 l):pc w0 W' ok g n co xs i kQ v3 v4 v5 ⟨y.f0,y.f1,y.f2,l,y.f4,y.f5⟩:=by
 obtain⟨cs,hc⟩:=m.typed;exact⟨m.lt,Kd.xm m.h hk (fun k _ hn hs=>hn (m.r3.1 k hs.symm)),Kd.xn rfl hr (fun k e=>m.r3.1 k e),Kd.aZ (Kd.pW (Kd.cI m.r4 (Kd.iC m.r3) (by decide)) hk (fun k hk hs=>hk.2 hs)) (fun _ hk=>hk.1),Kd.aZ (Kd.pW (Kd.cI m.r5 (Kd.iC m.r3) (by decide)) hk (fun k hk hs=>hk.2 hs)) (fun _ hk=>hk.1),m.xr hk (fun e=>Kd.nX m.r3 hc (by decide) e),m.hg⟩
theorem pc.adp (m:pc w0 W ok g n co xs i kQ v3 v4 v5 y) {l:List cA}(hk:Kept W W' (fun k=>some k=v4.ownBlock)) (hr:fI.R 75 W' w0.heap.size (fun k=>some k=v4.ownBlock∨W.heap.size≤k) v4 l):pc w0 W' ok g n co xs i kQ v3 v4 v5 ⟨y.f0,y.f1,y.f2,y.f3,l,y.f5⟩:=by
 obtain⟨cs,hc⟩:=m.typed;exact⟨m.lt,Kd.xm m.h hk (fun k _ hn hs=>hn (m.r4.1 k hs.symm)),Kd.aZ (Kd.pW (Kd.cI m.r3 (Kd.iC m.r4) (by decide)) hk (fun k hk hs=>hk.2 hs)) (fun _ hk=>hk.1),Kd.xn rfl hr (fun k e=>m.r4.1 k e),Kd.aZ (Kd.pW (Kd.cI m.r5 (Kd.iC m.r4) (by decide)) hk (fun k hk hs=>hk.2 hs)) (fun _ hk=>hk.1),m.xr hk (fun e=>Kd.nX m.r4 hc (by decide) e),m.hg⟩
theorem pc.adq (m:pc w0 W ok g n co xs i kQ v3 v4 v5 y) {l:List eu}(hk:Kept W W' (fun k=>some k=v5.ownBlock)) (hr:jl.R 82 W' w0.heap.size (fun k=>some k=v5.ownBlock∨W.heap.size≤k) v5 l):pc w0 W' ok g n co xs i kQ v3 v4 v5 ⟨y.f0,y.f1,y.f2,y.f3,y.f4,l⟩:=by
 obtain⟨cs,hc⟩:=m.typed;exact⟨m.lt,Kd.xm m.h hk (fun k _ hn hs=>hn (m.r5.1 k hs.symm)),Kd.aZ (Kd.pW (Kd.cI m.r3 (Kd.iC m.r5) (by decide)) hk (fun k hk hs=>hk.2 hs)) (fun _ hk=>hk.1),Kd.aZ (Kd.pW (Kd.cI m.r4 (Kd.iC m.r5) (by decide)) hk (fun k hk hs=>hk.2 hs)) (fun _ hk=>hk.1),Kd.xn rfl hr (fun k e=>m.r5.1 k e),m.xr hk (fun e=>Kd.nX m.r5 hc (by decide) e),m.hg⟩
end
def uG (k:Nat) (x:aX) (a:Int):Option (Int×aX):=
 (db.f k x.f3 (wrap64 (wrap64 (wrap64 (a+1)+1)+1))).bind fun b=>(de.f k x.f4 b.1).bind fun c=>(cW.f k x.f5 c.1).bind fun d=>some (d.1,⟨a,wrap64 (a+1),wrap64 (wrap64 (a+1)+1),b.2,c.2,d.2⟩)
def rm (k:Nat):List aX→Int→Option (Int×List aX)
 |[],a=>some (a,[])
 |x::l,a=>(uG k x a).bind fun p=>(rm k l p.1).bind fun q=>some (q.1,p.2::q.2)
def eI.f (k:Nat) (l0:List aX) (a1:Int):Option (Int×List aX):=if(l0.length:Int)≤9223372036854775807 then rm k l0 a1 else none
theorem eI.calls (k:Nat) (lx:Nat→Prop) (ja:Value) (l0:List aX) (a1 r1:Int) (r2:List aX) (w0 w:World) (hB:Below w0.heap.size w0 w) (ho0:Kd.S gh 58 w w0.heap.size lx ja l0) (h:eI.f k l0 a1=some (r1,r2)):
  Calls Tryz.prog 37 #[ja,.int .i64 a1] w fun e w'=>e= .returned (.int .i64 r1)∧Kd.S gh 58 w' w0.heap.size (fun k_=>lx k_∨w.heap.size≤k_) ja r2∧Below w0.heap.size w0 w'∧Kept w w' lx:=by
 unfold eI.f at h
 split at h
 case isFalse=>cases h
 case isTrue hl=>
 obtain⟨A,co,rfl⟩:=Kd.iA ho0;have HO:=am (show Kd.S gh 58 w w0.heap.size (fun k_=>lx k_∨w.heap.size≤k_) (.slice A l0.length co) l0 from Kd.eV ho0 (fun _ hk=> .inl hk));have HB:=ae.mk hB;have HK:=am (Kept.refl w lx);have H':ae (∃rest,rm k (l0.drop 0) a1=some (r1,rest)∧r2=[]++rest):=⟨r2,h,rfl⟩;have HW:=ae.mk hB.size;clear hB ho0 h
 have hl':l0.length≤9223372036854775807:=by omega
 clear hl
 go_enter func37,ntmps37
 go_wp2
 go_loopg [1,5] l0.length (fun gg s1 s5 wr=>∃(kk:Nat) (a:Int) (done:List aX),kk≤l0.length∧l0.length-kk≤gg∧s1= .int .i64 a∧s5= .int .i64 kk∧ae (done.length=kk)∧ae (∃rest,rm k (l0.drop kk) a=some (r1,rest)∧r2=done++rest)∧ae (Kd.S gh 58 wr w0.heap.size (fun k_=>lx k_∨w.heap.size≤k_) (.slice A l0.length co) (done++l0.drop kk))∧ae (Below w0.heap.size w0 wr)∧ae (Kept w wr lx))
 case atStart=>exact⟨0,a1,[],Nat.zero_le _,by omega,rfl,rfl,⟨rfl⟩,H',HO,HB,HK⟩
 case round=>
  clear HO HB HK H';obtain⟨kk,a,done,hkk,hgg,rfl,rfl,HD,HA,HO,HB,HK⟩:=hrel
  by_cases hlt:kk<l0.length
  rotate_left
  ·have hltz:¬(kk:Int)<(l0.length:Int):=by omega
   obtain rfl:kk=l0.length:=by omega
   obtain⟨rest,hm,b2⟩:=HA.out;rw[List.drop_length,rm]at hm;simp only[Option.some.injEq,Prod.mk.injEq]at hm;obtain⟨rfl,rfl⟩:=hm;subst b2;have b3:=HO.out;rw[List.drop_length]at b3;have b4:=ae.mk b3;clear HO b3 HA
   go_wp2
   go_ret
   exact⟨rfl,by simpa using b4.out,HB.out,HK.out⟩
  have hltz:(kk:Int)<(l0.length:Int):=by omega
  have hnn:(0:Int)≤(kk:Int):=by omega
  obtain⟨rest,hm,b2⟩:=HA.out;clear HA
  have hx:af (done++l0.drop kk) (kk:Int)=l0[kk]:=by
   have hd:=HD.out;simp only[af,Int.toNat_natCast,List.getD_eq_getElem?_getD];rw[List.getElem?_append_right (by omega),hd,Nat.sub_self,List.drop_eq_getElem_cons hlt]
   rfl
  rw[List.drop_eq_getElem_cons hlt,rm]at hm;replace hm:=bA hm;obtain⟨⟨a',x'⟩,A1,hm⟩:=hm;replace hm:=bA hm;obtain⟨⟨b1,rest'⟩,A2,hm⟩:=hm;simp only[Option.some.injEq,Prod.mk.injEq]at hm;obtain⟨rfl,rfl⟩:=hm;have A1:=A1.out;unfold uG at A1;replace A1:=bA A1;obtain⟨⟨k3,l3⟩,B3,A1⟩:=A1;replace A1:=bA A1;obtain⟨⟨k4,l4⟩,B4,A1⟩:=A1;replace A1:=bA A1;obtain⟨⟨k5,l5⟩,B5,A1⟩:=A1;simp only[Option.some.injEq,Prod.mk.injEq]at A1;obtain⟨rfl,rfl⟩:=A1;have b5:=ae.mk b2;clear b2;obtain⟨g,cap,ev,_,_,_⟩:=Kd.xk HO.out (by have hd:=HD.out;simp;omega);injection ev with ea en ec;subst ea;clear en;subst ec;obtain⟨kQ,v3,v4,v5,m⟩:=pc.start HO.out hlt;rw[hx]at m;clear hx HO;obtain⟨bF,bG,bH,bI,bJ,bK⟩:=m.cells;have bL:wr.frozen? ⟨g,kk*6,none⟩=false:=m.fr 0;have bM:wr.frozen? ⟨g,kk*6+1,none⟩=false:=m.fr 1;have bN:wr.frozen? ⟨g,kk*6+2,none⟩=false:=m.fr 2;have m3:=((m.set0 a).set1 (wrap64 (a+1))).set2 (wrap64 (wrap64 (a+1)+1));have b6:=am (((HB.out.setCell (p:=⟨g,kk*6,none⟩) m.base (.int .i64 a)).setCell (p:=⟨g,kk*6+1,none⟩) m.base (.int .i64 (wrap64 (a+1)))).setCell (p:=⟨g,kk*6+2,none⟩) m.base (.int .i64 (wrap64 (wrap64 (a+1)+1))));have b7:=am (((HK.out.setCell (p:=⟨g,kk*6,none⟩) m.AB (.int .i64 a)).setCell (p:=⟨g,kk*6+1,none⟩) m.AB (.int .i64 (wrap64 (a+1)))).setCell (p:=⟨g,kk*6+2,none⟩) m.AB (.int .i64 (wrap64 (wrap64 (a+1)+1))));obtain⟨A3,n3,e3⟩:=Kd.ao m.r3;obtain⟨A4,n4,e4⟩:=Kd.ao m.r4;obtain⟨A5,n5,e5⟩:=Kd.ao m.r5;subst e3;subst e4;subst e5;clear HB HK
  go_wp2_with (first
   |(go_at_call 27;refine(db.calls k _ _ _ _ k3 l3 w0 _ b6.out (Kd.kb rfl m3.r3) B3.out).mono ?_;rintro e w4 ⟨rfl,hy,hb,hk⟩;have m4:=m3.ado hk hy;have b8:=ae.mk hb;have b9:=am (b7.out.then_ hk (fun q hs=>(m3.hg q (m3.r3.1 q hs.symm)).1));clear hb hk hy;obtain⟨_,_,_,_,d4,d5⟩:=m4.cells)
   |(go_at_call 73;refine(de.calls k _ _ _ _ k4 l4 w0 _ b8.out (Kd.kb rfl m4.r4) B4.out).mono ?_;rintro e w5 ⟨rfl,hy,hb,hk⟩;have m5:=m4.adp hk hy;have bB:=ae.mk hb;have bC:=am (b9.out.then_ hk (fun q hs=>(m4.hg q (m4.r4.1 q hs.symm)).1));clear hb hk hy;obtain⟨_,_,_,_,_,e5⟩:=m5.cells)
   |(go_at_call 74;refine(cW.calls k _ _ _ _ k5 l5 w0 _ bB.out (Kd.kb rfl m5.r5) B5.out).mono ?_;rintro e w6 ⟨rfl,hy,hb,hk⟩;have m6:=m5.adq hk hy;have bD:=ae.mk hb;have bE:=am (bC.out.then_ hk (fun q hs=>(m5.hg q (m5.r5.1 q hs.symm)).1));clear hb hk hy))
  go_roundg (l0.length-(kk+1))
  case measure=>omega
  case rel=>
   refine⟨kk+1,k5,done++[⟨a,wrap64 (a+1),wrap64 (wrap64 (a+1)+1),l3,l4,l5⟩],by omega,by omega,rfl,by go_num,⟨by have hd:=HD.out;simp;omega⟩,⟨rest',A2.out,by rw[b5.out];simp⟩,⟨?_⟩,bD,bE⟩;have hs:=m6.back;have hd:=HD.out;rw[List.set_append_right _ _ (by omega),hd,Nat.sub_self,List.drop_eq_getElem_cons hlt,List.set_cons_zero]at hs
   simpa using hs
def iS.f (k:Nat) (bo:Int) (ak:Int) (cE:Int) (ch:List Int) (aG:List (cA)) (cp:List (eu)) (cL:Int) (cC:Int) (il:Int) (gq:List Int) (gy:List (cA)) (g_:List (eu)):Option (Bool):=if bo=cL then(if ak=cC then(if cE=il then((dq.f k ch gq).bind fun b1=>(if b1=true then((cF.f k aG gy).bind fun b2=>(if b2=true then((cv.f k cp g_).bind fun b3=>(if b3=true then(some true)else(some false)))else(some false)))else(some false)))else(some false))else(some false))else(some false)
theorem iS.calls (k:Nat) (bo:Int) (ak:Int) (cE:Int) (fP:Option Addr) (fQ:Nat) (ch:List Int) (fE:Option Addr) (fF:Nat) (aG:List (cA)) (fG:Option Addr) (fH:Nat) (cp:List (eu)) (cL:Int) (cC:Int) (il:Int) (kB:Option Addr) (kD:Nat) (gq:List Int) (kE:Option Addr) (kF:Nat) (gy:List (cA)) (kG:Option Addr) (kH:Nat) (g_:List (eu)) (r:Bool) (w:World) (iL:Kd.C (Kd.int .u8) w fP ch.length ch) (iM:ch.length≤fQ) (iN:Kd.C fI w fE aG.length aG) (iO:aG.length≤fF) (iP:Kd.C jl w fG cp.length cp) (iQ:cp.length≤fH) (rn:Kd.C (Kd.int .u8) w kB gq.length gq) (rp:gq.length≤kD) (rq:Kd.C fI w kE gy.length gy) (rr:gy.length≤kF) (ru:Kd.C jl w kG g_.length g_) (rv:g_.length≤kH) (h:iS.f k bo ak cE ch aG cp cL cC il gq gy g_=some r):
  Calls Tryz.prog 72 #[.agg #[.int .i64 bo,.int .i64 ak,.int .i64 cE,.slice fP ch.length fQ,.slice fE aG.length fF,.slice fG cp.length fH],.agg #[.int .i64 cL,.int .i64 cC,.int .i64 il,.slice kB gq.length kD,.slice kE gy.length kF,.slice kG g_.length kH]] w fun e w'=>e= .returned (.bool r)∧Below w.heap.size w w':=by
 have d8:=underlying58;have b9:=ae.mk iL;have bB:=ae.mk iM;clear iL iM;have bE:=ae.mk iN;have bF:=ae.mk iO;clear iN iO;have bI:=ae.mk iP;have bJ:=ae.mk iQ;clear iP iQ;have bC:=ae.mk rn;have bD:=ae.mk rp;clear rn rp;have bG:=ae.mk rq;have bH:=ae.mk rr;clear rq rr;have bK:=ae.mk ru;have bL:=ae.mk rv;clear ru rv;have HB:=am (Below.refl w.heap.size w);unfold iS.f at h;have H:=h;clear h
 by_cases c3:bo=cL
 rotate_left
 ·rw[if_neg c3]at H;have bN:(bo==cL)=false:=beq_eq_false_iff_ne.mpr c3;have bO:(bo !=cL)=true:=bne_iff_ne.mpr c3;obtain rfl:=Option.some.inj H
  go_enter func72,ntmps72
  go_wp2_with (first|((with_reducible refine aj (N:=2) rfl ?_);refine cO 2 #[.int .i64 bo,.int .i64 ak,.int .i64 cE,.slice fP ch.length fQ,.slice fE aG.length fF,.slice fG cp.length fH] 58 ?_;intro b5 hg dC hbox hb;have b1:=am (hbox);have b6:=cN hg;replace HB:=hB HB hb;clear hb hbox hg)|((with_reducible refine aj (N:=3) rfl ?_);refine cO 3 #[.int .i64 cL,.int .i64 cC,.int .i64 il,.slice kB gq.length kD,.slice kE gy.length kF,.slice kG g_.length kH] 58 ?_;intro b7 hg dD hbox hb;have b2:=am (hbox);have b8:=cN hg;have b3:=dm hg b1;have b4:=dn hg b1;replace b1:=aJ b1 hb;replace HB:=hB HB hb;clear hb hbox hg;have bT:=b3.out;have bU:=b4.out;obtain⟨⟨_,_,_,_,_,_⟩,_,_,_,_,_,_⟩:=z6 b1;obtain⟨⟨_,_,_,_,_,_⟩,_,_,_,_,_,_⟩:=z6 b2))
  go_ret
  exact⟨oE,oB⟩
 rw[if_pos c3]at H;have bN:(bo==cL)=true:=beq_iff_eq.mpr c3;have bO:(bo !=cL)=false:=bne_eq_false_iff_eq.mpr c3;clear c3
 by_cases c4:ak=cC
 rotate_left
 ·rw[if_neg c4]at H;have bP:(ak==cC)=false:=beq_eq_false_iff_ne.mpr c4;have bQ:(ak !=cC)=true:=bne_iff_ne.mpr c4;obtain rfl:=Option.some.inj H
  go_enter func72,ntmps72
  go_wp2_with (first|((with_reducible refine aj (N:=2) rfl ?_);refine cO 2 #[.int .i64 bo,.int .i64 ak,.int .i64 cE,.slice fP ch.length fQ,.slice fE aG.length fF,.slice fG cp.length fH] 58 ?_;intro b5 hg dE hbox hb;have b1:=am (hbox);have b6:=cN hg;replace HB:=hB HB hb;clear hb hbox hg)|((with_reducible refine aj (N:=3) rfl ?_);refine cO 3 #[.int .i64 cL,.int .i64 cC,.int .i64 il,.slice kB gq.length kD,.slice kE gy.length kF,.slice kG g_.length kH] 58 ?_;intro b7 hg dF hbox hb;have b2:=am (hbox);have b8:=cN hg;have b3:=dm hg b1;have b4:=dn hg b1;replace b1:=aJ b1 hb;replace HB:=hB HB hb;clear hb hbox hg;have bV:=b3.out;have bW:=b4.out;obtain⟨⟨_,_,_,_,_,_⟩,_,_,_,_,_,_⟩:=z6 b1;obtain⟨⟨_,_,_,_,_,_⟩,_,_,_,_,_,_⟩:=z6 b2))
  go_ret
  exact⟨oE,oB⟩
 rw[if_pos c4]at H;have bP:(ak==cC)=true:=beq_iff_eq.mpr c4;have bQ:(ak !=cC)=false:=bne_eq_false_iff_eq.mpr c4;clear c4
 by_cases c5:cE=il
 rotate_left
 ·rw[if_neg c5]at H;have bR:(cE==il)=false:=beq_eq_false_iff_ne.mpr c5;have bS:(cE !=il)=true:=bne_iff_ne.mpr c5;obtain rfl:=Option.some.inj H
  go_enter func72,ntmps72
  go_wp2_with (first|((with_reducible refine aj (N:=2) rfl ?_);refine cO 2 #[.int .i64 bo,.int .i64 ak,.int .i64 cE,.slice fP ch.length fQ,.slice fE aG.length fF,.slice fG cp.length fH] 58 ?_;intro b5 hg dG hbox hb;have b1:=am (hbox);have b6:=cN hg;replace HB:=hB HB hb;clear hb hbox hg)|((with_reducible refine aj (N:=3) rfl ?_);refine cO 3 #[.int .i64 cL,.int .i64 cC,.int .i64 il,.slice kB gq.length kD,.slice kE gy.length kF,.slice kG g_.length kH] 58 ?_;intro b7 hg dH hbox hb;have b2:=am (hbox);have b8:=cN hg;have b3:=dm hg b1;have b4:=dn hg b1;replace b1:=aJ b1 hb;replace HB:=hB HB hb;clear hb hbox hg;have bX:=b3.out;have bY:=b4.out;obtain⟨⟨_,_,_,_,_,_⟩,_,_,_,_,_,_⟩:=z6 b1;obtain⟨⟨_,_,_,_,_,_⟩,_,_,_,_,_,_⟩:=z6 b2))
  go_ret
  exact⟨oE,oB⟩
 rw[if_pos c5]at H;have bR:(cE==il)=true:=beq_iff_eq.mpr c5;have bS:(cE !=il)=false:=bne_eq_false_iff_eq.mpr c5;clear c5;replace H:=bA H;obtain⟨d9,A6,H⟩:=H
 try dsimp only at H
 replace H:=lr H;rcases H with⟨rfl,H⟩|⟨rfl,H⟩;rotate_left
 ·obtain rfl:=Option.some.inj H
  go_enter func72,ntmps72
  go_wp2_with (first|((with_reducible refine aj (N:=2) rfl ?_);refine cO 2 #[.int .i64 bo,.int .i64 ak,.int .i64 cE,.slice fP ch.length fQ,.slice fE aG.length fF,.slice fG cp.length fH] 58 ?_;intro b5 hg dI hbox hb;have b1:=am (hbox);have b6:=cN hg;replace HB:=hB HB hb;clear hb hbox hg)|((with_reducible refine aj (N:=3) rfl ?_);refine cO 3 #[.int .i64 cL,.int .i64 cC,.int .i64 il,.slice kB gq.length kD,.slice kE gy.length kF,.slice kG g_.length kH] 58 ?_;intro b7 hg dJ hbox hb;have b2:=am (hbox);have b8:=cN hg;have b3:=dm hg b1;have b4:=dn hg b1;replace b1:=aJ b1 hb;replace HB:=hB HB hb;clear hb hbox hg;have bZ:=b3.out;have d1:=b4.out;obtain⟨⟨_,_,_,_,_,_⟩,_,_,_,_,_,_⟩:=z6 b1;obtain⟨⟨_,_,_,_,_,_⟩,_,_,_,_,_,_⟩:=z6 b2)|((with_reducible refine ai (f:=26) rfl ?_);refine ej 24 func26 (dq.calls k _ _ ch _ _ gq false _ (kC b9) bB.out (kC bC) bD.out A6.out) ?_;rintro e w' ⟨rfl,⟨nd,rfl⟩⟩;refine⟨_,rfl,?_⟩))
  go_ret
  exact⟨oE,oB⟩
 replace H:=bA H;obtain⟨dA,A8,H⟩:=H
 try dsimp only at H
 replace H:=lr H;rcases H with⟨rfl,H⟩|⟨rfl,H⟩;rotate_left
 ·obtain rfl:=Option.some.inj H
  go_enter func72,ntmps72
  go_wp2_with (first|((with_reducible refine aj (N:=2) rfl ?_);refine cO 2 #[.int .i64 bo,.int .i64 ak,.int .i64 cE,.slice fP ch.length fQ,.slice fE aG.length fF,.slice fG cp.length fH] 58 ?_;intro b5 hg dK hbox hb;have b1:=am (hbox);have b6:=cN hg;replace HB:=hB HB hb;clear hb hbox hg)|((with_reducible refine aj (N:=3) rfl ?_);refine cO 3 #[.int .i64 cL,.int .i64 cC,.int .i64 il,.slice kB gq.length kD,.slice kE gy.length kF,.slice kG g_.length kH] 58 ?_;intro b7 hg dL hbox hb;have b2:=am (hbox);have b8:=cN hg;have b3:=dm hg b1;have b4:=dn hg b1;replace b1:=aJ b1 hb;replace HB:=hB HB hb;clear hb hbox hg;have d2:=b3.out;have d3:=b4.out;obtain⟨⟨_,_,_,_,_,_⟩,_,_,_,_,_,_⟩:=z6 b1;obtain⟨⟨_,_,_,_,_,_⟩,_,_,_,_,_,_⟩:=z6 b2)|((with_reducible refine ai (f:=26) rfl ?_);refine ej 24 func26 (dq.calls k _ _ ch _ _ gq true _ (kC b9) bB.out (kC bC) bD.out A6.out) ?_;rintro e w' ⟨rfl,⟨nd,rfl⟩⟩;refine⟨_,rfl,?_⟩)|((with_reducible refine ai (f:=113) rfl ?_);refine ej 30 func113 (cF.calls k _ _ aG _ _ gy false _ (kC bE) bF.out (kC bG) bH.out A8.out) ?_;rintro e dM ⟨rfl,hb⟩;refine⟨_,rfl,?_⟩;replace b1:=aJ b1 hb;replace b2:=aJ b2 hb;replace HB:=hB HB hb))
  go_ret
  exact⟨oE,oB⟩
 replace H:=bA H;obtain⟨dB,bM,H⟩:=H
 try dsimp only at H
 replace H:=lr H;rcases H with⟨rfl,H⟩|⟨rfl,H⟩
 ·obtain rfl:=Option.some.inj H
  go_enter func72,ntmps72
  go_wp2_with (first|((with_reducible refine aj (N:=2) rfl ?_);refine cO 2 #[.int .i64 bo,.int .i64 ak,.int .i64 cE,.slice fP ch.length fQ,.slice fE aG.length fF,.slice fG cp.length fH] 58 ?_;intro b5 hg dN hbox hb;have b1:=am (hbox);have b6:=cN hg;replace HB:=hB HB hb;clear hb hbox hg)|((with_reducible refine aj (N:=3) rfl ?_);refine cO 3 #[.int .i64 cL,.int .i64 cC,.int .i64 il,.slice kB gq.length kD,.slice kE gy.length kF,.slice kG g_.length kH] 58 ?_;intro b7 hg dO hbox hb;have b2:=am (hbox);have b8:=cN hg;have b3:=dm hg b1;have b4:=dn hg b1;replace b1:=aJ b1 hb;replace HB:=hB HB hb;clear hb hbox hg;have d4:=b3.out;have d5:=b4.out;obtain⟨⟨_,_,_,_,_,_⟩,_,_,_,_,_,_⟩:=z6 b1;obtain⟨⟨_,_,_,_,_,_⟩,_,_,_,_,_,_⟩:=z6 b2)|((with_reducible refine ai (f:=26) rfl ?_);refine ej 24 func26 (dq.calls k _ _ ch _ _ gq true _ (kC b9) bB.out (kC bC) bD.out A6.out) ?_;rintro e w' ⟨rfl,⟨nd,rfl⟩⟩;refine⟨_,rfl,?_⟩)|((with_reducible refine ai (f:=113) rfl ?_);refine ej 30 func113 (cF.calls k _ _ aG _ _ gy true _ (kC bE) bF.out (kC bG) bH.out A8.out) ?_;rintro e dP ⟨rfl,hb⟩;refine⟨_,rfl,?_⟩;replace b1:=aJ b1 hb;replace b2:=aJ b2 hb;replace HB:=hB HB hb;obtain⟨⟨_,_,_,_,_,_⟩,_,_,_,_,_,_⟩:=z6 b1;obtain⟨⟨_,_,_,_,_,_⟩,_,_,_,_,_,_⟩:=z6 b2)|((with_reducible refine ai (f:=114) rfl ?_);refine ej 36 func114 (cv.calls k _ _ cp _ _ g_ true _ (kC bI) bJ.out (kC bK) bL.out bM.out) ?_;rintro e dQ ⟨rfl,hb⟩;refine⟨_,rfl,?_⟩;replace b1:=aJ b1 hb;replace b2:=aJ b2 hb;replace HB:=hB HB hb))
  go_ret
  exact⟨oE,oB⟩
 obtain rfl:=Option.some.inj H
 go_enter func72,ntmps72
 go_wp2_with (first|((with_reducible refine aj (N:=2) rfl ?_);refine cO 2 #[.int .i64 bo,.int .i64 ak,.int .i64 cE,.slice fP ch.length fQ,.slice fE aG.length fF,.slice fG cp.length fH] 58 ?_;intro b5 hg dR hbox hb;have b1:=am (hbox);have b6:=cN hg;replace HB:=hB HB hb;clear hb hbox hg)|((with_reducible refine aj (N:=3) rfl ?_);refine cO 3 #[.int .i64 cL,.int .i64 cC,.int .i64 il,.slice kB gq.length kD,.slice kE gy.length kF,.slice kG g_.length kH] 58 ?_;intro b7 hg dS hbox hb;have b2:=am (hbox);have b8:=cN hg;have b3:=dm hg b1;have b4:=dn hg b1;replace b1:=aJ b1 hb;replace HB:=hB HB hb;clear hb hbox hg;have d6:=b3.out;have d7:=b4.out;obtain⟨⟨_,_,_,_,_,_⟩,_,_,_,_,_,_⟩:=z6 b1;obtain⟨⟨_,_,_,_,_,_⟩,_,_,_,_,_,_⟩:=z6 b2)|((with_reducible refine ai (f:=26) rfl ?_);refine ej 24 func26 (dq.calls k _ _ ch _ _ gq true _ (kC b9) bB.out (kC bC) bD.out A6.out) ?_;rintro e w' ⟨rfl,⟨nd,rfl⟩⟩;refine⟨_,rfl,?_⟩)|((with_reducible refine ai (f:=113) rfl ?_);refine ej 30 func113 (cF.calls k _ _ aG _ _ gy true _ (kC bE) bF.out (kC bG) bH.out A8.out) ?_;rintro e dT ⟨rfl,hb⟩;refine⟨_,rfl,?_⟩;replace b1:=aJ b1 hb;replace b2:=aJ b2 hb;replace HB:=hB HB hb;obtain⟨⟨_,_,_,_,_,_⟩,_,_,_,_,_,_⟩:=z6 b1;obtain⟨⟨_,_,_,_,_,_⟩,_,_,_,_,_,_⟩:=z6 b2)|((with_reducible refine ai (f:=114) rfl ?_);refine ej 36 func114 (cv.calls k _ _ cp _ _ g_ false _ (kC bI) bJ.out (kC bK) bL.out bM.out) ?_;rintro e dU ⟨rfl,hb⟩;refine⟨_,rfl,?_⟩;replace b1:=aJ b1 hb;replace b2:=aJ b2 hb;replace HB:=hB HB hb))
 go_ret
 exact⟨oE,oB⟩

def dz.f (k:Nat) (a0:ByteArray):Option (List ByteArray×Bool):=if a0.toList=([47]:List UInt8)then(some (([]:List ByteArray),true))else((strings_Split.f a0 (⟨#[47]⟩:ByteArray)).bind fun b1=>(if 0<(b1.length:Int)then(if(jb ByteArray.empty b1 0).toList=([]:List UInt8)then(if(b1.length:Int)<2 then(some (([]:List ByteArray),false))else(if 1≤(b1.length:Int)then((fm.f k (b1.drop 1)).bind fun b2=>(if b2=true then(some ((b1.drop (1:Int).toNat),true))else(some (([]:List ByteArray),false))))else(none)))else(some (([]:List ByteArray),false)))else(none)))
theorem dz.calls (k:Nat) (a0:ByteArray) (r1:List ByteArray) (r2:Bool) (w:World) (h:dz.f k a0=some (r1,r2)) (hG:yL w:=by exact gk_ oB (by first|(with_reducible assumption)|assumption)):
  Calls Tryz.prog 88 #[.string a0] w fun e w'=>∃jx:Value,e= .returned (.tuple #[jx,.bool r2])∧Kd.Q Kd.string 9 w' w.heap.size (fun _=>True) jx r1∧Below w.heap.size w w':=by
 have HG:=ae.mk hG;clear hG;have HB:=am (Below.refl w.heap.size w);unfold dz.f at h;have H:=h;clear h
 by_cases c2:a0.toList=([47]:List UInt8)
 ·rw[if_pos c2]at H;have dK:(a0.toList==([47]:List UInt8))=true:=beq_iff_eq.mpr c2;have dL:(a0.toList !=([47]:List UInt8))=false:=bne_eq_false_iff_eq.mpr c2;clear c2;simp only[Option.some.injEq,Prod.mk.injEq]at H;obtain⟨rfl,rfl⟩:=H
  go_enter func88,ntmps88
  go_wp2
  go_ret2
  exact⟨_,oE,Kd.pY (by first|exact Kd.eD _ _ _ _ _|exact Kd.ff _ _ _ _ _|exact Kd.fg _ _ _ _ _|exact Kd.fc _ _ _ _ _|exact Kd.fe _ _ _ _ _),oB⟩
 rw[if_neg c2]at H;have dK:(a0.toList==([47]:List UInt8))=false:=beq_eq_false_iff_ne.mpr c2;have dL:(a0.toList !=([47]:List UInt8))=true:=bne_iff_ne.mpr c2;replace H:=bA H;obtain⟨b1,A3,H⟩:=H
 try dsimp only at H
 obtain⟨c4,H⟩:=lC H;have gA:decide (0<(b1.length:Int))=true:=decide_eq_true c4;have gB:decide (0<b1.length)=true:=decide_eq_true (by omega);clear c4
 by_cases c5:(jb ByteArray.empty b1 0).toList=([]:List UInt8)
 rotate_left
 ·rw[if_neg c5]at H;have dM:((jb ByteArray.empty b1 0).toList==([]:List UInt8))=false:=beq_eq_false_iff_ne.mpr c5;have dN:((jb ByteArray.empty b1 0).toList !=([]:List UInt8))=true:=bne_iff_ne.mpr c5;simp only[Option.some.injEq,Prod.mk.injEq]at H;obtain⟨rfl,rfl⟩:=H
  go_enter func88,ntmps88
  go_wp2_with (first|((with_reducible refine ai (f:=121) rfl ?_);refine ej 8 func121 (strings_Split.calls a0 (⟨#[47]⟩:ByteArray) b1 _ A3.out) ?_;rintro e gR ⟨bV,rfl,bG,hb⟩;refine⟨_,rfl,?_⟩;have b2:=am (Kd.an bG (ah oB));replace HB:=hB HB hb;obtain⟨gC,gD,dO⟩:=Kd.ao b2.out;subst dO;have b5:0≤(0:Int):=(by omega);have b6:0<(b1.length:Int):=oa;obtain⟨b3,bB,b4⟩:=Kd.fb (Kd.bd b2.out).2.2 0 b5 b6;cases bB;have bM:(0<b1.length)=True:=eq_true (by omega);(try rw[show((0:Int)).toNat=0 from rfl]at b4);(try rw[Addr.add_zero']at b4);replace b5:=eq_true b5;replace b6:=eq_true b6))
  go_ret2
  exact⟨_,oE,Kd.pY (by first|exact Kd.eD _ _ _ _ _|exact Kd.ff _ _ _ _ _|exact Kd.fg _ _ _ _ _|exact Kd.fc _ _ _ _ _|exact Kd.fe _ _ _ _ _),oB⟩
 rw[if_pos c5]at H;have dM:((jb ByteArray.empty b1 0).toList==([]:List UInt8))=true:=beq_iff_eq.mpr c5;have dN:((jb ByteArray.empty b1 0).toList !=([]:List UInt8))=false:=bne_eq_false_iff_eq.mpr c5;clear c5
 by_cases c6:(b1.length:Int)<2
 ·rw[if_pos c6]at H;have dP:decide ((b1.length:Int)<2)=true:=decide_eq_true c6;have dQ:decide (b1.length<2)=true:=decide_eq_true (by omega);clear c6;simp only[Option.some.injEq,Prod.mk.injEq]at H;obtain⟨rfl,rfl⟩:=H
  go_enter func88,ntmps88
  go_wp2_with (first|((with_reducible refine ai (f:=121) rfl ?_);refine ej 8 func121 (strings_Split.calls a0 (⟨#[47]⟩:ByteArray) b1 _ A3.out) ?_;rintro e w7 ⟨bV,rfl,bG,hb⟩;refine⟨_,rfl,?_⟩;have b2:=am (Kd.an bG (ah oB));replace HB:=hB HB hb;obtain⟨gS,gT,dV⟩:=Kd.ao b2.out;subst dV;have b5:0≤(0:Int):=(by omega);have b6:0<(b1.length:Int):=oa;obtain⟨b3,bB,b4⟩:=Kd.fb (Kd.bd b2.out).2.2 0 b5 b6;cases bB;have bM:(0<b1.length)=True:=eq_true (by omega);(try rw[show((0:Int)).toNat=0 from rfl]at b4);(try rw[Addr.add_zero']at b4);replace b5:=eq_true b5;replace b6:=eq_true b6))
  go_ret2
  exact⟨_,oE,Kd.pY (by first|exact Kd.eD _ _ _ _ _|exact Kd.ff _ _ _ _ _|exact Kd.fg _ _ _ _ _|exact Kd.fc _ _ _ _ _|exact Kd.fe _ _ _ _ _),oB⟩
 rw[if_neg c6]at H;have dP:decide ((b1.length:Int)<2)=false:=decide_eq_false c6;have dQ:decide (b1.length<2)=false:=decide_eq_false (by omega);clear c6;obtain⟨c9,H⟩:=lC H;have gE:=eq_true c9;have gF:decide (1≤(b1.length:Int))=true:=decide_eq_true c9;clear c9;obtain⟨b7,da⟩:∃y_:List ByteArray,y_=(b1.drop 1):=⟨_,rfl⟩;replace H:((fm.f k b7).bind fun d5=>(if d5=true then(some ((b1.drop (1:Int).toNat),true))else(some (([]:List ByteArray),false))))=some (r1,r2):=oY;have bC:=ae.mk da;clear da;replace H:=bA H;obtain⟨d5,dH,H⟩:=H
 try dsimp only at H
 replace H:=lr H;rcases H with⟨rfl,H⟩|⟨rfl,H⟩;rotate_left
 ·simp only[Option.some.injEq,Prod.mk.injEq]at H;obtain⟨rfl,rfl⟩:=H
  go_enter func88,ntmps88
  go_wp2_with (first|((with_reducible refine ai (f:=121) rfl ?_);refine ej 8 func121 (strings_Split.calls a0 (⟨#[47]⟩:ByteArray) b1 _ A3.out) ?_;rintro e gU ⟨bV,rfl,bG,hb⟩;refine⟨_,rfl,?_⟩;have b2:=am (Kd.an bG (ah oB));replace HB:=hB HB hb;obtain⟨gG,bH,dR⟩:=Kd.ao b2.out;subst dR;have b5:0≤(0:Int):=(by omega);have b6:0<(b1.length:Int):=oa;obtain⟨b3,bB,b4⟩:=Kd.fb (Kd.bd b2.out).2.2 0 b5 b6;cases bB;have bM:(0<b1.length)=True:=eq_true (by omega);(try rw[show((0:Int)).toNat=0 from rfl]at b4);(try rw[Addr.add_zero']at b4);replace b5:=eq_true b5;replace b6:=eq_true b6;have d6:(1:Int)≤((b1.length:Int):Int):=oa;obtain⟨gH,bY,_,bZ,_⟩:=info_parts info9;have bD:b1.length≤bH:=(Kd.bd b2.out).2.1;have d7:Kd.C Kd.string _ (some b3) b1.length b1:=(Kd.bd b2.out).2.2;have d8:=nM (P:=Tryz.prog) 68 9 .i64 underlying68 bY 1 bZ (some b3) b1.length bH 1 (by omega) d6;have bI:=Kd.xh (m:=(1:Int).toNat) (c:=bH) d7 (by omega) bD;obtain⟨dW,bN⟩:∃A1,A1=(if bH=(1:Int).toNat then(some b3)else((some b3):Option Addr).map (·.add ((1:Int).toNat*1))):=⟨_,rfl⟩;obtain⟨dX,bW⟩:∃c1,c1=bH-(1:Int).toNat:=⟨_,rfl⟩;have bO:b7.length=b1.length-(1:Int).toNat:=(by rw[bC.out,List.length_drop]<;>omega);rw[show(b1).drop (1:Int).toNat=b7 from bC.out.symm]at bI;replace bI:Kd.C Kd.string _ dW b7.length b7:=(by rw[bN];exact bI);rw[←bO,←bN,←bW]at d8;have b8:=ae.mk bI;have bP:=am (show b7.length≤dX from by rw[bO,bW];exact Nat.sub_le_sub_right bD _);clear bI d7 bD bY bZ bW;have gI:=ae.mk bO;have gJ:=ae.mk bN;clear bO bN;have gK:=am (show 1≤b1.length from by omega);replace d6:=eq_true d6)|(go_at_call 122;(with_reducible refine(fm.calls k _ _ b7 false _ ?eQ bP.out dH.out).mono ?_);(case eQ=>repeat(first|exact(by repeat(first|(with_reducible exact b8.out)|(with_reducible refine Kd.eF ?_ _)|(with_reducible refine Kd.eG ?_ _)|(with_reducible refine Kd.ft ?_)|exact b8.out))|(with_reducible refine Kd.eF ?_ _)|(with_reducible refine Kd.eG ?_ _)|(with_reducible refine Kd.ft ?_)));rintro e gV ⟨rfl,hb⟩;replace b2:=ei b2 hb;replace b8:=am (Kd.cY (by repeat(first|(with_reducible exact b8.out)|(with_reducible refine Kd.eF ?_ _)|(with_reducible refine Kd.eG ?_ _)|(with_reducible refine Kd.ft ?_)|exact b8.out)) hb);replace HB:=hB HB hb))
  go_ret2
  exact⟨_,oE,Kd.pY (by first|exact Kd.eD _ _ _ _ _|exact Kd.ff _ _ _ _ _|exact Kd.fg _ _ _ _ _|exact Kd.fc _ _ _ _ _|exact Kd.fe _ _ _ _ _),oB⟩
 have dZ:=eq_true (oa:1≤(b1.length:Int));obtain⟨bE,da⟩:∃y_:List ByteArray,y_=(b1.drop (1:Int).toNat):=⟨_,rfl⟩;replace H:(some (bE,true))=some (r1,r2):=oY;have bQ:=ae.mk da;clear da;simp only[Option.some.injEq,Prod.mk.injEq]at H;obtain⟨rfl,rfl⟩:=H
 go_enter func88,ntmps88
 go_wp2_with (first|((with_reducible refine ai (f:=121) rfl ?_);refine ej 8 func121 (strings_Split.calls a0 (⟨#[47]⟩:ByteArray) b1 _ A3.out) ?_;rintro e gW ⟨bV,rfl,bG,hb⟩;refine⟨_,rfl,?_⟩;have b2:=am (Kd.an bG (ah oB));replace HB:=hB HB hb;obtain⟨gL,b9,dS⟩:=Kd.ao b2.out;subst dS;have b5:0≤(0:Int):=(by omega);have b6:0<(b1.length:Int):=oa;obtain⟨b3,bB,b4⟩:=Kd.fb (Kd.bd b2.out).2.2 0 b5 b6;cases bB;have bM:(0<b1.length)=True:=eq_true (by omega);(try rw[show((0:Int)).toNat=0 from rfl]at b4);(try rw[Addr.add_zero']at b4);replace b5:=eq_true b5;replace b6:=eq_true b6;have d9:(1:Int)≤((b1.length:Int):Int):=oa;obtain⟨gM,d1,_,d2,_⟩:=info_parts info9;have bF:b1.length≤b9:=(Kd.bd b2.out).2.1;have dA:Kd.C Kd.string _ (some b3) b1.length b1:=(Kd.bd b2.out).2.2;have dB:=nM (P:=Tryz.prog) 68 9 .i64 underlying68 d1 1 d2 (some b3) b1.length b9 1 (by omega) d9;have bJ:=Kd.xh (m:=(1:Int).toNat) (c:=b9) dA (by omega) bF;obtain⟨dI,bR⟩:∃A1,A1=(if b9=(1:Int).toNat then(some b3)else((some b3):Option Addr).map (·.add ((1:Int).toNat*1))):=⟨_,rfl⟩;obtain⟨dJ,bS⟩:∃c1,c1=b9-(1:Int).toNat:=⟨_,rfl⟩;have bT:b7.length=b1.length-(1:Int).toNat:=(by rw[bC.out,List.length_drop]<;>omega);rw[show(b1).drop (1:Int).toNat=b7 from bC.out.symm]at bJ;replace bJ:Kd.C Kd.string _ dI b7.length b7:=(by rw[bR];exact bJ);rw[←bT,←bR,←bS]at dB;have b8:=ae.mk bJ;have bP:=am (show b7.length≤dJ from by rw[bT,bS];exact Nat.sub_le_sub_right bF _);have dT:=ae.mk bS;clear bJ dA bF d1 d2 bS;have gN:=ae.mk bT;have dU:=ae.mk bR;clear bT bR;have gO:=am (show 1≤b1.length from by omega);replace d9:=eq_true d9)|(go_at_call 122;(with_reducible refine(fm.calls k _ _ b7 true _ ?eQ bP.out dH.out).mono ?_);(case eQ=>repeat(first|exact(by repeat(first|(with_reducible exact b8.out)|(with_reducible refine Kd.eF ?_ _)|(with_reducible refine Kd.eG ?_ _)|(with_reducible refine Kd.ft ?_)|exact b8.out))|(with_reducible refine Kd.eF ?_ _)|(with_reducible refine Kd.eG ?_ _)|(with_reducible refine Kd.ft ?_)));rintro e dY ⟨rfl,hb⟩;replace b2:=ei b2 hb;replace b8:=am (Kd.cY (by repeat(first|(with_reducible exact b8.out)|(with_reducible refine Kd.eF ?_ _)|(with_reducible refine Kd.eG ?_ _)|(with_reducible refine Kd.ft ?_)|exact b8.out)) hb);replace HB:=hB HB hb;have dC:(1:Int)≤((b1.length:Int):Int):=oa;obtain⟨gP,d3,_,d4,_⟩:=info_parts info9;have dD:=nM (P:=Tryz.prog) 68 9 .i64 underlying68 d3 1 d4 (some b3) b1.length b9 1 (by omega) dC;have bK:=Kd.aay (k:=(1:Int).toNat) (Kd.pY b2.out) (by omega);obtain⟨dE,bL⟩:∃A1,A1=(if b9=(1:Int).toNat then(some b3)else((some b3):Option Addr).map (·.add ((1:Int).toNat*1))):=⟨_,rfl⟩;obtain⟨dF,bU⟩:∃c1,c1=b9-(1:Int).toNat:=⟨_,rfl⟩;have bX:bE.length=b1.length-(1:Int).toNat:=(by rw[bQ.out,List.length_drop]);rw[←bQ.out]at bK;rw[←bX,←bL,←bU]at dD;replace bK:Kd.Q Kd.string 9 dY w.heap.size (fun _=>True) (.slice dE bE.length dF) bE:=(by rw[bL,bU,bX];exact bK);have gQ:ae ((Value.slice dE bE.length dF).ownBlock=(.slice (some b3) b1.length b9:Value).ownBlock):=⟨by rw[bL];split<;>(cases ((some b3):Option Addr)<;>rfl)⟩;obtain rfl:dI=dE:=dU.out.trans bL.symm;obtain rfl:dJ=dF:=dT.out.trans bU.symm;obtain rfl:b7=bE:=bC.out.trans bQ.out.symm;clear bX d3 d4 b2 bL bU;have dG:=ae.mk bK;clear bK;replace dC:=eq_true dC))
 go_ret2
 exact⟨_,oE,by(with_reducible repeat(first|apply Kd.iG|apply Kd.iH|apply Kd.jz));exact dG.out,oB⟩

def iT.f (k:Nat) (bo:Int) (ak:Int) (cE:Int) (ch:List Int) (aG:List (ky)) (cp:List (kz)) (a1:Int):Option (Int):=(gp.f ch a1).bind fun b1=>(if b1<0 then(some (-1))else((ez.f k aG b1).bind fun b2=>(if b2<0 then(some (-1))else((dr.f k cp b2).bind fun b3=>(if b3<0 then(some (-1))else(some b3))))))
theorem iT.calls (k:Nat) (bo:Int) (ak:Int) (cE:Int) (fP:Option Addr) (fQ:Nat) (ch:List Int) (fE:Option Addr) (fF:Nat) (aG:List (ky)) (fG:Option Addr) (fH:Nat) (cp:List (kz)) (a1:Int) (r:Int) (w:World) (iL:Kd.C (Kd.int .u8) w fP ch.length ch) (iM:ch.length≤fQ) (iN:Kd.C rI w fE aG.length aG) (iO:aG.length≤fF) (iP:Kd.C rJ w fG cp.length cp) (iQ:cp.length≤fH) (h:iT.f k bo ak cE ch aG cp a1=some r):
  Calls Tryz.prog 70 #[.agg #[.int .i64 bo,.int .i64 ak,.int .i64 cE,.slice fP ch.length fQ,.slice fE aG.length fF,.slice fG cp.length fH],.int .i64 a1] w fun e w'=>e= .returned (.int .i64 r)∧Below w.heap.size w w':=by
 have bI:=underlying92;have b3:=ae.mk iL;have b4:=ae.mk iM;clear iL iM;have b6:=ae.mk iN;have b7:=ae.mk iO;clear iN iO;have bB:=ae.mk iP;have bC:=ae.mk iQ;clear iP iQ;have HB:=am (Below.refl w.heap.size w);unfold iT.f at h;have H:=h;clear h;replace H:=bA H;obtain⟨b2,A3,H⟩:=H
 try dsimp only at H
 replace H:=jm H;rcases H with⟨bG,H⟩|⟨bG,H⟩
 ·obtain rfl:=Option.some.inj H
  go_enter func70,ntmps70
  go_wp2_with (first|((with_reducible refine aj (N:=2) rfl ?_);refine cO 2 #[.int .i64 bo,.int .i64 ak,.int .i64 cE,.slice fP ch.length fQ,.slice fE aG.length fF,.slice fG cp.length fH] 92 ?_;intro b8 hg w5 hbox hb;have b1:=am (hbox);have b9:=cN hg;replace HB:=hB HB hb;clear hb hbox hg;obtain⟨⟨_,_,_,_,_,_⟩,_,_,_,_,_,_⟩:=z6 b1)|((with_reducible refine ai (f:=108) rfl ?_);refine ej 8 func108 (gp.calls _ _ ch a1 b2 _ (kC b3) b4.out A3.out) ?_;rintro e w' ⟨rfl,⟨nd,rfl⟩⟩;refine⟨_,rfl,?_⟩))
  go_ret
  exact⟨oE,oB⟩
 replace H:=bA H;obtain⟨b5,A7,H⟩:=H
 try dsimp only at H
 replace H:=jm H;rcases H with⟨bH,H⟩|⟨bH,H⟩
 ·obtain rfl:=Option.some.inj H
  go_enter func70,ntmps70
  go_wp2_with (first|((with_reducible refine aj (N:=2) rfl ?_);refine cO 2 #[.int .i64 bo,.int .i64 ak,.int .i64 cE,.slice fP ch.length fQ,.slice fE aG.length fF,.slice fG cp.length fH] 92 ?_;intro b8 hg w9 hbox hb;have b1:=am (hbox);have b9:=cN hg;replace HB:=hB HB hb;clear hb hbox hg;obtain⟨⟨_,_,_,_,_,_⟩,_,_,_,_,_,_⟩:=z6 b1)|((with_reducible refine ai (f:=108) rfl ?_);refine ej 8 func108 (gp.calls _ _ ch a1 b2 _ (kC b3) b4.out A3.out) ?_;rintro e w' ⟨rfl,⟨nd,rfl⟩⟩;refine⟨_,rfl,?_⟩)|((with_reducible refine ai (f:=109) rfl ?_);refine ej 14 func109 (ez.calls k _ _ aG b2 b5 _ (kC b6) b7.out A7.out) ?_;rintro e bJ ⟨rfl,hb⟩;refine⟨_,rfl,?_⟩;replace b1:=aJ b1 hb;replace HB:=hB HB hb))
  go_ret
  exact⟨oE,oB⟩
 replace H:=bA H;obtain⟨bD,bF,H⟩:=H
 try dsimp only at H
 replace H:=jm H;rcases H with⟨bE,H⟩|⟨bE,H⟩
 ·obtain rfl:=Option.some.inj H
  go_enter func70,ntmps70
  go_wp2_with (first|((with_reducible refine aj (N:=2) rfl ?_);refine cO 2 #[.int .i64 bo,.int .i64 ak,.int .i64 cE,.slice fP ch.length fQ,.slice fE aG.length fF,.slice fG cp.length fH] 92 ?_;intro b8 hg bK hbox hb;have b1:=am (hbox);have b9:=cN hg;replace HB:=hB HB hb;clear hb hbox hg;obtain⟨⟨_,_,_,_,_,_⟩,_,_,_,_,_,_⟩:=z6 b1)|((with_reducible refine ai (f:=108) rfl ?_);refine ej 8 func108 (gp.calls _ _ ch a1 b2 _ (kC b3) b4.out A3.out) ?_;rintro e w' ⟨rfl,⟨nd,rfl⟩⟩;refine⟨_,rfl,?_⟩)|((with_reducible refine ai (f:=109) rfl ?_);refine ej 14 func109 (ez.calls k _ _ aG b2 b5 _ (kC b6) b7.out A7.out) ?_;rintro e bL ⟨rfl,hb⟩;refine⟨_,rfl,?_⟩;replace b1:=aJ b1 hb;replace HB:=hB HB hb;obtain⟨⟨_,_,_,_,_,_⟩,_,_,_,_,_,_⟩:=z6 b1)|((with_reducible refine ai (f:=110) rfl ?_);refine ej 20 func110 (dr.calls k _ _ cp b5 bD _ (kC bB) bC.out bF.out) ?_;rintro e bM ⟨rfl,hb⟩;refine⟨_,rfl,?_⟩;replace b1:=aJ b1 hb;replace HB:=hB HB hb))
  go_ret
  exact⟨oE,oB⟩
 obtain rfl:=Option.some.inj H
 go_enter func70,ntmps70
 go_wp2_with (first|((with_reducible refine aj (N:=2) rfl ?_);refine cO 2 #[.int .i64 bo,.int .i64 ak,.int .i64 cE,.slice fP ch.length fQ,.slice fE aG.length fF,.slice fG cp.length fH] 92 ?_;intro b8 hg bN hbox hb;have b1:=am (hbox);have b9:=cN hg;replace HB:=hB HB hb;clear hb hbox hg;obtain⟨⟨_,_,_,_,_,_⟩,_,_,_,_,_,_⟩:=z6 b1)|((with_reducible refine ai (f:=108) rfl ?_);refine ej 8 func108 (gp.calls _ _ ch a1 b2 _ (kC b3) b4.out A3.out) ?_;rintro e w' ⟨rfl,⟨nd,rfl⟩⟩;refine⟨_,rfl,?_⟩)|((with_reducible refine ai (f:=109) rfl ?_);refine ej 14 func109 (ez.calls k _ _ aG b2 b5 _ (kC b6) b7.out A7.out) ?_;rintro e bO ⟨rfl,hb⟩;refine⟨_,rfl,?_⟩;replace b1:=aJ b1 hb;replace HB:=hB HB hb;obtain⟨⟨_,_,_,_,_,_⟩,_,_,_,_,_,_⟩:=z6 b1)|((with_reducible refine ai (f:=110) rfl ?_);refine ej 20 func110 (dr.calls k _ _ cp b5 bD _ (kC bB) bC.out bF.out) ?_;rintro e bP ⟨rfl,hb⟩;refine⟨_,rfl,?_⟩;replace b1:=aJ b1 hb;replace HB:=hB HB hb))
 go_ret
 exact⟨oE,oB⟩

theorem aaP {a b c:Nat}(h:ae (a=b)) (k:ae (b≤c)):a≤c:=Nat.le_trans (Nat.le_of_eq h.out) k.out
theorem adY {α:Type}{d:Kd α}{e base n c:Nat}{ok:Nat→Prop}{w:World}{A:Option Addr}{xs ys:List α}(h:d.R e w base ok (.slice A n c) xs) (_hs:ys.length≤xs.length):∀ad,A=some ad→0<ys.length→ad.spot=none:=by
 intro ad hA _;subst hA;obtain⟨g,rfl⟩:=Kd.uy h
 rfl
theorem adZ {α:Type}{d:Kd α}{e base n c:Nat}{ok:Nat→Prop}{w:World}{A:Option Addr}{xs ys:List α}(h:d.Q e w base ok (.slice A n c) xs) (hs:ys.length≤xs.length):∀ad,A=some ad→0<ys.length→ad.spot=none:=by
 intro ad hA hp;subst hA;have hl:=(Kd.kN h).1;obtain⟨_,inner,⟨_,ho⟩,_⟩:=h;rcases ho with⟨h1,_⟩|⟨g,o,cap,cur,h1,_⟩
 ·omega
 ·injection h1 with h1;injection h1 with h1;rw[h1]
def pd (l:List ByteArray):ByteArray:=⟨(Lib.join (l.map (·.data.toList)) [47]).toArray⟩
theorem ad0 (A:Option Addr) (c:Nat) (l:List ByteArray) (w:World) (hr:Kd.C Kd.string w A l.length l) (hA:∀ad,A=some ad→0<l.length→ad.spot=none) (hc:l.length≤c) (hN:l.length≤140737488355328) (hlen:(pd l).size≤140737488355328):
  Calls Tryz.prog 148 #[.slice A l.length c,.string ⟨#[47]⟩] w fun e w'=>e= .returned (.string (pd l))∧Below w.heap.size w w':=by
 by_cases h0:l.length=0
 ·obtain rfl:=List.eq_nil_of_length_eq_zero h0
  exact(Any.strings_Join_none Tryz.lays156 Tryz.Builder_Extra_156 A c ⟨#[47]⟩ w).mono fun e w' ⟨he,hw⟩=>⟨he,hw▸Below.refl _ _⟩
 obtain⟨ad,c1,e0,_,hK,hcell⟩:=Kd.ov hr ⟨#[]⟩ 0 (by omega) (by omega);subst e0;have hsp:=hA ad rfl (by omega);obtain⟨bk,o,sp⟩:=ad;have hsp:sp=none:=hsp;subst hsp
 have hcells:∀(j:Nat) x,l[j]? =some x→w.cell? ⟨bk,o+j,none⟩=some (.string x):=fun j x hx=>by
  obtain⟨hj,hx⟩:=List.getElem?_eq_some_iff.1 hx;obtain⟨ad',c',e',_,hK',hcell'⟩:=Kd.ov hr ⟨#[]⟩ (j:Int) (by omega) (by omega);injection e' with e';subst e'
  have hg:l.getD (j:Int).toNat ⟨#[]⟩=x:=by rw[Int.toNat_natCast,List.getD_eq_getElem?_getD,List.getElem?_eq_getElem hj];exact hx
  rw[hg]at hK';obtain rfl:c'=[.string x]:=hK';have:=hcell' 0 _ rfl
  simpa [Kd.string,Kd.scalar,Addr.add_lit]using this
 have hbk:bk<w.heap.size:=World.block_lt_of_cell? w _ (hcells 0 l[0] (List.getElem?_eq_getElem (by omega)));exact Any.strings_Join Tryz.lays156 Tryz.Builder_Extra_156 bk o c l ⟨#[47]⟩ w hcells hbk hN hc (by simpa [pd,ByteArray.size]using hlen)
def fL.f (k:Nat) (l:List ByteArray):Option ByteArray:=(fm.f k l).bind fun b=>if b=true then(if l.length≤140737488355328∧(pd l).size≤140737488355327 then some ((⟨#[47]⟩:ByteArray)++pd l)else none)else some ⟨#[]⟩
theorem fL.calls (k:Nat) (A0:Option Addr) (c0:Nat) (l0:List ByteArray) (r:ByteArray) (w:World) (hr:Kd.C Kd.string w A0 l0.length l0) (hc0:l0.length≤c0) (h:fL.f k l0=some r) (hA:∀ad,A0=some ad→0<l0.length→ad.spot=none:=by first|exact adZ (by first|(with_reducible assumption)|exact ae.out (by with_reducible assumption)) (by first|exact Nat.le_refl _|exact List.length_take_le _ _|exact aaP (by with_reducible assumption) (by with_reducible assumption))|exact adY (by first|(with_reducible assumption)|exact ae.out (by with_reducible assumption)) (by first|exact Nat.le_refl _|exact List.length_take_le _ _|exact aaP (by with_reducible assumption) (by with_reducible assumption))):
  Calls Tryz.prog 126 #[.slice A0 l0.length c0] w fun e w'=>e= .returned (.string r)∧Below w.heap.size w w':=by
 unfold fL.f at h;replace h:=bA h;obtain⟨b,A1,h⟩:=h;have hn:=fm.calls k A0 c0 l0 b w hr hc0 A1.out
 cases b with
 |true=>
  rw[if_pos rfl]at h
  split at h
  case isFalse=>cases h
  case isTrue hl=>
  obtain rfl:=Option.some.inj h
  have hs:1+(pd l0).size≤9223372036854775807:=by omega
  have hj:=fun w1 (hb:Below w.heap.size w w1)=>ad0 A0 c0 l0 w1 (Kd.cY hr hb) hA hc0 hl.1 (by omega)
  clear h hr hA hl A1 hc0
  go_enter func126,ntmps126
  go_wp2_with (first
   |(go_at_call 122;refine hn.mono ?_;rintro e w1 ⟨rfl,hb⟩)
   |(go_at_call 148;refine(hj _ hb).mono ?_;rintro e w2 ⟨rfl,b1⟩))
  go_ret
  exact⟨rfl,iy hb hb.size b1⟩
 |false=>
  rw[if_neg (by simp)]at h;obtain rfl:=Option.some.inj h;clear h hr hA A1 hc0
  go_enter func126,ntmps126
  go_wp2_with (go_at_call 122;refine hn.mono ?_;rintro e w1 ⟨rfl,hb⟩)
  go_ret
  exact⟨rfl,hb⟩
def cT.f (k:Nat) (ag:List (aX)) (ak:Int) (a1:Int):Option (Int×Int×Int×List Int×(List (cA))×(List (eu))×Bool):=(eH.f k ag ak a1).bind fun b1=>(if b1<0 then(some (0,0,0,([]:List Int),([]:List (cA)),([]:List (eu)),false))else(if 0≤b1 then(if b1<(ag.length:Int)then((eK.f ((af ag b1).f0) ((af ag b1).f1) ((af ag b1).f2) ((af ag b1).f3) ((af ag b1).f4) ((af ag b1).f5)).bind fun b2=>(some (b2.1,b2.2.1,b2.2.2.1,b2.2.2.2.1,b2.2.2.2.2.1,b2.2.2.2.2.2,true)))else(none))else(none)))
theorem cT.calls (k:Nat) (bh:Option Addr) (aT:Nat) (ag:List (aX)) (ak:Int) (a1:Int) (r1:Int) (r2:Int) (r3:Int) (r4:List Int) (r5:List (cA)) (r6:List (eu)) (r7:Bool) (w:World) (cj:Kd.C gh w bh ag.length ag) (ck:ag.length≤aT) (h:cT.f k ag ak a1=some (r1,r2,r3,r4,r5,r6,r7)):
  Calls Tryz.prog 91 #[.agg #[.slice bh ag.length aT,.int .i64 ak],.int .i64 a1] w fun e w'=>∃pL pM pN:Value,e= .returned (.tuple #[.agg #[.int .i64 r1,.int .i64 r2,.int .i64 r3,pL,pM,pN],.bool r7])∧Kd.R (Kd.int .u8) 5 w' w.heap.size (fun _=>True) pL r4∧Kd.R fI 75 w' w.heap.size (fun _=>True) pM r5∧Kd.R jl 82 w' w.heap.size (fun _=>True) pN r6∧Below w.heap.size w w':=by
 have dP:=underlying28;have dQ:=underlying58;have b6:=ae.mk cj;have b8:=ae.mk ck;clear cj ck;have HB:=am (Below.refl w.heap.size w);unfold cT.f at h;have H:=h;clear h;replace H:=bA H;obtain⟨b3,A3,H⟩:=H
 try dsimp only at H
 replace H:=jm H;rcases H with⟨bU,H⟩|⟨bU,H⟩
 ·simp only[Option.some.injEq,Prod.mk.injEq]at H;obtain⟨rfl,rfl,rfl,rfl,rfl,rfl,rfl⟩:=H
  go_enter func91,ntmps91
  go_wp2_with (first|((with_reducible refine aj (N:=2) rfl ?_);refine cO 2 #[.slice bh ag.length aT,.int .i64 ak] 28 ?_;intro bP hg w5 hbox hb;have b1:=am (hbox);have bQ:=cN hg;replace HB:=hB HB hb;clear hb hbox hg)|((with_reducible refine aj (N:=4) rfl ?_);refine cO 4 #[.int .i64 0,.int .i64 0,.int .i64 0,.slice none 0 0,.slice none 0 0,.slice none 0 0] 58 ?_;intro b7 hg w6 hbox hb;have b2:=am (hbox);have bR:=cN hg;have b4:=dm hg b1;have b5:=dn hg b1;replace b1:=aJ b1 hb;replace HB:=hB HB hb;clear hb hbox hg;have dR:=b4.out;have dS:=b5.out;obtain⟨⟨_,_⟩,_,_⟩:=z2 b1)|((with_reducible refine ai (f:=99) rfl ?_);refine ej 9 func99 (eH.calls k _ _ ag ak a1 b3 _ (kC b6) b8.out A3.out) ?_;rintro e w9 ⟨rfl,hb⟩;refine⟨_,rfl,?_⟩;replace b1:=aJ b1 hb;replace b2:=aJ b2 hb;replace HB:=hB HB hb;obtain⟨⟨_,_,_,_,_,_⟩,_,_,_,_,_,_⟩:=z6 b2))
  refine bodyPost_ret (cQ rfl _ _ b7 58 #[.int .i64 0,.int .i64 0,.int .i64 0,.slice none 0 0,.slice none 0 0,.slice none 0 0] (0,0) _ rfl (oP b2) underlying58 rfl (by kernel_rfl)) rfl ?_;exact⟨_,_,_,oE,by first|exact Kd.eD _ _ _ _ _|exact Kd.ff _ _ _ _ _|exact Kd.fg _ _ _ _ _|exact Kd.fc _ _ _ _ _|exact Kd.fe _ _ _ _ _,by first|exact Kd.eD _ _ _ _ _|exact Kd.ff _ _ _ _ _|exact Kd.fg _ _ _ _ _|exact Kd.fc _ _ _ _ _|exact Kd.fe _ _ _ _ _,by first|exact Kd.eD _ _ _ _ _|exact Kd.ff _ _ _ _ _|exact Kd.fg _ _ _ _ _|exact Kd.fc _ _ _ _ _|exact Kd.fe _ _ _ _ _,oB⟩
 obtain⟨dK,H⟩:=cU H;obtain⟨dL,H⟩:=cU H;replace H:=bA H;obtain⟨⟨bJ,bK,bL,bM,bN,bO⟩,dC,H⟩:=H
 try dsimp only at H
 simp only[Option.some.injEq,Prod.mk.injEq]at H;obtain⟨rfl,rfl,rfl,rfl,rfl,rfl,rfl⟩:=H
 go_enter func91,ntmps91
 go_wp2_with (first|((with_reducible refine aj (N:=2) rfl ?_);refine cO 2 #[.slice bh ag.length aT,.int .i64 ak] 28 ?_;intro bP hg dY hbox hb;have b1:=am (hbox);have bQ:=cN hg;replace HB:=hB HB hb;clear hb hbox hg)|((with_reducible refine aj (N:=4) rfl ?_);refine cO 4 #[.int .i64 0,.int .i64 0,.int .i64 0,.slice none 0 0,.slice none 0 0,.slice none 0 0] 58 ?_;intro b7 hg dZ hbox hb;have b2:=am (hbox);have bR:=cN hg;have b4:=dm hg b1;have b5:=dn hg b1;replace b1:=aJ b1 hb;replace HB:=hB HB hb;clear hb hbox hg;have dM:=b4.out;have dN:=b5.out;obtain⟨⟨_,_⟩,_,_⟩:=z2 b1)|((with_reducible refine ai (f:=99) rfl ?_);refine ej 9 func99 (eH.calls k _ _ ag ak a1 b3 _ (kC b6) b8.out A3.out) ?_;rintro e gA ⟨rfl,hb⟩;refine⟨_,rfl,?_⟩;replace b1:=aJ b1 hb;replace b2:=aJ b2 hb;replace HB:=hB HB hb;obtain⟨⟨_,_⟩,_,_⟩:=z2 b1;have dT:(0≤(b3:Int))=True:=oT;have dU:(b3<(ag.length:Int))=True:=oT;obtain⟨dO,dD,dE,dF,dG,dH,dI,bV,d6,d7,d8,d9,dA,dB,bD,bE,bF,bG,bH,bI⟩:=fN b6 HB b3 oa oa;cases bV)|((with_reducible refine ai (f:=87) rfl ?_);refine ej 18 func87 (eK.calls ((af ag b3).f0) ((af ag b3).f1) ((af ag b3).f2) _ _ ((af ag b3).f3) _ _ ((af ag b3).f4) _ _ ((af ag b3).f5) bJ bK bL bM bN bO _ (kC bE) bD.out (kC bG) bF.out (kC bI) bH.out dC.out) ?_;rintro e gB ⟨dV,dW,dX,rfl,dJ,bS,bT,hb⟩;refine⟨_,rfl,?_⟩;have b9:=am (Kd.an dJ (ah oB));have bB:=am (Kd.an bS (ah oB));have bC:=am (Kd.an bT (ah oB));replace b1:=aJ b1 hb;replace b2:=aJ b2 hb;replace HB:=hB HB hb;(try clear bS);(try clear bT);obtain⟨⟨_,_,_,_,_,_⟩,_,_,_,_,_,_⟩:=z6 b2;obtain⟨bW,bX,bY⟩:=Kd.ao b9.out;subst bY;obtain⟨bZ,d1,d2⟩:=Kd.ao bB.out;subst d2;obtain⟨d3,d4,d5⟩:=Kd.ao bC.out;subst d5))
 refine bodyPost_ret (cQ rfl _ _ b7 58 #[.int .i64 bJ,.int .i64 bK,.int .i64 bL,.slice bW bM.length bX,.slice bZ bN.length d1,.slice d3 bO.length d4] (0,0) _ rfl (oP b2) underlying58 rfl (by kernel_rfl)) rfl ?_;exact⟨_,_,_,oE,uh b9 b2,uh bB b2,uh bC b2,oB⟩

def jw.f (k:Nat) (bo:Int) (ak:Int) (cE:Int) (ch:List Int) (aG:List (ky)) (cp:List (kz)):Option (Int×Int×Int×List Int×(List (cA))×(List (eu))):=(d_.f k ch).bind fun b1=>((eE.f k aG).bind fun b2=>((eb.f k cp).bind fun b3=>(some (bo,ak,cE,b1,b2,b3))))
theorem jw.calls (k:Nat) (bo:Int) (ak:Int) (cE:Int) (fP:Option Addr) (fQ:Nat) (ch:List Int) (fE:Option Addr) (fF:Nat) (aG:List (ky)) (fG:Option Addr) (fH:Nat) (cp:List (kz)) (r1:Int) (r2:Int) (r3:Int) (r4:List Int) (r5:List (cA)) (r6:List (eu)) (w:World) (iL:Kd.C (Kd.int .u8) w fP ch.length ch) (iM:ch.length≤fQ) (iN:Kd.C rI w fE aG.length aG) (iO:aG.length≤fF) (iP:Kd.C rJ w fG cp.length cp) (iQ:cp.length≤fH) (h:jw.f k bo ak cE ch aG cp=some (r1,r2,r3,r4,r5,r6)):
  Calls Tryz.prog 71 #[.agg #[.int .i64 bo,.int .i64 ak,.int .i64 cE,.slice fP ch.length fQ,.slice fE aG.length fF,.slice fG cp.length fH]] w fun e w'=>∃pL pM pN:Value,e= .returned (.agg #[.int .i64 r1,.int .i64 r2,.int .i64 r3,pL,pM,pN])∧Kd.R (Kd.int .u8) 5 w' w.heap.size (fun _=>True) pL r4∧Kd.R fI 75 w' w.heap.size (fun _=>True) pM r5∧Kd.R jl 82 w' w.heap.size (fun _=>True) pN r6∧Below w.heap.size w w':=by
 have d6:=underlying92;have d7:=underlying58;have bM:=ae.mk iL;have bN:=ae.mk iM;clear iL iM;have bO:=ae.mk iN;have bP:=ae.mk iO;clear iN iO;have bQ:=ae.mk iP;have bR:=ae.mk iQ;clear iP iQ;have HB:=am (Below.refl w.heap.size w);unfold jw.f at h;have H:=h;clear h;replace H:=bA H;obtain⟨b6,A2,H⟩:=H
 try dsimp only at H
 replace H:=bA H;obtain⟨bF,A3,H⟩:=H
 try dsimp only at H
 replace H:=bA H;obtain⟨bJ,A4,H⟩:=H
 try dsimp only at H
 simp only[Option.some.injEq,Prod.mk.injEq]at H;obtain⟨rfl,rfl,rfl,rfl,rfl,rfl⟩:=H
 go_enter func71,ntmps71
 go_wp2_with (first|((with_reducible refine aj (N:=1) rfl ?_);refine cO 1 #[.int .i64 bo,.int .i64 ak,.int .i64 cE,.slice fP ch.length fQ,.slice fE aG.length fF,.slice fG cp.length fH] 92 ?_;intro bY hg w5 hbox hb;have b1:=am (hbox);have bZ:=cN hg;replace HB:=hB HB hb;clear hb hbox hg)|((with_reducible refine aj (N:=2) rfl ?_);refine cO 2 #[.int .i64 0,.int .i64 0,.int .i64 0,.slice none 0 0,.slice none 0 0,.slice none 0 0] 58 ?_;intro bS hg w6 hbox hb;have b3:=am (hbox);have d1:=cN hg;have b7:=dm hg b1;have b8:=dn hg b1;replace b1:=aJ b1 hb;replace HB:=hB HB hb;clear hb hbox hg)|((with_reducible refine aj (N:=3) rfl ?_);refine cO 3 #[.int .i64 0,.int .i64 0,.int .i64 0,.slice none 0 0,.slice none 0 0,.slice none 0 0] 58 ?_;intro d2 hg w7 hbox hb;have b2:=am (hbox);have d3:=cN hg;have b9:=dm hg b1;have bB:=dn hg b1;have bC:=dm hg b3;have bD:=dn hg b3;replace b1:=aJ b1 hb;replace b3:=aJ b3 hb;replace HB:=hB HB hb;clear hb hbox hg;have d8:=b7.out;have d9:=b8.out;have dA:=b9.out;have dB:=bB.out;obtain⟨⟨_,_,_,_,_,_⟩,_,_,_,_,_,_⟩:=z6 b1;have d4:=bD.out;have d5:=bC.out;obtain⟨⟨_,_,_,_,_,_⟩,_,_,_,_,_,_⟩:=z6 b2)|((with_reducible refine ai (f:=24) rfl ?_);refine ej 15 func24 (d_.calls k _ _ ch b6 _ ?eQ bN.out A2.out) ?_;(case eQ=>exact Kd.cY bM.out oB);rintro e dF ⟨dC,rfl,bE,hb⟩;refine⟨_,rfl,?_⟩;have b4:=am (Kd.an bE (ah oB));replace b1:=aJ b1 hb;replace b3:=aJ b3 hb;replace b2:=pl #[.int .i64 bo,.int .i64 ak,.int .i64 cE,.slice none 0 0,.slice none 0 0,.slice none 0 0] b2 hb;replace HB:=hB HB hb;obtain⟨bG,bH,bT⟩:=Kd.ao b4.out;subst bT;obtain⟨⟨_,_,_,_,_,_⟩,_,_,_,_,_,_⟩:=z6 b2;obtain⟨⟨_,_,_,_,_,_⟩,_,_,_,_,_,_⟩:=z6 b1)|((with_reducible refine ai (f:=111) rfl ?_);refine ej 19 func111 (eE.calls k _ _ aG bF _ ?eQ bP.out A3.out) ?_;(case eQ=>exact Kd.cY bO.out oB);rintro e dG ⟨dD,rfl,bE,hb⟩;refine⟨_,rfl,?_⟩;have b5:=am (Kd.an bE (ah oB));replace b4:=ga b4 b2 hb;replace b1:=aJ b1 hb;replace b3:=aJ b3 hb;replace b2:=pl #[.int .i64 bo,.int .i64 ak,.int .i64 cE,.slice bG b6.length bH,.slice none 0 0,.slice none 0 0] b2 hb;replace HB:=hB HB hb;(try clear hk);obtain⟨bK,bL,bU⟩:=Kd.ao b5.out;subst bU;obtain⟨⟨_,_,_,_,_,_⟩,_,_,_,_,_,_⟩:=z6 b2;obtain⟨⟨_,_,_,_,_,_⟩,_,_,_,_,_,_⟩:=z6 b1)|((with_reducible refine ai (f:=112) rfl ?_);refine ej 23 func112 (eb.calls k _ _ cp bJ _ ?eQ bR.out A4.out) ?_;(case eQ=>exact Kd.cY bQ.out oB);rintro e dH ⟨dE,rfl,bE,hb⟩;refine⟨_,rfl,?_⟩;have bI:=am (Kd.an bE (ah oB));replace b4:=ga b4 b2 hb;replace b5:=ga b5 b2 hb;replace b1:=aJ b1 hb;replace b3:=aJ b3 hb;replace b2:=pl #[.int .i64 bo,.int .i64 ak,.int .i64 cE,.slice bG b6.length bH,.slice bK bF.length bL,.slice none 0 0] b2 hb;replace HB:=hB HB hb;(try clear hk);obtain⟨bV,bW,bX⟩:=Kd.ao bI.out;subst bX;obtain⟨⟨_,_,_,_,_,_⟩,_,_,_,_,_,_⟩:=z6 b2;obtain⟨⟨_,_,_,_,_,_⟩,_,_,_,_,_,_⟩:=z6 b3))
 refine bodyPost_ret (results_cell_row rfl _ _ bS 58 #[.int .i64 bo,.int .i64 ak,.int .i64 cE,.slice bG b6.length bH,.slice bK bF.length bL,.slice bV bJ.length bW] (0,0) _ rfl (oP b3) underlying58 rfl (by kernel_rfl)) rfl ?_;exact⟨_,_,_,oE,pB b4 b2 b3,pB b5 b2 b3,pB bI b2 b3,oB⟩
end Go.Proofs.YtlecajlnjmbilaaGreatDoor.P
