-- Printed walks.
import Derived.Test.YtlecajlnjmbilaaGreatDoorPx0
set_option linter.all false
set_option maxHeartbeats 8000000
set_option maxRecDepth 100000
namespace Go.Proofs.YtlecajlnjmbilaaGreatDoor.P
open Go.RowKit Go.Proofs.ab.ar Go.Proofs.ab.aV Go.Proofs.ab.aZ
attribute [local go_sem] fl fm gm gn eK eL fo fp

def ba.l0:Nat→Int→ByteArray→Option (ByteArray)
 |0,_,_=>none
 |k+1,x0,x3=>if x0>0 then((some (([(wrap64 (48+(Int.tmod x0 10)))%256]:List Int):List Int)).bind fun b1=>(if(strOfNums b1).size+x3.size≤9223372036854775807 then(ba.l0 k (wrap64 (Int.tdiv x0 10)) ((strOfNums b1)++x3))else(none)))else(if 1+x3.size≤9223372036854775807 then(some ((⟨#[109]⟩:ByteArray)++x3))else(none))
def ba.f (k:Nat) (a0:Int):Option (ByteArray):=if a0≤0 then(some (⟨#[109,48]⟩:ByteArray))else(ba.l0 k a0 (⟨#[]⟩:ByteArray))
theorem ba.calls (k:Nat) (a0:Int) (r:ByteArray) (w:World) (h:ba.f k a0=some r):
  Calls Tryz.prog 115 #[.int .i64 a0] w fun e w'=>e= .returned (.string r)∧Below w.heap.size w w':=by
 have HB:=am (Below.refl w.heap.size w);unfold ba.f at h;have H:=h;clear h;replace H:=iE H;rcases H with⟨b6,H⟩|⟨b6,H⟩
 ·obtain rfl:=Option.some.inj H
  go_enter Tryz.func115,Tryz.ntmps115
  go_wp2
  go_ret
  exact⟨oE,oB⟩
 have H':=ae.mk H;clear H
 go_enter Tryz.func115,Tryz.ntmps115
 go_wp2
 go_loopg [0,3] k (fun kq v0 v3 w'=>∃(b1:Int) (b2:ByteArray),v0= .int .i64 b1∧v3= .string b2∧ae (ba.l0 kq b1 b2=some r)∧ae (kq≤k)∧ae (Below w.heap.size w w'))
 case atStart=>exact⟨(a0),((⟨#[]⟩:ByteArray)),oS,oS,H',⟨Nat.le_refl _⟩,⟨oB⟩⟩
 case round=>
  clear H'
  try clear b6
  obtain⟨b1,b2,rfl,rfl,HA,b8,HB⟩:=hrel
  cases gk with
  |zero=>exact absurd HA.out (by simp[ba.l0])
  |succ k1=>
   have H:=HA.out;clear HA;simp only[ba.l0]at H;replace H:=itG H;rcases H with⟨b9,H⟩|⟨b9,H⟩;rotate_left
   ·obtain⟨c8,H⟩:=lg H;have bB:=eq_true c8;have bC:decide (1+b2.size≤9223372036854775807)=true:=decide_eq_true c8
    try have bD:(9223372036854775807<1+b2.size)=False:=eq_false (Nat.not_lt.2 c8)
    obtain rfl:=Option.some.inj H
    go_wp2
    go_ret
    exact⟨oE,oB⟩
   obtain⟨b3,dh⟩:∃y_:List Int,y_=(([(wrap64 (48+(Int.tmod b1 10)))%256]:List Int)):=⟨_,rfl⟩;replace H:(if(strOfNums b3).size+b2.size≤9223372036854775807 then(ba.l0 k1 (wrap64 (Int.tdiv b1 10)) ((strOfNums b3)++b2))else(none))=some r:=oY;have b5:=ae.mk dh;clear dh;obtain⟨c4,H⟩:=lg H;have bE:=eq_true c4;have bF:decide ((strOfNums b3).size+b2.size≤9223372036854775807)=true:=decide_eq_true c4
   try have bG:(9223372036854775807<(strOfNums b3).size+b2.size)=False:=eq_false (Nat.not_lt.2 c4)
   have H':=ae.mk H;clear H
   go_wp2_with (first|((with_reducible refine ai (N:=12) rfl ?_);refine Kd.js (Kd.int .u8) _ 5 ?hg (N:=12) ?hd (xs:=([(wrap64 (48+(Int.tmod b1 10)))%256]:List Int)) (inner:=[.int .u8 ((wrap64 (48+(Int.tmod b1 10)))%256)]) (ok:=fun _=>True) (fj:=fun _=>True) ?hr ?hp (fun _ hk=>hk) trivial (Below.refl _ _) (Nat.le_refl _) (by simp) ?_;(case hd=>rfl);(case hg=>rfl);(case hr=>first|(go_simp;done)|(go_simp;rfl));(case hp=>exact(cN.one (show Kd.M (Kd.int .u8) _ _ _ ((wrap64 (48+(Int.tmod b1 10)))%256) [.int .u8 ((wrap64 (48+(Int.tmod b1 10)))%256)]from rfl) (cN.none _ _)));intro bH w5 b4 hb ky ej;clear ky ej;(first|rw[←b5.out]at b4|(simp only[Int.reduceToNat]at b4;rw[←b5.out]at b4));have b7:=am (Kd.aw b4 (ah oB));replace HB:=hB HB hb;clear hb b4;have bI:=uH (P:=Tryz.prog) Tryz.underlying39 Tryz.underlying5 Tryz.underlying9 (Kd.oZ b7.out)))
   go_roundg k1
   case measure=>have:=b8.out;omega
   case rel=>exact⟨(wrap64 (Int.tdiv b1 10)),((strOfNums b3)++b2),oS,oS,H',⟨by have:=b8.out;omega⟩,⟨oB⟩⟩

def et.l0:Nat→List Int→Int→Int→Option (Bool)
 |0,_,_,_=>none
 |k+1,x0,x1,x5=>if x5<(x0.length:Int)then(if 0≤x5 then(if(rd x0 x5)=x1 then(some true)else(et.l0 k x0 x1 (wrap64 (x5+1))))else(none))else(some false)
def et.f (k:Nat) (l0:List Int) (a1:Int):Option (Bool):=et.l0 k l0 a1 0
theorem et.calls (k:Nat) (A0:Option Addr) (c0:Nat) (l0:List Int) (a1:Int) (r:Bool) (w:World) (hr0:Kd.C (Kd.int .i64) w A0 l0.length l0) (hc0:l0.length≤c0) (h:et.f k l0 a1=some r):
  Calls Tryz.prog 152 #[.slice A0 l0.length c0,.int .i64 a1] w fun e w'=>e= .returned (.bool r)∧eX w w':=by
 have b5:=ae.mk hr0;have bE:=ae.mk hc0;clear hr0 hc0;unfold et.f at h;have H:=h;clear h;have H':=ae.mk H;clear H
 go_enter Tryz.func152,Tryz.ntmps152
 go_wp2
 go_loopg [5] k (fun kq v5 w'=>∃(b1:Int),v5= .int .i64 b1∧ae (et.l0 kq l0 a1 b1=some r)∧ae (kq≤k)∧eX w w')
 case atStart=>exact⟨(0),oS,H',⟨Nat.le_refl _⟩,oD⟩
 case round=>
  clear H';obtain⟨b1,rfl,HA,b6,⟨m1,rfl⟩⟩:=hrel
  cases gk with
  |zero=>exact absurd HA.out (by simp[et.l0])
  |succ k1=>
   have H:=HA.out;clear HA;simp only[et.l0]at H;replace H:=iE H;rcases H with⟨b7,H⟩|⟨b7,H⟩;rotate_left
   ·obtain rfl:=Option.some.inj H
    go_wp2
    go_ret
    exact⟨oS,oD⟩
   obtain⟨bD,H⟩:=cX H
   by_cases c5:(rd l0 b1)=a1
   ·rw[if_pos c5]at H;have b8:((rd l0 b1)==a1)=true:=beq_iff_eq.mpr c5;have b9:((rd l0 b1) !=a1)=false:=bne_eq_false_iff_eq.mpr c5;clear c5;obtain rfl:=Option.some.inj H;have bB:(0≤(b1:Int))=True:=oT;have bC:(b1<(l0.length:Int))=True:=oT;obtain⟨b4,b2,b3⟩:=Kd.jx b5.out b1 oa oa
    cases b2
    go_wp2
    go_ret
    exact⟨oS,oD⟩
   rw[if_neg c5]at H;have b8:((rd l0 b1)==a1)=false:=beq_eq_false_iff_ne.mpr c5;have b9:((rd l0 b1) !=a1)=true:=bne_iff_ne.mpr c5;have H':=ae.mk H;clear H;have bB:(0≤(b1:Int))=True:=oT;have bC:(b1<(l0.length:Int))=True:=oT;obtain⟨b4,b2,b3⟩:=Kd.jx b5.out b1 oa oa
   cases b2
   go_wp2
   go_roundg k1
   case measure=>have:=b6.out;omega
   case rel=>exact⟨(wrap64 (b1+1)),oS,H',⟨by have:=b6.out;omega⟩,oD⟩

def cP.l0:Nat→List Int→Int→Int→Option (Int×List Int)
 |0,_,_,_=>none
 |k+1,x0,x1,x5=>if x5<(x0.length:Int)then(if 0≤x5 then(cP.l0 k (x0.set (x5:Int).toNat ((x1)%256)) (wrap64 (x1+1)) (wrap64 (x5+1)))else(none))else(some (x1,x0))
def cP.f (k:Nat) (l0:List Int) (a1:Int):Option (Int×List Int):=cP.l0 k l0 a1 0
theorem cP.calls (k:Nat) (kz:Nat→Prop) (ij:Value) (l0:List Int) (a1:Int) (r1:Int) (r2:List Int) (w0 w:World) (hB:Below w0.heap.size w0 w) (ho0:Kd.R (Kd.int .u8) 5 w w0.heap.size kz ij l0) (h:cP.f k l0 a1=some (r1,r2)):
  Calls Tryz.prog 27 #[ij,.int .i64 a1] w fun e w'=>e= .returned (.int .i64 r1)∧Kd.R (Kd.int .u8) 5 w' w0.heap.size (fun k_=>(kz k_∨w.heap.size≤k_)) ij r2∧Below w0.heap.size w0 w'∧Kept w w' (fun k_=>kz k_):=by
 have bF:=am (show Kd.R (Kd.int .u8) 5 w w0.heap.size (fun k_=>(kz k_∨w.heap.size≤k_)) ij l0 from Kd.bq ho0 (fun k_ hk=>(.inl hk)));have HK:=am (Kept.refl w (fun k_=>kz k_));have HW0:=ae.mk hB.size;have HB:=ae.mk hB;clear hB;unfold cP.f at h;have H:=h;clear h;have H':=ae.mk H;clear H
 go_enter Tryz.func27,Tryz.ntmps27
 go_wp2
 go_loopg [1,5] k (fun kq v1 v5 w'=>∃(b4:List Int) (b3:Int) (b1:Int),v1= .int .i64 b3∧v5= .int .i64 b1∧ae (cP.l0 kq b4 b3 b1=some (r1,r2))∧ae (kq≤k)∧ae (Kd.R (Kd.int .u8) 5 w' w0.heap.size (fun k_=>(kz k_∨w.heap.size≤k_)) ij b4)∧ae (Kept w w' (fun k_=>kz k_))∧ae (Below w0.heap.size w0 w'))
 case atStart=>exact⟨(l0),(a1),(0),oS,oS,H',⟨Nat.le_refl _⟩,⟨oR bF⟩,⟨oK⟩,⟨oB⟩⟩
 case round=>
  clear H';obtain⟨b4,b3,b1,rfl,rfl,HA,b9,b2,HK,HB⟩:=hrel
  cases gk with
  |zero=>exact absurd HA.out (by simp[cP.l0])
  |succ k1=>
   have H:=HA.out;clear HA;simp only[cP.l0]at H;replace H:=iE H;rcases H with⟨bE,H⟩|⟨bE,H⟩;rotate_left
   ·simp only[Option.some.injEq,Prod.mk.injEq]at H;obtain⟨rfl,rfl⟩:=H;obtain⟨bP,bQ,bG⟩:=Kd.ax b2.out;subst bG
    go_wp2
    go_ret
    exact⟨oE,oR b2,oB,oK⟩
   obtain⟨bO,H⟩:=cX H;obtain⟨b6,dh⟩:∃y_:List Int,y_=(b4.set (b1:Int).toNat ((b3)%256)):=⟨_,rfl⟩;replace H:(cP.l0 k1 b6 (wrap64 (b3+1)) (wrap64 (b1+1)))=some (r1,r2):=oY;have b8:=ae.mk dh;clear dh;have H':=ae.mk H;clear H;obtain⟨bR,bH,bI⟩:=Kd.ax b2.out;subst bI;have p5:0≤(b1:Int):=oa;have q5:(b1:Int)<((b4.length:Int):Int):=oa;obtain⟨b5,bS,bB,bC,bJ,bT,bD⟩:=Kd.lE b2.out (by omega)
   (first|cases bB|(injection bB with iW nW nX;(first|subst iW|(injection iW with iW;subst iW));subst nX;clear nW))
   have bK:=ae.mk bC;have bU:=ae.mk bD;clear bC bJ bD;have bL:=am (show(kz b5∨w.heap.size≤b5)from(b2.out.1 _ rfl));obtain⟨bM,bN⟩:=Kd.pc 0 b2.out (b1:Int) p5 q5;replace p5:=eq_true p5;replace q5:=eq_true q5;have b7:=Kd.qL b2.out (b1:Int) ((b3)%256)
   go_wp2_with (first|((with_reducible refine fw (t:=5) (p:=16) rfl ?_);refine fi (t:=5) (p:=16) (v:= ?vo_w8) (w1:=(wr.setCell ⟨b5,(b1:Int).toNat,none⟩ (.int .u8 ((b3)%256)))) ?hg ?ho ?hn ?hr ?_;(case ho=>rfl);(case hg=>rfl);(case hn=>rfl);(case hr=>first|(go_simp;done)|(go_simp;rfl));intro w8 hw;have hg:wr.grownBy w8 (some b5):=(by rw[hw];exact b7.2);have nB:Kd.R (Kd.int .u8) 5 w8 w0.heap.size (fun k_=>(kz k_∨w.heap.size≤k_)) (.slice (some ⟨b5,0,none⟩) b4.length bH) b6:=(by rw[hw,b8.out];exact b7.1);clear b7;replace b2:=am (nB);replace HK:=am (Kept.lD (S:=(fun k_=>kz k_)) hg oK (fun k_ e_=>(b2.out.1 k_ e_)));replace HB:=am ((by rw[hw];exact aG (HB.out) bK.out:Below w0.heap.size w0 w8));clear hg hw nB))
   go_roundg k1
   case measure=>have:=b9.out;omega
   case rel=>exact⟨(b6),(wrap64 (b3+1)),(wrap64 (b1+1)),oS,oS,H',⟨by have:=b9.out;omega⟩,⟨oR b2⟩,⟨oK⟩,⟨oB⟩⟩

def cY.l0:Nat→List Int→Int→Int→Option (Int)
 |0,_,_,_=>none
 |k+1,x0,x1,x5=>if x5<(x0.length:Int)then(if 0≤x5 then(if(rd x0 x5)=((x1)%256)then(cY.l0 k x0 (wrap64 (x1+1)) (wrap64 (x5+1)))else(some (-1)))else(none))else(some x1)
def cY.f (k:Nat) (l0:List Int) (a1:Int):Option (Int):=cY.l0 k l0 a1 0
theorem cY.calls (k:Nat) (A0:Option Addr) (c0:Nat) (l0:List Int) (a1:Int) (r:Int) (w:World) (hr0:Kd.C (Kd.int .u8) w A0 l0.length l0) (hc0:l0.length≤c0) (h:cY.f k l0 a1=some r):
  Calls Tryz.prog 75 #[.slice A0 l0.length c0,.int .i64 a1] w fun e w'=>e= .returned (.int .i64 r)∧eX w w':=by
 have b6:=ae.mk hr0;have bF:=ae.mk hc0;clear hr0 hc0;unfold cY.f at h;have H:=h;clear h;have H':=ae.mk H;clear H
 go_enter Tryz.func75,Tryz.ntmps75
 go_wp2
 go_loopg [1,5] k (fun kq v1 v5 w'=>∃(b2:Int) (b1:Int),v1= .int .i64 b2∧v5= .int .i64 b1∧ae (cY.l0 kq l0 b2 b1=some r)∧ae (kq≤k)∧eX w w')
 case atStart=>exact⟨(a1),(0),oS,oS,H',⟨Nat.le_refl _⟩,oD⟩
 case round=>
  clear H';obtain⟨b2,b1,rfl,rfl,HA,b7,⟨m1,rfl⟩⟩:=hrel
  cases gk with
  |zero=>exact absurd HA.out (by simp[cY.l0])
  |succ k1=>
   have H:=HA.out;clear HA;simp only[cY.l0]at H;replace H:=iE H;rcases H with⟨b8,H⟩|⟨b8,H⟩;rotate_left
   ·obtain rfl:=Option.some.inj H
    go_wp2
    go_ret
    exact⟨oS,oD⟩
   obtain⟨bE,H⟩:=cX H
   by_cases c5:(rd l0 b1)=((b2)%256)
   rotate_left
   ·rw[if_neg c5]at H;have b9:((rd l0 b1)==((b2)%256))=false:=beq_eq_false_iff_ne.mpr c5;have bB:((rd l0 b1) !=((b2)%256))=true:=bne_iff_ne.mpr c5;obtain rfl:=Option.some.inj H;have bC:(0≤(b1:Int))=True:=oT;have bD:(b1<(l0.length:Int))=True:=oT;obtain⟨b5,b3,b4⟩:=Kd.jx b6.out b1 oa oa
    cases b3
    go_wp2
    go_ret
    exact⟨oS,oD⟩
   rw[if_pos c5]at H;have b9:((rd l0 b1)==((b2)%256))=true:=beq_iff_eq.mpr c5;have bB:((rd l0 b1) !=((b2)%256))=false:=bne_eq_false_iff_eq.mpr c5;clear c5;have H':=ae.mk H;clear H;have bC:(0≤(b1:Int))=True:=oT;have bD:(b1<(l0.length:Int))=True:=oT;obtain⟨b5,b3,b4⟩:=Kd.jx b6.out b1 oa oa
   cases b3
   go_wp2
   go_roundg k1
   case measure=>have:=b7.out;omega
   case rel=>exact⟨(wrap64 (b2+1)),(wrap64 (b1+1)),oS,oS,H',⟨by have:=b7.out;omega⟩,oD⟩

def cz (ino:Int):List bg→Nat→Int
 |[],_=> -1
 |x::l,i=>if x.f0=ino then(i:Int)else cz ino l (i+1)
theorem tL.calls (ino a b c:Int) (A3 A4 A5:Option Addr) (n3 c3 n4 c4 n5 c5:Nat) (B:Nat) (W:World) (hB:B<W.heap.size) (hc:W.cell? ⟨B,0,none⟩=some (.int .i64 ino)):
  Calls Tryz.prog 127 #[.agg #[.int .i64 a,.int .i64 b,.int .i64 c,.slice A3 n3 c3,.slice A4 n4 c4,.slice A5 n5 c5],.pointer (some ⟨B,0,none⟩)] W fun e w'=>e= .returned (.bool (a==ino))∧Below W.heap.size W w':=by
 have hne:B≠W.heap.size:=by omega
 go_enter Tryz.func127,Tryz.ntmps127
 go_wp2
 all_goals(go_ret;exact⟨by simp_all,(Below.refl _ W).alloc (Nat.le_refl _) _⟩)
theorem tM (ino:Int) (l:List bg) (i:Nat) (h:∀x∈l,x.f0≠ino):cz ino l i= -1:=by
 induction l generalizing i with
 |nil=>rfl
 |cons x l ih=>rw[cz,if_neg (h x (List.mem_cons_self ..))];exact ih (i+1) (fun y hy=>h y (List.mem_cons_of_mem _ hy))
theorem wj (l:List bg) (k:Nat) (h:k<l.length):af l (k:Int)=l[k]:=by
 simp[af,List.getD_eq_getElem?_getD,List.getElem?_eq_getElem h]
theorem uV (ino:Int) (l:List bg) (k j:Nat) (h:k<l.length) (hit:(af l (k:Int)).f0=ino):cz ino (l.drop k) j=(j:Int):=by
 rw[List.drop_eq_getElem_cons h,cz,if_pos (by rw[←wj l k h];exact hit)]
theorem tN (ino:Int) (l:List bg) (k j:Nat) (h:k<l.length) (hit:(af l (k:Int)).f0≠ino):cz ino (l.drop k) j=cz ino (l.drop (k+1)) (j+1):=by
 rw[List.drop_eq_getElem_cons h,cz,if_neg (by rw[←wj l k h];exact hit)]
theorem aaQ.calls (ino:Int) (A0:Option Addr) (c0:Nat) (l:List bg) (B:Nat) (w:World) (hr:fy.C w A0 l.length l) (hB:B<w.heap.size) (hc:w.cell? ⟨B,0,none⟩=some (.int .i64 ino)) (hl:l.length≤9223372036854775807):
  Calls Tryz.prog 100 #[.slice A0 l.length c0,.func (.func 127) #[] #[.pointer (some ⟨B,0,none⟩)]] w fun e w'=>e= .returned (.int .i64 (cz ino l 0))∧Below w.heap.size w w':=by
 go_enter Tryz.func100,Tryz.ntmps100
 go_wp2
 go_loopg [5,8] l.length (fun gg _ s8 wr=>∃kk:Nat,kk≤l.length∧l.length-kk≤gg∧s8= .int .i64 kk∧ae (Below w.heap.size w wr)∧ae (cz ino l 0=cz ino (l.drop kk) kk))
 case atStart=>exact⟨0,Nat.zero_le _,by omega,rfl,⟨Below.refl _ w⟩,⟨rfl⟩⟩
 case round=>
  obtain⟨kk,hkk,hg,rfl,BW,A⟩:=hrel
  by_cases hlt:kk<l.length
  rotate_left
  ·have hltz:¬(kk:Int)<(l.length:Int):=by omega
   obtain rfl:kk=l.length:=by omega
   go_wp2
   go_ret
   exact⟨by rw[A.out,List.drop_length];rfl,BW.out⟩
  have hltz:(kk:Int)<(l.length:Int):=by omega
  obtain⟨ad,A3,c3,A4,c4,A5,c5,e0,h0,h1,h2,h3,h4,h5,_⟩:=fk (Kd.dq hr BW.out) (kk:Int) (by omega) hltz
  cases e0
  rw[Int.toNat_natCast]at h0 h1 h2 h3 h4 h5;have hBw:B<wr.heap.size:=Nat.lt_of_lt_of_le hB BW.out.size;have hcw:wr.cell? ⟨B,0,none⟩=some (.int .i64 ino):=(BW.out.cell (p:=⟨B,0,none⟩) hB).trans hc
  by_cases hit:(af l (kk:Int)).f0=ino
  ·have hq:((af l (kk:Int)).f0==ino)=true:=by simpa using hit
   go_wp2_with (go_at_call 127;refine(tL.calls ino _ _ _ _ _ _ _ _ _ _ _ _ B wr hBw hcw).mono ?_;rintro e w' ⟨rfl,hb'⟩)
   go_ret
   exact⟨by rw[A.out,uV ino l kk kk hlt hit];rfl,jj BW.out BW.out.size hb'⟩
  have hq:((af l (kk:Int)).f0==ino)=false:=by simpa using hit
  go_wp2_with (go_at_call 127;refine(tL.calls ino _ _ _ _ _ _ _ _ _ _ _ _ B wr hBw hcw).mono ?_;rintro e w' ⟨rfl,hb'⟩)
  go_roundg (l.length-(kk+1))
  case measure=>omega
  case rel=>exact⟨kk+1,by omega,by omega,by go_num,⟨jj BW.out BW.out.size hb'⟩,⟨by rw[A.out,tN ino l kk kk hlt hit]⟩⟩
def eh.f (k:Nat) (ag:List bg) (ak a1:Int):Option Int:=if(ag.length:Int)≤9223372036854775807 then some (cz a1 ag 0)else none
theorem eh.calls (k:Nat) (bh:Option Addr) (aU:Nat) (ag:List bg) (ak a1:Int) (r:Int) (w:World) (cg:Kd.C fy w bh ag.length ag) (cj:ag.length≤aU) (h:eh.f k ag ak a1=some r):
  Calls Tryz.prog 99 #[.agg #[.slice bh ag.length aU,.int .i64 ak],.int .i64 a1] w fun e w'=>e= .returned (.int .i64 r)∧Below w.heap.size w w':=by
 unfold eh.f at h
 split at h
 case isFalse=>cases h
 case isTrue hl=>
 obtain rfl:=Option.some.inj h;clear h;have b1:Below w.heap.size w (w.alloc (.cells #[.slice bh ag.length aU,.int .i64 ak] 28)):=(Below.refl _ w).alloc (Nat.le_refl _) _;have b2:Below w.heap.size w ((w.alloc (.cells #[.slice bh ag.length aU,.int .i64 ak] 28)).alloc (.cells #[.int .i64 a1] 3)):=b1.alloc (by simp) _;have hcon:=aaQ.calls a1 bh aU ag (w.heap.size+1) ((w.alloc (.cells #[.slice bh ag.length aU,.int .i64 ak] 28)).alloc (.cells #[.int .i64 a1] 3)) (Kd.dq cg b2) (by simp) (by simp) (by omega);clear cg b1
 go_enter Tryz.func99,Tryz.ntmps99
 go_wp2_with (go_at_call 100;refine hcon.mono ?_;rintro e w' ⟨rfl,hb'⟩)
 go_ret
 exact⟨rfl,jj b2 (by simp only[World.size_alloc];omega) hb'⟩
def df.f (bn:Int) (ak:Int) (cG:Int) (ch:List Int) (aH:List (ed)) (cv:List (eg)):Option (Int×Int×Int×List Int×(List (ed))×(List (eg))):=(some (([]:List Int):List Int)).bind fun b1=>(if b1.length+ch.length<140737488355328 then((some (([]:List (ed)):List (ed))).bind fun b2=>(if b2.length+aH.length<5864062014805 then((some (([]:List (eg)):List (eg))).bind fun b3=>(if b3.length+cv.length<4398046511104 then(some (bn,ak,cG,(b1++ch),(b2++aH),(b3++cv)))else(none)))else(none)))else(none))
theorem df.calls (bn:Int) (ak:Int) (cG:Int) (fL:Option Addr) (fM:Nat) (ch:List Int) (fC:Option Addr) (fD:Nat) (aH:List (ed)) (fq:Option Addr) (ft:Nat) (cv:List (eg)) (r1:Int) (r2:Int) (r3:Int) (r4:List Int) (r5:List (ed)) (r6:List (eg)) (w:World) (iH:Kd.C (Kd.int .u8) w fL ch.length ch) (iI:ch.length≤fM) (iJ:Kd.C iY w fC aH.length aH) (iK:aH.length≤fD) (iL:Kd.C iZ w fq cv.length cv) (iM:cv.length≤ft) (h:df.f bn ak cG ch aH cv=some (r1,r2,r3,r4,r5,r6)):
  Calls Tryz.prog 83 #[.agg #[.int .i64 bn,.int .i64 ak,.int .i64 cG,.slice fL ch.length fM,.slice fC aH.length fD,.slice fq cv.length ft]] w fun e w'=>∃pR pS pT:Value,e= .returned (.agg #[.int .i64 r1,.int .i64 r2,.int .i64 r3,pR,pS,pT])∧Kd.R (Kd.int .u8) 5 w' w.heap.size (fun _=>True) pR r4∧Kd.R iY 75 w' w.heap.size (fun _=>True) pS r5∧Kd.R iZ 82 w' w.heap.size (fun _=>True) pT r6∧Below w.heap.size w w':=by
 have dS:=Tryz.underlying58;have bX:=ae.mk iH;have dG:=ae.mk iI;clear iH iI;have bY:=ae.mk iJ;have dH:=ae.mk iK;clear iJ iK;have bZ:=ae.mk iL;have dI:=ae.mk iM;clear iL iM;have HB:=am (Below.refl w.heap.size w);unfold df.f at h;have H:=h;clear h;obtain⟨bH,dh⟩:∃y_:List Int,y_=(([]:List Int)):=⟨_,rfl⟩;replace H:(if bH.length+ch.length<140737488355328 then((some (([]:List (ed)):List (ed))).bind fun b6=>(if b6.length+aH.length<5864062014805 then((some (([]:List (eg)):List (eg))).bind fun b4=>(if b4.length+cv.length<4398046511104 then(some (bn,ak,cG,(bH++ch),(b6++aH),(b4++cv)))else(none)))else(none)))else(none))=some (r1,r2,r3,r4,r5,r6):=oY;have bQ:=ae.mk dh;clear dh;obtain⟨c2,H⟩:=lg H;have d5:=ae.mk c2;clear c2;obtain⟨b8,dh⟩:∃y_:List Int,y_=(bH++ch):=⟨_,rfl⟩;replace H:((some (([]:List (ed)):List (ed))).bind fun b6=>(if b6.length+aH.length<5864062014805 then((some (([]:List (eg)):List (eg))).bind fun b4=>(if b4.length+cv.length<4398046511104 then(some (bn,ak,cG,b8,(b6++aH),(b4++cv)))else(none)))else(none)))=some (r1,r2,r3,r4,r5,r6):=oY;have d1:=ae.mk dh;clear dh;obtain⟨b6,dh⟩:∃y_:List (ed),y_=(([]:List (ed))):=⟨_,rfl⟩;replace H:(if b6.length+aH.length<5864062014805 then((some (([]:List (eg)):List (eg))).bind fun b4=>(if b4.length+cv.length<4398046511104 then(some (bn,ak,cG,b8,(b6++aH),(b4++cv)))else(none)))else(none))=some (r1,r2,r3,r4,r5,r6):=oY;have bR:=ae.mk dh;clear dh;obtain⟨c3,H⟩:=lg H;have d6:=ae.mk c3;clear c3;obtain⟨bD,dh⟩:∃y_:List (ed),y_=(b6++aH):=⟨_,rfl⟩;replace H:((some (([]:List (eg)):List (eg))).bind fun b4=>(if b4.length+cv.length<4398046511104 then(some (bn,ak,cG,b8,bD,(b4++cv)))else(none)))=some (r1,r2,r3,r4,r5,r6):=oY;have d2:=ae.mk dh;clear dh;obtain⟨b4,dh⟩:∃y_:List (eg),y_=(([]:List (eg))):=⟨_,rfl⟩;replace H:(if b4.length+cv.length<4398046511104 then(some (bn,ak,cG,b8,bD,(b4++cv)))else(none))=some (r1,r2,r3,r4,r5,r6):=oY;have bS:=ae.mk dh;clear dh;obtain⟨c4,H⟩:=lg H;have d7:=ae.mk c4;clear c4;obtain⟨bU,dh⟩:∃y_:List (eg),y_=(b4++cv):=⟨_,rfl⟩;replace H:(some (bn,ak,cG,b8,bD,bU))=some (r1,r2,r3,r4,r5,r6):=oY;have d3:=ae.mk dh;clear dh;simp only[Option.some.injEq,Prod.mk.injEq]at H;obtain⟨rfl,rfl,rfl,rfl,rfl,rfl⟩:=H
 go_enter Tryz.func83,Tryz.ntmps83
 go_wp2_with (first|((with_reducible refine ai (N:=1) rfl ?_);refine dd 1 #[.int .i64 bn,.int .i64 ak,.int .i64 cG,.slice fL ch.length fM,.slice fC aH.length fD,.slice fq cv.length ft] 58 ?_;intro dJ hg w5 hbox hb;have b1:=am (hbox);have dK:=de hg;replace HB:=hB HB hb;clear hb hbox hg)|((with_reducible refine ai (N:=2) rfl ?_);refine dd 2 #[.int .i64 0,.int .i64 0,.int .i64 0,.slice none 0 0,.slice none 0 0,.slice none 0 0] 58 ?_;intro d4 hg w6 hbox hb;have b3:=am (hbox);have dL:=de hg;have bI:=eE hg b1;have bJ:=eF hg b1;replace b1:=bl b1 hb;replace HB:=hB HB hb;clear hb hbox hg;have dT:=bI.out;have dU:=bJ.out;obtain⟨⟨_,_,_,_,_,_⟩,_,_,_,_,_,_⟩:=z6 b1)|((with_reducible refine ai (N:=3) rfl ?_);refine dd 3 #[.int .i64 0,.int .i64 0,.int .i64 0,.slice none 0 0,.slice none 0 0,.slice none 0 0] 58 ?_;intro dM hg w9 hbox hb;have b2:=am (hbox);have dN:=de hg;have bK:=eE hg b1;have bL:=eF hg b1;have bM:=eE hg b3;have bN:=eF hg b3;replace b1:=bl b1 hb;replace b3:=bl b3 hb;replace HB:=hB HB hb;clear hb hbox hg;have dO:=bL.out;have dP:=bK.out;have dQ:=bN.out;have dR:=bM.out;obtain⟨⟨_,_,_,_,_,_⟩,_,_,_,_,_,_⟩:=z6 b2)|((with_reducible refine ai (N:=5) rfl ?_);refine Kd.js (Kd.int .u8) _ 5 ?hg (N:=5) ?hd (xs:=([]:List Int)) (inner:=[]) (ok:=fun _=>True) (fj:=fun _=>True) ?hr ?hp (fun _ hk=>hk) trivial (Below.refl _ _) (Nat.le_refl _) (by simp) ?_;(case hd=>rfl);(case hg=>rfl);(case hr=>first|(go_simp;done)|(go_simp;rfl));(case hp=>exact(cN.none _ _));intro d8 dY bE hb ky ej;clear ky ej;(first|rw[←bQ.out]at bE|(simp only[Int.reduceToNat]at bE;rw[←bQ.out]at bE));have bC:=am (Kd.aw bE (ah oB));replace b1:=bl b1 hb;replace b3:=bl b3 hb;replace b2:=tt #[.int .i64 bn,.int .i64 ak,.int .i64 cG,.slice fL ch.length fM,.slice fC aH.length fD,.slice fq cv.length ft] b2 hb;replace HB:=hB HB hb;clear hb bE;obtain⟨⟨_,_,_,_,_,_⟩,_,_,_,_,_,_⟩:=z6 b1)|((with_reducible refine dy (b:= .append) (xs:= #[.tmp 5,.tmp 7]) rfl ?_);at_builtin;refine Kd.eW (Kd.int .u8) (w0:=w) w.heap.size rfl (.tmp 5) (.tmp 7) 39 5 (.int .u8 0) 1 rfl Tryz.underlying39 info5 rfl (by decide) (by omega) d8 bH ch _ _ _ (fun _=>True) (fun _=>False) rfl rfl ?aO ?aR (fun _ _ h=>h) (fun _ h=>h.elim) ?aF ?aB ?aS ?aL ?_;(case aR=>repeat(first|exact(Kd.dq bX.out HB.out)|(with_reducible refine Kd.fZ ?_ _)|(with_reducible refine Kd.f_ ?_ _)|(with_reducible refine Kd.iS ?_)));(case aB=>exact oB);(case aF=>exact(fun _ _=>trivial));(case aO=>exact(oR bC));(case aS=>exact(ah oB));(case aL=>have:=d5.out;omega);intro dV dZ ho hb hg hat;rw[←d1.out]at ho;have b5:=am (ho);replace b1:=lh b1 hg (Kd.lJ bC.out b1.out (by decide));replace b3:=lh b3 hg (Kd.lJ bC.out b3.out (by decide));replace b2:=lh b2 hg (Kd.lJ bC.out b2.out (by decide));replace HB:=am (hb);clear bC;clear ho hb hg hat;obtain⟨bO,bP,d9⟩:=Kd.ax b5.out;subst d9;obtain⟨⟨_,_,_,_,_,_⟩,_,_,_,_,_,_⟩:=z6 b2)|((with_reducible refine ai (N:=10) rfl ?_);refine Kd.js iY _ 75 ?hg (N:=10) ?hd (xs:=([]:List (ed))) (inner:=[]) (ok:=fun _=>True) (fj:=fun _=>True) ?hr ?hp (fun _ hk=>hk) trivial (Below.refl _ _) (Nat.le_refl _) (by simp) ?_;(case hd=>rfl);(case hg=>rfl);(case hr=>first|(go_simp;done)|(go_simp;rfl));(case hp=>exact(cN.none _ _));intro dA gA bF hb ky ej;clear ky ej;(first|rw[←bR.out]at bF|(simp only[Int.reduceToNat]at bF;rw[←bR.out]at bF));have b9:=am (Kd.aw bF (ah oB));replace b5:=kV b5 b2 hb;replace b1:=bl b1 hb;replace b3:=bl b3 hb;replace b2:=tt #[.int .i64 bn,.int .i64 ak,.int .i64 cG,.slice bO b8.length bP,.slice fC aH.length fD,.slice fq cv.length ft] b2 hb;replace HB:=hB HB hb;clear hb bF;obtain⟨⟨_,_,_,_,_,_⟩,_,_,_,_,_,_⟩:=z6 b1)|((with_reducible refine dy (b:= .append) (xs:= #[.tmp 10,.tmp 12]) rfl ?_);at_builtin;refine Kd.eW iY (w0:=w) w.heap.size rfl (.tmp 10) (.tmp 12) 55 75 (.agg #[(.string ⟨#[]⟩),(.int .i64 0)]) 24 rfl Tryz.underlying55 uE rfl (by decide) (by omega) dA b6 aH _ _ _ (fun _=>True) (fun _=>False) rfl rfl ?aO ?aR (fun _ _ h=>h) (fun _ h=>h.elim) ?aF ?aB ?aS ?aL ?_;(case aR=>repeat(first|exact(Kd.dq bY.out HB.out)|(with_reducible refine Kd.fZ ?_ _)|(with_reducible refine Kd.f_ ?_ _)|(with_reducible refine Kd.iS ?_)));(case aB=>exact oB);(case aF=>exact(fun _ _=>trivial));(case aO=>exact(oR b9));(case aS=>exact(ah oB));(case aL=>have:=d6.out;omega);intro dW gB ho hb hg hat;rw[←d2.out]at ho;have bB:=am (ho);replace b1:=lh b1 hg (Kd.lJ b9.out b1.out (by decide));replace b3:=lh b3 hg (Kd.lJ b9.out b3.out (by decide));replace b2:=lh b2 hg (Kd.lJ b9.out b2.out (by decide));replace b5:=am (Kd.iO (oR b5) (Kd.fO (oR b9)) (by decide) hg);replace HB:=am (hb);clear b9;clear ho hb hg hat;obtain⟨bV,bW,dB⟩:=Kd.ax bB.out;subst dB;obtain⟨⟨_,_,_,_,_,_⟩,_,_,_,_,_,_⟩:=z6 b2)|((with_reducible refine ai (N:=15) rfl ?_);refine Kd.js iZ _ 82 ?hg (N:=15) ?hd (xs:=([]:List (eg))) (inner:=[]) (ok:=fun _=>True) (fj:=fun _=>True) ?hr ?hp (fun _ hk=>hk) trivial (Below.refl _ _) (Nat.le_refl _) (by simp) ?_;(case hd=>rfl);(case hg=>rfl);(case hr=>first|(go_simp;done)|(go_simp;rfl));(case hp=>exact(cN.none _ _));intro dC gC bG hb ky ej;clear ky ej;(first|rw[←bS.out]at bG|(simp only[Int.reduceToNat]at bG;rw[←bS.out]at bG));have b7:=am (Kd.aw bG (ah oB));replace b5:=kV b5 b2 hb;replace bB:=kV bB b2 hb;replace b1:=bl b1 hb;replace b3:=bl b3 hb;replace b2:=tt #[.int .i64 bn,.int .i64 ak,.int .i64 cG,.slice bO b8.length bP,.slice bV bD.length bW,.slice fq cv.length ft] b2 hb;replace HB:=hB HB hb;clear hb bG;obtain⟨⟨_,_,_,_,_,_⟩,_,_,_,_,_,_⟩:=z6 b1)|((with_reducible refine dy (b:= .append) (xs:= #[.tmp 15,.tmp 17]) rfl ?_);at_builtin;refine Kd.eW iZ (w0:=w) w.heap.size rfl (.tmp 15) (.tmp 17) 56 82 (.agg #[(.string ⟨#[]⟩),(.string ⟨#[]⟩)]) 32 rfl Tryz.underlying56 uF rfl (by decide) (by omega) dC b4 cv _ _ _ (fun _=>True) (fun _=>False) rfl rfl ?aO ?aR (fun _ _ h=>h) (fun _ h=>h.elim) ?aF ?aB ?aS ?aL ?_;(case aR=>repeat(first|exact(Kd.dq bZ.out HB.out)|(with_reducible refine Kd.fZ ?_ _)|(with_reducible refine Kd.f_ ?_ _)|(with_reducible refine Kd.iS ?_)));(case aB=>exact oB);(case aF=>exact(fun _ _=>trivial));(case aO=>exact(oR b7));(case aS=>exact(ah oB));(case aL=>have:=d7.out;omega);intro dX gD ho hb hg hat;rw[←d3.out]at ho;have bT:=am (ho);replace b1:=lh b1 hg (Kd.lJ b7.out b1.out (by decide));replace b3:=lh b3 hg (Kd.lJ b7.out b3.out (by decide));replace b2:=lh b2 hg (Kd.lJ b7.out b2.out (by decide));replace b5:=am (Kd.iO (oR b5) (Kd.fO (oR b7)) (by decide) hg);replace bB:=am (Kd.iO (oR bB) (Kd.fO (oR b7)) (by decide) hg);replace HB:=am (hb);clear b7;clear ho hb hg hat;obtain⟨dD,dE,dF⟩:=Kd.ax bT.out;subst dF;obtain⟨⟨_,_,_,_,_,_⟩,_,_,_,_,_,_⟩:=z6 b2;obtain⟨⟨_,_,_,_,_,_⟩,_,_,_,_,_,_⟩:=z6 b3))
 refine bodyPost_ret (results_cell_row rfl _ _ d4 58 #[.int .i64 bn,.int .i64 ak,.int .i64 cG,.slice bO b8.length bP,.slice bV bD.length bW,.slice dD bU.length dE] (0,0) _ rfl (oP b3) Tryz.underlying58 rfl (by kernel_rfl)) rfl ?_;exact⟨_,_,_,oE,oN b5 b2 b3,oN bB b2 b3,oN bT b2 b3,oB⟩

def dg.f (l0:List (ed)):Option ((List (ed))):=(some (([]:List (ed)):List (ed))).bind fun b1=>(if b1.length+l0.length<5864062014805 then(some (b1++l0))else(none))
theorem dg.lH (a0_:Addr) (c0:Nat) (l0:List (ed)) (r:List (ed)) (w:World) (hr0:Kd.C iY w (some a0_) l0.length l0) (hc0:l0.length≤c0) (h:dg.f l0=some r):
  Calls Tryz.prog 96 #[.slice (some a0_) l0.length c0] w fun e w'=>∃i_:Value,e= .returned (i_)∧Kd.R iY 75 w' w.heap.size (fun _=>True) i_ r∧Below w.heap.size w w':=by
 have bB:=ae.mk hr0;have bD:=ae.mk hc0;clear hr0 hc0;have HB:=am (Below.refl w.heap.size w);unfold dg.f at h;have H:=h;clear h;obtain⟨b1,dh⟩:∃y_:List (ed),y_=(([]:List (ed))):=⟨_,rfl⟩;replace H:(if b1.length+l0.length<5864062014805 then(some (b1++l0))else(none))=some r:=oY;have b3:=ae.mk dh;clear dh
 by_cases c2:b1.length+l0.length<5864062014805
 rotate_left
 ·rw[if_neg c2]at H;exact absurd H (by simp)
 rw[if_pos c2]at H;have b7:=ae.mk c2;clear c2;obtain⟨b8,dh⟩:∃y_:List (ed),y_=(b1++l0):=⟨_,rfl⟩;replace H:(some b8)=some r:=oY;have b5:=ae.mk dh;clear dh;obtain rfl:=Option.some.inj H;have hq_:=Lib.run_eql_slice_nil (P:=Tryz.prog) w 55 75 (some a0_) l0.length c0 0 0 (by kernel_rfl)
 go_enter Tryz.func96,Tryz.ntmps96
 go_wp2_with (first|((with_reducible refine ai (N:=5) rfl ?_);refine Kd.js iY _ 75 ?hg (N:=5) ?hd (xs:=([]:List (ed))) (inner:=[]) (ok:=fun _=>True) (fj:=fun _=>True) ?hr ?hp (fun _ hk=>hk) trivial (Below.refl _ _) (Nat.le_refl _) (by simp) ?_;(case hd=>rfl);(case hg=>rfl);(case hr=>first|(go_simp;done)|(go_simp;rfl));(case hp=>exact(cN.none _ _));intro b9 w3 b2 hb ky ej;clear ky ej;(first|rw[←b3.out]at b2|(simp only[Int.reduceToNat]at b2;rw[←b3.out]at b2));have b4:=am (Kd.aw b2 (ah oB));replace HB:=hB HB hb;clear hb b2)|((with_reducible refine dy (b:= .append) (xs:= #[.tmp 5,.tmp 6]) rfl ?_);at_builtin;refine Kd.eW iY (w0:=w) w.heap.size rfl (.tmp 5) (.tmp 6) 55 75 (.agg #[(.string ⟨#[]⟩),(.int .i64 0)]) 24 rfl Tryz.underlying55 uE rfl (by decide) (by omega) b9 b1 l0 _ _ _ (fun _=>True) (fun _=>False) rfl rfl ?aO ?aR (fun _ _ h=>h) (fun _ h=>h.elim) ?aF ?aB ?aS ?aL ?_;(case aR=>repeat(first|exact(Kd.dq bB.out HB.out)|(with_reducible refine Kd.fZ ?_ _)|(with_reducible refine Kd.f_ ?_ _)|(with_reducible refine Kd.iS ?_)));(case aB=>exact oB);(case aF=>exact(fun _ _=>trivial));(case aO=>exact(oR b4));(case aS=>exact(ah oB));(case aL=>have:=b7.out;omega);intro bC w5 ho hb hg hat;rw[←b5.out]at ho;have b6:=am (ho);replace HB:=am (hb);clear b4;clear ho hb hg hat))
 go_ret
 exact⟨_,oE,oR b6,oB⟩
theorem dg.calls (A0:Option Addr) (c0:Nat) (l0:List (ed)) (r:List (ed)) (w:World) (hr0:Kd.C iY w A0 l0.length l0) (hc0:l0.length≤c0) (h:dg.f l0=some r):
  Calls Tryz.prog 96 #[.slice A0 l0.length c0] w fun e w'=>∃i_:Value,e= .returned (i_)∧Kd.R iY 75 w' w.heap.size (fun _=>True) i_ r∧Below w.heap.size w w':=by
 rcases A0 with _|b1
 ·have hl_:l0=[]:=by
   rcases Nat.eq_zero_or_pos l0.length with hz_|hz_
   ·exact List.eq_nil_of_length_eq_zero hz_
   ·obtain⟨ad_,he_,_⟩:=hr0.2.2 hz_
    cases he_
  subst hl_
  obtain rfl:r=[]:=by
   simp[dg.f]at h;exact h
  have hq_:=Lib.run_eql_slice_nil (P:=Tryz.prog) w 55 75 none 0 c0 0 0 (by kernel_rfl)
  go_enter Tryz.func96,Tryz.ntmps96
  go_wp2
  go_ret
  exact⟨_,rfl,Kd.fx _ _ _ _ _,Below.refl _ _⟩
 ·exact dg.lH b1 c0 l0 r w hr0 hc0 h

def cw.f (l0:List Int):Option (List Int):=(some (([]:List Int):List Int)).bind fun b1=>(if b1.length+l0.length<140737488355328 then(some (b1++l0))else(none))
theorem cw.lH (a0_:Addr) (c0:Nat) (l0:List Int) (r:List Int) (w:World) (hr0:Kd.C (Kd.int .u8) w (some a0_) l0.length l0) (hc0:l0.length≤c0) (h:cw.f l0=some r):
  Calls Tryz.prog 119 #[.slice (some a0_) l0.length c0] w fun e w'=>∃i_:Value,e= .returned (i_)∧Kd.R (Kd.int .u8) 5 w' w.heap.size (fun _=>True) i_ r∧Below w.heap.size w w':=by
 have bB:=ae.mk hr0;have bD:=ae.mk hc0;clear hr0 hc0;have HB:=am (Below.refl w.heap.size w);unfold cw.f at h;have H:=h;clear h;obtain⟨b1,dh⟩:∃y_:List Int,y_=(([]:List Int)):=⟨_,rfl⟩;replace H:(if b1.length+l0.length<140737488355328 then(some (b1++l0))else(none))=some r:=oY;have b3:=ae.mk dh;clear dh
 by_cases c2:b1.length+l0.length<140737488355328
 rotate_left
 ·rw[if_neg c2]at H;exact absurd H (by simp)
 rw[if_pos c2]at H;have b7:=ae.mk c2;clear c2;obtain⟨b8,dh⟩:∃y_:List Int,y_=(b1++l0):=⟨_,rfl⟩;replace H:(some b8)=some r:=oY;have b5:=ae.mk dh;clear dh;obtain rfl:=Option.some.inj H;have hq_:=Lib.run_eql_slice_nil (P:=Tryz.prog) w 39 5 (some a0_) l0.length c0 0 0 (by kernel_rfl)
 go_enter Tryz.func119,Tryz.ntmps119
 go_wp2_with (first|((with_reducible refine ai (N:=5) rfl ?_);refine Kd.js (Kd.int .u8) _ 5 ?hg (N:=5) ?hd (xs:=([]:List Int)) (inner:=[]) (ok:=fun _=>True) (fj:=fun _=>True) ?hr ?hp (fun _ hk=>hk) trivial (Below.refl _ _) (Nat.le_refl _) (by simp) ?_;(case hd=>rfl);(case hg=>rfl);(case hr=>first|(go_simp;done)|(go_simp;rfl));(case hp=>exact(cN.none _ _));intro b9 w3 b2 hb ky ej;clear ky ej;(first|rw[←b3.out]at b2|(simp only[Int.reduceToNat]at b2;rw[←b3.out]at b2));have b4:=am (Kd.aw b2 (ah oB));replace HB:=hB HB hb;clear hb b2)|((with_reducible refine dy (b:= .append) (xs:= #[.tmp 5,.tmp 6]) rfl ?_);at_builtin;refine Kd.eW (Kd.int .u8) (w0:=w) w.heap.size rfl (.tmp 5) (.tmp 6) 39 5 (.int .u8 0) 1 rfl Tryz.underlying39 info5 rfl (by decide) (by omega) b9 b1 l0 _ _ _ (fun _=>True) (fun _=>False) rfl rfl ?aO ?aR (fun _ _ h=>h) (fun _ h=>h.elim) ?aF ?aB ?aS ?aL ?_;(case aR=>repeat(first|exact(Kd.dq bB.out HB.out)|(with_reducible refine Kd.fZ ?_ _)|(with_reducible refine Kd.f_ ?_ _)|(with_reducible refine Kd.iS ?_)));(case aB=>exact oB);(case aF=>exact(fun _ _=>trivial));(case aO=>exact(oR b4));(case aS=>exact(ah oB));(case aL=>have:=b7.out;omega);intro bC w5 ho hb hg hat;rw[←b5.out]at ho;have b6:=am (ho);replace HB:=am (hb);clear b4;clear ho hb hg hat))
 go_ret
 exact⟨_,oE,oR b6,oB⟩
theorem cw.calls (A0:Option Addr) (c0:Nat) (l0:List Int) (r:List Int) (w:World) (hr0:Kd.C (Kd.int .u8) w A0 l0.length l0) (hc0:l0.length≤c0) (h:cw.f l0=some r):
  Calls Tryz.prog 119 #[.slice A0 l0.length c0] w fun e w'=>∃i_:Value,e= .returned (i_)∧Kd.R (Kd.int .u8) 5 w' w.heap.size (fun _=>True) i_ r∧Below w.heap.size w w':=by
 rcases A0 with _|b1
 ·have hl_:l0=[]:=by
   rcases Nat.eq_zero_or_pos l0.length with hz_|hz_
   ·exact List.eq_nil_of_length_eq_zero hz_
   ·obtain⟨ad_,he_,_⟩:=hr0.2.2 hz_
    cases he_
  subst hl_
  obtain rfl:r=[]:=by
   simp[cw.f]at h;exact h
  have hq_:=Lib.run_eql_slice_nil (P:=Tryz.prog) w 39 5 none 0 c0 0 0 (by kernel_rfl)
  go_enter Tryz.func119,Tryz.ntmps119
  go_wp2
  go_ret
  exact⟨_,rfl,Kd.fx _ _ _ _ _,Below.refl _ _⟩
 ·exact cw.lH b1 c0 l0 r w hr0 hc0 h

def cS.f (l0:List (eg)):Option ((List (eg))):=(some (([]:List (eg)):List (eg))).bind fun b1=>(if b1.length+l0.length<4398046511104 then(some (b1++l0))else(none))
theorem cS.lH (a0_:Addr) (c0:Nat) (l0:List (eg)) (r:List (eg)) (w:World) (hr0:Kd.C iZ w (some a0_) l0.length l0) (hc0:l0.length≤c0) (h:cS.f l0=some r):
  Calls Tryz.prog 120 #[.slice (some a0_) l0.length c0] w fun e w'=>∃i_:Value,e= .returned (i_)∧Kd.R iZ 82 w' w.heap.size (fun _=>True) i_ r∧Below w.heap.size w w':=by
 have bB:=ae.mk hr0;have bD:=ae.mk hc0;clear hr0 hc0;have HB:=am (Below.refl w.heap.size w);unfold cS.f at h;have H:=h;clear h;obtain⟨b1,dh⟩:∃y_:List (eg),y_=(([]:List (eg))):=⟨_,rfl⟩;replace H:(if b1.length+l0.length<4398046511104 then(some (b1++l0))else(none))=some r:=oY;have b3:=ae.mk dh;clear dh
 by_cases c2:b1.length+l0.length<4398046511104
 rotate_left
 ·rw[if_neg c2]at H;exact absurd H (by simp)
 rw[if_pos c2]at H;have b7:=ae.mk c2;clear c2;obtain⟨b8,dh⟩:∃y_:List (eg),y_=(b1++l0):=⟨_,rfl⟩;replace H:(some b8)=some r:=oY;have b5:=ae.mk dh;clear dh;obtain rfl:=Option.some.inj H;have hq_:=Lib.run_eql_slice_nil (P:=Tryz.prog) w 56 82 (some a0_) l0.length c0 0 0 (by kernel_rfl)
 go_enter Tryz.func120,Tryz.ntmps120
 go_wp2_with (first|((with_reducible refine ai (N:=5) rfl ?_);refine Kd.js iZ _ 82 ?hg (N:=5) ?hd (xs:=([]:List (eg))) (inner:=[]) (ok:=fun _=>True) (fj:=fun _=>True) ?hr ?hp (fun _ hk=>hk) trivial (Below.refl _ _) (Nat.le_refl _) (by simp) ?_;(case hd=>rfl);(case hg=>rfl);(case hr=>first|(go_simp;done)|(go_simp;rfl));(case hp=>exact(cN.none _ _));intro b9 w3 b2 hb ky ej;clear ky ej;(first|rw[←b3.out]at b2|(simp only[Int.reduceToNat]at b2;rw[←b3.out]at b2));have b4:=am (Kd.aw b2 (ah oB));replace HB:=hB HB hb;clear hb b2)|((with_reducible refine dy (b:= .append) (xs:= #[.tmp 5,.tmp 6]) rfl ?_);at_builtin;refine Kd.eW iZ (w0:=w) w.heap.size rfl (.tmp 5) (.tmp 6) 56 82 (.agg #[(.string ⟨#[]⟩),(.string ⟨#[]⟩)]) 32 rfl Tryz.underlying56 uF rfl (by decide) (by omega) b9 b1 l0 _ _ _ (fun _=>True) (fun _=>False) rfl rfl ?aO ?aR (fun _ _ h=>h) (fun _ h=>h.elim) ?aF ?aB ?aS ?aL ?_;(case aR=>repeat(first|exact(Kd.dq bB.out HB.out)|(with_reducible refine Kd.fZ ?_ _)|(with_reducible refine Kd.f_ ?_ _)|(with_reducible refine Kd.iS ?_)));(case aB=>exact oB);(case aF=>exact(fun _ _=>trivial));(case aO=>exact(oR b4));(case aS=>exact(ah oB));(case aL=>have:=b7.out;omega);intro bC w5 ho hb hg hat;rw[←b5.out]at ho;have b6:=am (ho);replace HB:=am (hb);clear b4;clear ho hb hg hat))
 go_ret
 exact⟨_,oE,oR b6,oB⟩
theorem cS.calls (A0:Option Addr) (c0:Nat) (l0:List (eg)) (r:List (eg)) (w:World) (hr0:Kd.C iZ w A0 l0.length l0) (hc0:l0.length≤c0) (h:cS.f l0=some r):
  Calls Tryz.prog 120 #[.slice A0 l0.length c0] w fun e w'=>∃i_:Value,e= .returned (i_)∧Kd.R iZ 82 w' w.heap.size (fun _=>True) i_ r∧Below w.heap.size w w':=by
 rcases A0 with _|b1
 ·have hl_:l0=[]:=by
   rcases Nat.eq_zero_or_pos l0.length with hz_|hz_
   ·exact List.eq_nil_of_length_eq_zero hz_
   ·obtain⟨ad_,he_,_⟩:=hr0.2.2 hz_
    cases he_
  subst hl_
  obtain rfl:r=[]:=by
   simp[cS.f]at h;exact h
  have hq_:=Lib.run_eql_slice_nil (P:=Tryz.prog) w 56 82 none 0 c0 0 0 (by kernel_rfl)
  go_enter Tryz.func120,Tryz.ntmps120
  go_wp2
  go_ret
  exact⟨_,rfl,Kd.fx _ _ _ _ _,Below.refl _ _⟩
 ·exact cS.lH b1 c0 l0 r w hr0 hc0 h

def kr.f (bn:ByteArray) (ak:Int) (ep:ByteArray) (eb:Int):Option (Bool):=if bn.toList=ep.toList then(if ak=eb then(some true)else(some false))else(some false)
theorem kr.calls (bn:ByteArray) (ak:Int) (ep:ByteArray) (eb:Int) (r:Bool) (w:World) (h:kr.f bn ak ep eb=some r):
  Calls Tryz.prog 137 #[.agg #[.string bn,.int .i64 ak],.agg #[.string ep,.int .i64 eb]] w fun e w'=>e= .returned (.bool r)∧Below w.heap.size w w':=by
 have bI:=Tryz.underlying75;have HB:=am (Below.refl w.heap.size w);unfold kr.f at h;have H:=h;clear h
 by_cases c3:bn.toList=ep.toList
 rotate_left
 ·rw[if_neg c3]at H;have b9:(bn.toList==ep.toList)=false:=beq_eq_false_iff_ne.mpr c3;have bB:(bn.toList !=ep.toList)=true:=bne_iff_ne.mpr c3;obtain rfl:=Option.some.inj H
  go_enter Tryz.func137,Tryz.ntmps137
  go_wp2_with (first|((with_reducible refine ai (N:=2) rfl ?_);refine dd 2 #[.string bn,.int .i64 ak] 75 ?_;intro b5 hg bL hbox hb;have b1:=am (hbox);have b6:=de hg;replace HB:=hB HB hb;clear hb hbox hg)|((with_reducible refine ai (N:=3) rfl ?_);refine dd 3 #[.string ep,.int .i64 eb] 75 ?_;intro b7 hg bM hbox hb;have b4:=am (hbox);have b8:=de hg;have b2:=eE hg b1;have b3:=eF hg b1;replace b1:=bl b1 hb;replace HB:=hB HB hb;clear hb hbox hg;have bE:=b2.out;have bF:=b3.out;obtain⟨⟨_,_⟩,_,_⟩:=z2 b1;obtain⟨⟨_,_⟩,_,_⟩:=z2 b4))
  go_ret
  exact⟨oE,oB⟩
 rw[if_pos c3]at H;have b9:(bn.toList==ep.toList)=true:=beq_iff_eq.mpr c3;have bB:(bn.toList !=ep.toList)=false:=bne_eq_false_iff_eq.mpr c3;clear c3
 by_cases c4:ak=eb
 rotate_left
 ·rw[if_neg c4]at H;have bC:(ak==eb)=false:=beq_eq_false_iff_ne.mpr c4;have bD:(ak !=eb)=true:=bne_iff_ne.mpr c4;obtain rfl:=Option.some.inj H
  go_enter Tryz.func137,Tryz.ntmps137
  go_wp2_with (first|((with_reducible refine ai (N:=2) rfl ?_);refine dd 2 #[.string bn,.int .i64 ak] 75 ?_;intro b5 hg bN hbox hb;have b1:=am (hbox);have b6:=de hg;replace HB:=hB HB hb;clear hb hbox hg)|((with_reducible refine ai (N:=3) rfl ?_);refine dd 3 #[.string ep,.int .i64 eb] 75 ?_;intro b7 hg bO hbox hb;have b4:=am (hbox);have b8:=de hg;have b2:=eE hg b1;have b3:=eF hg b1;replace b1:=bl b1 hb;replace HB:=hB HB hb;clear hb hbox hg;have bG:=b2.out;have bH:=b3.out;obtain⟨⟨_,_⟩,_,_⟩:=z2 b1;obtain⟨⟨_,_⟩,_,_⟩:=z2 b4))
  go_ret
  exact⟨oE,oB⟩
 rw[if_pos c4]at H;have bC:(ak==eb)=true:=beq_iff_eq.mpr c4;have bD:(ak !=eb)=false:=bne_eq_false_iff_eq.mpr c4;clear c4;obtain rfl:=Option.some.inj H
 go_enter Tryz.func137,Tryz.ntmps137
 go_wp2_with (first|((with_reducible refine ai (N:=2) rfl ?_);refine dd 2 #[.string bn,.int .i64 ak] 75 ?_;intro b5 hg w5 hbox hb;have b1:=am (hbox);have b6:=de hg;replace HB:=hB HB hb;clear hb hbox hg)|((with_reducible refine ai (N:=3) rfl ?_);refine dd 3 #[.string ep,.int .i64 eb] 75 ?_;intro b7 hg w6 hbox hb;have b4:=am (hbox);have b8:=de hg;have b2:=eE hg b1;have b3:=eF hg b1;replace b1:=bl b1 hb;replace HB:=hB HB hb;clear hb hbox hg;have bJ:=b2.out;have bK:=b3.out;obtain⟨⟨_,_⟩,_,_⟩:=z2 b1;obtain⟨⟨_,_⟩,_,_⟩:=z2 b4))
 go_ret
 exact⟨oE,oB⟩

def jk.f (bn:ByteArray) (ak:ByteArray) (ep:ByteArray) (eb:ByteArray):Option (Bool):=if bn.toList=ep.toList then(if ak.toList=eb.toList then(some true)else(some false))else(some false)
theorem jk.calls (bn:ByteArray) (ak:ByteArray) (ep:ByteArray) (eb:ByteArray) (r:Bool) (w:World) (h:jk.f bn ak ep eb=some r):
  Calls Tryz.prog 138 #[.agg #[.string bn,.string ak],.agg #[.string ep,.string eb]] w fun e w'=>e= .returned (.bool r)∧Below w.heap.size w w':=by
 have bI:=Tryz.underlying82;have HB:=am (Below.refl w.heap.size w);unfold jk.f at h;have H:=h;clear h
 by_cases c3:bn.toList=ep.toList
 rotate_left
 ·rw[if_neg c3]at H;have b9:(bn.toList==ep.toList)=false:=beq_eq_false_iff_ne.mpr c3;have bB:(bn.toList !=ep.toList)=true:=bne_iff_ne.mpr c3;obtain rfl:=Option.some.inj H
  go_enter Tryz.func138,Tryz.ntmps138
  go_wp2_with (first|((with_reducible refine ai (N:=2) rfl ?_);refine dd 2 #[.string bn,.string ak] 82 ?_;intro b5 hg bL hbox hb;have b1:=am (hbox);have b6:=de hg;replace HB:=hB HB hb;clear hb hbox hg)|((with_reducible refine ai (N:=3) rfl ?_);refine dd 3 #[.string ep,.string eb] 82 ?_;intro b7 hg bM hbox hb;have b4:=am (hbox);have b8:=de hg;have b2:=eE hg b1;have b3:=eF hg b1;replace b1:=bl b1 hb;replace HB:=hB HB hb;clear hb hbox hg;have bE:=b2.out;have bF:=b3.out;obtain⟨⟨_,_⟩,_,_⟩:=z2 b1;obtain⟨⟨_,_⟩,_,_⟩:=z2 b4))
  go_ret
  exact⟨oE,oB⟩
 rw[if_pos c3]at H;have b9:(bn.toList==ep.toList)=true:=beq_iff_eq.mpr c3;have bB:(bn.toList !=ep.toList)=false:=bne_eq_false_iff_eq.mpr c3;clear c3
 by_cases c4:ak.toList=eb.toList
 rotate_left
 ·rw[if_neg c4]at H;have bC:(ak.toList==eb.toList)=false:=beq_eq_false_iff_ne.mpr c4;have bD:(ak.toList !=eb.toList)=true:=bne_iff_ne.mpr c4;obtain rfl:=Option.some.inj H
  go_enter Tryz.func138,Tryz.ntmps138
  go_wp2_with (first|((with_reducible refine ai (N:=2) rfl ?_);refine dd 2 #[.string bn,.string ak] 82 ?_;intro b5 hg bN hbox hb;have b1:=am (hbox);have b6:=de hg;replace HB:=hB HB hb;clear hb hbox hg)|((with_reducible refine ai (N:=3) rfl ?_);refine dd 3 #[.string ep,.string eb] 82 ?_;intro b7 hg bO hbox hb;have b4:=am (hbox);have b8:=de hg;have b2:=eE hg b1;have b3:=eF hg b1;replace b1:=bl b1 hb;replace HB:=hB HB hb;clear hb hbox hg;have bG:=b2.out;have bH:=b3.out;obtain⟨⟨_,_⟩,_,_⟩:=z2 b1;obtain⟨⟨_,_⟩,_,_⟩:=z2 b4))
  go_ret
  exact⟨oE,oB⟩
 rw[if_pos c4]at H;have bC:(ak.toList==eb.toList)=true:=beq_iff_eq.mpr c4;have bD:(ak.toList !=eb.toList)=false:=bne_eq_false_iff_eq.mpr c4;clear c4;obtain rfl:=Option.some.inj H
 go_enter Tryz.func138,Tryz.ntmps138
 go_wp2_with (first|((with_reducible refine ai (N:=2) rfl ?_);refine dd 2 #[.string bn,.string ak] 82 ?_;intro b5 hg w5 hbox hb;have b1:=am (hbox);have b6:=de hg;replace HB:=hB HB hb;clear hb hbox hg)|((with_reducible refine ai (N:=3) rfl ?_);refine dd 3 #[.string ep,.string eb] 82 ?_;intro b7 hg w6 hbox hb;have b4:=am (hbox);have b8:=de hg;have b2:=eE hg b1;have b3:=eF hg b1;replace b1:=bl b1 hb;replace HB:=hB HB hb;clear hb hbox hg;have bJ:=b2.out;have bK:=b3.out;obtain⟨⟨_,_⟩,_,_⟩:=z2 b1;obtain⟨⟨_,_⟩,_,_⟩:=z2 b4))
 go_ret
 exact⟨oE,oB⟩

def hI.f (bn:ByteArray) (ak:ByteArray) (a1:Int):Option (Int):=if(wrap64 (a1-(bn.size:Int)))<0 then(some (-1))else(if(wrap64 ((wrap64 (a1-(bn.size:Int)))-(ak.size:Int)))<0 then(some (-1))else(some (wrap64 ((wrap64 (a1-(bn.size:Int)))-(ak.size:Int)))))
theorem hI.calls (bn:ByteArray) (ak:ByteArray) (a1:Int) (r:Int) (w:World) (h:hI.f bn ak a1=some r):
  Calls Tryz.prog 134 #[.agg #[.string bn,.string ak],.int .i64 a1] w fun e w'=>e= .returned (.int .i64 r)∧Below w.heap.size w w':=by
 have b6:=Tryz.underlying133;have HB:=am (Below.refl w.heap.size w);unfold hI.f at h;have H:=h;clear h;replace H:=iE H;rcases H with⟨b4,H⟩|⟨b4,H⟩
 ·obtain rfl:=Option.some.inj H
  go_enter Tryz.func134,Tryz.ntmps134
  go_wp2_with (first|((with_reducible refine ai (N:=2) rfl ?_);refine dd 2 #[.string bn,.string ak] 133 ?_;intro b2 hg w4 hbox hb;have b1:=am (hbox);have b3:=de hg;replace HB:=hB HB hb;clear hb hbox hg;obtain⟨⟨_,_⟩,_,_⟩:=z2 b1))
  go_ret
  exact⟨oE,oB⟩
 replace H:=iE H;rcases H with⟨b5,H⟩|⟨b5,H⟩
 ·obtain rfl:=Option.some.inj H
  go_enter Tryz.func134,Tryz.ntmps134
  go_wp2_with (first|((with_reducible refine ai (N:=2) rfl ?_);refine dd 2 #[.string bn,.string ak] 133 ?_;intro b2 hg w7 hbox hb;have b1:=am (hbox);have b3:=de hg;replace HB:=hB HB hb;clear hb hbox hg;obtain⟨⟨_,_⟩,_,_⟩:=z2 b1))
  go_ret
  exact⟨oE,oB⟩
 obtain rfl:=Option.some.inj H
 go_enter Tryz.func134,Tryz.ntmps134
 go_wp2_with (first|((with_reducible refine ai (N:=2) rfl ?_);refine dd 2 #[.string bn,.string ak] 133 ?_;intro b2 hg w9 hbox hb;have b1:=am (hbox);have b3:=de hg;replace HB:=hB HB hb;clear hb hbox hg;obtain⟨⟨_,_⟩,_,_⟩:=z2 b1))
 go_ret
 exact⟨oE,oB⟩

theorem adi {α:Type}{d:Kd α}{e base n c:Nat}{ok:Nat→Prop}{w:World}{A:Option Addr}{xs:List α}(h:d.R e w base ok (.slice A n c) xs):∀ad,A=some ad→0<xs.length→ad.spot=none:=by
 intro ad hA _;subst hA;obtain⟨g,rfl⟩:=Kd.aaG h
 rfl
def dn.f (l:List Int) (x:Int):Option Bool:=if l.length≤9223372036854775807 then some (l.contains x)else none
theorem dn.calls (A0:Option Addr) (c0:Nat) (l0:List Int) (a1:Int) (r:Bool) (w:World) (hr0:Kd.C (Kd.int .i64) w A0 l0.length l0) (hc0:l0.length≤c0) (h:dn.f l0 a1=some r) (hA:∀ad,A0=some ad→0<l0.length→ad.spot=none:=by first|exact adi (by first|(with_reducible assumption)|exact ae.out (by with_reducible assumption))):
  Calls Tryz.prog 146 #[.slice A0 l0.length c0,.int .i64 a1] w fun e w'=>e= .returned (.bool r)∧Below w.heap.size w w':=by
 unfold dn.f at h
 split at h
 case isFalse=>cases h
 case isTrue hl=>
 obtain rfl:=Option.some.inj h
 by_cases h0:l0.length=0
 ·obtain rfl:=List.eq_nil_of_length_eq_zero h0
  exact(Any.slices_Contains_int_empty Tryz.lays107 A0 c0 a1 w).mono fun e w' ⟨he,hw⟩=>⟨he,hw▸Below.refl _ _⟩
 obtain⟨ad,e0,_⟩:=Kd.jx hr0 0 (by omega) (by omega);subst e0;have hsp:=hA ad rfl (by omega);obtain⟨bk,o,sp⟩:=ad;have hsp:sp=none:=hsp;subst hsp
 refine(Any.slices_Contains_int Tryz.lays107 bk o l0.length c0 l0 a1 w (Nat.le_refl _) hl (fun j hj=> ?_)).mono fun e w' ⟨he,hw⟩=>⟨by rw[he,List.take_length],hw▸Below.refl _ _⟩
 obtain⟨ad',e',hx⟩:=Kd.jx hr0 (j:Int) (by omega) (by omega);injection e' with e';subst e';rw[Int.toNat_natCast,Addr.add_lit]at hx;rw[hx];simp[rd]
def fE.f (l0:List Int) (a1:Int):Option (Int):=if(wrap64 (a1-(l0.length:Int)))<0 then(some (-1))else(some (wrap64 (a1-(l0.length:Int))))
theorem fE.calls (A0:Option Addr) (c0:Nat) (l0:List Int) (a1:Int) (r:Int) (w:World) (hr0:Kd.C (Kd.int .u8) w A0 l0.length l0) (hc0:l0.length≤c0) (h:fE.f l0 a1=some r):
  Calls Tryz.prog 108 #[.slice A0 l0.length c0,.int .i64 a1] w fun e w'=>e= .returned (.int .i64 r)∧eX w w':=by
 have b2:=ae.mk hr0;have b3:=ae.mk hc0;clear hr0 hc0;unfold fE.f at h;have H:=h;clear h;replace H:=iE H;rcases H with⟨b1,H⟩|⟨b1,H⟩
 ·obtain rfl:=Option.some.inj H
  go_enter Tryz.func108,Tryz.ntmps108
  go_wp2
  go_ret
  exact⟨oS,oD⟩
 obtain rfl:=Option.some.inj H
 go_enter Tryz.func108,Tryz.ntmps108
 go_wp2
 go_ret
 exact⟨oS,oD⟩

def jl.f (bn:ByteArray) (ak:Int) (a1:Int):Option (Int):=if(wrap64 (a1-(bn.size:Int)))<0 then(some (-1))else(some (wrap64 (a1-(bn.size:Int))))
theorem jl.calls (bn:ByteArray) (ak:Int) (a1:Int) (r:Int) (w:World) (h:jl.f bn ak a1=some r):
  Calls Tryz.prog 133 #[.agg #[.string bn,.int .i64 ak],.int .i64 a1] w fun e w'=>e= .returned (.int .i64 r)∧Below w.heap.size w w':=by
 have b5:=Tryz.underlying131;have HB:=am (Below.refl w.heap.size w);unfold jl.f at h;have H:=h;clear h;replace H:=iE H;rcases H with⟨b4,H⟩|⟨b4,H⟩
 ·obtain rfl:=Option.some.inj H
  go_enter Tryz.func133,Tryz.ntmps133
  go_wp2_with (first|((with_reducible refine ai (N:=2) rfl ?_);refine dd 2 #[.string bn,.int .i64 ak] 131 ?_;intro b2 hg w4 hbox hb;have b1:=am (hbox);have b3:=de hg;replace HB:=hB HB hb;clear hb hbox hg;obtain⟨⟨_,_⟩,_,_⟩:=z2 b1))
  go_ret
  exact⟨oE,oB⟩
 obtain rfl:=Option.some.inj H
 go_enter Tryz.func133,Tryz.ntmps133
 go_wp2_with (first|((with_reducible refine ai (N:=2) rfl ?_);refine dd 2 #[.string bn,.int .i64 ak] 131 ?_;intro b2 hg w6 hbox hb;have b1:=am (hbox);have b3:=de hg;replace HB:=hB HB hb;clear hb hbox hg;obtain⟨⟨_,_⟩,_,_⟩:=z2 b1))
 go_ret
 exact⟨oE,oB⟩

def aN.f (a0:Int) (a1:Int) (a2:Int):Option (Bool):=if a0≥a1 then(some (decide (a0≤a2)))else(some false)
theorem aN.calls (a0:Int) (a1:Int) (a2:Int) (r:Bool) (w:World) (h:aN.f a0 a1 a2=some r):
  Calls Tryz.prog 60 #[.int .i64 a0,.int .i64 a1,.int .i64 a2] w fun e w'=>e= .returned (.bool r)∧eX w w':=by
 unfold aN.f at h;have H:=h;clear h;replace H:=itH H;rcases H with⟨b1,H⟩|⟨b1,H⟩
 ·obtain rfl:=Option.some.inj H
  go_enter Tryz.func60,Tryz.ntmps60
  go_wp2
  go_ret
  exact⟨oS,oD⟩
 obtain rfl:=Option.some.inj H
 go_enter Tryz.func60,Tryz.ntmps60
 go_wp2
 go_ret
 exact⟨oS,oD⟩

def bj.f (a0:Int) (a1:Int) (a2:Int):Option (Bool):=if a0≥a1 then(some (decide (a0≤a2)))else(some false)
theorem bj.calls (a0:Int) (a1:Int) (a2:Int) (r:Bool) (w:World) (h:bj.f a0 a1 a2=some r):
  Calls Tryz.prog 61 #[.int .i64 a0,.int .i64 a1,.int .i64 a2] w fun e w'=>e= .returned (.bool r)∧eX w w':=by
 unfold bj.f at h;have H:=h;clear h;replace H:=itH H;rcases H with⟨b1,H⟩|⟨b1,H⟩
 ·obtain rfl:=Option.some.inj H
  go_enter Tryz.func61,Tryz.ntmps61
  go_wp2
  go_ret
  exact⟨oS,oD⟩
 obtain rfl:=Option.some.inj H
 go_enter Tryz.func61,Tryz.ntmps61
 go_wp2
 go_ret
 exact⟨oS,oD⟩

def ng (l:List Int):List Int:=l.mergeSort fun x y=>decide (x≤y)
theorem lq (l:List Int):(ng l).length=l.length:=List.length_mergeSort ..
/-- slices.Sort of a row of the call's own: it is in order behind it. -/
theorem ab6.calls (A:Option Addr) (c b0:Nat) (ok:Nat→Prop) (l:List Int) (w:World) (ho:Kd.R (Kd.int .i64) 3 w b0 ok (.slice A l.length c) l) (hl:l.length<4611686018427387904):
  Calls Tryz.prog 147 #[.slice A l.length c] w fun e w'=>e= .returned (.tuple #[])∧Kd.R (Kd.int .i64) 3 w' b0 ok (.slice A l.length c) (ng l)∧w.grownBy w' (Value.slice A l.length c).ownBlock:=by
 have ho':=ho;obtain⟨hok,inner,⟨hil,hown⟩,hrep⟩:=ho;rcases hown with⟨he,h0⟩|⟨g,cap,cur,he,hbg,hh,hnc,hcm,hcs,hin⟩
 ·obtain rfl:=List.eq_nil_of_length_eq_zero h0
  refine(Any.slices_Sort_int_none Tryz.lays189 A c w).mono fun e w' ⟨he,hw⟩=>⟨he,?_,?_⟩
  ·subst hw;rw[show ng []=[]from List.eq_nil_of_length_eq_zero (by rw[lq];rfl)];exact ho'
  ·subst hw;exact⟨rfl,rfl,rfl,Nat.le_refl _,fun _ _ _=>rfl⟩
 ·injection he with ha _ hc;subst ha;subst hc;rw[show(Kd.int .i64).sz=1 from rfl]at hil hcs hin hrep;have hen:=Kd.wR (enc:=Value.int .i64) hrep;rw[hen,Nat.mul_one]at hin;have hgw:g<w.heap.size:=iw hh
  refine(Any.slices_Sort_int Tryz.lays189 g 0 c l w (holds_of_blockI hh hin) hgw hl).mono fun e w' ⟨he,n,os,hw⟩=> ?_
  subst hw;refine⟨he,⟨fun k hk=>hok k hk,(ng l).map (Value.int .i64),?_,?_⟩,grownBy_sortedI _⟩
  ·rw[lq];exact ownsRow_sortedI (ss:=l) (lq l) hbg hh hnc hcm hcs
  ·exact Kd.pO (enc:=Value.int .i64) (ng l)
def GOk (w:World):Prop:=∃m,w.cell? ⟨Tryz.mo.g 1,0,none⟩=some (.int .i64 m)
theorem gk_ {w W:World}(h:Below w.heap.size w W) (hg:ae (GOk w)):GOk W:=by
 obtain⟨m,hm⟩:=hg.out;exact⟨m,lU h hm⟩
def strings_Split.f (a0 a1:ByteArray):Option (List ByteArray):=if a0.size<4294967281∧1≤a1.size then some (Lib.splitB a1 0 (Lib.countB a0 a1) a0)else none
theorem strings_Split.calls (a0 a1:ByteArray) (r:List ByteArray) (w:World) (h:strings_Split.f a0 a1=some r) (hG:GOk w:=by exact gk_ oB (by first|(with_reducible assumption)|assumption)):
  Calls Tryz.prog 121 #[.string a0,.string a1] w fun e w'=>∃i_:Value,e= .returned (i_)∧Kd.R Kd.string 9 w' w.heap.size (fun _=>True) i_ r∧Below w.heap.size w w':=by
 unfold strings_Split.f at h
 split at h
 case isFalse=>cases h
 case isTrue hc=>
 obtain rfl:=Option.some.inj h;obtain⟨m,hm⟩:=hG;have hl:=Lib.splitB_all a1 hc.2 0 _ a0 rfl;have hle:=Lib.countB_le a1 hc.2 a0.size a0 (Nat.le_refl _)
 refine(Any.strings_Split {Tryz.laysM146 with} (by kernel_rfl) a0 a1 m w hc.1 hm hc.2).mono fun e w' ⟨he,hw⟩=> ?_
 subst hw;refine⟨_,he,?_,(Below.refl _ _).alloc (Nat.le_refl _) _⟩;refine Kd.qH (enc:=Value.string) (h1:=fun _=>rfl) ?_ (fun _ _=>trivial);have ho:=World.ownsRow_lit (base:=w.heap.size) (e:=9) (size:=1) w ((Lib.splitB a1 0 (Lib.countB a0 a1) a0).map Value.string).toArray (Lib.countB a0 a1+1) (Nat.le_refl _) (by simp only[maxLen];omega) (by simp[hl]);rw[←hl]at ho;rw[show(Tryz.mo.t 9)=9 from rfl,←hl]
 simpa [encs]using ho
def kj.f (l0:List Int) (a1:Int):Option (List Int):=if 0≤a1∧a1.toNat≤281474976710656 then some (l0.take (min l0.length a1.toNat)++(List.replicate a1.toNat 0).drop (min l0.length a1.toNat))else none
theorem kj.calls (A0:Option Addr) (c0:Nat) (l0:List Int) (a1:Int) (r:List Int) (w:World) (hr0:Kd.C (Kd.int .u8) w A0 l0.length l0) (hc0:l0.length≤c0) (h:kj.f l0 a1=some r):
  Calls Tryz.prog 62 #[.slice A0 l0.length c0,.int .i64 a1] w fun e w'=>∃i_:Value,e= .returned (i_)∧Kd.R (Kd.int .u8) 5 w' w.heap.size (fun _=>True) i_ r∧Below w.heap.size w w':=by
 unfold kj.f at h
 split at h
 case isFalse=>cases h
 case isTrue hl=>
 obtain⟨h0,h1⟩:=hl;obtain rfl:=Option.some.inj h;have H1:=ae.mk h1;have H0:=ae.mk h0;have b1:=ae.mk hr0;clear h h1 hr0;have HB:=am (Below.refl w.heap.size w)
 go_enter Tryz.func62,Tryz.ntmps62
 go_wp2_with (first|((with_reducible refine ai (N:=7) rfl ?_);refine Kd.qI (Kd.int .u8) _ 5 rfl (N:=7) rfl 39 _ _ rfl a1 rfl rfl Tryz.underlying39 (.int .u8 0) 1 info5 rfl (by decide) (by omega) 0 (ok:=fun _=>True) (fj:=fun _=>True) rfl (fun _ hk=>hk) trivial H0.out (by have:=H1.out;omega) (Below.refl _ _) (Nat.le_refl _) ?_;intro v7 w1 ho hb ky ej;clear ky ej;have HO:=am (Kd.aw ho (ah oB));replace HB:=hB HB hb;clear hb ho)|((with_reducible refine dy (b:= .copy) rfl ?_);refine Kd.ac0 (enc:=fun n=>Value.int .u8 n) (h1:=fun _=>rfl) 0 (w0:=w) w.heap.size rfl (.tmp 8) (.tmp 9) 39 39 5 rfl Tryz.underlying39 (by kernel_rfl) v7 _ l0 A0 l0.length c0 (fun _=>True) rfl rfl (oR HO) (kC b1) oB (ah oB) ?_;intro w2 ho hb hg;rw[List.length_replicate]at ho;have b2:=ae.mk ho;replace HB:=ae.mk hb;clear ho hb hg HO))
 go_ret
 exact⟨_,rfl,oR b2,oB⟩
def kL.f (bn:ByteArray) (ak:Int):Option (ByteArray×Int):=some (bn,ak)
theorem kL.calls (bn:ByteArray) (ak:Int) (r1:ByteArray) (r2:Int) (w:World) (h:kL.f bn ak=some (r1,r2)):
  Calls Tryz.prog 135 #[.agg #[.string bn,.int .i64 ak]] w fun e w'=>e= .returned (.agg #[.string r1,.int .i64 r2])∧Below w.heap.size w w':=by
 have bC:=Tryz.underlying131;have bI:=Tryz.underlying75;have HB:=am (Below.refl w.heap.size w);unfold kL.f at h;have H:=h;clear h;simp only[Option.some.injEq,Prod.mk.injEq]at H;obtain⟨rfl,rfl⟩:=H
 go_enter Tryz.func135,Tryz.ntmps135
 go_wp2_with (first|((with_reducible refine ai (N:=1) rfl ?_);refine dd 1 #[.string bn,.int .i64 ak] 131 ?_;intro bD hg w2 hbox hb;have b1:=am (hbox);have bE:=de hg;replace HB:=hB HB hb;clear hb hbox hg)|((with_reducible refine ai (N:=2) rfl ?_);refine dd 2 #[.string (⟨#[]⟩:ByteArray),.int .i64 0] 75 ?_;intro b9 hg w3 hbox hb;have b2:=am (hbox);have bF:=de hg;have b3:=eE hg b1;have b4:=eF hg b1;replace b1:=bl b1 hb;replace HB:=hB HB hb;clear hb hbox hg)|((with_reducible refine ai (N:=3) rfl ?_);refine dd 3 #[.string (⟨#[]⟩:ByteArray),.int .i64 0] 75 ?_;intro bG hg w4 hbox hb;have bB:=am (hbox);have bH:=de hg;have b5:=eE hg b1;have b6:=eF hg b1;have b7:=eE hg b2;have b8:=eF hg b2;replace b1:=bl b1 hb;replace b2:=bl b2 hb;replace HB:=hB HB hb;clear hb hbox hg;have bJ:=b3.out;have bK:=b4.out;have bL:=b5.out;have bM:=b6.out;obtain⟨⟨_,_⟩,_,_⟩:=z2 b1;have bN:=b8.out;have bO:=b7.out;obtain⟨⟨_,_⟩,_,_⟩:=z2 bB;obtain⟨⟨_,_⟩,_,_⟩:=z2 b2))
 refine bodyPost_ret (results_cell_row rfl _ _ b9 75 #[.string bn,.int .i64 ak] (0,0) _ rfl (oP b2) Tryz.underlying75 rfl (by kernel_rfl)) rfl ?_;exact⟨oE,oB⟩

def kt.f (bn:ByteArray) (ak:ByteArray):Option (ByteArray×ByteArray):=some (bn,ak)
theorem kt.calls (bn:ByteArray) (ak:ByteArray) (r1:ByteArray) (r2:ByteArray) (w:World) (h:kt.f bn ak=some (r1,r2)):
  Calls Tryz.prog 136 #[.agg #[.string bn,.string ak]] w fun e w'=>e= .returned (.agg #[.string r1,.string r2])∧Below w.heap.size w w':=by
 have bC:=Tryz.underlying133;have bI:=Tryz.underlying82;have HB:=am (Below.refl w.heap.size w);unfold kt.f at h;have H:=h;clear h;simp only[Option.some.injEq,Prod.mk.injEq]at H;obtain⟨rfl,rfl⟩:=H
 go_enter Tryz.func136,Tryz.ntmps136
 go_wp2_with (first|((with_reducible refine ai (N:=1) rfl ?_);refine dd 1 #[.string bn,.string ak] 133 ?_;intro bD hg w2 hbox hb;have b1:=am (hbox);have bE:=de hg;replace HB:=hB HB hb;clear hb hbox hg)|((with_reducible refine ai (N:=2) rfl ?_);refine dd 2 #[.string (⟨#[]⟩:ByteArray),.string (⟨#[]⟩:ByteArray)] 82 ?_;intro b9 hg w3 hbox hb;have b2:=am (hbox);have bF:=de hg;have b3:=eE hg b1;have b4:=eF hg b1;replace b1:=bl b1 hb;replace HB:=hB HB hb;clear hb hbox hg)|((with_reducible refine ai (N:=3) rfl ?_);refine dd 3 #[.string (⟨#[]⟩:ByteArray),.string (⟨#[]⟩:ByteArray)] 82 ?_;intro bG hg w4 hbox hb;have bB:=am (hbox);have bH:=de hg;have b5:=eE hg b1;have b6:=eF hg b1;have b7:=eE hg b2;have b8:=eF hg b2;replace b1:=bl b1 hb;replace b2:=bl b2 hb;replace HB:=hB HB hb;clear hb hbox hg;have bJ:=b3.out;have bK:=b4.out;have bL:=b5.out;have bM:=b6.out;obtain⟨⟨_,_⟩,_,_⟩:=z2 b1;have bN:=b8.out;have bO:=b7.out;obtain⟨⟨_,_⟩,_,_⟩:=z2 bB;obtain⟨⟨_,_⟩,_,_⟩:=z2 b2))
 refine bodyPost_ret (results_cell_row rfl _ _ b9 82 #[.string bn,.string ak] (0,0) _ rfl (oP b2) Tryz.underlying82 rfl (by kernel_rfl)) rfl ?_;exact⟨oE,oB⟩
-- NOT PRINTED: function 156 (slices_IndexFunc_string_string)
-- NOT PRINTED: function 143 (slices_ContainsFunc_string_string)
-- NOT PRINTED: function 100 (slices_IndexFunc_Inode)
-- NOT PRINTED: function 128 (impl_Inode_128)
-- NOT PRINTED: function 164 (slices_Reverse_Inode)
-- NOT PRINTED: function 149 (impl_Inode_149)
-- NOT PRINTED: function 129 (impl_Inode_129)
end Go.Proofs.YtlecajlnjmbilaaGreatDoor.P
