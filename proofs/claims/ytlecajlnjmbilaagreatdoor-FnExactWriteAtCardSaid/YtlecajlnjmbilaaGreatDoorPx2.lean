-- Printed walks.
import Derived.Test.YtlecajlnjmbilaaGreatDoorPx0
set_option linter.all false
set_option maxHeartbeats 8000000
set_option maxRecDepth 100000
namespace Go.Proofs.YtlecajlnjmbilaaGreatDoor.P
open Go.RowKit Go.Proofs.ae.au Go.Proofs.ae.ba Go.Proofs.ae.bg
attribute [local go_sem] gh gi iR iS ft fu gj gl

def aY.l0:Nat→Int→ByteArray→Option (ByteArray)
 |0,_,_=>none
 |k+1,x0,x3=>if x0>0 then((some (([(wrap64 (48+(Int.tmod x0 10)))%256]:List Int):List Int)).bind fun b1=>(if(strOfNums b1).size+x3.size≤9223372036854775807 then(aY.l0 k (wrap64 (Int.tdiv x0 10)) ((strOfNums b1)++x3))else(none)))else(if 1+x3.size≤9223372036854775807 then(some ((⟨#[109]⟩:ByteArray)++x3))else(none))
def aY.f (k:Nat) (a0:Int):Option (ByteArray):=if a0≤0 then(some (⟨#[109,48]⟩:ByteArray))else(aY.l0 k a0 (⟨#[]⟩:ByteArray))
theorem aY.calls (k:Nat) (a0:Int) (r:ByteArray) (w:World) (h:aY.f k a0=some r):
  Calls Tryz.prog 115 #[.int .i64 a0] w fun e w'=>e= .returned (.string r)∧Below w.heap.size w w':=by
 have HB:=am (Below.refl w.heap.size w);unfold aY.f at h;have H:=h;clear h;replace H:=iH H;rcases H with⟨b6,H⟩|⟨b6,H⟩
 ·obtain rfl:=Option.some.inj H
  go_enter Tryz.func115,Tryz.ntmps115
  go_wp2
  go_ret
  exact⟨oE,oB⟩
 have H':=ab.mk H;clear H
 go_enter Tryz.func115,Tryz.ntmps115
 go_wp2
 go_loopg [0,3] k (fun kq v0 v3 w'=>∃(b1:Int) (b2:ByteArray),v0= .int .i64 b1∧v3= .string b2∧ab (aY.l0 kq b1 b2=some r)∧ab (kq≤k)∧ab (Below w.heap.size w w'))
 case atStart=>exact⟨(a0),((⟨#[]⟩:ByteArray)),oS,oS,H',⟨Nat.le_refl _⟩,⟨oB⟩⟩
 case round=>
  clear H'
  try clear b6
  obtain⟨b1,b2,rfl,rfl,HA,b8,HB⟩:=hrel
  cases gk with
  |zero=>exact absurd HA.out (by simp[aY.l0])
  |succ k1=>
   have H:=HA.out;clear HA;simp only[aY.l0]at H;replace H:=itG H;rcases H with⟨b9,H⟩|⟨b9,H⟩;rotate_left
   ·obtain⟨c8,H⟩:=lH H;have bB:=eq_true c8;have bC:decide (1+b2.size≤9223372036854775807)=true:=decide_eq_true c8
    try have bD:(9223372036854775807<1+b2.size)=False:=eq_false (Nat.not_lt.2 c8)
    obtain rfl:=Option.some.inj H
    go_wp2
    go_ret
    exact⟨oE,oB⟩
   obtain⟨b3,dn⟩:∃y_:List Int,y_=(([(wrap64 (48+(Int.tmod b1 10)))%256]:List Int)):=⟨_,rfl⟩;replace H:(if(strOfNums b3).size+b2.size≤9223372036854775807 then(aY.l0 k1 (wrap64 (Int.tdiv b1 10)) ((strOfNums b3)++b2))else(none))=some r:=oY;have b5:=ab.mk dn;clear dn;obtain⟨c4,H⟩:=lH H;have bE:=eq_true c4;have bF:decide ((strOfNums b3).size+b2.size≤9223372036854775807)=true:=decide_eq_true c4
   try have bG:(9223372036854775807<(strOfNums b3).size+b2.size)=False:=eq_false (Nat.not_lt.2 c4)
   have H':=ab.mk H;clear H
   go_wp2_with (first|((with_reducible refine ai (N:=12) rfl ?_);refine Kd.jy (Kd.int .u8) _ 5 ?hg (N:=12) ?hd (xs:=([(wrap64 (48+(Int.tmod b1 10)))%256]:List Int)) (inner:=[.int .u8 ((wrap64 (48+(Int.tmod b1 10)))%256)]) (ok:=fun _=>True) (fm:=fun _=>True) ?hr ?hp (fun _ hk=>hk) trivial (Below.refl _ _) (Nat.le_refl _) (by simp) ?_;(case hd=>rfl);(case hg=>rfl);(case hr=>first|(go_simp;done)|(go_simp;rfl));(case hp=>exact(cS.one (show Kd.M (Kd.int .u8) _ _ _ ((wrap64 (48+(Int.tmod b1 10)))%256) [.int .u8 ((wrap64 (48+(Int.tmod b1 10)))%256)]from rfl) (cS.none _ _)));intro bH w5 b4 hb kB ep;clear kB ep;(first|rw[←b5.out]at b4|(simp only[Int.reduceToNat]at b4;rw[←b5.out]at b4));have b7:=am (Kd.ay b4 (ah oB));replace HB:=hB HB hb;clear hb b4;have bI:=uW (P:=Tryz.prog) Tryz.underlying39 Tryz.underlying5 Tryz.underlying9 (Kd.nO b7.out)))
   go_roundg k1
   case measure=>have:=b8.out;omega
   case rel=>exact⟨(wrap64 (Int.tdiv b1 10)),((strOfNums b3)++b2),oS,oS,H',⟨by have:=b8.out;omega⟩,⟨oB⟩⟩

def ez.l0:Nat→List Int→Int→Int→Option (Bool)
 |0,_,_,_=>none
 |k+1,x0,x1,x5=>if x5<(x0.length:Int)then(if 0≤x5 then(if(rd x0 x5)=x1 then(some true)else(ez.l0 k x0 x1 (wrap64 (x5+1))))else(none))else(some false)
def ez.f (k:Nat) (l0:List Int) (a1:Int):Option (Bool):=ez.l0 k l0 a1 0
theorem ez.calls (k:Nat) (A0:Option Addr) (c0:Nat) (l0:List Int) (a1:Int) (r:Bool) (w:World) (hr0:Kd.C (Kd.int .i64) w A0 l0.length l0) (hc0:l0.length≤c0) (h:ez.f k l0 a1=some r):
  Calls Tryz.prog 152 #[.slice A0 l0.length c0,.int .i64 a1] w fun e w'=>e= .returned (.bool r)∧eX w w':=by
 have b5:=ab.mk hr0;have bE:=ab.mk hc0;clear hr0 hc0;unfold ez.f at h;have H:=h;clear h;have H':=ab.mk H;clear H
 go_enter Tryz.func152,Tryz.ntmps152
 go_wp2
 go_loopg [5] k (fun kq v5 w'=>∃(b1:Int),v5= .int .i64 b1∧ab (ez.l0 kq l0 a1 b1=some r)∧ab (kq≤k)∧eX w w')
 case atStart=>exact⟨(0),oS,H',⟨Nat.le_refl _⟩,oD⟩
 case round=>
  clear H';obtain⟨b1,rfl,HA,b6,⟨m1,rfl⟩⟩:=hrel
  cases gk with
  |zero=>exact absurd HA.out (by simp[ez.l0])
  |succ k1=>
   have H:=HA.out;clear HA;simp only[ez.l0]at H;replace H:=iH H;rcases H with⟨b7,H⟩|⟨b7,H⟩;rotate_left
   ·obtain rfl:=Option.some.inj H
    go_wp2
    go_ret
    exact⟨oS,oD⟩
   obtain⟨bD,H⟩:=cU H
   by_cases c5:(rd l0 b1)=a1
   ·rw[if_pos c5]at H;have b8:((rd l0 b1)==a1)=true:=beq_iff_eq.mpr c5;have b9:((rd l0 b1) !=a1)=false:=bne_eq_false_iff_eq.mpr c5;clear c5;obtain rfl:=Option.some.inj H;have bB:(0≤(b1:Int))=True:=oT;have bC:(b1<(l0.length:Int))=True:=oT;obtain⟨b4,b2,b3⟩:=Kd.jm b5.out b1 oa oa
    cases b2
    go_wp2
    go_ret
    exact⟨oS,oD⟩
   rw[if_neg c5]at H;have b8:((rd l0 b1)==a1)=false:=beq_eq_false_iff_ne.mpr c5;have b9:((rd l0 b1) !=a1)=true:=bne_iff_ne.mpr c5;have H':=ab.mk H;clear H;have bB:(0≤(b1:Int))=True:=oT;have bC:(b1<(l0.length:Int))=True:=oT;obtain⟨b4,b2,b3⟩:=Kd.jm b5.out b1 oa oa
   cases b2
   go_wp2
   go_roundg k1
   case measure=>have:=b6.out;omega
   case rel=>exact⟨(wrap64 (b1+1)),oS,H',⟨by have:=b6.out;omega⟩,oD⟩

def cI.l0:Nat→List Int→Int→Int→Option (Int×List Int)
 |0,_,_,_=>none
 |k+1,x0,x1,x5=>if x5<(x0.length:Int)then(if 0≤x5 then(cI.l0 k (x0.set (x5:Int).toNat ((x1)%256)) (wrap64 (x1+1)) (wrap64 (x5+1)))else(none))else(some (x1,x0))
def cI.f (k:Nat) (l0:List Int) (a1:Int):Option (Int×List Int):=cI.l0 k l0 a1 0
theorem cI.calls (k:Nat) (kD:Nat→Prop) (ij:Value) (l0:List Int) (a1:Int) (r1:Int) (r2:List Int) (w0 w:World) (hB:Below w0.heap.size w0 w) (ho0:Kd.R (Kd.int .u8) 5 w w0.heap.size kD ij l0) (h:cI.f k l0 a1=some (r1,r2)):
  Calls Tryz.prog 27 #[ij,.int .i64 a1] w fun e w'=>e= .returned (.int .i64 r1)∧Kd.R (Kd.int .u8) 5 w' w0.heap.size (fun k_=>(kD k_∨w.heap.size≤k_)) ij r2∧Below w0.heap.size w0 w'∧Kept w w' (fun k_=>kD k_):=by
 have bF:=am (show Kd.R (Kd.int .u8) 5 w w0.heap.size (fun k_=>(kD k_∨w.heap.size≤k_)) ij l0 from Kd.bm ho0 (fun k_ hk=>(.inl hk)));have HK:=am (Kept.refl w (fun k_=>kD k_));have HW0:=ab.mk hB.size;have HB:=ab.mk hB;clear hB;unfold cI.f at h;have H:=h;clear h;have H':=ab.mk H;clear H
 go_enter Tryz.func27,Tryz.ntmps27
 go_wp2
 go_loopg [1,5] k (fun kq v1 v5 w'=>∃(b4:List Int) (b3:Int) (b1:Int),v1= .int .i64 b3∧v5= .int .i64 b1∧ab (cI.l0 kq b4 b3 b1=some (r1,r2))∧ab (kq≤k)∧ab (Kd.R (Kd.int .u8) 5 w' w0.heap.size (fun k_=>(kD k_∨w.heap.size≤k_)) ij b4)∧ab (Kept w w' (fun k_=>kD k_))∧ab (Below w0.heap.size w0 w'))
 case atStart=>exact⟨(l0),(a1),(0),oS,oS,H',⟨Nat.le_refl _⟩,⟨oR bF⟩,⟨oK⟩,⟨oB⟩⟩
 case round=>
  clear H';obtain⟨b4,b3,b1,rfl,rfl,HA,b9,b2,HK,HB⟩:=hrel
  cases gk with
  |zero=>exact absurd HA.out (by simp[cI.l0])
  |succ k1=>
   have H:=HA.out;clear HA;simp only[cI.l0]at H;replace H:=iH H;rcases H with⟨bE,H⟩|⟨bE,H⟩;rotate_left
   ·simp only[Option.some.injEq,Prod.mk.injEq]at H;obtain⟨rfl,rfl⟩:=H;obtain⟨bP,bQ,bG⟩:=Kd.ax b2.out;subst bG
    go_wp2
    go_ret
    exact⟨oE,oR b2,oB,oK⟩
   obtain⟨bO,H⟩:=cU H;obtain⟨b6,dn⟩:∃y_:List Int,y_=(b4.set (b1:Int).toNat ((b3)%256)):=⟨_,rfl⟩;replace H:(cI.l0 k1 b6 (wrap64 (b3+1)) (wrap64 (b1+1)))=some (r1,r2):=oY;have b8:=ab.mk dn;clear dn;have H':=ab.mk H;clear H;obtain⟨bR,bH,bI⟩:=Kd.ax b2.out;subst bI;have p5:0≤(b1:Int):=oa;have q5:(b1:Int)<((b4.length:Int):Int):=oa;obtain⟨b5,bS,bB,bC,bJ,bT,bD⟩:=Kd.lu b2.out (by omega)
   (first|cases bB|(injection bB with iF nP nQ;(first|subst iF|(injection iF with iF;subst iF));subst nQ;clear nP))
   have bK:=ab.mk bC;have bU:=ab.mk bD;clear bC bJ bD;have bL:=am (show(kD b5∨w.heap.size≤b5)from(b2.out.1 _ rfl));obtain⟨bM,bN⟩:=Kd.ob 0 b2.out (b1:Int) p5 q5;replace p5:=eq_true p5;replace q5:=eq_true q5;have b7:=Kd.qV b2.out (b1:Int) ((b3)%256)
   go_wp2_with (first|((with_reducible refine fx (t:=5) (p:=16) rfl ?_);refine fk (t:=5) (p:=16) (v:= ?vo_w8) (w1:=(wr.setCell ⟨b5,(b1:Int).toNat,none⟩ (.int .u8 ((b3)%256)))) ?hg ?ho ?hn ?hr ?_;(case ho=>rfl);(case hg=>rfl);(case hn=>rfl);(case hr=>first|(go_simp;done)|(go_simp;rfl));intro w8 hw;have hg:wr.grownBy w8 (some b5):=(by rw[hw];exact b7.2);have nR:Kd.R (Kd.int .u8) 5 w8 w0.heap.size (fun k_=>(kD k_∨w.heap.size≤k_)) (.slice (some ⟨b5,0,none⟩) b4.length bH) b6:=(by rw[hw,b8.out];exact b7.1);clear b7;replace b2:=am (nR);replace HK:=am (Kept.lP (S:=(fun k_=>kD k_)) hg oK (fun k_ e_=>(b2.out.1 k_ e_)));replace HB:=am ((by rw[hw];exact aG (HB.out) bK.out:Below w0.heap.size w0 w8));clear hg hw nR))
   go_roundg k1
   case measure=>have:=b9.out;omega
   case rel=>exact⟨(b6),(wrap64 (b3+1)),(wrap64 (b1+1)),oS,oS,H',⟨by have:=b9.out;omega⟩,⟨oR b2⟩,⟨oK⟩,⟨oB⟩⟩

def db.l0:Nat→List Int→Int→Int→Option (Int)
 |0,_,_,_=>none
 |k+1,x0,x1,x5=>if x5<(x0.length:Int)then(if 0≤x5 then(if(rd x0 x5)=((x1)%256)then(db.l0 k x0 (wrap64 (x1+1)) (wrap64 (x5+1)))else(some (-1)))else(none))else(some x1)
def db.f (k:Nat) (l0:List Int) (a1:Int):Option (Int):=db.l0 k l0 a1 0
theorem db.calls (k:Nat) (A0:Option Addr) (c0:Nat) (l0:List Int) (a1:Int) (r:Int) (w:World) (hr0:Kd.C (Kd.int .u8) w A0 l0.length l0) (hc0:l0.length≤c0) (h:db.f k l0 a1=some r):
  Calls Tryz.prog 75 #[.slice A0 l0.length c0,.int .i64 a1] w fun e w'=>e= .returned (.int .i64 r)∧eX w w':=by
 have b6:=ab.mk hr0;have bF:=ab.mk hc0;clear hr0 hc0;unfold db.f at h;have H:=h;clear h;have H':=ab.mk H;clear H
 go_enter Tryz.func75,Tryz.ntmps75
 go_wp2
 go_loopg [1,5] k (fun kq v1 v5 w'=>∃(b2:Int) (b1:Int),v1= .int .i64 b2∧v5= .int .i64 b1∧ab (db.l0 kq l0 b2 b1=some r)∧ab (kq≤k)∧eX w w')
 case atStart=>exact⟨(a1),(0),oS,oS,H',⟨Nat.le_refl _⟩,oD⟩
 case round=>
  clear H';obtain⟨b2,b1,rfl,rfl,HA,b7,⟨m1,rfl⟩⟩:=hrel
  cases gk with
  |zero=>exact absurd HA.out (by simp[db.l0])
  |succ k1=>
   have H:=HA.out;clear HA;simp only[db.l0]at H;replace H:=iH H;rcases H with⟨b8,H⟩|⟨b8,H⟩;rotate_left
   ·obtain rfl:=Option.some.inj H
    go_wp2
    go_ret
    exact⟨oS,oD⟩
   obtain⟨bE,H⟩:=cU H
   by_cases c5:(rd l0 b1)=((b2)%256)
   rotate_left
   ·rw[if_neg c5]at H;have b9:((rd l0 b1)==((b2)%256))=false:=beq_eq_false_iff_ne.mpr c5;have bB:((rd l0 b1) !=((b2)%256))=true:=bne_iff_ne.mpr c5;obtain rfl:=Option.some.inj H;have bC:(0≤(b1:Int))=True:=oT;have bD:(b1<(l0.length:Int))=True:=oT;obtain⟨b5,b3,b4⟩:=Kd.jm b6.out b1 oa oa
    cases b3
    go_wp2
    go_ret
    exact⟨oS,oD⟩
   rw[if_pos c5]at H;have b9:((rd l0 b1)==((b2)%256))=true:=beq_iff_eq.mpr c5;have bB:((rd l0 b1) !=((b2)%256))=false:=bne_eq_false_iff_eq.mpr c5;clear c5;have H':=ab.mk H;clear H;have bC:(0≤(b1:Int))=True:=oT;have bD:(b1<(l0.length:Int))=True:=oT;obtain⟨b5,b3,b4⟩:=Kd.jm b6.out b1 oa oa
   cases b3
   go_wp2
   go_roundg k1
   case measure=>have:=b7.out;omega
   case rel=>exact⟨(wrap64 (b2+1)),(wrap64 (b1+1)),oS,oS,H',⟨by have:=b7.out;omega⟩,oD⟩

def cE (ino:Int):List bh→Nat→Int
 |[],_=> -1
 |x::l,i=>if x.f0=ino then(i:Int)else cE ino l (i+1)
theorem tW.calls (ino a b c:Int) (A3 A4 A5:Option Addr) (n3 c3 n4 c4 n5 c5:Nat) (B:Nat) (W:World) (hB:B<W.heap.size) (hc:W.cell? ⟨B,0,none⟩=some (.int .i64 ino)):
  Calls Tryz.prog 127 #[.agg #[.int .i64 a,.int .i64 b,.int .i64 c,.slice A3 n3 c3,.slice A4 n4 c4,.slice A5 n5 c5],.pointer (some ⟨B,0,none⟩)] W fun e w'=>e= .returned (.bool (a==ino))∧Below W.heap.size W w':=by
 have hne:B≠W.heap.size:=by omega
 go_enter Tryz.func127,Tryz.ntmps127
 go_wp2
 all_goals(go_ret;exact⟨by simp_all,(Below.refl _ W).alloc (Nat.le_refl _) _⟩)
theorem tX (ino:Int) (l:List bh) (i:Nat) (h:∀x∈l,x.f0≠ino):cE ino l i= -1:=by
 induction l generalizing i with
 |nil=>rfl
 |cons x l ih=>rw[cE,if_neg (h x (List.mem_cons_self ..))];exact ih (i+1) (fun y hy=>h y (List.mem_cons_of_mem _ hy))
theorem wC (l:List bh) (k:Nat) (h:k<l.length):af l (k:Int)=l[k]:=by
 simp[af,List.getD_eq_getElem?_getD,List.getElem?_eq_getElem h]
theorem vu (ino:Int) (l:List bh) (k j:Nat) (h:k<l.length) (hit:(af l (k:Int)).f0=ino):cE ino (l.drop k) j=(j:Int):=by
 rw[List.drop_eq_getElem_cons h,cE,if_pos (by rw[←wC l k h];exact hit)]
theorem tY (ino:Int) (l:List bh) (k j:Nat) (h:k<l.length) (hit:(af l (k:Int)).f0≠ino):cE ino (l.drop k) j=cE ino (l.drop (k+1)) (j+1):=by
 rw[List.drop_eq_getElem_cons h,cE,if_neg (by rw[←wC l k h];exact hit)]
theorem aaR.calls (ino:Int) (A0:Option Addr) (c0:Nat) (l:List bh) (B:Nat) (w:World) (hr:fD.C w A0 l.length l) (hB:B<w.heap.size) (hc:w.cell? ⟨B,0,none⟩=some (.int .i64 ino)) (hl:l.length≤9223372036854775807):
  Calls Tryz.prog 100 #[.slice A0 l.length c0,.func (.func 127) #[] #[.pointer (some ⟨B,0,none⟩)]] w fun e w'=>e= .returned (.int .i64 (cE ino l 0))∧Below w.heap.size w w':=by
 go_enter Tryz.func100,Tryz.ntmps100
 go_wp2
 go_loopg [5,8] l.length (fun gg _ s8 wr=>∃kk:Nat,kk≤l.length∧l.length-kk≤gg∧s8= .int .i64 kk∧ab (Below w.heap.size w wr)∧ab (cE ino l 0=cE ino (l.drop kk) kk))
 case atStart=>exact⟨0,Nat.zero_le _,by omega,rfl,⟨Below.refl _ w⟩,⟨rfl⟩⟩
 case round=>
  obtain⟨kk,hkk,hg,rfl,BW,A⟩:=hrel
  by_cases hlt:kk<l.length
  rotate_left
  ·have hltz:¬(kk:Int)<(l.length:Int):=by omega
   obtain rfl:kk=l.length:=by omega
   go_wp2
   go_ret
   exact⟨by rw[A.out,List.drop_length];rfl,BW.out⟩
  have hltz:(kk:Int)<(l.length:Int):=by omega
  obtain⟨ad,A3,c3,A4,c4,A5,c5,e0,h0,h1,h2,h3,h4,h5,_⟩:=fl (Kd.eg hr BW.out) (kk:Int) (by omega) hltz
  cases e0
  rw[Int.toNat_natCast]at h0 h1 h2 h3 h4 h5;have hBw:B<wr.heap.size:=Nat.lt_of_lt_of_le hB BW.out.size;have hcw:wr.cell? ⟨B,0,none⟩=some (.int .i64 ino):=(BW.out.cell (p:=⟨B,0,none⟩) hB).trans hc
  by_cases hit:(af l (kk:Int)).f0=ino
  ·have hq:((af l (kk:Int)).f0==ino)=true:=by simpa using hit
   go_wp2_with (go_at_call 127;refine(tW.calls ino _ _ _ _ _ _ _ _ _ _ _ _ B wr hBw hcw).mono ?_;rintro e w' ⟨rfl,hb'⟩)
   go_ret
   exact⟨by rw[A.out,vu ino l kk kk hlt hit];rfl,jl BW.out BW.out.size hb'⟩
  have hq:((af l (kk:Int)).f0==ino)=false:=by simpa using hit
  go_wp2_with (go_at_call 127;refine(tW.calls ino _ _ _ _ _ _ _ _ _ _ _ _ B wr hBw hcw).mono ?_;rintro e w' ⟨rfl,hb'⟩)
  go_roundg (l.length-(kk+1))
  case measure=>omega
  case rel=>exact⟨kk+1,by omega,by omega,by go_num,⟨jl BW.out BW.out.size hb'⟩,⟨by rw[A.out,tY ino l kk kk hlt hit]⟩⟩
def ek.f (k:Nat) (ag:List bh) (ak a1:Int):Option Int:=if(ag.length:Int)≤9223372036854775807 then some (cE a1 ag 0)else none
theorem ek.calls (k:Nat) (bj:Option Addr) (aW:Nat) (ag:List bh) (ak a1:Int) (r:Int) (w:World) (ch:Kd.C fD w bj ag.length ag) (ck:ag.length≤aW) (h:ek.f k ag ak a1=some r):
  Calls Tryz.prog 99 #[.agg #[.slice bj ag.length aW,.int .i64 ak],.int .i64 a1] w fun e w'=>e= .returned (.int .i64 r)∧Below w.heap.size w w':=by
 unfold ek.f at h
 split at h
 case isFalse=>cases h
 case isTrue hl=>
 obtain rfl:=Option.some.inj h;clear h;have b1:Below w.heap.size w (w.alloc (.cells #[.slice bj ag.length aW,.int .i64 ak] 28)):=(Below.refl _ w).alloc (Nat.le_refl _) _;have b2:Below w.heap.size w ((w.alloc (.cells #[.slice bj ag.length aW,.int .i64 ak] 28)).alloc (.cells #[.int .i64 a1] 3)):=b1.alloc (by simp) _;have hcon:=aaR.calls a1 bj aW ag (w.heap.size+1) ((w.alloc (.cells #[.slice bj ag.length aW,.int .i64 ak] 28)).alloc (.cells #[.int .i64 a1] 3)) (Kd.eg ch b2) (by simp) (by simp) (by omega);clear ch b1
 go_enter Tryz.func99,Tryz.ntmps99
 go_wp2_with (go_at_call 100;refine hcon.mono ?_;rintro e w' ⟨rfl,hb'⟩)
 go_ret
 exact⟨rfl,jl b2 (by simp only[World.size_alloc];omega) hb'⟩
def dg.f (bp:Int) (ak:Int) (cJ:Int) (cj:List Int) (aK:List (eb)) (cw:List (eh)):Option (Int×Int×Int×List Int×(List (eb))×(List (eh))):=(some (([]:List Int):List Int)).bind fun b1=>(if b1.length+cj.length<140737488355328 then((some (([]:List (eb)):List (eb))).bind fun b2=>(if b2.length+aK.length<5864062014805 then((some (([]:List (eh)):List (eh))).bind fun b3=>(if b3.length+cw.length<4398046511104 then(some (bp,ak,cJ,(b1++cj),(b2++aK),(b3++cw)))else(none)))else(none)))else(none))
theorem dg.calls (bp:Int) (ak:Int) (cJ:Int) (fO:Option Addr) (fP:Nat) (cj:List Int) (fE:Option Addr) (fF:Nat) (aK:List (eb)) (fp:Option Addr) (fq:Nat) (cw:List (eh)) (r1:Int) (r2:Int) (r3:Int) (r4:List Int) (r5:List (eb)) (r6:List (eh)) (w:World) (iK:Kd.C (Kd.int .u8) w fO cj.length cj) (iL:cj.length≤fP) (iM:Kd.C iT w fE aK.length aK) (iN:aK.length≤fF) (iO:Kd.C iU w fp cw.length cw) (iP:cw.length≤fq) (h:dg.f bp ak cJ cj aK cw=some (r1,r2,r3,r4,r5,r6)):
  Calls Tryz.prog 83 #[.agg #[.int .i64 bp,.int .i64 ak,.int .i64 cJ,.slice fO cj.length fP,.slice fE aK.length fF,.slice fp cw.length fq]] w fun e w'=>∃qd qe qf:Value,e= .returned (.agg #[.int .i64 r1,.int .i64 r2,.int .i64 r3,qd,qe,qf])∧Kd.R (Kd.int .u8) 5 w' w.heap.size (fun _=>True) qd r4∧Kd.R iT 75 w' w.heap.size (fun _=>True) qe r5∧Kd.R iU 82 w' w.heap.size (fun _=>True) qf r6∧Below w.heap.size w w':=by
 have dS:=Tryz.underlying58;have bX:=ab.mk iK;have dG:=ab.mk iL;clear iK iL;have bY:=ab.mk iM;have dH:=ab.mk iN;clear iM iN;have bZ:=ab.mk iO;have dI:=ab.mk iP;clear iO iP;have HB:=am (Below.refl w.heap.size w);unfold dg.f at h;have H:=h;clear h;obtain⟨bH,dn⟩:∃y_:List Int,y_=(([]:List Int)):=⟨_,rfl⟩;replace H:(if bH.length+cj.length<140737488355328 then((some (([]:List (eb)):List (eb))).bind fun b6=>(if b6.length+aK.length<5864062014805 then((some (([]:List (eh)):List (eh))).bind fun b4=>(if b4.length+cw.length<4398046511104 then(some (bp,ak,cJ,(bH++cj),(b6++aK),(b4++cw)))else(none)))else(none)))else(none))=some (r1,r2,r3,r4,r5,r6):=oY;have bQ:=ab.mk dn;clear dn;obtain⟨c2,H⟩:=lH H;have d5:=ab.mk c2;clear c2;obtain⟨b8,dn⟩:∃y_:List Int,y_=(bH++cj):=⟨_,rfl⟩;replace H:((some (([]:List (eb)):List (eb))).bind fun b6=>(if b6.length+aK.length<5864062014805 then((some (([]:List (eh)):List (eh))).bind fun b4=>(if b4.length+cw.length<4398046511104 then(some (bp,ak,cJ,b8,(b6++aK),(b4++cw)))else(none)))else(none)))=some (r1,r2,r3,r4,r5,r6):=oY;have d1:=ab.mk dn;clear dn;obtain⟨b6,dn⟩:∃y_:List (eb),y_=(([]:List (eb))):=⟨_,rfl⟩;replace H:(if b6.length+aK.length<5864062014805 then((some (([]:List (eh)):List (eh))).bind fun b4=>(if b4.length+cw.length<4398046511104 then(some (bp,ak,cJ,b8,(b6++aK),(b4++cw)))else(none)))else(none))=some (r1,r2,r3,r4,r5,r6):=oY;have bR:=ab.mk dn;clear dn;obtain⟨c3,H⟩:=lH H;have d6:=ab.mk c3;clear c3;obtain⟨bD,dn⟩:∃y_:List (eb),y_=(b6++aK):=⟨_,rfl⟩;replace H:((some (([]:List (eh)):List (eh))).bind fun b4=>(if b4.length+cw.length<4398046511104 then(some (bp,ak,cJ,b8,bD,(b4++cw)))else(none)))=some (r1,r2,r3,r4,r5,r6):=oY;have d2:=ab.mk dn;clear dn;obtain⟨b4,dn⟩:∃y_:List (eh),y_=(([]:List (eh))):=⟨_,rfl⟩;replace H:(if b4.length+cw.length<4398046511104 then(some (bp,ak,cJ,b8,bD,(b4++cw)))else(none))=some (r1,r2,r3,r4,r5,r6):=oY;have bS:=ab.mk dn;clear dn;obtain⟨c4,H⟩:=lH H;have d7:=ab.mk c4;clear c4;obtain⟨bU,dn⟩:∃y_:List (eh),y_=(b4++cw):=⟨_,rfl⟩;replace H:(some (bp,ak,cJ,b8,bD,bU))=some (r1,r2,r3,r4,r5,r6):=oY;have d3:=ab.mk dn;clear dn;simp only[Option.some.injEq,Prod.mk.injEq]at H;obtain⟨rfl,rfl,rfl,rfl,rfl,rfl⟩:=H
 go_enter Tryz.func83,Tryz.ntmps83
 go_wp2_with (first|((with_reducible refine ai (N:=1) rfl ?_);refine di 1 #[.int .i64 bp,.int .i64 ak,.int .i64 cJ,.slice fO cj.length fP,.slice fE aK.length fF,.slice fp cw.length fq] 58 ?_;intro dJ hg w5 hbox hb;have b1:=am (hbox);have dK:=dh hg;replace HB:=hB HB hb;clear hb hbox hg)|((with_reducible refine ai (N:=2) rfl ?_);refine di 2 #[.int .i64 0,.int .i64 0,.int .i64 0,.slice none 0 0,.slice none 0 0,.slice none 0 0] 58 ?_;intro d4 hg w6 hbox hb;have b3:=am (hbox);have dL:=dh hg;have bI:=eJ hg b1;have bJ:=eK hg b1;replace b1:=bn b1 hb;replace HB:=hB HB hb;clear hb hbox hg;have dT:=bI.out;have dU:=bJ.out;obtain⟨⟨_,_,_,_,_,_⟩,_,_,_,_,_,_⟩:=z6 b1)|((with_reducible refine ai (N:=3) rfl ?_);refine di 3 #[.int .i64 0,.int .i64 0,.int .i64 0,.slice none 0 0,.slice none 0 0,.slice none 0 0] 58 ?_;intro dM hg w9 hbox hb;have b2:=am (hbox);have dN:=dh hg;have bK:=eJ hg b1;have bL:=eK hg b1;have bM:=eJ hg b3;have bN:=eK hg b3;replace b1:=bn b1 hb;replace b3:=bn b3 hb;replace HB:=hB HB hb;clear hb hbox hg;have dO:=bL.out;have dP:=bK.out;have dQ:=bN.out;have dR:=bM.out;obtain⟨⟨_,_,_,_,_,_⟩,_,_,_,_,_,_⟩:=z6 b2)|((with_reducible refine ai (N:=5) rfl ?_);refine Kd.jy (Kd.int .u8) _ 5 ?hg (N:=5) ?hd (xs:=([]:List Int)) (inner:=[]) (ok:=fun _=>True) (fm:=fun _=>True) ?hr ?hp (fun _ hk=>hk) trivial (Below.refl _ _) (Nat.le_refl _) (by simp) ?_;(case hd=>rfl);(case hg=>rfl);(case hr=>first|(go_simp;done)|(go_simp;rfl));(case hp=>exact(cS.none _ _));intro d8 dY bE hb kB ep;clear kB ep;(first|rw[←bQ.out]at bE|(simp only[Int.reduceToNat]at bE;rw[←bQ.out]at bE));have bC:=am (Kd.ay bE (ah oB));replace b1:=bn b1 hb;replace b3:=bn b3 hb;replace b2:=uM #[.int .i64 bp,.int .i64 ak,.int .i64 cJ,.slice fO cj.length fP,.slice fE aK.length fF,.slice fp cw.length fq] b2 hb;replace HB:=hB HB hb;clear hb bE;obtain⟨⟨_,_,_,_,_,_⟩,_,_,_,_,_,_⟩:=z6 b1)|((with_reducible refine dp (b:= .append) (xs:= #[.tmp 5,.tmp 7]) rfl ?_);at_builtin;refine Kd.fa (Kd.int .u8) (w0:=w) w.heap.size rfl (.tmp 5) (.tmp 7) 39 5 (.int .u8 0) 1 rfl Tryz.underlying39 info5 rfl (by decide) (by omega) d8 bH cj _ _ _ (fun _=>True) (fun _=>False) rfl rfl ?aO ?aR (fun _ _ h=>h) (fun _ h=>h.elim) ?aF ?aB ?aS ?aL ?_;(case aR=>repeat(first|exact(Kd.eg bX.out HB.out)|(with_reducible refine Kd.fY ?_ _)|(with_reducible refine Kd.fZ ?_ _)|(with_reducible refine Kd.iW ?_)));(case aB=>exact oB);(case aF=>exact(fun _ _=>trivial));(case aO=>exact(oR bC));(case aS=>exact(ah oB));(case aL=>have:=d5.out;omega);intro dV dZ ho hb hg hat;rw[←d1.out]at ho;have b5:=am (ho);replace b1:=lA b1 hg (Kd.lr bC.out b1.out (by decide));replace b3:=lA b3 hg (Kd.lr bC.out b3.out (by decide));replace b2:=lA b2 hg (Kd.lr bC.out b2.out (by decide));replace HB:=am (hb);clear bC;clear ho hb hg hat;obtain⟨bO,bP,d9⟩:=Kd.ax b5.out;subst d9;obtain⟨⟨_,_,_,_,_,_⟩,_,_,_,_,_,_⟩:=z6 b2)|((with_reducible refine ai (N:=10) rfl ?_);refine Kd.jy iT _ 75 ?hg (N:=10) ?hd (xs:=([]:List (eb))) (inner:=[]) (ok:=fun _=>True) (fm:=fun _=>True) ?hr ?hp (fun _ hk=>hk) trivial (Below.refl _ _) (Nat.le_refl _) (by simp) ?_;(case hd=>rfl);(case hg=>rfl);(case hr=>first|(go_simp;done)|(go_simp;rfl));(case hp=>exact(cS.none _ _));intro dA gA bF hb kB ep;clear kB ep;(first|rw[←bR.out]at bF|(simp only[Int.reduceToNat]at bF;rw[←bR.out]at bF));have b9:=am (Kd.ay bF (ah oB));replace b5:=nf b5 b2 hb;replace b1:=bn b1 hb;replace b3:=bn b3 hb;replace b2:=uM #[.int .i64 bp,.int .i64 ak,.int .i64 cJ,.slice bO b8.length bP,.slice fE aK.length fF,.slice fp cw.length fq] b2 hb;replace HB:=hB HB hb;clear hb bF;obtain⟨⟨_,_,_,_,_,_⟩,_,_,_,_,_,_⟩:=z6 b1)|((with_reducible refine dp (b:= .append) (xs:= #[.tmp 10,.tmp 12]) rfl ?_);at_builtin;refine Kd.fa iT (w0:=w) w.heap.size rfl (.tmp 10) (.tmp 12) 55 75 (.agg #[(.string ⟨#[]⟩),(.int .i64 0)]) 24 rfl Tryz.underlying55 uT rfl (by decide) (by omega) dA b6 aK _ _ _ (fun _=>True) (fun _=>False) rfl rfl ?aO ?aR (fun _ _ h=>h) (fun _ h=>h.elim) ?aF ?aB ?aS ?aL ?_;(case aR=>repeat(first|exact(Kd.eg bY.out HB.out)|(with_reducible refine Kd.fY ?_ _)|(with_reducible refine Kd.fZ ?_ _)|(with_reducible refine Kd.iW ?_)));(case aB=>exact oB);(case aF=>exact(fun _ _=>trivial));(case aO=>exact(oR b9));(case aS=>exact(ah oB));(case aL=>have:=d6.out;omega);intro dW gB ho hb hg hat;rw[←d2.out]at ho;have bB:=am (ho);replace b1:=lA b1 hg (Kd.lr b9.out b1.out (by decide));replace b3:=lA b3 hg (Kd.lr b9.out b3.out (by decide));replace b2:=lA b2 hg (Kd.lr b9.out b2.out (by decide));replace b5:=am (Kd.iX (oR b5) (Kd.fT (oR b9)) (by decide) hg);replace HB:=am (hb);clear b9;clear ho hb hg hat;obtain⟨bV,bW,dB⟩:=Kd.ax bB.out;subst dB;obtain⟨⟨_,_,_,_,_,_⟩,_,_,_,_,_,_⟩:=z6 b2)|((with_reducible refine ai (N:=15) rfl ?_);refine Kd.jy iU _ 82 ?hg (N:=15) ?hd (xs:=([]:List (eh))) (inner:=[]) (ok:=fun _=>True) (fm:=fun _=>True) ?hr ?hp (fun _ hk=>hk) trivial (Below.refl _ _) (Nat.le_refl _) (by simp) ?_;(case hd=>rfl);(case hg=>rfl);(case hr=>first|(go_simp;done)|(go_simp;rfl));(case hp=>exact(cS.none _ _));intro dC gC bG hb kB ep;clear kB ep;(first|rw[←bS.out]at bG|(simp only[Int.reduceToNat]at bG;rw[←bS.out]at bG));have b7:=am (Kd.ay bG (ah oB));replace b5:=nf b5 b2 hb;replace bB:=nf bB b2 hb;replace b1:=bn b1 hb;replace b3:=bn b3 hb;replace b2:=uM #[.int .i64 bp,.int .i64 ak,.int .i64 cJ,.slice bO b8.length bP,.slice bV bD.length bW,.slice fp cw.length fq] b2 hb;replace HB:=hB HB hb;clear hb bG;obtain⟨⟨_,_,_,_,_,_⟩,_,_,_,_,_,_⟩:=z6 b1)|((with_reducible refine dp (b:= .append) (xs:= #[.tmp 15,.tmp 17]) rfl ?_);at_builtin;refine Kd.fa iU (w0:=w) w.heap.size rfl (.tmp 15) (.tmp 17) 56 82 (.agg #[(.string ⟨#[]⟩),(.string ⟨#[]⟩)]) 32 rfl Tryz.underlying56 uU rfl (by decide) (by omega) dC b4 cw _ _ _ (fun _=>True) (fun _=>False) rfl rfl ?aO ?aR (fun _ _ h=>h) (fun _ h=>h.elim) ?aF ?aB ?aS ?aL ?_;(case aR=>repeat(first|exact(Kd.eg bZ.out HB.out)|(with_reducible refine Kd.fY ?_ _)|(with_reducible refine Kd.fZ ?_ _)|(with_reducible refine Kd.iW ?_)));(case aB=>exact oB);(case aF=>exact(fun _ _=>trivial));(case aO=>exact(oR b7));(case aS=>exact(ah oB));(case aL=>have:=d7.out;omega);intro dX gD ho hb hg hat;rw[←d3.out]at ho;have bT:=am (ho);replace b1:=lA b1 hg (Kd.lr b7.out b1.out (by decide));replace b3:=lA b3 hg (Kd.lr b7.out b3.out (by decide));replace b2:=lA b2 hg (Kd.lr b7.out b2.out (by decide));replace b5:=am (Kd.iX (oR b5) (Kd.fT (oR b7)) (by decide) hg);replace bB:=am (Kd.iX (oR bB) (Kd.fT (oR b7)) (by decide) hg);replace HB:=am (hb);clear b7;clear ho hb hg hat;obtain⟨dD,dE,dF⟩:=Kd.ax bT.out;subst dF;obtain⟨⟨_,_,_,_,_,_⟩,_,_,_,_,_,_⟩:=z6 b2;obtain⟨⟨_,_,_,_,_,_⟩,_,_,_,_,_,_⟩:=z6 b3))
 refine bodyPost_ret (results_cell_row rfl _ _ d4 58 #[.int .i64 bp,.int .i64 ak,.int .i64 cJ,.slice bO b8.length bP,.slice bV bD.length bW,.slice dD bU.length dE] (0,0) _ rfl (oP b3) Tryz.underlying58 rfl (by kernel_rfl)) rfl ?_;exact⟨_,_,_,oE,o_ b5 b2 b3,o_ bB b2 b3,o_ bT b2 b3,oB⟩

def dj.f (l0:List (eb)):Option ((List (eb))):=(some (([]:List (eb)):List (eb))).bind fun b1=>(if b1.length+l0.length<5864062014805 then(some (b1++l0))else(none))
theorem dj.lS (a0_:Addr) (c0:Nat) (l0:List (eb)) (r:List (eb)) (w:World) (hr0:Kd.C iT w (some a0_) l0.length l0) (hc0:l0.length≤c0) (h:dj.f l0=some r):
  Calls Tryz.prog 96 #[.slice (some a0_) l0.length c0] w fun e w'=>∃jd:Value,e= .returned (jd)∧Kd.R iT 75 w' w.heap.size (fun _=>True) jd r∧Below w.heap.size w w':=by
 have bB:=ab.mk hr0;have bD:=ab.mk hc0;clear hr0 hc0;have HB:=am (Below.refl w.heap.size w);unfold dj.f at h;have H:=h;clear h;obtain⟨b1,dn⟩:∃y_:List (eb),y_=(([]:List (eb))):=⟨_,rfl⟩;replace H:(if b1.length+l0.length<5864062014805 then(some (b1++l0))else(none))=some r:=oY;have b3:=ab.mk dn;clear dn
 by_cases c2:b1.length+l0.length<5864062014805
 rotate_left
 ·rw[if_neg c2]at H;exact absurd H (by simp)
 rw[if_pos c2]at H;have b7:=ab.mk c2;clear c2;obtain⟨b8,dn⟩:∃y_:List (eb),y_=(b1++l0):=⟨_,rfl⟩;replace H:(some b8)=some r:=oY;have b5:=ab.mk dn;clear dn;obtain rfl:=Option.some.inj H;have hq_:=Lib.run_eql_slice_nil (P:=Tryz.prog) w 55 75 (some a0_) l0.length c0 0 0 (by kernel_rfl)
 go_enter Tryz.func96,Tryz.ntmps96
 go_wp2_with (first|((with_reducible refine ai (N:=5) rfl ?_);refine Kd.jy iT _ 75 ?hg (N:=5) ?hd (xs:=([]:List (eb))) (inner:=[]) (ok:=fun _=>True) (fm:=fun _=>True) ?hr ?hp (fun _ hk=>hk) trivial (Below.refl _ _) (Nat.le_refl _) (by simp) ?_;(case hd=>rfl);(case hg=>rfl);(case hr=>first|(go_simp;done)|(go_simp;rfl));(case hp=>exact(cS.none _ _));intro b9 w3 b2 hb kB ep;clear kB ep;(first|rw[←b3.out]at b2|(simp only[Int.reduceToNat]at b2;rw[←b3.out]at b2));have b4:=am (Kd.ay b2 (ah oB));replace HB:=hB HB hb;clear hb b2)|((with_reducible refine dp (b:= .append) (xs:= #[.tmp 5,.tmp 6]) rfl ?_);at_builtin;refine Kd.fa iT (w0:=w) w.heap.size rfl (.tmp 5) (.tmp 6) 55 75 (.agg #[(.string ⟨#[]⟩),(.int .i64 0)]) 24 rfl Tryz.underlying55 uT rfl (by decide) (by omega) b9 b1 l0 _ _ _ (fun _=>True) (fun _=>False) rfl rfl ?aO ?aR (fun _ _ h=>h) (fun _ h=>h.elim) ?aF ?aB ?aS ?aL ?_;(case aR=>repeat(first|exact(Kd.eg bB.out HB.out)|(with_reducible refine Kd.fY ?_ _)|(with_reducible refine Kd.fZ ?_ _)|(with_reducible refine Kd.iW ?_)));(case aB=>exact oB);(case aF=>exact(fun _ _=>trivial));(case aO=>exact(oR b4));(case aS=>exact(ah oB));(case aL=>have:=b7.out;omega);intro bC w5 ho hb hg hat;rw[←b5.out]at ho;have b6:=am (ho);replace HB:=am (hb);clear b4;clear ho hb hg hat))
 go_ret
 exact⟨_,oE,oR b6,oB⟩
theorem dj.calls (A0:Option Addr) (c0:Nat) (l0:List (eb)) (r:List (eb)) (w:World) (hr0:Kd.C iT w A0 l0.length l0) (hc0:l0.length≤c0) (h:dj.f l0=some r):
  Calls Tryz.prog 96 #[.slice A0 l0.length c0] w fun e w'=>∃jd:Value,e= .returned (jd)∧Kd.R iT 75 w' w.heap.size (fun _=>True) jd r∧Below w.heap.size w w':=by
 rcases A0 with _|b1
 ·have hl_:l0=[]:=by
   rcases Nat.eq_zero_or_pos l0.length with hz_|hz_
   ·exact List.eq_nil_of_length_eq_zero hz_
   ·obtain⟨ad_,he_,_⟩:=hr0.2.2 hz_
    cases he_
  subst hl_
  obtain rfl:r=[]:=by
   simp[dj.f]at h;exact h
  have hq_:=Lib.run_eql_slice_nil (P:=Tryz.prog) w 55 75 none 0 c0 0 0 (by kernel_rfl)
  go_enter Tryz.func96,Tryz.ntmps96
  go_wp2
  go_ret
  exact⟨_,rfl,Kd.fy _ _ _ _ _,Below.refl _ _⟩
 ·exact dj.lS b1 c0 l0 r w hr0 hc0 h

def cy.f (l0:List Int):Option (List Int):=(some (([]:List Int):List Int)).bind fun b1=>(if b1.length+l0.length<140737488355328 then(some (b1++l0))else(none))
theorem cy.lS (a0_:Addr) (c0:Nat) (l0:List Int) (r:List Int) (w:World) (hr0:Kd.C (Kd.int .u8) w (some a0_) l0.length l0) (hc0:l0.length≤c0) (h:cy.f l0=some r):
  Calls Tryz.prog 119 #[.slice (some a0_) l0.length c0] w fun e w'=>∃jd:Value,e= .returned (jd)∧Kd.R (Kd.int .u8) 5 w' w.heap.size (fun _=>True) jd r∧Below w.heap.size w w':=by
 have bB:=ab.mk hr0;have bD:=ab.mk hc0;clear hr0 hc0;have HB:=am (Below.refl w.heap.size w);unfold cy.f at h;have H:=h;clear h;obtain⟨b1,dn⟩:∃y_:List Int,y_=(([]:List Int)):=⟨_,rfl⟩;replace H:(if b1.length+l0.length<140737488355328 then(some (b1++l0))else(none))=some r:=oY;have b3:=ab.mk dn;clear dn
 by_cases c2:b1.length+l0.length<140737488355328
 rotate_left
 ·rw[if_neg c2]at H;exact absurd H (by simp)
 rw[if_pos c2]at H;have b7:=ab.mk c2;clear c2;obtain⟨b8,dn⟩:∃y_:List Int,y_=(b1++l0):=⟨_,rfl⟩;replace H:(some b8)=some r:=oY;have b5:=ab.mk dn;clear dn;obtain rfl:=Option.some.inj H;have hq_:=Lib.run_eql_slice_nil (P:=Tryz.prog) w 39 5 (some a0_) l0.length c0 0 0 (by kernel_rfl)
 go_enter Tryz.func119,Tryz.ntmps119
 go_wp2_with (first|((with_reducible refine ai (N:=5) rfl ?_);refine Kd.jy (Kd.int .u8) _ 5 ?hg (N:=5) ?hd (xs:=([]:List Int)) (inner:=[]) (ok:=fun _=>True) (fm:=fun _=>True) ?hr ?hp (fun _ hk=>hk) trivial (Below.refl _ _) (Nat.le_refl _) (by simp) ?_;(case hd=>rfl);(case hg=>rfl);(case hr=>first|(go_simp;done)|(go_simp;rfl));(case hp=>exact(cS.none _ _));intro b9 w3 b2 hb kB ep;clear kB ep;(first|rw[←b3.out]at b2|(simp only[Int.reduceToNat]at b2;rw[←b3.out]at b2));have b4:=am (Kd.ay b2 (ah oB));replace HB:=hB HB hb;clear hb b2)|((with_reducible refine dp (b:= .append) (xs:= #[.tmp 5,.tmp 6]) rfl ?_);at_builtin;refine Kd.fa (Kd.int .u8) (w0:=w) w.heap.size rfl (.tmp 5) (.tmp 6) 39 5 (.int .u8 0) 1 rfl Tryz.underlying39 info5 rfl (by decide) (by omega) b9 b1 l0 _ _ _ (fun _=>True) (fun _=>False) rfl rfl ?aO ?aR (fun _ _ h=>h) (fun _ h=>h.elim) ?aF ?aB ?aS ?aL ?_;(case aR=>repeat(first|exact(Kd.eg bB.out HB.out)|(with_reducible refine Kd.fY ?_ _)|(with_reducible refine Kd.fZ ?_ _)|(with_reducible refine Kd.iW ?_)));(case aB=>exact oB);(case aF=>exact(fun _ _=>trivial));(case aO=>exact(oR b4));(case aS=>exact(ah oB));(case aL=>have:=b7.out;omega);intro bC w5 ho hb hg hat;rw[←b5.out]at ho;have b6:=am (ho);replace HB:=am (hb);clear b4;clear ho hb hg hat))
 go_ret
 exact⟨_,oE,oR b6,oB⟩
theorem cy.calls (A0:Option Addr) (c0:Nat) (l0:List Int) (r:List Int) (w:World) (hr0:Kd.C (Kd.int .u8) w A0 l0.length l0) (hc0:l0.length≤c0) (h:cy.f l0=some r):
  Calls Tryz.prog 119 #[.slice A0 l0.length c0] w fun e w'=>∃jd:Value,e= .returned (jd)∧Kd.R (Kd.int .u8) 5 w' w.heap.size (fun _=>True) jd r∧Below w.heap.size w w':=by
 rcases A0 with _|b1
 ·have hl_:l0=[]:=by
   rcases Nat.eq_zero_or_pos l0.length with hz_|hz_
   ·exact List.eq_nil_of_length_eq_zero hz_
   ·obtain⟨ad_,he_,_⟩:=hr0.2.2 hz_
    cases he_
  subst hl_
  obtain rfl:r=[]:=by
   simp[cy.f]at h;exact h
  have hq_:=Lib.run_eql_slice_nil (P:=Tryz.prog) w 39 5 none 0 c0 0 0 (by kernel_rfl)
  go_enter Tryz.func119,Tryz.ntmps119
  go_wp2
  go_ret
  exact⟨_,rfl,Kd.fy _ _ _ _ _,Below.refl _ _⟩
 ·exact cy.lS b1 c0 l0 r w hr0 hc0 h

def cW.f (l0:List (eh)):Option ((List (eh))):=(some (([]:List (eh)):List (eh))).bind fun b1=>(if b1.length+l0.length<4398046511104 then(some (b1++l0))else(none))
theorem cW.lS (a0_:Addr) (c0:Nat) (l0:List (eh)) (r:List (eh)) (w:World) (hr0:Kd.C iU w (some a0_) l0.length l0) (hc0:l0.length≤c0) (h:cW.f l0=some r):
  Calls Tryz.prog 120 #[.slice (some a0_) l0.length c0] w fun e w'=>∃jd:Value,e= .returned (jd)∧Kd.R iU 82 w' w.heap.size (fun _=>True) jd r∧Below w.heap.size w w':=by
 have bB:=ab.mk hr0;have bD:=ab.mk hc0;clear hr0 hc0;have HB:=am (Below.refl w.heap.size w);unfold cW.f at h;have H:=h;clear h;obtain⟨b1,dn⟩:∃y_:List (eh),y_=(([]:List (eh))):=⟨_,rfl⟩;replace H:(if b1.length+l0.length<4398046511104 then(some (b1++l0))else(none))=some r:=oY;have b3:=ab.mk dn;clear dn
 by_cases c2:b1.length+l0.length<4398046511104
 rotate_left
 ·rw[if_neg c2]at H;exact absurd H (by simp)
 rw[if_pos c2]at H;have b7:=ab.mk c2;clear c2;obtain⟨b8,dn⟩:∃y_:List (eh),y_=(b1++l0):=⟨_,rfl⟩;replace H:(some b8)=some r:=oY;have b5:=ab.mk dn;clear dn;obtain rfl:=Option.some.inj H;have hq_:=Lib.run_eql_slice_nil (P:=Tryz.prog) w 56 82 (some a0_) l0.length c0 0 0 (by kernel_rfl)
 go_enter Tryz.func120,Tryz.ntmps120
 go_wp2_with (first|((with_reducible refine ai (N:=5) rfl ?_);refine Kd.jy iU _ 82 ?hg (N:=5) ?hd (xs:=([]:List (eh))) (inner:=[]) (ok:=fun _=>True) (fm:=fun _=>True) ?hr ?hp (fun _ hk=>hk) trivial (Below.refl _ _) (Nat.le_refl _) (by simp) ?_;(case hd=>rfl);(case hg=>rfl);(case hr=>first|(go_simp;done)|(go_simp;rfl));(case hp=>exact(cS.none _ _));intro b9 w3 b2 hb kB ep;clear kB ep;(first|rw[←b3.out]at b2|(simp only[Int.reduceToNat]at b2;rw[←b3.out]at b2));have b4:=am (Kd.ay b2 (ah oB));replace HB:=hB HB hb;clear hb b2)|((with_reducible refine dp (b:= .append) (xs:= #[.tmp 5,.tmp 6]) rfl ?_);at_builtin;refine Kd.fa iU (w0:=w) w.heap.size rfl (.tmp 5) (.tmp 6) 56 82 (.agg #[(.string ⟨#[]⟩),(.string ⟨#[]⟩)]) 32 rfl Tryz.underlying56 uU rfl (by decide) (by omega) b9 b1 l0 _ _ _ (fun _=>True) (fun _=>False) rfl rfl ?aO ?aR (fun _ _ h=>h) (fun _ h=>h.elim) ?aF ?aB ?aS ?aL ?_;(case aR=>repeat(first|exact(Kd.eg bB.out HB.out)|(with_reducible refine Kd.fY ?_ _)|(with_reducible refine Kd.fZ ?_ _)|(with_reducible refine Kd.iW ?_)));(case aB=>exact oB);(case aF=>exact(fun _ _=>trivial));(case aO=>exact(oR b4));(case aS=>exact(ah oB));(case aL=>have:=b7.out;omega);intro bC w5 ho hb hg hat;rw[←b5.out]at ho;have b6:=am (ho);replace HB:=am (hb);clear b4;clear ho hb hg hat))
 go_ret
 exact⟨_,oE,oR b6,oB⟩
theorem cW.calls (A0:Option Addr) (c0:Nat) (l0:List (eh)) (r:List (eh)) (w:World) (hr0:Kd.C iU w A0 l0.length l0) (hc0:l0.length≤c0) (h:cW.f l0=some r):
  Calls Tryz.prog 120 #[.slice A0 l0.length c0] w fun e w'=>∃jd:Value,e= .returned (jd)∧Kd.R iU 82 w' w.heap.size (fun _=>True) jd r∧Below w.heap.size w w':=by
 rcases A0 with _|b1
 ·have hl_:l0=[]:=by
   rcases Nat.eq_zero_or_pos l0.length with hz_|hz_
   ·exact List.eq_nil_of_length_eq_zero hz_
   ·obtain⟨ad_,he_,_⟩:=hr0.2.2 hz_
    cases he_
  subst hl_
  obtain rfl:r=[]:=by
   simp[cW.f]at h;exact h
  have hq_:=Lib.run_eql_slice_nil (P:=Tryz.prog) w 56 82 none 0 c0 0 0 (by kernel_rfl)
  go_enter Tryz.func120,Tryz.ntmps120
  go_wp2
  go_ret
  exact⟨_,rfl,Kd.fy _ _ _ _ _,Below.refl _ _⟩
 ·exact cW.lS b1 c0 l0 r w hr0 hc0 h

def kt.f (bp:ByteArray) (ak:Int) (eu:ByteArray) (ee:Int):Option (Bool):=if bp.toList=eu.toList then(if ak=ee then(some true)else(some false))else(some false)
theorem kt.calls (bp:ByteArray) (ak:Int) (eu:ByteArray) (ee:Int) (r:Bool) (w:World) (h:kt.f bp ak eu ee=some r):
  Calls Tryz.prog 137 #[.agg #[.string bp,.int .i64 ak],.agg #[.string eu,.int .i64 ee]] w fun e w'=>e= .returned (.bool r)∧Below w.heap.size w w':=by
 have bI:=Tryz.underlying75;have HB:=am (Below.refl w.heap.size w);unfold kt.f at h;have H:=h;clear h
 by_cases c3:bp.toList=eu.toList
 rotate_left
 ·rw[if_neg c3]at H;have b9:(bp.toList==eu.toList)=false:=beq_eq_false_iff_ne.mpr c3;have bB:(bp.toList !=eu.toList)=true:=bne_iff_ne.mpr c3;obtain rfl:=Option.some.inj H
  go_enter Tryz.func137,Tryz.ntmps137
  go_wp2_with (first|((with_reducible refine ai (N:=2) rfl ?_);refine di 2 #[.string bp,.int .i64 ak] 75 ?_;intro b5 hg bL hbox hb;have b1:=am (hbox);have b6:=dh hg;replace HB:=hB HB hb;clear hb hbox hg)|((with_reducible refine ai (N:=3) rfl ?_);refine di 3 #[.string eu,.int .i64 ee] 75 ?_;intro b7 hg bM hbox hb;have b4:=am (hbox);have b8:=dh hg;have b2:=eJ hg b1;have b3:=eK hg b1;replace b1:=bn b1 hb;replace HB:=hB HB hb;clear hb hbox hg;have bE:=b2.out;have bF:=b3.out;obtain⟨⟨_,_⟩,_,_⟩:=z2 b1;obtain⟨⟨_,_⟩,_,_⟩:=z2 b4))
  go_ret
  exact⟨oE,oB⟩
 rw[if_pos c3]at H;have b9:(bp.toList==eu.toList)=true:=beq_iff_eq.mpr c3;have bB:(bp.toList !=eu.toList)=false:=bne_eq_false_iff_eq.mpr c3;clear c3
 by_cases c4:ak=ee
 rotate_left
 ·rw[if_neg c4]at H;have bC:(ak==ee)=false:=beq_eq_false_iff_ne.mpr c4;have bD:(ak !=ee)=true:=bne_iff_ne.mpr c4;obtain rfl:=Option.some.inj H
  go_enter Tryz.func137,Tryz.ntmps137
  go_wp2_with (first|((with_reducible refine ai (N:=2) rfl ?_);refine di 2 #[.string bp,.int .i64 ak] 75 ?_;intro b5 hg bN hbox hb;have b1:=am (hbox);have b6:=dh hg;replace HB:=hB HB hb;clear hb hbox hg)|((with_reducible refine ai (N:=3) rfl ?_);refine di 3 #[.string eu,.int .i64 ee] 75 ?_;intro b7 hg bO hbox hb;have b4:=am (hbox);have b8:=dh hg;have b2:=eJ hg b1;have b3:=eK hg b1;replace b1:=bn b1 hb;replace HB:=hB HB hb;clear hb hbox hg;have bG:=b2.out;have bH:=b3.out;obtain⟨⟨_,_⟩,_,_⟩:=z2 b1;obtain⟨⟨_,_⟩,_,_⟩:=z2 b4))
  go_ret
  exact⟨oE,oB⟩
 rw[if_pos c4]at H;have bC:(ak==ee)=true:=beq_iff_eq.mpr c4;have bD:(ak !=ee)=false:=bne_eq_false_iff_eq.mpr c4;clear c4;obtain rfl:=Option.some.inj H
 go_enter Tryz.func137,Tryz.ntmps137
 go_wp2_with (first|((with_reducible refine ai (N:=2) rfl ?_);refine di 2 #[.string bp,.int .i64 ak] 75 ?_;intro b5 hg w5 hbox hb;have b1:=am (hbox);have b6:=dh hg;replace HB:=hB HB hb;clear hb hbox hg)|((with_reducible refine ai (N:=3) rfl ?_);refine di 3 #[.string eu,.int .i64 ee] 75 ?_;intro b7 hg w6 hbox hb;have b4:=am (hbox);have b8:=dh hg;have b2:=eJ hg b1;have b3:=eK hg b1;replace b1:=bn b1 hb;replace HB:=hB HB hb;clear hb hbox hg;have bJ:=b2.out;have bK:=b3.out;obtain⟨⟨_,_⟩,_,_⟩:=z2 b1;obtain⟨⟨_,_⟩,_,_⟩:=z2 b4))
 go_ret
 exact⟨oE,oB⟩

def jn.f (bp:ByteArray) (ak:ByteArray) (eu:ByteArray) (ee:ByteArray):Option (Bool):=if bp.toList=eu.toList then(if ak.toList=ee.toList then(some true)else(some false))else(some false)
theorem jn.calls (bp:ByteArray) (ak:ByteArray) (eu:ByteArray) (ee:ByteArray) (r:Bool) (w:World) (h:jn.f bp ak eu ee=some r):
  Calls Tryz.prog 138 #[.agg #[.string bp,.string ak],.agg #[.string eu,.string ee]] w fun e w'=>e= .returned (.bool r)∧Below w.heap.size w w':=by
 have bI:=Tryz.underlying82;have HB:=am (Below.refl w.heap.size w);unfold jn.f at h;have H:=h;clear h
 by_cases c3:bp.toList=eu.toList
 rotate_left
 ·rw[if_neg c3]at H;have b9:(bp.toList==eu.toList)=false:=beq_eq_false_iff_ne.mpr c3;have bB:(bp.toList !=eu.toList)=true:=bne_iff_ne.mpr c3;obtain rfl:=Option.some.inj H
  go_enter Tryz.func138,Tryz.ntmps138
  go_wp2_with (first|((with_reducible refine ai (N:=2) rfl ?_);refine di 2 #[.string bp,.string ak] 82 ?_;intro b5 hg bL hbox hb;have b1:=am (hbox);have b6:=dh hg;replace HB:=hB HB hb;clear hb hbox hg)|((with_reducible refine ai (N:=3) rfl ?_);refine di 3 #[.string eu,.string ee] 82 ?_;intro b7 hg bM hbox hb;have b4:=am (hbox);have b8:=dh hg;have b2:=eJ hg b1;have b3:=eK hg b1;replace b1:=bn b1 hb;replace HB:=hB HB hb;clear hb hbox hg;have bE:=b2.out;have bF:=b3.out;obtain⟨⟨_,_⟩,_,_⟩:=z2 b1;obtain⟨⟨_,_⟩,_,_⟩:=z2 b4))
  go_ret
  exact⟨oE,oB⟩
 rw[if_pos c3]at H;have b9:(bp.toList==eu.toList)=true:=beq_iff_eq.mpr c3;have bB:(bp.toList !=eu.toList)=false:=bne_eq_false_iff_eq.mpr c3;clear c3
 by_cases c4:ak.toList=ee.toList
 rotate_left
 ·rw[if_neg c4]at H;have bC:(ak.toList==ee.toList)=false:=beq_eq_false_iff_ne.mpr c4;have bD:(ak.toList !=ee.toList)=true:=bne_iff_ne.mpr c4;obtain rfl:=Option.some.inj H
  go_enter Tryz.func138,Tryz.ntmps138
  go_wp2_with (first|((with_reducible refine ai (N:=2) rfl ?_);refine di 2 #[.string bp,.string ak] 82 ?_;intro b5 hg bN hbox hb;have b1:=am (hbox);have b6:=dh hg;replace HB:=hB HB hb;clear hb hbox hg)|((with_reducible refine ai (N:=3) rfl ?_);refine di 3 #[.string eu,.string ee] 82 ?_;intro b7 hg bO hbox hb;have b4:=am (hbox);have b8:=dh hg;have b2:=eJ hg b1;have b3:=eK hg b1;replace b1:=bn b1 hb;replace HB:=hB HB hb;clear hb hbox hg;have bG:=b2.out;have bH:=b3.out;obtain⟨⟨_,_⟩,_,_⟩:=z2 b1;obtain⟨⟨_,_⟩,_,_⟩:=z2 b4))
  go_ret
  exact⟨oE,oB⟩
 rw[if_pos c4]at H;have bC:(ak.toList==ee.toList)=true:=beq_iff_eq.mpr c4;have bD:(ak.toList !=ee.toList)=false:=bne_eq_false_iff_eq.mpr c4;clear c4;obtain rfl:=Option.some.inj H
 go_enter Tryz.func138,Tryz.ntmps138
 go_wp2_with (first|((with_reducible refine ai (N:=2) rfl ?_);refine di 2 #[.string bp,.string ak] 82 ?_;intro b5 hg w5 hbox hb;have b1:=am (hbox);have b6:=dh hg;replace HB:=hB HB hb;clear hb hbox hg)|((with_reducible refine ai (N:=3) rfl ?_);refine di 3 #[.string eu,.string ee] 82 ?_;intro b7 hg w6 hbox hb;have b4:=am (hbox);have b8:=dh hg;have b2:=eJ hg b1;have b3:=eK hg b1;replace b1:=bn b1 hb;replace HB:=hB HB hb;clear hb hbox hg;have bJ:=b2.out;have bK:=b3.out;obtain⟨⟨_,_⟩,_,_⟩:=z2 b1;obtain⟨⟨_,_⟩,_,_⟩:=z2 b4))
 go_ret
 exact⟨oE,oB⟩

def hO.f (bp:ByteArray) (ak:ByteArray) (a1:Int):Option (Int):=if(wrap64 (a1-(bp.size:Int)))<0 then(some (-1))else(if(wrap64 ((wrap64 (a1-(bp.size:Int)))-(ak.size:Int)))<0 then(some (-1))else(some (wrap64 ((wrap64 (a1-(bp.size:Int)))-(ak.size:Int)))))
theorem hO.calls (bp:ByteArray) (ak:ByteArray) (a1:Int) (r:Int) (w:World) (h:hO.f bp ak a1=some r):
  Calls Tryz.prog 134 #[.agg #[.string bp,.string ak],.int .i64 a1] w fun e w'=>e= .returned (.int .i64 r)∧Below w.heap.size w w':=by
 have b6:=Tryz.underlying133;have HB:=am (Below.refl w.heap.size w);unfold hO.f at h;have H:=h;clear h;replace H:=iH H;rcases H with⟨b4,H⟩|⟨b4,H⟩
 ·obtain rfl:=Option.some.inj H
  go_enter Tryz.func134,Tryz.ntmps134
  go_wp2_with (first|((with_reducible refine ai (N:=2) rfl ?_);refine di 2 #[.string bp,.string ak] 133 ?_;intro b2 hg w4 hbox hb;have b1:=am (hbox);have b3:=dh hg;replace HB:=hB HB hb;clear hb hbox hg;obtain⟨⟨_,_⟩,_,_⟩:=z2 b1))
  go_ret
  exact⟨oE,oB⟩
 replace H:=iH H;rcases H with⟨b5,H⟩|⟨b5,H⟩
 ·obtain rfl:=Option.some.inj H
  go_enter Tryz.func134,Tryz.ntmps134
  go_wp2_with (first|((with_reducible refine ai (N:=2) rfl ?_);refine di 2 #[.string bp,.string ak] 133 ?_;intro b2 hg w7 hbox hb;have b1:=am (hbox);have b3:=dh hg;replace HB:=hB HB hb;clear hb hbox hg;obtain⟨⟨_,_⟩,_,_⟩:=z2 b1))
  go_ret
  exact⟨oE,oB⟩
 obtain rfl:=Option.some.inj H
 go_enter Tryz.func134,Tryz.ntmps134
 go_wp2_with (first|((with_reducible refine ai (N:=2) rfl ?_);refine di 2 #[.string bp,.string ak] 133 ?_;intro b2 hg w9 hbox hb;have b1:=am (hbox);have b3:=dh hg;replace HB:=hB HB hb;clear hb hbox hg;obtain⟨⟨_,_⟩,_,_⟩:=z2 b1))
 go_ret
 exact⟨oE,oB⟩

theorem adn {α:Type}{d:Kd α}{e base n c:Nat}{ok:Nat→Prop}{w:World}{A:Option Addr}{xs:List α}(h:d.R e w base ok (.slice A n c) xs):∀ad,A=some ad→0<xs.length→ad.spot=none:=by
 intro ad hA _;subst hA;obtain⟨g,rfl⟩:=Kd.aaG h
 rfl
def dt.f (l:List Int) (x:Int):Option Bool:=if l.length≤9223372036854775807 then some (l.contains x)else none
theorem dt.calls (A0:Option Addr) (c0:Nat) (l0:List Int) (a1:Int) (r:Bool) (w:World) (hr0:Kd.C (Kd.int .i64) w A0 l0.length l0) (hc0:l0.length≤c0) (h:dt.f l0 a1=some r) (hA:∀ad,A0=some ad→0<l0.length→ad.spot=none:=by first|exact adn (by first|(with_reducible assumption)|exact ab.out (by with_reducible assumption))):
  Calls Tryz.prog 146 #[.slice A0 l0.length c0,.int .i64 a1] w fun e w'=>e= .returned (.bool r)∧Below w.heap.size w w':=by
 unfold dt.f at h
 split at h
 case isFalse=>cases h
 case isTrue hl=>
 obtain rfl:=Option.some.inj h
 by_cases h0:l0.length=0
 ·obtain rfl:=List.eq_nil_of_length_eq_zero h0
  exact(Any.slices_Contains_int_empty Tryz.lays107 A0 c0 a1 w).mono fun e w' ⟨he,hw⟩=>⟨he,hw▸Below.refl _ _⟩
 obtain⟨ad,e0,_⟩:=Kd.jm hr0 0 (by omega) (by omega);subst e0;have hsp:=hA ad rfl (by omega);obtain⟨bk,o,sp⟩:=ad;have hsp:sp=none:=hsp;subst hsp
 refine(Any.slices_Contains_int Tryz.lays107 bk o l0.length c0 l0 a1 w (Nat.le_refl _) hl (fun j hj=> ?_)).mono fun e w' ⟨he,hw⟩=>⟨by rw[he,List.take_length],hw▸Below.refl _ _⟩
 obtain⟨ad',e',hx⟩:=Kd.jm hr0 (j:Int) (by omega) (by omega);injection e' with e';subst e';rw[Int.toNat_natCast,Addr.add_lit]at hx;rw[hx];simp[rd]
def fG.f (l0:List Int) (a1:Int):Option (Int):=if(wrap64 (a1-(l0.length:Int)))<0 then(some (-1))else(some (wrap64 (a1-(l0.length:Int))))
theorem fG.calls (A0:Option Addr) (c0:Nat) (l0:List Int) (a1:Int) (r:Int) (w:World) (hr0:Kd.C (Kd.int .u8) w A0 l0.length l0) (hc0:l0.length≤c0) (h:fG.f l0 a1=some r):
  Calls Tryz.prog 108 #[.slice A0 l0.length c0,.int .i64 a1] w fun e w'=>e= .returned (.int .i64 r)∧eX w w':=by
 have b2:=ab.mk hr0;have b3:=ab.mk hc0;clear hr0 hc0;unfold fG.f at h;have H:=h;clear h;replace H:=iH H;rcases H with⟨b1,H⟩|⟨b1,H⟩
 ·obtain rfl:=Option.some.inj H
  go_enter Tryz.func108,Tryz.ntmps108
  go_wp2
  go_ret
  exact⟨oS,oD⟩
 obtain rfl:=Option.some.inj H
 go_enter Tryz.func108,Tryz.ntmps108
 go_wp2
 go_ret
 exact⟨oS,oD⟩

def jo.f (bp:ByteArray) (ak:Int) (a1:Int):Option (Int):=if(wrap64 (a1-(bp.size:Int)))<0 then(some (-1))else(some (wrap64 (a1-(bp.size:Int))))
theorem jo.calls (bp:ByteArray) (ak:Int) (a1:Int) (r:Int) (w:World) (h:jo.f bp ak a1=some r):
  Calls Tryz.prog 133 #[.agg #[.string bp,.int .i64 ak],.int .i64 a1] w fun e w'=>e= .returned (.int .i64 r)∧Below w.heap.size w w':=by
 have b5:=Tryz.underlying131;have HB:=am (Below.refl w.heap.size w);unfold jo.f at h;have H:=h;clear h;replace H:=iH H;rcases H with⟨b4,H⟩|⟨b4,H⟩
 ·obtain rfl:=Option.some.inj H
  go_enter Tryz.func133,Tryz.ntmps133
  go_wp2_with (first|((with_reducible refine ai (N:=2) rfl ?_);refine di 2 #[.string bp,.int .i64 ak] 131 ?_;intro b2 hg w4 hbox hb;have b1:=am (hbox);have b3:=dh hg;replace HB:=hB HB hb;clear hb hbox hg;obtain⟨⟨_,_⟩,_,_⟩:=z2 b1))
  go_ret
  exact⟨oE,oB⟩
 obtain rfl:=Option.some.inj H
 go_enter Tryz.func133,Tryz.ntmps133
 go_wp2_with (first|((with_reducible refine ai (N:=2) rfl ?_);refine di 2 #[.string bp,.int .i64 ak] 131 ?_;intro b2 hg w6 hbox hb;have b1:=am (hbox);have b3:=dh hg;replace HB:=hB HB hb;clear hb hbox hg;obtain⟨⟨_,_⟩,_,_⟩:=z2 b1))
 go_ret
 exact⟨oE,oB⟩

def aT.f (a0:Int) (a1:Int) (a2:Int):Option (Bool):=if a0≥a1 then(some (decide (a0≤a2)))else(some false)
theorem aT.calls (a0:Int) (a1:Int) (a2:Int) (r:Bool) (w:World) (h:aT.f a0 a1 a2=some r):
  Calls Tryz.prog 60 #[.int .i64 a0,.int .i64 a1,.int .i64 a2] w fun e w'=>e= .returned (.bool r)∧eX w w':=by
 unfold aT.f at h;have H:=h;clear h;replace H:=itH H;rcases H with⟨b1,H⟩|⟨b1,H⟩
 ·obtain rfl:=Option.some.inj H
  go_enter Tryz.func60,Tryz.ntmps60
  go_wp2
  go_ret
  exact⟨oS,oD⟩
 obtain rfl:=Option.some.inj H
 go_enter Tryz.func60,Tryz.ntmps60
 go_wp2
 go_ret
 exact⟨oS,oD⟩

def bl.f (a0:Int) (a1:Int) (a2:Int):Option (Bool):=if a0≥a1 then(some (decide (a0≤a2)))else(some false)
theorem bl.calls (a0:Int) (a1:Int) (a2:Int) (r:Bool) (w:World) (h:bl.f a0 a1 a2=some r):
  Calls Tryz.prog 61 #[.int .i64 a0,.int .i64 a1,.int .i64 a2] w fun e w'=>e= .returned (.bool r)∧eX w w':=by
 unfold bl.f at h;have H:=h;clear h;replace H:=itH H;rcases H with⟨b1,H⟩|⟨b1,H⟩
 ·obtain rfl:=Option.some.inj H
  go_enter Tryz.func61,Tryz.ntmps61
  go_wp2
  go_ret
  exact⟨oS,oD⟩
 obtain rfl:=Option.some.inj H
 go_enter Tryz.func61,Tryz.ntmps61
 go_wp2
 go_ret
 exact⟨oS,oD⟩

def nw (l:List Int):List Int:=l.mergeSort fun x y=>decide (x≤y)
theorem lD (l:List Int):(nw l).length=l.length:=List.length_mergeSort ..
/-- slices.Sort of a row of the call's own: it is in order behind it. -/
theorem ab8.calls (A:Option Addr) (c b0:Nat) (ok:Nat→Prop) (l:List Int) (w:World) (ho:Kd.R (Kd.int .i64) 3 w b0 ok (.slice A l.length c) l) (hl:l.length<4611686018427387904):
  Calls Tryz.prog 147 #[.slice A l.length c] w fun e w'=>e= .returned (.tuple #[])∧Kd.R (Kd.int .i64) 3 w' b0 ok (.slice A l.length c) (nw l)∧w.grownBy w' (Value.slice A l.length c).ownBlock:=by
 have ho':=ho;obtain⟨hok,inner,⟨hil,hown⟩,hrep⟩:=ho;rcases hown with⟨he,h0⟩|⟨g,cap,cur,he,hbg,hh,hnc,hcm,hcs,hin⟩
 ·obtain rfl:=List.eq_nil_of_length_eq_zero h0
  refine(Any.slices_Sort_int_none Tryz.lays189 A c w).mono fun e w' ⟨he,hw⟩=>⟨he,?_,?_⟩
  ·subst hw;rw[show nw []=[]from List.eq_nil_of_length_eq_zero (by rw[lD];rfl)];exact ho'
  ·subst hw;exact⟨rfl,rfl,rfl,Nat.le_refl _,fun _ _ _=>rfl⟩
 ·injection he with ha _ hc;subst ha;subst hc;rw[show(Kd.int .i64).sz=1 from rfl]at hil hcs hin hrep;have hen:=Kd.xf (enc:=Value.int .i64) hrep;rw[hen,Nat.mul_one]at hin;have hgw:g<w.heap.size:=iA hh
  refine(Any.slices_Sort_int Tryz.lays189 g 0 c l w (holds_of_blockI hh hin) hgw hl).mono fun e w' ⟨he,n,os,hw⟩=> ?_
  subst hw;refine⟨he,⟨fun k hk=>hok k hk,(nw l).map (Value.int .i64),?_,?_⟩,grownBy_sortedI _⟩
  ·rw[lD];exact ownsRow_sortedI (ss:=l) (lD l) hbg hh hnc hcm hcs
  ·exact Kd.qa (enc:=Value.int .i64) (nw l)
def GOk (w:World):Prop:=∃m,w.cell? ⟨Tryz.na.g 1,0,none⟩=some (.int .i64 m)
theorem gk_ {w W:World}(h:Below w.heap.size w W) (hg:ab (GOk w)):GOk W:=by
 obtain⟨m,hm⟩:=hg.out;exact⟨m,mh h hm⟩
def strings_Split.f (a0 a1:ByteArray):Option (List ByteArray):=if a0.size<4294967281∧1≤a1.size then some (Lib.splitB a1 0 (Lib.countB a0 a1) a0)else none
theorem strings_Split.calls (a0 a1:ByteArray) (r:List ByteArray) (w:World) (h:strings_Split.f a0 a1=some r) (hG:GOk w:=by exact gk_ oB (by first|(with_reducible assumption)|assumption)):
  Calls Tryz.prog 121 #[.string a0,.string a1] w fun e w'=>∃jd:Value,e= .returned (jd)∧Kd.R Kd.string 9 w' w.heap.size (fun _=>True) jd r∧Below w.heap.size w w':=by
 unfold strings_Split.f at h
 split at h
 case isFalse=>cases h
 case isTrue hc=>
 obtain rfl:=Option.some.inj h;obtain⟨m,hm⟩:=hG;have hl:=Lib.splitB_all a1 hc.2 0 _ a0 rfl;have hle:=Lib.countB_le a1 hc.2 a0.size a0 (Nat.le_refl _)
 refine(Any.strings_Split {Tryz.laysM146 with} (by kernel_rfl) a0 a1 m w hc.1 hm hc.2).mono fun e w' ⟨he,hw⟩=> ?_
 subst hw;refine⟨_,he,?_,(Below.refl _ _).alloc (Nat.le_refl _) _⟩;refine Kd.pk (enc:=Value.string) (h1:=fun _=>rfl) ?_ (fun _ _=>trivial);have ho:=World.ownsRow_lit (base:=w.heap.size) (e:=9) (size:=1) w ((Lib.splitB a1 0 (Lib.countB a0 a1) a0).map Value.string).toArray (Lib.countB a0 a1+1) (Nat.le_refl _) (by simp only[maxLen];omega) (by simp[hl]);rw[←hl]at ho;rw[show(Tryz.na.t 9)=9 from rfl,←hl]
 simpa [encs]using ho
def jq.f (l0:List Int) (a1:Int):Option (List Int):=if 0≤a1∧a1.toNat≤281474976710656 then some (l0.take (min l0.length a1.toNat)++(List.replicate a1.toNat 0).drop (min l0.length a1.toNat))else none
theorem jq.calls (A0:Option Addr) (c0:Nat) (l0:List Int) (a1:Int) (r:List Int) (w:World) (hr0:Kd.C (Kd.int .u8) w A0 l0.length l0) (hc0:l0.length≤c0) (h:jq.f l0 a1=some r):
  Calls Tryz.prog 62 #[.slice A0 l0.length c0,.int .i64 a1] w fun e w'=>∃jd:Value,e= .returned (jd)∧Kd.R (Kd.int .u8) 5 w' w.heap.size (fun _=>True) jd r∧Below w.heap.size w w':=by
 unfold jq.f at h
 split at h
 case isFalse=>cases h
 case isTrue hl=>
 obtain⟨h0,h1⟩:=hl;obtain rfl:=Option.some.inj h;have H1:=ab.mk h1;have H0:=ab.mk h0;have b1:=ab.mk hr0;clear h h1 hr0;have HB:=am (Below.refl w.heap.size w)
 go_enter Tryz.func62,Tryz.ntmps62
 go_wp2_with (first|((with_reducible refine ai (N:=7) rfl ?_);refine Kd.qS (Kd.int .u8) _ 5 rfl (N:=7) rfl 39 _ _ rfl a1 rfl rfl Tryz.underlying39 (.int .u8 0) 1 info5 rfl (by decide) (by omega) 0 (ok:=fun _=>True) (fm:=fun _=>True) rfl (fun _ hk=>hk) trivial H0.out (by have:=H1.out;omega) (Below.refl _ _) (Nat.le_refl _) ?_;intro v7 w1 ho hb kB ep;clear kB ep;have HO:=am (Kd.ay ho (ah oB));replace HB:=hB HB hb;clear hb ho)|((with_reducible refine dp (b:= .copy) rfl ?_);refine Kd.ac1 (enc:=fun n=>Value.int .u8 n) (h1:=fun _=>rfl) 0 (w0:=w) w.heap.size rfl (.tmp 8) (.tmp 9) 39 39 5 rfl Tryz.underlying39 (by kernel_rfl) v7 _ l0 A0 l0.length c0 (fun _=>True) rfl rfl (oR HO) (kC b1) oB (ah oB) ?_;intro w2 ho hb hg;rw[List.length_replicate]at ho;have b2:=ab.mk ho;replace HB:=ab.mk hb;clear ho hb hg HO))
 go_ret
 exact⟨_,rfl,oR b2,oB⟩
def kS.f (bp:ByteArray) (ak:Int):Option (ByteArray×Int):=some (bp,ak)
theorem kS.calls (bp:ByteArray) (ak:Int) (r1:ByteArray) (r2:Int) (w:World) (h:kS.f bp ak=some (r1,r2)):
  Calls Tryz.prog 135 #[.agg #[.string bp,.int .i64 ak]] w fun e w'=>e= .returned (.agg #[.string r1,.int .i64 r2])∧Below w.heap.size w w':=by
 have bC:=Tryz.underlying131;have bI:=Tryz.underlying75;have HB:=am (Below.refl w.heap.size w);unfold kS.f at h;have H:=h;clear h;simp only[Option.some.injEq,Prod.mk.injEq]at H;obtain⟨rfl,rfl⟩:=H
 go_enter Tryz.func135,Tryz.ntmps135
 go_wp2_with (first|((with_reducible refine ai (N:=1) rfl ?_);refine di 1 #[.string bp,.int .i64 ak] 131 ?_;intro bD hg w2 hbox hb;have b1:=am (hbox);have bE:=dh hg;replace HB:=hB HB hb;clear hb hbox hg)|((with_reducible refine ai (N:=2) rfl ?_);refine di 2 #[.string (⟨#[]⟩:ByteArray),.int .i64 0] 75 ?_;intro b9 hg w3 hbox hb;have b2:=am (hbox);have bF:=dh hg;have b3:=eJ hg b1;have b4:=eK hg b1;replace b1:=bn b1 hb;replace HB:=hB HB hb;clear hb hbox hg)|((with_reducible refine ai (N:=3) rfl ?_);refine di 3 #[.string (⟨#[]⟩:ByteArray),.int .i64 0] 75 ?_;intro bG hg w4 hbox hb;have bB:=am (hbox);have bH:=dh hg;have b5:=eJ hg b1;have b6:=eK hg b1;have b7:=eJ hg b2;have b8:=eK hg b2;replace b1:=bn b1 hb;replace b2:=bn b2 hb;replace HB:=hB HB hb;clear hb hbox hg;have bJ:=b3.out;have bK:=b4.out;have bL:=b5.out;have bM:=b6.out;obtain⟨⟨_,_⟩,_,_⟩:=z2 b1;have bN:=b8.out;have bO:=b7.out;obtain⟨⟨_,_⟩,_,_⟩:=z2 bB;obtain⟨⟨_,_⟩,_,_⟩:=z2 b2))
 refine bodyPost_ret (results_cell_row rfl _ _ b9 75 #[.string bp,.int .i64 ak] (0,0) _ rfl (oP b2) Tryz.underlying75 rfl (by kernel_rfl)) rfl ?_;exact⟨oE,oB⟩

def kv.f (bp:ByteArray) (ak:ByteArray):Option (ByteArray×ByteArray):=some (bp,ak)
theorem kv.calls (bp:ByteArray) (ak:ByteArray) (r1:ByteArray) (r2:ByteArray) (w:World) (h:kv.f bp ak=some (r1,r2)):
  Calls Tryz.prog 136 #[.agg #[.string bp,.string ak]] w fun e w'=>e= .returned (.agg #[.string r1,.string r2])∧Below w.heap.size w w':=by
 have bC:=Tryz.underlying133;have bI:=Tryz.underlying82;have HB:=am (Below.refl w.heap.size w);unfold kv.f at h;have H:=h;clear h;simp only[Option.some.injEq,Prod.mk.injEq]at H;obtain⟨rfl,rfl⟩:=H
 go_enter Tryz.func136,Tryz.ntmps136
 go_wp2_with (first|((with_reducible refine ai (N:=1) rfl ?_);refine di 1 #[.string bp,.string ak] 133 ?_;intro bD hg w2 hbox hb;have b1:=am (hbox);have bE:=dh hg;replace HB:=hB HB hb;clear hb hbox hg)|((with_reducible refine ai (N:=2) rfl ?_);refine di 2 #[.string (⟨#[]⟩:ByteArray),.string (⟨#[]⟩:ByteArray)] 82 ?_;intro b9 hg w3 hbox hb;have b2:=am (hbox);have bF:=dh hg;have b3:=eJ hg b1;have b4:=eK hg b1;replace b1:=bn b1 hb;replace HB:=hB HB hb;clear hb hbox hg)|((with_reducible refine ai (N:=3) rfl ?_);refine di 3 #[.string (⟨#[]⟩:ByteArray),.string (⟨#[]⟩:ByteArray)] 82 ?_;intro bG hg w4 hbox hb;have bB:=am (hbox);have bH:=dh hg;have b5:=eJ hg b1;have b6:=eK hg b1;have b7:=eJ hg b2;have b8:=eK hg b2;replace b1:=bn b1 hb;replace b2:=bn b2 hb;replace HB:=hB HB hb;clear hb hbox hg;have bJ:=b3.out;have bK:=b4.out;have bL:=b5.out;have bM:=b6.out;obtain⟨⟨_,_⟩,_,_⟩:=z2 b1;have bN:=b8.out;have bO:=b7.out;obtain⟨⟨_,_⟩,_,_⟩:=z2 bB;obtain⟨⟨_,_⟩,_,_⟩:=z2 b2))
 refine bodyPost_ret (results_cell_row rfl _ _ b9 82 #[.string bp,.string ak] (0,0) _ rfl (oP b2) Tryz.underlying82 rfl (by kernel_rfl)) rfl ?_;exact⟨oE,oB⟩
-- NOT PRINTED: function 156 (slices_IndexFunc_string_string)
-- NOT PRINTED: function 143 (slices_ContainsFunc_string_string)
-- NOT PRINTED: function 100 (slices_IndexFunc_Inode)
-- NOT PRINTED: function 128 (impl_Inode_128)
-- NOT PRINTED: function 164 (slices_Reverse_Inode)
-- NOT PRINTED: function 149 (impl_Inode_149)
-- NOT PRINTED: function 129 (impl_Inode_129)
end Go.Proofs.YtlecajlnjmbilaaGreatDoor.P
