-- Printed walks.
import Derived.Test.YtlecajlnjmbilaaGreatDoorPx0
set_option linter.all false
set_option maxHeartbeats 8000000
set_option maxRecDepth 100000
namespace Go.Proofs.YtlecajlnjmbilaaGreatDoor.P
open Go.RowKit Go.Proofs.ab.ao Go.Proofs.ab.aE Go.Proofs.ab.aI
attribute [local go_sem] fV fW im iq fh fi fX fY

def ed.l0:Nat→List Int→List Int→Int→Option (List Int)
 |0,_,_,_=>none
 |k+1,x0,x3,x4=>if x4<(x0.length:Int)then(if 0≤x4 then(if x4<(x3.length:Int)then(ed.l0 k x0 (x3.set (x4:Int).toNat (rd x0 x4)) (wrap64 (x4+1)))else(none))else(none))else(some x3)
def ed.f (k:Nat) (l0:List Int):Option (List Int):=if 0≤(l0.length:Int)then(if((l0.length:Int):Int).toNat≤281474976710656 then(ed.l0 k l0 (List.replicate ((l0.length:Int):Int).toNat 0) 0)else(none))else(none)
theorem ed.calls (k:Nat) (A0:Option Addr) (c0:Nat) (l0:List Int) (r:List Int) (w:World) (hr0:Kd.C (Kd.int .u8) w A0 l0.length l0) (hc0:l0.length≤c0) (h:ed.f k l0=some r):
  Calls Tryz.prog 24 #[.slice A0 l0.length c0] w fun e w'=>∃iY:Value,e= .returned (iY)∧Kd.R (Kd.int .u8) 5 w' w.heap.size (fun _=>True) iY r∧Below w.heap.size w w':=by
 have bO:=ae.mk hr0;have d2:=ae.mk hc0;clear hr0 hc0;have HB:=am (Below.refl w.heap.size w);unfold ed.f at h;have H:=h;clear h;obtain⟨c2,H⟩:=lp H;have bJ:=eq_true c2;have bK:decide (0≤(l0.length:Int))=true:=decide_eq_true c2;clear c2;obtain⟨c3,H⟩:=lp H;have bV:=eq_true c3;have bW:decide (((l0.length:Int):Int).toNat≤281474976710656)=true:=decide_eq_true c3;clear c3;obtain⟨b9,dj⟩:∃y_:List Int,y_=(List.replicate ((l0.length:Int):Int).toNat 0):=⟨_,rfl⟩;replace H:(ed.l0 k l0 b9 0)=some r:=oY;have b8:=ae.mk dj;clear dj;have H':=ae.mk H;clear H
 go_enter Tryz.func24,Tryz.ntmps24
 go_wp2_with (first|((with_reducible refine aj (N:=7) rfl ?_);refine Kd.tE (Kd.int .u8) _ 5 rfl (N:=7) rfl 39 _ _ rfl (l0.length:Int) rfl rfl Tryz.underlying39 (.int .u8 0) 1 info5 rfl (by decide) (by omega) 0 (ok:=fun _=>True) (fU:=fun _=>True) rfl (fun _ hk=>hk) trivial oa (Nat.le_trans (Nat.mul_le_mul_right _ (oa:(l0.length:Int).toNat≤281474976710656)) (by omega)) (Below.refl _ _) (Nat.le_refl _) ?_;intro bL w4 b5 hb lv eG;clear lv eG;(first|rw[←b8.out]at b5|(simp only[Int.reduceToNat]at b5;rw[←b8.out]at b5));have bD:=am (Kd.ar b5 (ah oB));replace HB:=hB HB hb;clear hb b5))
 go_loopg [4] k (fun kq v4 w'=>∃(b2:List Int) (b1:Int),v4= .int .i64 b1∧ae (ed.l0 kq l0 b2 b1=some r)∧ae (kq≤k)∧ae (Kd.R (Kd.int .u8) 5 w' w.heap.size (fun _=>True) bL b2)∧ae (Below w.heap.size w w'))
 case atStart=>exact⟨(b9),(0),oS,H',⟨Nat.le_refl _⟩,⟨oR bD⟩,⟨oB⟩⟩
 case round=>
  clear H'
  try clear c2
  try clear bJ
  try clear bK
  try clear c3
  obtain⟨b2,b1,rfl,HA,bF,b3,HB⟩:=hrel
  cases gk with
  |zero=>exact absurd HA.out (by simp[ed.l0])
  |succ k1=>
   have H:=HA.out;clear HA;simp only[ed.l0]at H;replace H:=jd H;rcases H with⟨bM,H⟩|⟨bM,H⟩;rotate_left
   ·obtain rfl:=Option.some.inj H
    go_wp2
    go_ret
    exact⟨_,oE,oR b3,oB⟩
   obtain⟨bX,H⟩:=cX H;obtain⟨bY,H⟩:=cX H;obtain⟨b6,dj⟩:∃y_:List Int,y_=(b2.set (b1:Int).toNat (rd l0 b1)):=⟨_,rfl⟩;replace H:(ed.l0 k1 l0 b6 (wrap64 (b1+1)))=some r:=oY;have bE:=ae.mk dj;clear dj;have H':=ae.mk H;clear H;have bZ:(0≤(b1:Int))=True:=oT;have d1:(b1<(l0.length:Int))=True:=oT;obtain⟨bS,bN,b4⟩:=Kd.kB bO.out b1 oa oa
   cases bN
   replace b4:=cB HB b4;have p9:0≤(b1:Int):=oa;have q9:(b1:Int)<((b2.length:Int):Int):=oa;obtain⟨bB,bP,bG,bH,bQ,d3,bI⟩:=Kd.lI b3.out (by omega)
   (first|cases bG|(injection bG with js oX oZ;(first|subst js|(injection js with js;subst js));subst oZ;clear oX))
   have bR:=ae.mk bH;have d4:=ae.mk bI;clear bH bQ bI;obtain⟨bT,bU⟩:=Kd.pM 0 b3.out (b1:Int) p9 q9;replace p9:=eq_true p9;replace q9:=eq_true q9;have b7:=Kd.ru b3.out (b1:Int) (rd l0 b1)
   go_wp2_with (first|((with_reducible refine fu (t:=5) (p:=20) rfl ?_);refine fO (t:=5) (p:=20) (v:= ?ado) (w1:=(wr.setCell ⟨bB,(b1:Int).toNat,none⟩ (.int .u8 (rd l0 b1)))) ?hg ?ho ?hn ?hr ?_;(case ho=>rfl);(case hg=>rfl);(case hn=>rfl);(case hr=>first|(go_simp;done)|(go_simp;rfl));intro bC hw;have hg:wr.grownBy bC (some bB):=(by rw[hw];exact b7.2);have og:Kd.R (Kd.int .u8) 5 bC w.heap.size (fun _=>True) (.slice (some ⟨bB,0,none⟩) b2.length bP) b6:=(by rw[hw,bE.out];exact b7.1);clear b7;replace b3:=am (og);replace HB:=am ((by rw[hw];exact aN (HB.out) bR.out:Below w.heap.size w bC));clear hg hw og))
   go_roundg k1
   case measure=>have:=bF.out;omega
   case rel=>exact⟨(b6),(wrap64 (b1+1)),oS,H',⟨by have:=bF.out;omega⟩,⟨oR b3⟩,⟨oB⟩⟩

def ba.l0:Nat→Int→ByteArray→Option (ByteArray)
 |0,_,_=>none
 |k+1,x0,x3=>if x0>0 then((some (([(wrap64 (48+(Int.tmod x0 10)))%256]:List Int):List Int)).bind fun b1=>(if(strOfNums b1).size+x3.size≤9223372036854775807 then(ba.l0 k (wrap64 (Int.tdiv x0 10)) ((strOfNums b1)++x3))else(none)))else(if 1+x3.size≤9223372036854775807 then(some ((⟨#[109]⟩:ByteArray)++x3))else(none))
def ba.f (k:Nat) (a0:Int):Option (ByteArray):=if a0≤0 then(some (⟨#[109,48]⟩:ByteArray))else(ba.l0 k a0 (⟨#[]⟩:ByteArray))
theorem ba.calls (k:Nat) (a0:Int) (r:ByteArray) (w:World) (h:ba.f k a0=some r):
  Calls Tryz.prog 115 #[.int .i64 a0] w fun e w'=>e= .returned (.string r)∧Below w.heap.size w w':=by
 have HB:=am (Below.refl w.heap.size w);unfold ba.f at h;have H:=h;clear h;replace H:=jd H;rcases H with⟨b6,H⟩|⟨b6,H⟩
 ·obtain rfl:=Option.some.inj H
  go_enter Tryz.func115,Tryz.ntmps115
  go_wp2
  go_ret
  exact⟨oE,oB⟩
 have H':=ae.mk H;clear H
 go_enter Tryz.func115,Tryz.ntmps115
 go_wp2
 go_loopg [0,3] k (fun kq v0 v3 w'=>∃(b1:Int) (b2:ByteArray),v0= .int .i64 b1∧v3= .string b2∧ae (ba.l0 kq b1 b2=some r)∧ae (kq≤k)∧ae (Below w.heap.size w w'))
 case atStart=>exact⟨(a0),((⟨#[]⟩:ByteArray)),oS,oS,H',⟨Nat.le_refl _⟩,⟨oB⟩⟩
 case round=>
  clear H'
  try clear b6
  obtain⟨b1,b2,rfl,rfl,HA,b8,HB⟩:=hrel
  cases gk with
  |zero=>exact absurd HA.out (by simp[ba.l0])
  |succ k1=>
   have H:=HA.out;clear HA;simp only[ba.l0]at H;replace H:=itG H;rcases H with⟨b9,H⟩|⟨b9,H⟩;rotate_left
   ·obtain⟨c8,H⟩:=lp H;have bB:=eq_true c8;have bC:decide (1+b2.size≤9223372036854775807)=true:=decide_eq_true c8
    try have bD:(9223372036854775807<1+b2.size)=False:=eq_false (Nat.not_lt.2 c8)
    obtain rfl:=Option.some.inj H
    go_wp2
    go_ret
    exact⟨oE,oB⟩
   obtain⟨b3,dj⟩:∃y_:List Int,y_=(([(wrap64 (48+(Int.tmod b1 10)))%256]:List Int)):=⟨_,rfl⟩;replace H:(if(strOfNums b3).size+b2.size≤9223372036854775807 then(ba.l0 k1 (wrap64 (Int.tdiv b1 10)) ((strOfNums b3)++b2))else(none))=some r:=oY;have b5:=ae.mk dj;clear dj;obtain⟨c4,H⟩:=lp H;have bE:=eq_true c4;have bF:decide ((strOfNums b3).size+b2.size≤9223372036854775807)=true:=decide_eq_true c4
   try have bG:(9223372036854775807<(strOfNums b3).size+b2.size)=False:=eq_false (Nat.not_lt.2 c4)
   have H':=ae.mk H;clear H
   go_wp2_with (first|((with_reducible refine aj (N:=12) rfl ?_);refine Kd.ku (Kd.int .u8) _ 5 ?hg (N:=12) ?hd (xs:=([(wrap64 (48+(Int.tmod b1 10)))%256]:List Int)) (inner:=[.int .u8 ((wrap64 (48+(Int.tmod b1 10)))%256)]) (ok:=fun _=>True) (fU:=fun _=>True) ?hr ?hp (fun _ hk=>hk) trivial (Below.refl _ _) (Nat.le_refl _) (by simp) ?_;(case hd=>rfl);(case hg=>rfl);(case hr=>first|(go_simp;done)|(go_simp;rfl));(case hp=>exact(cW.one (show Kd.M (Kd.int .u8) _ _ _ ((wrap64 (48+(Int.tmod b1 10)))%256) [.int .u8 ((wrap64 (48+(Int.tmod b1 10)))%256)]from rfl) (cW.none _ _)));intro bH w5 b4 hb lv eG;clear lv eG;(first|rw[←b5.out]at b4|(simp only[Int.reduceToNat]at b4;rw[←b5.out]at b4));have b7:=am (Kd.ar b4 (ah oB));replace HB:=hB HB hb;clear hb b4;have bI:=wa (P:=Tryz.prog) Tryz.underlying39 Tryz.underlying5 Tryz.underlying9 (Kd.rn b7.out)))
   go_roundg k1
   case measure=>have:=b8.out;omega
   case rel=>exact⟨(wrap64 (Int.tdiv b1 10)),((strOfNums b3)++b2),oS,oS,H',⟨by have:=b8.out;omega⟩,⟨oB⟩⟩

def eS.l0:Nat→List Int→Int→Int→Option (Bool)
 |0,_,_,_=>none
 |k+1,x0,x1,x5=>if x5<(x0.length:Int)then(if 0≤x5 then(if(rd x0 x5)=x1 then(some true)else(eS.l0 k x0 x1 (wrap64 (x5+1))))else(none))else(some false)
def eS.f (k:Nat) (l0:List Int) (a1:Int):Option (Bool):=eS.l0 k l0 a1 0
theorem eS.calls (k:Nat) (A0:Option Addr) (c0:Nat) (l0:List Int) (a1:Int) (r:Bool) (w:World) (hr0:Kd.C (Kd.int .i64) w A0 l0.length l0) (hc0:l0.length≤c0) (h:eS.f k l0 a1=some r):
  Calls Tryz.prog 152 #[.slice A0 l0.length c0,.int .i64 a1] w fun e w'=>e= .returned (.bool r)∧fp w w':=by
 have b5:=ae.mk hr0;have bE:=ae.mk hc0;clear hr0 hc0;unfold eS.f at h;have H:=h;clear h;have H':=ae.mk H;clear H
 go_enter Tryz.func152,Tryz.ntmps152
 go_wp2
 go_loopg [5] k (fun kq v5 w'=>∃(b1:Int),v5= .int .i64 b1∧ae (eS.l0 kq l0 a1 b1=some r)∧ae (kq≤k)∧fp w w')
 case atStart=>exact⟨(0),oS,H',⟨Nat.le_refl _⟩,oD⟩
 case round=>
  clear H';obtain⟨b1,rfl,HA,b6,⟨m1,rfl⟩⟩:=hrel
  cases gk with
  |zero=>exact absurd HA.out (by simp[eS.l0])
  |succ k1=>
   have H:=HA.out;clear HA;simp only[eS.l0]at H;replace H:=jd H;rcases H with⟨b7,H⟩|⟨b7,H⟩;rotate_left
   ·obtain rfl:=Option.some.inj H
    go_wp2
    go_ret
    exact⟨oS,oD⟩
   obtain⟨bD,H⟩:=cX H
   by_cases c5:(rd l0 b1)=a1
   ·rw[if_pos c5]at H;have b8:((rd l0 b1)==a1)=true:=beq_iff_eq.mpr c5;have b9:((rd l0 b1) !=a1)=false:=bne_eq_false_iff_eq.mpr c5;clear c5;obtain rfl:=Option.some.inj H;have bB:(0≤(b1:Int))=True:=oT;have bC:(b1<(l0.length:Int))=True:=oT;obtain⟨b4,b2,b3⟩:=Kd.kB b5.out b1 oa oa
    cases b2
    go_wp2
    go_ret
    exact⟨oS,oD⟩
   rw[if_neg c5]at H;have b8:((rd l0 b1)==a1)=false:=beq_eq_false_iff_ne.mpr c5;have b9:((rd l0 b1) !=a1)=true:=bne_iff_ne.mpr c5;have H':=ae.mk H;clear H;have bB:(0≤(b1:Int))=True:=oT;have bC:(b1<(l0.length:Int))=True:=oT;obtain⟨b4,b2,b3⟩:=Kd.kB b5.out b1 oa oa
   cases b2
   go_wp2
   go_roundg k1
   case measure=>have:=b6.out;omega
   case rel=>exact⟨(wrap64 (b1+1)),oS,H',⟨by have:=b6.out;omega⟩,oD⟩

def cY.l0:Nat→List Int→Int→Int→Option (Int×List Int)
 |0,_,_,_=>none
 |k+1,x0,x1,x5=>if x5<(x0.length:Int)then(if 0≤x5 then(cY.l0 k (x0.set (x5:Int).toNat ((x1)%256)) (wrap64 (x1+1)) (wrap64 (x5+1)))else(none))else(some (x1,x0))
def cY.f (k:Nat) (l0:List Int) (a1:Int):Option (Int×List Int):=cY.l0 k l0 a1 0
theorem cY.calls (k:Nat) (ld:Nat→Prop) (iV:Value) (l0:List Int) (a1:Int) (r1:Int) (r2:List Int) (w0 w:World) (hB:Below w0.heap.size w0 w) (ho0:Kd.R (Kd.int .u8) 5 w w0.heap.size ld iV l0) (h:cY.f k l0 a1=some (r1,r2)):
  Calls Tryz.prog 27 #[iV,.int .i64 a1] w fun e w'=>e= .returned (.int .i64 r1)∧Kd.R (Kd.int .u8) 5 w' w0.heap.size (fun k_=>(ld k_∨w.heap.size≤k_)) iV r2∧Below w0.heap.size w0 w'∧Kept w w' (fun k_=>ld k_):=by
 have bF:=am (show Kd.R (Kd.int .u8) 5 w w0.heap.size (fun k_=>(ld k_∨w.heap.size≤k_)) iV l0 from Kd.bf ho0 (fun k_ hk=>(.inl hk)));have HK:=am (Kept.refl w (fun k_=>ld k_));have HW0:=ae.mk hB.size;have HB:=ae.mk hB;clear hB;unfold cY.f at h;have H:=h;clear h;have H':=ae.mk H;clear H
 go_enter Tryz.func27,Tryz.ntmps27
 go_wp2
 go_loopg [1,5] k (fun kq v1 v5 w'=>∃(b4:List Int) (b3:Int) (b1:Int),v1= .int .i64 b3∧v5= .int .i64 b1∧ae (cY.l0 kq b4 b3 b1=some (r1,r2))∧ae (kq≤k)∧ae (Kd.R (Kd.int .u8) 5 w' w0.heap.size (fun k_=>(ld k_∨w.heap.size≤k_)) iV b4)∧ae (Kept w w' (fun k_=>ld k_))∧ae (Below w0.heap.size w0 w'))
 case atStart=>exact⟨(l0),(a1),(0),oS,oS,H',⟨Nat.le_refl _⟩,⟨oR bF⟩,⟨oK⟩,⟨oB⟩⟩
 case round=>
  clear H';obtain⟨b4,b3,b1,rfl,rfl,HA,b9,b2,HK,HB⟩:=hrel
  cases gk with
  |zero=>exact absurd HA.out (by simp[cY.l0])
  |succ k1=>
   have H:=HA.out;clear HA;simp only[cY.l0]at H;replace H:=jd H;rcases H with⟨bE,H⟩|⟨bE,H⟩;rotate_left
   ·simp only[Option.some.injEq,Prod.mk.injEq]at H;obtain⟨rfl,rfl⟩:=H;obtain⟨bP,bQ,bG⟩:=Kd.aw b2.out;subst bG
    go_wp2
    go_ret
    exact⟨oE,oR b2,oB,oK⟩
   obtain⟨bO,H⟩:=cX H;obtain⟨b6,dj⟩:∃y_:List Int,y_=(b4.set (b1:Int).toNat ((b3)%256)):=⟨_,rfl⟩;replace H:(cY.l0 k1 b6 (wrap64 (b3+1)) (wrap64 (b1+1)))=some (r1,r2):=oY;have b8:=ae.mk dj;clear dj;have H':=ae.mk H;clear H;obtain⟨bR,bH,bI⟩:=Kd.aw b2.out;subst bI;have p5:0≤(b1:Int):=oa;have q5:(b1:Int)<((b4.length:Int):Int):=oa;obtain⟨b5,bS,bB,bC,bJ,bT,bD⟩:=Kd.lI b2.out (by omega)
   (first|cases bB|(injection bB with js oX oZ;(first|subst js|(injection js with js;subst js));subst oZ;clear oX))
   have bK:=ae.mk bC;have bU:=ae.mk bD;clear bC bJ bD;have bL:=am (show(ld b5∨w.heap.size≤b5)from(b2.out.1 _ rfl));obtain⟨bM,bN⟩:=Kd.pM 0 b2.out (b1:Int) p5 q5;replace p5:=eq_true p5;replace q5:=eq_true q5;have b7:=Kd.ru b2.out (b1:Int) ((b3)%256)
   go_wp2_with (first|((with_reducible refine fu (t:=5) (p:=16) rfl ?_);refine fO (t:=5) (p:=16) (v:= ?vo_w8) (w1:=(wr.setCell ⟨b5,(b1:Int).toNat,none⟩ (.int .u8 ((b3)%256)))) ?hg ?ho ?hn ?hr ?_;(case ho=>rfl);(case hg=>rfl);(case hn=>rfl);(case hr=>first|(go_simp;done)|(go_simp;rfl));intro w8 hw;have hg:wr.grownBy w8 (some b5):=(by rw[hw];exact b7.2);have og:Kd.R (Kd.int .u8) 5 w8 w0.heap.size (fun k_=>(ld k_∨w.heap.size≤k_)) (.slice (some ⟨b5,0,none⟩) b4.length bH) b6:=(by rw[hw,b8.out];exact b7.1);clear b7;replace b2:=am (og);replace HK:=am (Kept.kg (S:=(fun k_=>ld k_)) hg oK (fun k_ e_=>(b2.out.1 k_ e_)));replace HB:=am ((by rw[hw];exact aN (HB.out) bK.out:Below w0.heap.size w0 w8));clear hg hw og))
   go_roundg k1
   case measure=>have:=b9.out;omega
   case rel=>exact⟨(b6),(wrap64 (b3+1)),(wrap64 (b1+1)),oS,oS,H',⟨by have:=b9.out;omega⟩,⟨oR b2⟩,⟨oK⟩,⟨oB⟩⟩

def dq.l0:Nat→List Int→Int→Int→Option (Int)
 |0,_,_,_=>none
 |k+1,x0,x1,x5=>if x5<(x0.length:Int)then(if 0≤x5 then(if(rd x0 x5)=((x1)%256)then(dq.l0 k x0 (wrap64 (x1+1)) (wrap64 (x5+1)))else(some (-1)))else(none))else(some x1)
def dq.f (k:Nat) (l0:List Int) (a1:Int):Option (Int):=dq.l0 k l0 a1 0
theorem dq.calls (k:Nat) (A0:Option Addr) (c0:Nat) (l0:List Int) (a1:Int) (r:Int) (w:World) (hr0:Kd.C (Kd.int .u8) w A0 l0.length l0) (hc0:l0.length≤c0) (h:dq.f k l0 a1=some r):
  Calls Tryz.prog 75 #[.slice A0 l0.length c0,.int .i64 a1] w fun e w'=>e= .returned (.int .i64 r)∧fp w w':=by
 have b6:=ae.mk hr0;have bF:=ae.mk hc0;clear hr0 hc0;unfold dq.f at h;have H:=h;clear h;have H':=ae.mk H;clear H
 go_enter Tryz.func75,Tryz.ntmps75
 go_wp2
 go_loopg [1,5] k (fun kq v1 v5 w'=>∃(b2:Int) (b1:Int),v1= .int .i64 b2∧v5= .int .i64 b1∧ae (dq.l0 kq l0 b2 b1=some r)∧ae (kq≤k)∧fp w w')
 case atStart=>exact⟨(a1),(0),oS,oS,H',⟨Nat.le_refl _⟩,oD⟩
 case round=>
  clear H';obtain⟨b2,b1,rfl,rfl,HA,b7,⟨m1,rfl⟩⟩:=hrel
  cases gk with
  |zero=>exact absurd HA.out (by simp[dq.l0])
  |succ k1=>
   have H:=HA.out;clear HA;simp only[dq.l0]at H;replace H:=jd H;rcases H with⟨b8,H⟩|⟨b8,H⟩;rotate_left
   ·obtain rfl:=Option.some.inj H
    go_wp2
    go_ret
    exact⟨oS,oD⟩
   obtain⟨bE,H⟩:=cX H
   by_cases c5:(rd l0 b1)=((b2)%256)
   rotate_left
   ·rw[if_neg c5]at H;have b9:((rd l0 b1)==((b2)%256))=false:=beq_eq_false_iff_ne.mpr c5;have bB:((rd l0 b1) !=((b2)%256))=true:=bne_iff_ne.mpr c5;obtain rfl:=Option.some.inj H;have bC:(0≤(b1:Int))=True:=oT;have bD:(b1<(l0.length:Int))=True:=oT;obtain⟨b5,b3,b4⟩:=Kd.kB b6.out b1 oa oa
    cases b3
    go_wp2
    go_ret
    exact⟨oS,oD⟩
   rw[if_pos c5]at H;have b9:((rd l0 b1)==((b2)%256))=true:=beq_iff_eq.mpr c5;have bB:((rd l0 b1) !=((b2)%256))=false:=bne_eq_false_iff_eq.mpr c5;clear c5;have H':=ae.mk H;clear H;have bC:(0≤(b1:Int))=True:=oT;have bD:(b1<(l0.length:Int))=True:=oT;obtain⟨b5,b3,b4⟩:=Kd.kB b6.out b1 oa oa
   cases b3
   go_wp2
   go_roundg k1
   case measure=>have:=b7.out;omega
   case rel=>exact⟨(wrap64 (b2+1)),(wrap64 (b1+1)),oS,oS,H',⟨by have:=b7.out;omega⟩,oD⟩

def cC (ino:Int):List aZ→Nat→Int
 |[],_=> -1
 |x::l,i=>if x.f0=ino then(i:Int)else cC ino l (i+1)
theorem uR.calls (ino a b c:Int) (A3 A4 A5:Option Addr) (n3 c3 n4 c4 n5 c5:Nat) (B:Nat) (W:World) (hB:B<W.heap.size) (hc:W.cell? ⟨B,0,none⟩=some (.int .i64 ino)):
  Calls Tryz.prog 127 #[.agg #[.int .i64 a,.int .i64 b,.int .i64 c,.slice A3 n3 c3,.slice A4 n4 c4,.slice A5 n5 c5],.pointer (some ⟨B,0,none⟩)] W fun e w'=>e= .returned (.bool (a==ino))∧Below W.heap.size W w':=by
 have hne:B≠W.heap.size:=by omega
 go_enter Tryz.func127,Tryz.ntmps127
 go_wp2
 all_goals(go_ret;exact⟨by simp_all,(Below.refl _ W).alloc (Nat.le_refl _) _⟩)
theorem uS (ino:Int) (l:List aZ) (i:Nat) (h:∀x∈l,x.f0≠ino):cC ino l i= -1:=by
 induction l generalizing i with
 |nil=>rfl
 |cons x l ih=>rw[cC,if_neg (h x (List.mem_cons_self ..))];exact ih (i+1) (fun y hy=>h y (List.mem_cons_of_mem _ hy))
theorem xL (l:List aZ) (k:Nat) (h:k<l.length):af l (k:Int)=l[k]:=by
 simp[af,List.getD_eq_getElem?_getD,List.getElem?_eq_getElem h]
theorem wz (ino:Int) (l:List aZ) (k j:Nat) (h:k<l.length) (hit:(af l (k:Int)).f0=ino):cC ino (l.drop k) j=(j:Int):=by
 rw[List.drop_eq_getElem_cons h,cC,if_pos (by rw[←xL l k h];exact hit)]
theorem uT (ino:Int) (l:List aZ) (k j:Nat) (h:k<l.length) (hit:(af l (k:Int)).f0≠ino):cC ino (l.drop k) j=cC ino (l.drop (k+1)) (j+1):=by
 rw[List.drop_eq_getElem_cons h,cC,if_neg (by rw[←xL l k h];exact hit)]
theorem aaN.calls (ino:Int) (A0:Option Addr) (c0:Nat) (l:List aZ) (B:Nat) (w:World) (hr:fv.C w A0 l.length l) (hB:B<w.heap.size) (hc:w.cell? ⟨B,0,none⟩=some (.int .i64 ino)) (hl:l.length≤9223372036854775807):
  Calls Tryz.prog 100 #[.slice A0 l.length c0,.func (.func 127) #[] #[.pointer (some ⟨B,0,none⟩)]] w fun e w'=>e= .returned (.int .i64 (cC ino l 0))∧Below w.heap.size w w':=by
 go_enter Tryz.func100,Tryz.ntmps100
 go_wp2
 go_loopg [5,8] l.length (fun gg _ s8 wr=>∃kk:Nat,kk≤l.length∧l.length-kk≤gg∧s8= .int .i64 kk∧ae (Below w.heap.size w wr)∧ae (cC ino l 0=cC ino (l.drop kk) kk))
 case atStart=>exact⟨0,Nat.zero_le _,by omega,rfl,⟨Below.refl _ w⟩,⟨rfl⟩⟩
 case round=>
  obtain⟨kk,hkk,hg,rfl,BW,A⟩:=hrel
  by_cases hlt:kk<l.length
  rotate_left
  ·have hltz:¬(kk:Int)<(l.length:Int):=by omega
   obtain rfl:kk=l.length:=by omega
   go_wp2
   go_ret
   exact⟨by rw[A.out,List.drop_length];rfl,BW.out⟩
  have hltz:(kk:Int)<(l.length:Int):=by omega
  obtain⟨ad,A3,c3,A4,c4,A5,c5,e0,h0,h1,h2,h3,h4,h5,_⟩:=fy (Kd.da hr BW.out) (kk:Int) (by omega) hltz
  cases e0
  rw[Int.toNat_natCast]at h0 h1 h2 h3 h4 h5;have hBw:B<wr.heap.size:=Nat.lt_of_lt_of_le hB BW.out.size;have hcw:wr.cell? ⟨B,0,none⟩=some (.int .i64 ino):=(BW.out.cell (p:=⟨B,0,none⟩) hB).trans hc
  by_cases hit:(af l (kk:Int)).f0=ino
  ·have hq:((af l (kk:Int)).f0==ino)=true:=by simpa using hit
   go_wp2_with (go_at_call 127;refine(uR.calls ino _ _ _ _ _ _ _ _ _ _ _ _ B wr hBw hcw).mono ?_;rintro e w' ⟨rfl,hb'⟩)
   go_ret
   exact⟨by rw[A.out,wz ino l kk kk hlt hit];rfl,er BW.out BW.out.size hb'⟩
  have hq:((af l (kk:Int)).f0==ino)=false:=by simpa using hit
  go_wp2_with (go_at_call 127;refine(uR.calls ino _ _ _ _ _ _ _ _ _ _ _ _ B wr hBw hcw).mono ?_;rintro e w' ⟨rfl,hb'⟩)
  go_roundg (l.length-(kk+1))
  case measure=>omega
  case rel=>exact⟨kk+1,by omega,by omega,by go_num,⟨er BW.out BW.out.size hb'⟩,⟨by rw[A.out,uT ino l kk kk hlt hit]⟩⟩
def ez.f (k:Nat) (ag:List aZ) (ak a1:Int):Option Int:=if(ag.length:Int)≤9223372036854775807 then some (cC a1 ag 0)else none
theorem ez.calls (k:Nat) (bl:Option Addr) (aW:Nat) (ag:List aZ) (ak a1:Int) (r:Int) (w:World) (cg:Kd.C fv w bl ag.length ag) (ch:ag.length≤aW) (h:ez.f k ag ak a1=some r):
  Calls Tryz.prog 99 #[.agg #[.slice bl ag.length aW,.int .i64 ak],.int .i64 a1] w fun e w'=>e= .returned (.int .i64 r)∧Below w.heap.size w w':=by
 unfold ez.f at h
 split at h
 case isFalse=>cases h
 case isTrue hl=>
 obtain rfl:=Option.some.inj h;clear h;have b1:Below w.heap.size w (w.alloc (.cells #[.slice bl ag.length aW,.int .i64 ak] 28)):=(Below.refl _ w).alloc (Nat.le_refl _) _;have b2:Below w.heap.size w ((w.alloc (.cells #[.slice bl ag.length aW,.int .i64 ak] 28)).alloc (.cells #[.int .i64 a1] 3)):=b1.alloc (by simp) _;have hcon:=aaN.calls a1 bl aW ag (w.heap.size+1) ((w.alloc (.cells #[.slice bl ag.length aW,.int .i64 ak] 28)).alloc (.cells #[.int .i64 a1] 3)) (Kd.da cg b2) (by simp) (by simp) (by omega);clear cg b1
 go_enter Tryz.func99,Tryz.ntmps99
 go_wp2_with (go_at_call 100;refine hcon.mono ?_;rintro e w' ⟨rfl,hb'⟩)
 go_ret
 exact⟨rfl,er b2 (by simp only[World.size_alloc];omega) hb'⟩
def cZ.f (bo:Int) (ak:Int) (cE:Int) (cf:List Int) (aJ:List (db)) (cr:List (ey)):Option (Int×Int×Int×List Int×(List (db))×(List (ey))):=(some (([]:List Int):List Int)).bind fun b1=>(if b1.length+cf.length<140737488355328 then((some (([]:List (db)):List (db))).bind fun b2=>(if b2.length+aJ.length<5864062014805 then((some (([]:List (ey)):List (ey))).bind fun b3=>(if b3.length+cr.length<4398046511104 then(some (bo,ak,cE,(b1++cf),(b2++aJ),(b3++cr)))else(none)))else(none)))else(none))
theorem cZ.calls (bo:Int) (ak:Int) (cE:Int) (fP:Option Addr) (fQ:Nat) (cf:List Int) (fM:Option Addr) (fN:Nat) (aJ:List (db)) (fA:Option Addr) (fC:Nat) (cr:List (ey)) (r1:Int) (r2:Int) (r3:Int) (r4:List Int) (r5:List (db)) (r6:List (ey)) (w:World) (iH:Kd.C (Kd.int .u8) w fP cf.length cf) (iI:cf.length≤fQ) (iJ:Kd.C iA w fM aJ.length aJ) (iK:aJ.length≤fN) (iL:Kd.C jr w fA cr.length cr) (iM:cr.length≤fC) (h:cZ.f bo ak cE cf aJ cr=some (r1,r2,r3,r4,r5,r6)):
  Calls Tryz.prog 83 #[.agg #[.int .i64 bo,.int .i64 ak,.int .i64 cE,.slice fP cf.length fQ,.slice fM aJ.length fN,.slice fA cr.length fC]] w fun e w'=>∃rJ rK rL:Value,e= .returned (.agg #[.int .i64 r1,.int .i64 r2,.int .i64 r3,rJ,rK,rL])∧Kd.R (Kd.int .u8) 5 w' w.heap.size (fun _=>True) rJ r4∧Kd.R iA 75 w' w.heap.size (fun _=>True) rK r5∧Kd.R jr 82 w' w.heap.size (fun _=>True) rL r6∧Below w.heap.size w w':=by
 have dS:=Tryz.underlying58;have bX:=ae.mk iH;have dG:=ae.mk iI;clear iH iI;have bY:=ae.mk iJ;have dH:=ae.mk iK;clear iJ iK;have bZ:=ae.mk iL;have dI:=ae.mk iM;clear iL iM;have HB:=am (Below.refl w.heap.size w);unfold cZ.f at h;have H:=h;clear h;obtain⟨bH,dj⟩:∃y_:List Int,y_=(([]:List Int)):=⟨_,rfl⟩;replace H:(if bH.length+cf.length<140737488355328 then((some (([]:List (db)):List (db))).bind fun b6=>(if b6.length+aJ.length<5864062014805 then((some (([]:List (ey)):List (ey))).bind fun b4=>(if b4.length+cr.length<4398046511104 then(some (bo,ak,cE,(bH++cf),(b6++aJ),(b4++cr)))else(none)))else(none)))else(none))=some (r1,r2,r3,r4,r5,r6):=oY;have bQ:=ae.mk dj;clear dj;obtain⟨c2,H⟩:=lp H;have d5:=ae.mk c2;clear c2;obtain⟨b8,dj⟩:∃y_:List Int,y_=(bH++cf):=⟨_,rfl⟩;replace H:((some (([]:List (db)):List (db))).bind fun b6=>(if b6.length+aJ.length<5864062014805 then((some (([]:List (ey)):List (ey))).bind fun b4=>(if b4.length+cr.length<4398046511104 then(some (bo,ak,cE,b8,(b6++aJ),(b4++cr)))else(none)))else(none)))=some (r1,r2,r3,r4,r5,r6):=oY;have d1:=ae.mk dj;clear dj;obtain⟨b6,dj⟩:∃y_:List (db),y_=(([]:List (db))):=⟨_,rfl⟩;replace H:(if b6.length+aJ.length<5864062014805 then((some (([]:List (ey)):List (ey))).bind fun b4=>(if b4.length+cr.length<4398046511104 then(some (bo,ak,cE,b8,(b6++aJ),(b4++cr)))else(none)))else(none))=some (r1,r2,r3,r4,r5,r6):=oY;have bR:=ae.mk dj;clear dj;obtain⟨c3,H⟩:=lp H;have d6:=ae.mk c3;clear c3;obtain⟨bD,dj⟩:∃y_:List (db),y_=(b6++aJ):=⟨_,rfl⟩;replace H:((some (([]:List (ey)):List (ey))).bind fun b4=>(if b4.length+cr.length<4398046511104 then(some (bo,ak,cE,b8,bD,(b4++cr)))else(none)))=some (r1,r2,r3,r4,r5,r6):=oY;have d2:=ae.mk dj;clear dj;obtain⟨b4,dj⟩:∃y_:List (ey),y_=(([]:List (ey))):=⟨_,rfl⟩;replace H:(if b4.length+cr.length<4398046511104 then(some (bo,ak,cE,b8,bD,(b4++cr)))else(none))=some (r1,r2,r3,r4,r5,r6):=oY;have bS:=ae.mk dj;clear dj;obtain⟨c4,H⟩:=lp H;have d7:=ae.mk c4;clear c4;obtain⟨bU,dj⟩:∃y_:List (ey),y_=(b4++cr):=⟨_,rfl⟩;replace H:(some (bo,ak,cE,b8,bD,bU))=some (r1,r2,r3,r4,r5,r6):=oY;have d3:=ae.mk dj;clear dj;simp only[Option.some.injEq,Prod.mk.injEq]at H;obtain⟨rfl,rfl,rfl,rfl,rfl,rfl⟩:=H
 go_enter Tryz.func83,Tryz.ntmps83
 go_wp2_with (first|((with_reducible refine aj (N:=1) rfl ?_);refine dp 1 #[.int .i64 bo,.int .i64 ak,.int .i64 cE,.slice fP cf.length fQ,.slice fM aJ.length fN,.slice fA cr.length fC] 58 ?_;intro dJ hg w5 hbox hb;have b1:=am (hbox);have dK:=dn hg;replace HB:=hB HB hb;clear hb hbox hg)|((with_reducible refine aj (N:=2) rfl ?_);refine dp 2 #[.int .i64 0,.int .i64 0,.int .i64 0,.slice none 0 0,.slice none 0 0,.slice none 0 0] 58 ?_;intro d4 hg w6 hbox hb;have b3:=am (hbox);have dL:=dn hg;have bI:=eN hg b1;have bJ:=eO hg b1;replace b1:=bj b1 hb;replace HB:=hB HB hb;clear hb hbox hg;have dT:=bI.out;have dU:=bJ.out;obtain⟨⟨_,_,_,_,_,_⟩,_,_,_,_,_,_⟩:=z6 b1)|((with_reducible refine aj (N:=3) rfl ?_);refine dp 3 #[.int .i64 0,.int .i64 0,.int .i64 0,.slice none 0 0,.slice none 0 0,.slice none 0 0] 58 ?_;intro dM hg w9 hbox hb;have b2:=am (hbox);have dN:=dn hg;have bK:=eN hg b1;have bL:=eO hg b1;have bM:=eN hg b3;have bN:=eO hg b3;replace b1:=bj b1 hb;replace b3:=bj b3 hb;replace HB:=hB HB hb;clear hb hbox hg;have dO:=bL.out;have dP:=bK.out;have dQ:=bN.out;have dR:=bM.out;obtain⟨⟨_,_,_,_,_,_⟩,_,_,_,_,_,_⟩:=z6 b2)|((with_reducible refine aj (N:=5) rfl ?_);refine Kd.ku (Kd.int .u8) _ 5 ?hg (N:=5) ?hd (xs:=([]:List Int)) (inner:=[]) (ok:=fun _=>True) (fU:=fun _=>True) ?hr ?hp (fun _ hk=>hk) trivial (Below.refl _ _) (Nat.le_refl _) (by simp) ?_;(case hd=>rfl);(case hg=>rfl);(case hr=>first|(go_simp;done)|(go_simp;rfl));(case hp=>exact(cW.none _ _));intro d8 dY bE hb lv eG;clear lv eG;(first|rw[←bQ.out]at bE|(simp only[Int.reduceToNat]at bE;rw[←bQ.out]at bE));have bC:=am (Kd.ar bE (ah oB));replace b1:=bj b1 hb;replace b3:=bj b3 hb;replace b2:=rg #[.int .i64 bo,.int .i64 ak,.int .i64 cE,.slice fP cf.length fQ,.slice fM aJ.length fN,.slice fA cr.length fC] b2 hb;replace HB:=hB HB hb;clear hb bE;obtain⟨⟨_,_,_,_,_,_⟩,_,_,_,_,_,_⟩:=z6 b1)|((with_reducible refine eb (b:= .append) (xs:= #[.tmp 5,.tmp 7]) rfl ?_);at_builtin;refine Kd.fE (Kd.int .u8) (w0:=w) w.heap.size rfl (.tmp 5) (.tmp 7) 39 5 (.int .u8 0) 1 rfl Tryz.underlying39 info5 rfl (by decide) (by omega) d8 bH cf _ _ _ (fun _=>True) (fun _=>False) rfl rfl ?aO ?aR (fun _ _ h=>h) (fun _ h=>h.elim) ?aF ?aB ?aS ?aL ?_;(case aR=>repeat(first|exact(Kd.da bX.out HB.out)|(with_reducible refine Kd.eU ?_ _)|(with_reducible refine Kd.eV ?_ _)|(with_reducible refine Kd.fI ?_)));(case aB=>exact oB);(case aF=>exact(fun _ _=>trivial));(case aO=>exact(oR bC));(case aS=>exact(ah oB));(case aL=>have:=d5.out;omega);intro dV dZ ho hb hg hat;rw[←d1.out]at ho;have b5:=am (ho);replace b1:=lO b1 hg (Kd.nC bC.out b1.out (by decide));replace b3:=lO b3 hg (Kd.nC bC.out b3.out (by decide));replace b2:=lO b2 hg (Kd.nC bC.out b2.out (by decide));replace HB:=am (hb);clear bC;clear ho hb hg hat;obtain⟨bO,bP,d9⟩:=Kd.aw b5.out;subst d9;obtain⟨⟨_,_,_,_,_,_⟩,_,_,_,_,_,_⟩:=z6 b2)|((with_reducible refine aj (N:=10) rfl ?_);refine Kd.ku iA _ 75 ?hg (N:=10) ?hd (xs:=([]:List (db))) (inner:=[]) (ok:=fun _=>True) (fU:=fun _=>True) ?hr ?hp (fun _ hk=>hk) trivial (Below.refl _ _) (Nat.le_refl _) (by simp) ?_;(case hd=>rfl);(case hg=>rfl);(case hr=>first|(go_simp;done)|(go_simp;rfl));(case hp=>exact(cW.none _ _));intro dA gA bF hb lv eG;clear lv eG;(first|rw[←bR.out]at bF|(simp only[Int.reduceToNat]at bF;rw[←bR.out]at bF));have b9:=am (Kd.ar bF (ah oB));replace b5:=ky b5 b2 hb;replace b1:=bj b1 hb;replace b3:=bj b3 hb;replace b2:=rg #[.int .i64 bo,.int .i64 ak,.int .i64 cE,.slice bO b8.length bP,.slice fM aJ.length fN,.slice fA cr.length fC] b2 hb;replace HB:=hB HB hb;clear hb bF;obtain⟨⟨_,_,_,_,_,_⟩,_,_,_,_,_,_⟩:=z6 b1)|((with_reducible refine eb (b:= .append) (xs:= #[.tmp 10,.tmp 12]) rfl ?_);at_builtin;refine Kd.fE iA (w0:=w) w.heap.size rfl (.tmp 10) (.tmp 12) 55 75 (.agg #[(.string ⟨#[]⟩),(.int .i64 0)]) 24 rfl Tryz.underlying55 tw rfl (by decide) (by omega) dA b6 aJ _ _ _ (fun _=>True) (fun _=>False) rfl rfl ?aO ?aR (fun _ _ h=>h) (fun _ h=>h.elim) ?aF ?aB ?aS ?aL ?_;(case aR=>repeat(first|exact(Kd.da bY.out HB.out)|(with_reducible refine Kd.eU ?_ _)|(with_reducible refine Kd.eV ?_ _)|(with_reducible refine Kd.fI ?_)));(case aB=>exact oB);(case aF=>exact(fun _ _=>trivial));(case aO=>exact(oR b9));(case aS=>exact(ah oB));(case aL=>have:=d6.out;omega);intro dW gB ho hb hg hat;rw[←d2.out]at ho;have bB:=am (ho);replace b1:=lO b1 hg (Kd.nC b9.out b1.out (by decide));replace b3:=lO b3 hg (Kd.nC b9.out b3.out (by decide));replace b2:=lO b2 hg (Kd.nC b9.out b2.out (by decide));replace b5:=am (Kd.ks (oR b5) (Kd.iw (oR b9)) (by decide) hg);replace HB:=am (hb);clear b9;clear ho hb hg hat;obtain⟨bV,bW,dB⟩:=Kd.aw bB.out;subst dB;obtain⟨⟨_,_,_,_,_,_⟩,_,_,_,_,_,_⟩:=z6 b2)|((with_reducible refine aj (N:=15) rfl ?_);refine Kd.ku jr _ 82 ?hg (N:=15) ?hd (xs:=([]:List (ey))) (inner:=[]) (ok:=fun _=>True) (fU:=fun _=>True) ?hr ?hp (fun _ hk=>hk) trivial (Below.refl _ _) (Nat.le_refl _) (by simp) ?_;(case hd=>rfl);(case hg=>rfl);(case hr=>first|(go_simp;done)|(go_simp;rfl));(case hp=>exact(cW.none _ _));intro dC gC bG hb lv eG;clear lv eG;(first|rw[←bS.out]at bG|(simp only[Int.reduceToNat]at bG;rw[←bS.out]at bG));have b7:=am (Kd.ar bG (ah oB));replace b5:=ky b5 b2 hb;replace bB:=ky bB b2 hb;replace b1:=bj b1 hb;replace b3:=bj b3 hb;replace b2:=rg #[.int .i64 bo,.int .i64 ak,.int .i64 cE,.slice bO b8.length bP,.slice bV bD.length bW,.slice fA cr.length fC] b2 hb;replace HB:=hB HB hb;clear hb bG;obtain⟨⟨_,_,_,_,_,_⟩,_,_,_,_,_,_⟩:=z6 b1)|((with_reducible refine eb (b:= .append) (xs:= #[.tmp 15,.tmp 17]) rfl ?_);at_builtin;refine Kd.fE jr (w0:=w) w.heap.size rfl (.tmp 15) (.tmp 17) 56 82 (.agg #[(.string ⟨#[]⟩),(.string ⟨#[]⟩)]) 32 rfl Tryz.underlying56 vZ rfl (by decide) (by omega) dC b4 cr _ _ _ (fun _=>True) (fun _=>False) rfl rfl ?aO ?aR (fun _ _ h=>h) (fun _ h=>h.elim) ?aF ?aB ?aS ?aL ?_;(case aR=>repeat(first|exact(Kd.da bZ.out HB.out)|(with_reducible refine Kd.eU ?_ _)|(with_reducible refine Kd.eV ?_ _)|(with_reducible refine Kd.fI ?_)));(case aB=>exact oB);(case aF=>exact(fun _ _=>trivial));(case aO=>exact(oR b7));(case aS=>exact(ah oB));(case aL=>have:=d7.out;omega);intro dX gD ho hb hg hat;rw[←d3.out]at ho;have bT:=am (ho);replace b1:=lO b1 hg (Kd.nC b7.out b1.out (by decide));replace b3:=lO b3 hg (Kd.nC b7.out b3.out (by decide));replace b2:=lO b2 hg (Kd.nC b7.out b2.out (by decide));replace b5:=am (Kd.ks (oR b5) (Kd.iw (oR b7)) (by decide) hg);replace bB:=am (Kd.ks (oR bB) (Kd.iw (oR b7)) (by decide) hg);replace HB:=am (hb);clear b7;clear ho hb hg hat;obtain⟨dD,dE,dF⟩:=Kd.aw bT.out;subst dF;obtain⟨⟨_,_,_,_,_,_⟩,_,_,_,_,_,_⟩:=z6 b2;obtain⟨⟨_,_,_,_,_,_⟩,_,_,_,_,_,_⟩:=z6 b3))
 refine bodyPost_ret (results_cell_row rfl _ _ d4 58 #[.int .i64 bo,.int .i64 ak,.int .i64 cE,.slice bO b8.length bP,.slice bV bD.length bW,.slice dD bU.length dE] (0,0) _ rfl (oP b3) Tryz.underlying58 rfl (by kernel_rfl)) rfl ?_;exact⟨_,_,_,oE,ux b5 b2 b3,ux bB b2 b3,ux bT b2 b3,oB⟩

def cH.f (l0:List (db)):Option ((List (db))):=(some (([]:List (db)):List (db))).bind fun b1=>(if b1.length+l0.length<5864062014805 then(some (b1++l0))else(none))
theorem cH.mc (a0_:Addr) (c0:Nat) (l0:List (db)) (r:List (db)) (w:World) (hr0:Kd.C iA w (some a0_) l0.length l0) (hc0:l0.length≤c0) (h:cH.f l0=some r):
  Calls Tryz.prog 96 #[.slice (some a0_) l0.length c0] w fun e w'=>∃iY:Value,e= .returned (iY)∧Kd.R iA 75 w' w.heap.size (fun _=>True) iY r∧Below w.heap.size w w':=by
 have bB:=ae.mk hr0;have bD:=ae.mk hc0;clear hr0 hc0;have HB:=am (Below.refl w.heap.size w);unfold cH.f at h;have H:=h;clear h;obtain⟨b1,dj⟩:∃y_:List (db),y_=(([]:List (db))):=⟨_,rfl⟩;replace H:(if b1.length+l0.length<5864062014805 then(some (b1++l0))else(none))=some r:=oY;have b3:=ae.mk dj;clear dj
 by_cases c2:b1.length+l0.length<5864062014805
 rotate_left
 ·rw[if_neg c2]at H;exact absurd H (by simp)
 rw[if_pos c2]at H;have b7:=ae.mk c2;clear c2;obtain⟨b8,dj⟩:∃y_:List (db),y_=(b1++l0):=⟨_,rfl⟩;replace H:(some b8)=some r:=oY;have b5:=ae.mk dj;clear dj;obtain rfl:=Option.some.inj H;have hq_:=Lib.run_eql_slice_nil (P:=Tryz.prog) w 55 75 (some a0_) l0.length c0 0 0 (by kernel_rfl)
 go_enter Tryz.func96,Tryz.ntmps96
 go_wp2_with (first|((with_reducible refine aj (N:=5) rfl ?_);refine Kd.ku iA _ 75 ?hg (N:=5) ?hd (xs:=([]:List (db))) (inner:=[]) (ok:=fun _=>True) (fU:=fun _=>True) ?hr ?hp (fun _ hk=>hk) trivial (Below.refl _ _) (Nat.le_refl _) (by simp) ?_;(case hd=>rfl);(case hg=>rfl);(case hr=>first|(go_simp;done)|(go_simp;rfl));(case hp=>exact(cW.none _ _));intro b9 w3 b2 hb lv eG;clear lv eG;(first|rw[←b3.out]at b2|(simp only[Int.reduceToNat]at b2;rw[←b3.out]at b2));have b4:=am (Kd.ar b2 (ah oB));replace HB:=hB HB hb;clear hb b2)|((with_reducible refine eb (b:= .append) (xs:= #[.tmp 5,.tmp 6]) rfl ?_);at_builtin;refine Kd.fE iA (w0:=w) w.heap.size rfl (.tmp 5) (.tmp 6) 55 75 (.agg #[(.string ⟨#[]⟩),(.int .i64 0)]) 24 rfl Tryz.underlying55 tw rfl (by decide) (by omega) b9 b1 l0 _ _ _ (fun _=>True) (fun _=>False) rfl rfl ?aO ?aR (fun _ _ h=>h) (fun _ h=>h.elim) ?aF ?aB ?aS ?aL ?_;(case aR=>repeat(first|exact(Kd.da bB.out HB.out)|(with_reducible refine Kd.eU ?_ _)|(with_reducible refine Kd.eV ?_ _)|(with_reducible refine Kd.fI ?_)));(case aB=>exact oB);(case aF=>exact(fun _ _=>trivial));(case aO=>exact(oR b4));(case aS=>exact(ah oB));(case aL=>have:=b7.out;omega);intro bC w5 ho hb hg hat;rw[←b5.out]at ho;have b6:=am (ho);replace HB:=am (hb);clear b4;clear ho hb hg hat))
 go_ret
 exact⟨_,oE,oR b6,oB⟩
theorem cH.calls (A0:Option Addr) (c0:Nat) (l0:List (db)) (r:List (db)) (w:World) (hr0:Kd.C iA w A0 l0.length l0) (hc0:l0.length≤c0) (h:cH.f l0=some r):
  Calls Tryz.prog 96 #[.slice A0 l0.length c0] w fun e w'=>∃iY:Value,e= .returned (iY)∧Kd.R iA 75 w' w.heap.size (fun _=>True) iY r∧Below w.heap.size w w':=by
 rcases A0 with _|b1
 ·have hl_:l0=[]:=by
   rcases Nat.eq_zero_or_pos l0.length with hz_|hz_
   ·exact List.eq_nil_of_length_eq_zero hz_
   ·obtain⟨ad_,he_,_⟩:=hr0.2.2 hz_
    cases he_
  subst hl_
  obtain rfl:r=[]:=by
   simp[cH.f]at h;exact h
  have hq_:=Lib.run_eql_slice_nil (P:=Tryz.prog) w 55 75 none 0 c0 0 0 (by kernel_rfl)
  go_enter Tryz.func96,Tryz.ntmps96
  go_wp2
  go_ret
  exact⟨_,rfl,Kd.fD _ _ _ _ _,Below.refl _ _⟩
 ·exact cH.mc b1 c0 l0 r w hr0 hc0 h

def cy.f (l0:List Int):Option (List Int):=(some (([]:List Int):List Int)).bind fun b1=>(if b1.length+l0.length<140737488355328 then(some (b1++l0))else(none))
theorem cy.mc (a0_:Addr) (c0:Nat) (l0:List Int) (r:List Int) (w:World) (hr0:Kd.C (Kd.int .u8) w (some a0_) l0.length l0) (hc0:l0.length≤c0) (h:cy.f l0=some r):
  Calls Tryz.prog 119 #[.slice (some a0_) l0.length c0] w fun e w'=>∃iY:Value,e= .returned (iY)∧Kd.R (Kd.int .u8) 5 w' w.heap.size (fun _=>True) iY r∧Below w.heap.size w w':=by
 have bB:=ae.mk hr0;have bD:=ae.mk hc0;clear hr0 hc0;have HB:=am (Below.refl w.heap.size w);unfold cy.f at h;have H:=h;clear h;obtain⟨b1,dj⟩:∃y_:List Int,y_=(([]:List Int)):=⟨_,rfl⟩;replace H:(if b1.length+l0.length<140737488355328 then(some (b1++l0))else(none))=some r:=oY;have b3:=ae.mk dj;clear dj
 by_cases c2:b1.length+l0.length<140737488355328
 rotate_left
 ·rw[if_neg c2]at H;exact absurd H (by simp)
 rw[if_pos c2]at H;have b7:=ae.mk c2;clear c2;obtain⟨b8,dj⟩:∃y_:List Int,y_=(b1++l0):=⟨_,rfl⟩;replace H:(some b8)=some r:=oY;have b5:=ae.mk dj;clear dj;obtain rfl:=Option.some.inj H;have hq_:=Lib.run_eql_slice_nil (P:=Tryz.prog) w 39 5 (some a0_) l0.length c0 0 0 (by kernel_rfl)
 go_enter Tryz.func119,Tryz.ntmps119
 go_wp2_with (first|((with_reducible refine aj (N:=5) rfl ?_);refine Kd.ku (Kd.int .u8) _ 5 ?hg (N:=5) ?hd (xs:=([]:List Int)) (inner:=[]) (ok:=fun _=>True) (fU:=fun _=>True) ?hr ?hp (fun _ hk=>hk) trivial (Below.refl _ _) (Nat.le_refl _) (by simp) ?_;(case hd=>rfl);(case hg=>rfl);(case hr=>first|(go_simp;done)|(go_simp;rfl));(case hp=>exact(cW.none _ _));intro b9 w3 b2 hb lv eG;clear lv eG;(first|rw[←b3.out]at b2|(simp only[Int.reduceToNat]at b2;rw[←b3.out]at b2));have b4:=am (Kd.ar b2 (ah oB));replace HB:=hB HB hb;clear hb b2)|((with_reducible refine eb (b:= .append) (xs:= #[.tmp 5,.tmp 6]) rfl ?_);at_builtin;refine Kd.fE (Kd.int .u8) (w0:=w) w.heap.size rfl (.tmp 5) (.tmp 6) 39 5 (.int .u8 0) 1 rfl Tryz.underlying39 info5 rfl (by decide) (by omega) b9 b1 l0 _ _ _ (fun _=>True) (fun _=>False) rfl rfl ?aO ?aR (fun _ _ h=>h) (fun _ h=>h.elim) ?aF ?aB ?aS ?aL ?_;(case aR=>repeat(first|exact(Kd.da bB.out HB.out)|(with_reducible refine Kd.eU ?_ _)|(with_reducible refine Kd.eV ?_ _)|(with_reducible refine Kd.fI ?_)));(case aB=>exact oB);(case aF=>exact(fun _ _=>trivial));(case aO=>exact(oR b4));(case aS=>exact(ah oB));(case aL=>have:=b7.out;omega);intro bC w5 ho hb hg hat;rw[←b5.out]at ho;have b6:=am (ho);replace HB:=am (hb);clear b4;clear ho hb hg hat))
 go_ret
 exact⟨_,oE,oR b6,oB⟩
theorem cy.calls (A0:Option Addr) (c0:Nat) (l0:List Int) (r:List Int) (w:World) (hr0:Kd.C (Kd.int .u8) w A0 l0.length l0) (hc0:l0.length≤c0) (h:cy.f l0=some r):
  Calls Tryz.prog 119 #[.slice A0 l0.length c0] w fun e w'=>∃iY:Value,e= .returned (iY)∧Kd.R (Kd.int .u8) 5 w' w.heap.size (fun _=>True) iY r∧Below w.heap.size w w':=by
 rcases A0 with _|b1
 ·have hl_:l0=[]:=by
   rcases Nat.eq_zero_or_pos l0.length with hz_|hz_
   ·exact List.eq_nil_of_length_eq_zero hz_
   ·obtain⟨ad_,he_,_⟩:=hr0.2.2 hz_
    cases he_
  subst hl_
  obtain rfl:r=[]:=by
   simp[cy.f]at h;exact h
  have hq_:=Lib.run_eql_slice_nil (P:=Tryz.prog) w 39 5 none 0 c0 0 0 (by kernel_rfl)
  go_enter Tryz.func119,Tryz.ntmps119
  go_wp2
  go_ret
  exact⟨_,rfl,Kd.fD _ _ _ _ _,Below.refl _ _⟩
 ·exact cy.mc b1 c0 l0 r w hr0 hc0 h

def dd.f (l0:List (ey)):Option ((List (ey))):=(some (([]:List (ey)):List (ey))).bind fun b1=>(if b1.length+l0.length<4398046511104 then(some (b1++l0))else(none))
theorem dd.mc (a0_:Addr) (c0:Nat) (l0:List (ey)) (r:List (ey)) (w:World) (hr0:Kd.C jr w (some a0_) l0.length l0) (hc0:l0.length≤c0) (h:dd.f l0=some r):
  Calls Tryz.prog 120 #[.slice (some a0_) l0.length c0] w fun e w'=>∃iY:Value,e= .returned (iY)∧Kd.R jr 82 w' w.heap.size (fun _=>True) iY r∧Below w.heap.size w w':=by
 have bB:=ae.mk hr0;have bD:=ae.mk hc0;clear hr0 hc0;have HB:=am (Below.refl w.heap.size w);unfold dd.f at h;have H:=h;clear h;obtain⟨b1,dj⟩:∃y_:List (ey),y_=(([]:List (ey))):=⟨_,rfl⟩;replace H:(if b1.length+l0.length<4398046511104 then(some (b1++l0))else(none))=some r:=oY;have b3:=ae.mk dj;clear dj
 by_cases c2:b1.length+l0.length<4398046511104
 rotate_left
 ·rw[if_neg c2]at H;exact absurd H (by simp)
 rw[if_pos c2]at H;have b7:=ae.mk c2;clear c2;obtain⟨b8,dj⟩:∃y_:List (ey),y_=(b1++l0):=⟨_,rfl⟩;replace H:(some b8)=some r:=oY;have b5:=ae.mk dj;clear dj;obtain rfl:=Option.some.inj H;have hq_:=Lib.run_eql_slice_nil (P:=Tryz.prog) w 56 82 (some a0_) l0.length c0 0 0 (by kernel_rfl)
 go_enter Tryz.func120,Tryz.ntmps120
 go_wp2_with (first|((with_reducible refine aj (N:=5) rfl ?_);refine Kd.ku jr _ 82 ?hg (N:=5) ?hd (xs:=([]:List (ey))) (inner:=[]) (ok:=fun _=>True) (fU:=fun _=>True) ?hr ?hp (fun _ hk=>hk) trivial (Below.refl _ _) (Nat.le_refl _) (by simp) ?_;(case hd=>rfl);(case hg=>rfl);(case hr=>first|(go_simp;done)|(go_simp;rfl));(case hp=>exact(cW.none _ _));intro b9 w3 b2 hb lv eG;clear lv eG;(first|rw[←b3.out]at b2|(simp only[Int.reduceToNat]at b2;rw[←b3.out]at b2));have b4:=am (Kd.ar b2 (ah oB));replace HB:=hB HB hb;clear hb b2)|((with_reducible refine eb (b:= .append) (xs:= #[.tmp 5,.tmp 6]) rfl ?_);at_builtin;refine Kd.fE jr (w0:=w) w.heap.size rfl (.tmp 5) (.tmp 6) 56 82 (.agg #[(.string ⟨#[]⟩),(.string ⟨#[]⟩)]) 32 rfl Tryz.underlying56 vZ rfl (by decide) (by omega) b9 b1 l0 _ _ _ (fun _=>True) (fun _=>False) rfl rfl ?aO ?aR (fun _ _ h=>h) (fun _ h=>h.elim) ?aF ?aB ?aS ?aL ?_;(case aR=>repeat(first|exact(Kd.da bB.out HB.out)|(with_reducible refine Kd.eU ?_ _)|(with_reducible refine Kd.eV ?_ _)|(with_reducible refine Kd.fI ?_)));(case aB=>exact oB);(case aF=>exact(fun _ _=>trivial));(case aO=>exact(oR b4));(case aS=>exact(ah oB));(case aL=>have:=b7.out;omega);intro bC w5 ho hb hg hat;rw[←b5.out]at ho;have b6:=am (ho);replace HB:=am (hb);clear b4;clear ho hb hg hat))
 go_ret
 exact⟨_,oE,oR b6,oB⟩
theorem dd.calls (A0:Option Addr) (c0:Nat) (l0:List (ey)) (r:List (ey)) (w:World) (hr0:Kd.C jr w A0 l0.length l0) (hc0:l0.length≤c0) (h:dd.f l0=some r):
  Calls Tryz.prog 120 #[.slice A0 l0.length c0] w fun e w'=>∃iY:Value,e= .returned (iY)∧Kd.R jr 82 w' w.heap.size (fun _=>True) iY r∧Below w.heap.size w w':=by
 rcases A0 with _|b1
 ·have hl_:l0=[]:=by
   rcases Nat.eq_zero_or_pos l0.length with hz_|hz_
   ·exact List.eq_nil_of_length_eq_zero hz_
   ·obtain⟨ad_,he_,_⟩:=hr0.2.2 hz_
    cases he_
  subst hl_
  obtain rfl:r=[]:=by
   simp[dd.f]at h;exact h
  have hq_:=Lib.run_eql_slice_nil (P:=Tryz.prog) w 56 82 none 0 c0 0 0 (by kernel_rfl)
  go_enter Tryz.func120,Tryz.ntmps120
  go_wp2
  go_ret
  exact⟨_,rfl,Kd.fD _ _ _ _ _,Below.refl _ _⟩
 ·exact dd.mc b1 c0 l0 r w hr0 hc0 h

def kU.f (bo:ByteArray) (ak:Int) (eM:ByteArray) (dz:Int):Option (Bool):=if bo.toList=eM.toList then(if ak=dz then(some true)else(some false))else(some false)
theorem kU.calls (bo:ByteArray) (ak:Int) (eM:ByteArray) (dz:Int) (r:Bool) (w:World) (h:kU.f bo ak eM dz=some r):
  Calls Tryz.prog 137 #[.agg #[.string bo,.int .i64 ak],.agg #[.string eM,.int .i64 dz]] w fun e w'=>e= .returned (.bool r)∧Below w.heap.size w w':=by
 have bI:=Tryz.underlying75;have HB:=am (Below.refl w.heap.size w);unfold kU.f at h;have H:=h;clear h
 by_cases c3:bo.toList=eM.toList
 rotate_left
 ·rw[if_neg c3]at H;have b9:(bo.toList==eM.toList)=false:=beq_eq_false_iff_ne.mpr c3;have bB:(bo.toList !=eM.toList)=true:=bne_iff_ne.mpr c3;obtain rfl:=Option.some.inj H
  go_enter Tryz.func137,Tryz.ntmps137
  go_wp2_with (first|((with_reducible refine aj (N:=2) rfl ?_);refine dp 2 #[.string bo,.int .i64 ak] 75 ?_;intro b5 hg bL hbox hb;have b1:=am (hbox);have b6:=dn hg;replace HB:=hB HB hb;clear hb hbox hg)|((with_reducible refine aj (N:=3) rfl ?_);refine dp 3 #[.string eM,.int .i64 dz] 75 ?_;intro b7 hg bM hbox hb;have b4:=am (hbox);have b8:=dn hg;have b2:=eN hg b1;have b3:=eO hg b1;replace b1:=bj b1 hb;replace HB:=hB HB hb;clear hb hbox hg;have bE:=b2.out;have bF:=b3.out;obtain⟨⟨_,_⟩,_,_⟩:=z2 b1;obtain⟨⟨_,_⟩,_,_⟩:=z2 b4))
  go_ret
  exact⟨oE,oB⟩
 rw[if_pos c3]at H;have b9:(bo.toList==eM.toList)=true:=beq_iff_eq.mpr c3;have bB:(bo.toList !=eM.toList)=false:=bne_eq_false_iff_eq.mpr c3;clear c3
 by_cases c4:ak=dz
 rotate_left
 ·rw[if_neg c4]at H;have bC:(ak==dz)=false:=beq_eq_false_iff_ne.mpr c4;have bD:(ak !=dz)=true:=bne_iff_ne.mpr c4;obtain rfl:=Option.some.inj H
  go_enter Tryz.func137,Tryz.ntmps137
  go_wp2_with (first|((with_reducible refine aj (N:=2) rfl ?_);refine dp 2 #[.string bo,.int .i64 ak] 75 ?_;intro b5 hg bN hbox hb;have b1:=am (hbox);have b6:=dn hg;replace HB:=hB HB hb;clear hb hbox hg)|((with_reducible refine aj (N:=3) rfl ?_);refine dp 3 #[.string eM,.int .i64 dz] 75 ?_;intro b7 hg bO hbox hb;have b4:=am (hbox);have b8:=dn hg;have b2:=eN hg b1;have b3:=eO hg b1;replace b1:=bj b1 hb;replace HB:=hB HB hb;clear hb hbox hg;have bG:=b2.out;have bH:=b3.out;obtain⟨⟨_,_⟩,_,_⟩:=z2 b1;obtain⟨⟨_,_⟩,_,_⟩:=z2 b4))
  go_ret
  exact⟨oE,oB⟩
 rw[if_pos c4]at H;have bC:(ak==dz)=true:=beq_iff_eq.mpr c4;have bD:(ak !=dz)=false:=bne_eq_false_iff_eq.mpr c4;clear c4;obtain rfl:=Option.some.inj H
 go_enter Tryz.func137,Tryz.ntmps137
 go_wp2_with (first|((with_reducible refine aj (N:=2) rfl ?_);refine dp 2 #[.string bo,.int .i64 ak] 75 ?_;intro b5 hg w5 hbox hb;have b1:=am (hbox);have b6:=dn hg;replace HB:=hB HB hb;clear hb hbox hg)|((with_reducible refine aj (N:=3) rfl ?_);refine dp 3 #[.string eM,.int .i64 dz] 75 ?_;intro b7 hg w6 hbox hb;have b4:=am (hbox);have b8:=dn hg;have b2:=eN hg b1;have b3:=eO hg b1;replace b1:=bj b1 hb;replace HB:=hB HB hb;clear hb hbox hg;have bJ:=b2.out;have bK:=b3.out;obtain⟨⟨_,_⟩,_,_⟩:=z2 b1;obtain⟨⟨_,_⟩,_,_⟩:=z2 b4))
 go_ret
 exact⟨oE,oB⟩

def ki.f (bo:ByteArray) (ak:ByteArray) (eM:ByteArray) (dz:ByteArray):Option (Bool):=if bo.toList=eM.toList then(if ak.toList=dz.toList then(some true)else(some false))else(some false)
theorem ki.calls (bo:ByteArray) (ak:ByteArray) (eM:ByteArray) (dz:ByteArray) (r:Bool) (w:World) (h:ki.f bo ak eM dz=some r):
  Calls Tryz.prog 138 #[.agg #[.string bo,.string ak],.agg #[.string eM,.string dz]] w fun e w'=>e= .returned (.bool r)∧Below w.heap.size w w':=by
 have bI:=Tryz.underlying82;have HB:=am (Below.refl w.heap.size w);unfold ki.f at h;have H:=h;clear h
 by_cases c3:bo.toList=eM.toList
 rotate_left
 ·rw[if_neg c3]at H;have b9:(bo.toList==eM.toList)=false:=beq_eq_false_iff_ne.mpr c3;have bB:(bo.toList !=eM.toList)=true:=bne_iff_ne.mpr c3;obtain rfl:=Option.some.inj H
  go_enter Tryz.func138,Tryz.ntmps138
  go_wp2_with (first|((with_reducible refine aj (N:=2) rfl ?_);refine dp 2 #[.string bo,.string ak] 82 ?_;intro b5 hg bL hbox hb;have b1:=am (hbox);have b6:=dn hg;replace HB:=hB HB hb;clear hb hbox hg)|((with_reducible refine aj (N:=3) rfl ?_);refine dp 3 #[.string eM,.string dz] 82 ?_;intro b7 hg bM hbox hb;have b4:=am (hbox);have b8:=dn hg;have b2:=eN hg b1;have b3:=eO hg b1;replace b1:=bj b1 hb;replace HB:=hB HB hb;clear hb hbox hg;have bE:=b2.out;have bF:=b3.out;obtain⟨⟨_,_⟩,_,_⟩:=z2 b1;obtain⟨⟨_,_⟩,_,_⟩:=z2 b4))
  go_ret
  exact⟨oE,oB⟩
 rw[if_pos c3]at H;have b9:(bo.toList==eM.toList)=true:=beq_iff_eq.mpr c3;have bB:(bo.toList !=eM.toList)=false:=bne_eq_false_iff_eq.mpr c3;clear c3
 by_cases c4:ak.toList=dz.toList
 rotate_left
 ·rw[if_neg c4]at H;have bC:(ak.toList==dz.toList)=false:=beq_eq_false_iff_ne.mpr c4;have bD:(ak.toList !=dz.toList)=true:=bne_iff_ne.mpr c4;obtain rfl:=Option.some.inj H
  go_enter Tryz.func138,Tryz.ntmps138
  go_wp2_with (first|((with_reducible refine aj (N:=2) rfl ?_);refine dp 2 #[.string bo,.string ak] 82 ?_;intro b5 hg bN hbox hb;have b1:=am (hbox);have b6:=dn hg;replace HB:=hB HB hb;clear hb hbox hg)|((with_reducible refine aj (N:=3) rfl ?_);refine dp 3 #[.string eM,.string dz] 82 ?_;intro b7 hg bO hbox hb;have b4:=am (hbox);have b8:=dn hg;have b2:=eN hg b1;have b3:=eO hg b1;replace b1:=bj b1 hb;replace HB:=hB HB hb;clear hb hbox hg;have bG:=b2.out;have bH:=b3.out;obtain⟨⟨_,_⟩,_,_⟩:=z2 b1;obtain⟨⟨_,_⟩,_,_⟩:=z2 b4))
  go_ret
  exact⟨oE,oB⟩
 rw[if_pos c4]at H;have bC:(ak.toList==dz.toList)=true:=beq_iff_eq.mpr c4;have bD:(ak.toList !=dz.toList)=false:=bne_eq_false_iff_eq.mpr c4;clear c4;obtain rfl:=Option.some.inj H
 go_enter Tryz.func138,Tryz.ntmps138
 go_wp2_with (first|((with_reducible refine aj (N:=2) rfl ?_);refine dp 2 #[.string bo,.string ak] 82 ?_;intro b5 hg w5 hbox hb;have b1:=am (hbox);have b6:=dn hg;replace HB:=hB HB hb;clear hb hbox hg)|((with_reducible refine aj (N:=3) rfl ?_);refine dp 3 #[.string eM,.string dz] 82 ?_;intro b7 hg w6 hbox hb;have b4:=am (hbox);have b8:=dn hg;have b2:=eN hg b1;have b3:=eO hg b1;replace b1:=bj b1 hb;replace HB:=hB HB hb;clear hb hbox hg;have bJ:=b2.out;have bK:=b3.out;obtain⟨⟨_,_⟩,_,_⟩:=z2 b1;obtain⟨⟨_,_⟩,_,_⟩:=z2 b4))
 go_ret
 exact⟨oE,oB⟩

def iN.f (bo:ByteArray) (ak:ByteArray) (a1:Int):Option (Int):=if(wrap64 (a1-(bo.size:Int)))<0 then(some (-1))else(if(wrap64 ((wrap64 (a1-(bo.size:Int)))-(ak.size:Int)))<0 then(some (-1))else(some (wrap64 ((wrap64 (a1-(bo.size:Int)))-(ak.size:Int)))))
theorem iN.calls (bo:ByteArray) (ak:ByteArray) (a1:Int) (r:Int) (w:World) (h:iN.f bo ak a1=some r):
  Calls Tryz.prog 134 #[.agg #[.string bo,.string ak],.int .i64 a1] w fun e w'=>e= .returned (.int .i64 r)∧Below w.heap.size w w':=by
 have b6:=Tryz.underlying133;have HB:=am (Below.refl w.heap.size w);unfold iN.f at h;have H:=h;clear h;replace H:=jd H;rcases H with⟨b4,H⟩|⟨b4,H⟩
 ·obtain rfl:=Option.some.inj H
  go_enter Tryz.func134,Tryz.ntmps134
  go_wp2_with (first|((with_reducible refine aj (N:=2) rfl ?_);refine dp 2 #[.string bo,.string ak] 133 ?_;intro b2 hg w4 hbox hb;have b1:=am (hbox);have b3:=dn hg;replace HB:=hB HB hb;clear hb hbox hg;obtain⟨⟨_,_⟩,_,_⟩:=z2 b1))
  go_ret
  exact⟨oE,oB⟩
 replace H:=jd H;rcases H with⟨b5,H⟩|⟨b5,H⟩
 ·obtain rfl:=Option.some.inj H
  go_enter Tryz.func134,Tryz.ntmps134
  go_wp2_with (first|((with_reducible refine aj (N:=2) rfl ?_);refine dp 2 #[.string bo,.string ak] 133 ?_;intro b2 hg w7 hbox hb;have b1:=am (hbox);have b3:=dn hg;replace HB:=hB HB hb;clear hb hbox hg;obtain⟨⟨_,_⟩,_,_⟩:=z2 b1))
  go_ret
  exact⟨oE,oB⟩
 obtain rfl:=Option.some.inj H
 go_enter Tryz.func134,Tryz.ntmps134
 go_wp2_with (first|((with_reducible refine aj (N:=2) rfl ?_);refine dp 2 #[.string bo,.string ak] 133 ?_;intro b2 hg w9 hbox hb;have b1:=am (hbox);have b3:=dn hg;replace HB:=hB HB hb;clear hb hbox hg;obtain⟨⟨_,_⟩,_,_⟩:=z2 b1))
 go_ret
 exact⟨oE,oB⟩

theorem adp {α:Type}{d:Kd α}{e base n c:Nat}{ok:Nat→Prop}{w:World}{A:Option Addr}{xs:List α}(h:d.R e w base ok (.slice A n c) xs):∀ad,A=some ad→0<xs.length→ad.spot=none:=by
 intro ad hA _;subst hA;obtain⟨g,rfl⟩:=Kd.wu h
 rfl
def eg.f (l:List Int) (x:Int):Option Bool:=if l.length≤9223372036854775807 then some (l.contains x)else none
theorem eg.calls (A0:Option Addr) (c0:Nat) (l0:List Int) (a1:Int) (r:Bool) (w:World) (hr0:Kd.C (Kd.int .i64) w A0 l0.length l0) (hc0:l0.length≤c0) (h:eg.f l0 a1=some r) (hA:∀ad,A0=some ad→0<l0.length→ad.spot=none:=by first|exact adp (by first|(with_reducible assumption)|exact ae.out (by with_reducible assumption))):
  Calls Tryz.prog 146 #[.slice A0 l0.length c0,.int .i64 a1] w fun e w'=>e= .returned (.bool r)∧Below w.heap.size w w':=by
 unfold eg.f at h
 split at h
 case isFalse=>cases h
 case isTrue hl=>
 obtain rfl:=Option.some.inj h
 by_cases h0:l0.length=0
 ·obtain rfl:=List.eq_nil_of_length_eq_zero h0
  exact(Any.slices_Contains_int_empty Tryz.lays107 A0 c0 a1 w).mono fun e w' ⟨he,hw⟩=>⟨he,hw▸Below.refl _ _⟩
 obtain⟨ad,e0,_⟩:=Kd.kB hr0 0 (by omega) (by omega);subst e0;have hsp:=hA ad rfl (by omega);obtain⟨bk,o,sp⟩:=ad;have hsp:sp=none:=hsp;subst hsp
 refine(Any.slices_Contains_int Tryz.lays107 bk o l0.length c0 l0 a1 w (Nat.le_refl _) hl (fun j hj=> ?_)).mono fun e w' ⟨he,hw⟩=>⟨by rw[he,List.take_length],hw▸Below.refl _ _⟩
 obtain⟨ad',e',hx⟩:=Kd.kB hr0 (j:Int) (by omega) (by omega);injection e' with e';subst e';rw[Int.toNat_natCast,Addr.add_lit]at hx;rw[hx];simp[rd]
def gj.f (l0:List Int) (a1:Int):Option (Int):=if(wrap64 (a1-(l0.length:Int)))<0 then(some (-1))else(some (wrap64 (a1-(l0.length:Int))))
theorem gj.calls (A0:Option Addr) (c0:Nat) (l0:List Int) (a1:Int) (r:Int) (w:World) (hr0:Kd.C (Kd.int .u8) w A0 l0.length l0) (hc0:l0.length≤c0) (h:gj.f l0 a1=some r):
  Calls Tryz.prog 108 #[.slice A0 l0.length c0,.int .i64 a1] w fun e w'=>e= .returned (.int .i64 r)∧fp w w':=by
 have b2:=ae.mk hr0;have b3:=ae.mk hc0;clear hr0 hc0;unfold gj.f at h;have H:=h;clear h;replace H:=jd H;rcases H with⟨b1,H⟩|⟨b1,H⟩
 ·obtain rfl:=Option.some.inj H
  go_enter Tryz.func108,Tryz.ntmps108
  go_wp2
  go_ret
  exact⟨oS,oD⟩
 obtain rfl:=Option.some.inj H
 go_enter Tryz.func108,Tryz.ntmps108
 go_wp2
 go_ret
 exact⟨oS,oD⟩

def kj.f (bo:ByteArray) (ak:Int) (a1:Int):Option (Int):=if(wrap64 (a1-(bo.size:Int)))<0 then(some (-1))else(some (wrap64 (a1-(bo.size:Int))))
theorem kj.calls (bo:ByteArray) (ak:Int) (a1:Int) (r:Int) (w:World) (h:kj.f bo ak a1=some r):
  Calls Tryz.prog 133 #[.agg #[.string bo,.int .i64 ak],.int .i64 a1] w fun e w'=>e= .returned (.int .i64 r)∧Below w.heap.size w w':=by
 have b5:=Tryz.underlying131;have HB:=am (Below.refl w.heap.size w);unfold kj.f at h;have H:=h;clear h;replace H:=jd H;rcases H with⟨b4,H⟩|⟨b4,H⟩
 ·obtain rfl:=Option.some.inj H
  go_enter Tryz.func133,Tryz.ntmps133
  go_wp2_with (first|((with_reducible refine aj (N:=2) rfl ?_);refine dp 2 #[.string bo,.int .i64 ak] 131 ?_;intro b2 hg w4 hbox hb;have b1:=am (hbox);have b3:=dn hg;replace HB:=hB HB hb;clear hb hbox hg;obtain⟨⟨_,_⟩,_,_⟩:=z2 b1))
  go_ret
  exact⟨oE,oB⟩
 obtain rfl:=Option.some.inj H
 go_enter Tryz.func133,Tryz.ntmps133
 go_wp2_with (first|((with_reducible refine aj (N:=2) rfl ?_);refine dp 2 #[.string bo,.int .i64 ak] 131 ?_;intro b2 hg w6 hbox hb;have b1:=am (hbox);have b3:=dn hg;replace HB:=hB HB hb;clear hb hbox hg;obtain⟨⟨_,_⟩,_,_⟩:=z2 b1))
 go_ret
 exact⟨oE,oB⟩

def aY.f (a0:Int) (a1:Int) (a2:Int):Option (Bool):=if a0≥a1 then(some (decide (a0≤a2)))else(some false)
theorem aY.calls (a0:Int) (a1:Int) (a2:Int) (r:Bool) (w:World) (h:aY.f a0 a1 a2=some r):
  Calls Tryz.prog 60 #[.int .i64 a0,.int .i64 a1,.int .i64 a2] w fun e w'=>e= .returned (.bool r)∧fp w w':=by
 unfold aY.f at h;have H:=h;clear h;replace H:=itH H;rcases H with⟨b1,H⟩|⟨b1,H⟩
 ·obtain rfl:=Option.some.inj H
  go_enter Tryz.func60,Tryz.ntmps60
  go_wp2
  go_ret
  exact⟨oS,oD⟩
 obtain rfl:=Option.some.inj H
 go_enter Tryz.func60,Tryz.ntmps60
 go_wp2
 go_ret
 exact⟨oS,oD⟩

def bs.f (a0:Int) (a1:Int) (a2:Int):Option (Bool):=if a0≥a1 then(some (decide (a0≤a2)))else(some false)
theorem bs.calls (a0:Int) (a1:Int) (a2:Int) (r:Bool) (w:World) (h:bs.f a0 a1 a2=some r):
  Calls Tryz.prog 61 #[.int .i64 a0,.int .i64 a1,.int .i64 a2] w fun e w'=>e= .returned (.bool r)∧fp w w':=by
 unfold bs.f at h;have H:=h;clear h;replace H:=itH H;rcases H with⟨b1,H⟩|⟨b1,H⟩
 ·obtain rfl:=Option.some.inj H
  go_enter Tryz.func61,Tryz.ntmps61
  go_wp2
  go_ret
  exact⟨oS,oD⟩
 obtain rfl:=Option.some.inj H
 go_enter Tryz.func61,Tryz.ntmps61
 go_wp2
 go_ret
 exact⟨oS,oD⟩

def nM (l:List Int):List Int:=l.mergeSort fun x y=>decide (x≤y)
theorem lR (l:List Int):(nM l).length=l.length:=List.length_mergeSort ..
/-- slices.Sort of a row of the call's own: it is in order behind it. -/
theorem ab_.calls (A:Option Addr) (c b0:Nat) (ok:Nat→Prop) (l:List Int) (w:World) (ho:Kd.R (Kd.int .i64) 3 w b0 ok (.slice A l.length c) l) (hl:l.length<4611686018427387904):
  Calls Tryz.prog 147 #[.slice A l.length c] w fun e w'=>e= .returned (.tuple #[])∧Kd.R (Kd.int .i64) 3 w' b0 ok (.slice A l.length c) (nM l)∧w.grownBy w' (Value.slice A l.length c).ownBlock:=by
 have ho':=ho;obtain⟨hok,inner,⟨hil,hown⟩,hrep⟩:=ho;rcases hown with⟨he,h0⟩|⟨g,cap,cur,he,hbg,hh,hnc,hcm,hcs,hin⟩
 ·obtain rfl:=List.eq_nil_of_length_eq_zero h0
  refine(Any.slices_Sort_int_none Tryz.lays189 A c w).mono fun e w' ⟨he,hw⟩=>⟨he,?_,?_⟩
  ·subst hw;rw[show nM []=[]from List.eq_nil_of_length_eq_zero (by rw[lR];rfl)];exact ho'
  ·subst hw;exact⟨rfl,rfl,rfl,Nat.le_refl _,fun _ _ _=>rfl⟩
 ·injection he with ha _ hc;subst ha;subst hc;rw[show(Kd.int .i64).sz=1 from rfl]at hil hcs hin hrep;have hen:=Kd.ym (enc:=Value.int .i64) hrep;rw[hen,Nat.mul_one]at hin;have hgw:g<w.heap.size:=iU hh
  refine(Any.slices_Sort_int Tryz.lays189 g 0 c l w (holds_of_blockI hh hin) hgw hl).mono fun e w' ⟨he,n,os,hw⟩=> ?_
  subst hw;refine⟨he,⟨fun k hk=>hok k hk,(nM l).map (Value.int .i64),?_,?_⟩,grownBy_sortedI _⟩
  ·rw[lR];exact ownsRow_sortedI (ss:=l) (lR l) hbg hh hnc hcm hcs
  ·exact Kd.qt (enc:=Value.int .i64) (nM l)
def zc (w:World):Prop:=∃m,w.cell? ⟨Tryz.nw.g 1,0,none⟩=some (.int .i64 m)
theorem gk_ {w W:World}(h:Below w.heap.size w W) (hg:ae (zc w)):zc W:=by
 obtain⟨m,hm⟩:=hg.out;exact⟨m,na h hm⟩
def strings_Split.f (a0 a1:ByteArray):Option (List ByteArray):=if a0.size<4294967281∧1≤a1.size then some (Lib.splitB a1 0 (Lib.countB a0 a1) a0)else none
theorem strings_Split.calls (a0 a1:ByteArray) (r:List ByteArray) (w:World) (h:strings_Split.f a0 a1=some r) (hG:zc w:=by exact gk_ oB (by first|(with_reducible assumption)|assumption)):
  Calls Tryz.prog 121 #[.string a0,.string a1] w fun e w'=>∃iY:Value,e= .returned (iY)∧Kd.R Kd.string 9 w' w.heap.size (fun _=>True) iY r∧Below w.heap.size w w':=by
 unfold strings_Split.f at h
 split at h
 case isFalse=>cases h
 case isTrue hc=>
 obtain rfl:=Option.some.inj h;obtain⟨m,hm⟩:=hG;have hl:=Lib.splitB_all a1 hc.2 0 _ a0 rfl;have hle:=Lib.countB_le a1 hc.2 a0.size a0 (Nat.le_refl _)
 refine(Any.strings_Split {Tryz.laysM146 with} (by kernel_rfl) a0 a1 m w hc.1 hm hc.2).mono fun e w' ⟨he,hw⟩=> ?_
 subst hw;refine⟨_,he,?_,(Below.refl _ _).alloc (Nat.le_refl _) _⟩;refine Kd.uJ (enc:=Value.string) (h1:=fun _=>rfl) ?_ (fun _ _=>trivial);have ho:=World.ownsRow_lit (base:=w.heap.size) (e:=9) (size:=1) w ((Lib.splitB a1 0 (Lib.countB a0 a1) a0).map Value.string).toArray (Lib.countB a0 a1+1) (Nat.le_refl _) (by simp only[maxLen];omega) (by simp[hl]);rw[←hl]at ho;rw[show(Tryz.nw.t 9)=9 from rfl,←hl]
 simpa [encs]using ho
def lx.f (bo:ByteArray) (ak:Int):Option (ByteArray×Int):=some (bo,ak)
theorem lx.calls (bo:ByteArray) (ak:Int) (r1:ByteArray) (r2:Int) (w:World) (h:lx.f bo ak=some (r1,r2)):
  Calls Tryz.prog 135 #[.agg #[.string bo,.int .i64 ak]] w fun e w'=>e= .returned (.agg #[.string r1,.int .i64 r2])∧Below w.heap.size w w':=by
 have bC:=Tryz.underlying131;have bI:=Tryz.underlying75;have HB:=am (Below.refl w.heap.size w);unfold lx.f at h;have H:=h;clear h;simp only[Option.some.injEq,Prod.mk.injEq]at H;obtain⟨rfl,rfl⟩:=H
 go_enter Tryz.func135,Tryz.ntmps135
 go_wp2_with (first|((with_reducible refine aj (N:=1) rfl ?_);refine dp 1 #[.string bo,.int .i64 ak] 131 ?_;intro bD hg w2 hbox hb;have b1:=am (hbox);have bE:=dn hg;replace HB:=hB HB hb;clear hb hbox hg)|((with_reducible refine aj (N:=2) rfl ?_);refine dp 2 #[.string (⟨#[]⟩:ByteArray),.int .i64 0] 75 ?_;intro b9 hg w3 hbox hb;have b2:=am (hbox);have bF:=dn hg;have b3:=eN hg b1;have b4:=eO hg b1;replace b1:=bj b1 hb;replace HB:=hB HB hb;clear hb hbox hg)|((with_reducible refine aj (N:=3) rfl ?_);refine dp 3 #[.string (⟨#[]⟩:ByteArray),.int .i64 0] 75 ?_;intro bG hg w4 hbox hb;have bB:=am (hbox);have bH:=dn hg;have b5:=eN hg b1;have b6:=eO hg b1;have b7:=eN hg b2;have b8:=eO hg b2;replace b1:=bj b1 hb;replace b2:=bj b2 hb;replace HB:=hB HB hb;clear hb hbox hg;have bJ:=b3.out;have bK:=b4.out;have bL:=b5.out;have bM:=b6.out;obtain⟨⟨_,_⟩,_,_⟩:=z2 b1;have bN:=b8.out;have bO:=b7.out;obtain⟨⟨_,_⟩,_,_⟩:=z2 bB;obtain⟨⟨_,_⟩,_,_⟩:=z2 b2))
 refine bodyPost_ret (results_cell_row rfl _ _ b9 75 #[.string bo,.int .i64 ak] (0,0) _ rfl (oP b2) Tryz.underlying75 rfl (by kernel_rfl)) rfl ?_;exact⟨oE,oB⟩

def kV.f (bo:ByteArray) (ak:ByteArray):Option (ByteArray×ByteArray):=some (bo,ak)
theorem kV.calls (bo:ByteArray) (ak:ByteArray) (r1:ByteArray) (r2:ByteArray) (w:World) (h:kV.f bo ak=some (r1,r2)):
  Calls Tryz.prog 136 #[.agg #[.string bo,.string ak]] w fun e w'=>e= .returned (.agg #[.string r1,.string r2])∧Below w.heap.size w w':=by
 have bC:=Tryz.underlying133;have bI:=Tryz.underlying82;have HB:=am (Below.refl w.heap.size w);unfold kV.f at h;have H:=h;clear h;simp only[Option.some.injEq,Prod.mk.injEq]at H;obtain⟨rfl,rfl⟩:=H
 go_enter Tryz.func136,Tryz.ntmps136
 go_wp2_with (first|((with_reducible refine aj (N:=1) rfl ?_);refine dp 1 #[.string bo,.string ak] 133 ?_;intro bD hg w2 hbox hb;have b1:=am (hbox);have bE:=dn hg;replace HB:=hB HB hb;clear hb hbox hg)|((with_reducible refine aj (N:=2) rfl ?_);refine dp 2 #[.string (⟨#[]⟩:ByteArray),.string (⟨#[]⟩:ByteArray)] 82 ?_;intro b9 hg w3 hbox hb;have b2:=am (hbox);have bF:=dn hg;have b3:=eN hg b1;have b4:=eO hg b1;replace b1:=bj b1 hb;replace HB:=hB HB hb;clear hb hbox hg)|((with_reducible refine aj (N:=3) rfl ?_);refine dp 3 #[.string (⟨#[]⟩:ByteArray),.string (⟨#[]⟩:ByteArray)] 82 ?_;intro bG hg w4 hbox hb;have bB:=am (hbox);have bH:=dn hg;have b5:=eN hg b1;have b6:=eO hg b1;have b7:=eN hg b2;have b8:=eO hg b2;replace b1:=bj b1 hb;replace b2:=bj b2 hb;replace HB:=hB HB hb;clear hb hbox hg;have bJ:=b3.out;have bK:=b4.out;have bL:=b5.out;have bM:=b6.out;obtain⟨⟨_,_⟩,_,_⟩:=z2 b1;have bN:=b8.out;have bO:=b7.out;obtain⟨⟨_,_⟩,_,_⟩:=z2 bB;obtain⟨⟨_,_⟩,_,_⟩:=z2 b2))
 refine bodyPost_ret (results_cell_row rfl _ _ b9 82 #[.string bo,.string ak] (0,0) _ rfl (oP b2) Tryz.underlying82 rfl (by kernel_rfl)) rfl ?_;exact⟨oE,oB⟩
-- NOT PRINTED: function 156 (slices_IndexFunc_string_string)
-- NOT PRINTED: function 143 (slices_ContainsFunc_string_string)
-- NOT PRINTED: function 100 (slices_IndexFunc_Inode)
-- NOT PRINTED: function 148 (strings_Join)
-- NOT PRINTED: function 93 (slices_DeleteFunc_Inode)
-- NOT PRINTED: function 128 (impl_Inode_128)
-- NOT PRINTED: function 164 (slices_Reverse_Inode)
-- NOT PRINTED: function 149 (impl_Inode_149)
-- NOT PRINTED: function 129 (impl_Inode_129)
-- NOT PRINTED: function 103 (slices_IndexFunc_Ent)
-- NOT PRINTED: function 95 (slices_DeleteFunc_Ent)
end Go.Proofs.YtlecajlnjmbilaaGreatDoor.P
