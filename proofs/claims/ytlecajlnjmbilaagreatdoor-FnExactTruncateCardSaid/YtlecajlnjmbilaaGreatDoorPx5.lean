-- Printed walks.
import Derived.Test.YtlecajlnjmbilaaGreatDoorPx1
import Derived.Test.YtlecajlnjmbilaaGreatDoorPx2
set_option linter.all false
set_option maxHeartbeats 8000000
set_option maxRecDepth 100000
namespace Go.Proofs.YtlecajlnjmbilaaGreatDoor.P
open Go.RowKit Go.Proofs.ab.ar Go.Proofs.ab.aV Go.Proofs.ab.aZ
attribute [local go_sem] fl fm gm gn eK eL fo fp

def cT.l0:Nat→List (ed)→Int→Int→Option (Int×(List (ed)))
 |0,_,_,_=>none
 |k+1,x0,x1,x5=>if x5<(x0.length:Int)then((ba.f k x1).bind fun b2=>(if 0≤x5 then((some (x0.set (x5:Int).toNat (⟨b2,(al x0 x5).f1⟩:ed):List (ed))).bind fun b1=>(cT.l0 k (b1.set (x5:Int).toNat (⟨(al b1 x5).f0,wrap64 (x1+1)⟩:ed)) (wrap64 ((wrap64 (x1+1))+1)) (wrap64 (x5+1))))else(none)))else(some (x1,x0))
def cT.f (k:Nat) (l0:List (ed)) (a1:Int):Option (Int×(List (ed))):=cT.l0 k l0 a1 0
theorem cT.calls (k:Nat) (kz:Nat→Prop) (ij:Value) (l0:List (ed)) (a1:Int) (r1:Int) (r2:List (ed)) (w0 w:World) (hB:Below w0.heap.size w0 w) (ho0:Kd.R iY 75 w w0.heap.size kz ij l0) (h:cT.f k l0 a1=some (r1,r2)):
  Calls Tryz.prog 73 #[ij,.int .i64 a1] w fun e w'=>e= .returned (.int .i64 r1)∧Kd.R iY 75 w' w0.heap.size (fun k_=>(kz k_∨w.heap.size≤k_)) ij r2∧Below w0.heap.size w0 w'∧Kept w w' (fun k_=>kz k_):=by
 have dB:=am (show Kd.R iY 75 w w0.heap.size (fun k_=>(kz k_∨w.heap.size≤k_)) ij l0 from Kd.bq ho0 (fun k_ hk=>(.inl hk)));have HK:=am (Kept.refl w (fun k_=>kz k_));have HW0:=ae.mk hB.size;have HB:=ae.mk hB;clear hB;unfold cT.f at h;have H:=h;clear h;have H':=ae.mk H;clear H
 go_enter Tryz.func73,Tryz.ntmps73
 go_wp2
 go_loopg [1,5] k (fun kq v1 v5 w'=>∃(b2:List (ed)) (b5:Int) (b1:Int),v1= .int .i64 b5∧v5= .int .i64 b1∧ae (cT.l0 kq b2 b5 b1=some (r1,r2))∧ae (kq≤k)∧ae (Kd.R iY 75 w' w0.heap.size (fun k_=>(kz k_∨w.heap.size≤k_)) ij b2)∧ae (Kept w w' (fun k_=>kz k_))∧ae (Below w0.heap.size w0 w'))
 case atStart=>exact⟨(l0),(a1),(0),oS,oS,H',⟨Nat.le_refl _⟩,⟨oR dB⟩,⟨oK⟩,⟨oB⟩⟩
 case round=>
  clear H';obtain⟨b2,b5,b1,rfl,rfl,HA,bZ,b3,HK,HB⟩:=hrel
  cases gk with
  |zero=>exact absurd HA.out (by simp[cT.l0])
  |succ k1=>
   have H:=HA.out;clear HA;simp only[cT.l0]at H;replace H:=iE H;rcases H with⟨d7,H⟩|⟨d7,H⟩;rotate_left
   ·simp only[Option.some.injEq,Prod.mk.injEq]at H;obtain⟨rfl,rfl⟩:=H;obtain⟨dN,dO,d8⟩:=Kd.ax b3.out;subst d8
    go_wp2
    go_ret
    exact⟨oE,oR b3,oB,oK⟩
   replace H:=bA H;obtain⟨b8,A4,H⟩:=H
   try dsimp only at H
   obtain⟨dP,H⟩:=cX H;obtain⟨b6,dh⟩:∃y_:List (ed),y_=(b2.set (b1:Int).toNat (⟨b8,(al b2 b1).f1⟩:ed)):=⟨_,rfl⟩;replace H:(cT.l0 k1 (b6.set (b1:Int).toNat (⟨(al b6 b1).f0,wrap64 (b5+1)⟩:ed)) (wrap64 ((wrap64 (b5+1))+1)) (wrap64 (b1+1)))=some (r1,r2):=oY;have bX:=ae.mk dh;clear dh;obtain⟨bC,dh⟩:∃y_:List (ed),y_=(b6.set (b1:Int).toNat (⟨(al b6 b1).f0,wrap64 (b5+1)⟩:ed)):=⟨_,rfl⟩;replace H:(cT.l0 k1 bC (wrap64 ((wrap64 (b5+1))+1)) (wrap64 (b1+1)))=some (r1,r2):=oY;have bY:=ae.mk dh;clear dh;have H':=ae.mk H;clear H;obtain⟨dS,bJ,dC⟩:=Kd.ax b3.out;subst dC
   go_wp2_with (first|((with_reducible refine aj (f:=115) rfl ?_);refine eG 15 Tryz.func115 (ba.calls k1 b5 b8 _ A4.out) ?_;rintro e w9 ⟨rfl,hb⟩;refine⟨_,rfl,?_⟩;replace b3:=iD b3 hb;replace HK:=am (Kept.below (S:=(fun k_=>kz k_)) oK hb);replace HB:=hB HB hb;(try clear hk);have p6:0≤(b1:Int):=oa;have q6:(b1:Int)<((b2.length:Int):Int):=oa;obtain⟨b4,dT,d1,d2,dD,dU,d3⟩:=Kd.lE b3.out (by omega);(first|cases d1|(injection d1 with iW nW nX;(first|subst iW|(injection iW with iW;subst iW));subst nX;clear nW));have d4:=ae.mk d2;have dV:=ae.mk d3;clear d2 dD d3;have dE:=am (show(kz b4∨w.heap.size≤b4)from(b3.out.1 _ rfl));obtain⟨dW,d9,d5,bD,bE⟩:=Kd.kn b3.out z75 (b1:Int) p6 q6;obtain rfl:=lv d5;have dF:w9.cell? ⟨b4,(b1:Int).toNat*2,none⟩=some (.string ((al b2 b1).f0)):=bD 0 _ rfl;have dG:w9.cell? ⟨b4,(b1:Int).toNat*2+1,none⟩=some (.int .i64 ((al b2 b1).f1)):=bD 1 _ rfl;have dH:w9.frozen? ⟨b4,(b1:Int).toNat*2,none⟩=false:=bE 0;have dI:w9.frozen? ⟨b4,(b1:Int).toNat*2+1,none⟩=false:=bE 1;clear d9 bD bE d5;replace p6:=eq_true p6;replace q6:=eq_true q6;have bO:=am (show Kd.R iY 75 w9 w0.heap.size (fun k_=>(kz k_∨w.heap.size≤k_)) (.slice (some ⟨b4,0,none⟩) b2.length bJ) b2 from(oR b3));obtain⟨dQ,bK,bP,b9,bL⟩:=Kd.kn bO.out z75 (b1:Int) oa (by have h_:(b1:Int)<((b2.length:Int):Int):=oa;first|exact h_|(have e_:=(Kd.bu b3.out).1;omega)|simpa using h_);obtain rfl:=lv bP;have bF:=Kd.pb bO.out (b1:Int) oa (by have h_:(b1:Int)<((b2.length:Int):Int):=oa;first|exact h_|(have e_:=(Kd.bu b3.out).1;omega)|simpa using h_) (seg:=[.string b8]) (j:=0) bK b9 (show 1≤2 from by decide) (x':=(⟨b8,(al b2 b1).f1⟩:ed)) (qt _ _ _ (⟨b8,(al b2 b1).f1⟩:ed)) (fun _ hk=>hk);have bQ:=b9 0 _ rfl;(try simp only[show(iY).sz=2 from rfl,Nat.mul_one,Nat.add_zero]at bQ);have bR:=bL 0;(try simp only[show(iY).sz=2 from rfl,Nat.mul_one,Nat.add_zero]at bR);clear bK b9 bL bP)|((with_reducible refine fw (t:=9) (p:=17) rfl ?_);refine fi (t:=9) (p:=17) (v:= ?adk) (w1:=(w9.setCell ⟨b4,(b1:Int).toNat*2,none⟩ (.string b8))) ?hg ?ho ?hn ?hr ?_;(case ho=>rfl);(case hg=>rfl);(case hn=>rfl);(case hr=>first|(go_simp;done)|(go_simp;rfl));intro b7 hw;have hg:w9.grownBy b7 (some b4):=(by rw[hw];exact bF.2);have nB:Kd.R iY 75 b7 w0.heap.size (fun k_=>(kz k_∨w.heap.size≤k_)) (.slice (some ⟨b4,0,none⟩) b2.length bJ) b6:=(by rw[hw,bX.out];exact bF.1);clear bF;replace b3:=am (nB);replace HK:=am (Kept.lD (S:=(fun k_=>kz k_)) hg oK (fun k_ e_=>(b3.out.1 k_ e_)));replace HB:=am ((by rw[hw];exact aG (HB.out) d4.out:Below w0.heap.size w0 b7));clear hg hw nB;have p7:(0≤(b1:Int))=True:=oT;have q7:((b1:Int)<((b2.length:Int):Int))=True:=oT;obtain⟨dX,dA,d6,bG,bH⟩:=Kd.kn b3.out z75 (b1:Int) oa oa;obtain rfl:=lv d6;have dJ:b7.cell? ⟨b4,(b1:Int).toNat*2,none⟩=some (.string ((al b6 b1).f0)):=bG 0 _ rfl;have dK:b7.cell? ⟨b4,(b1:Int).toNat*2+1,none⟩=some (.int .i64 ((al b6 b1).f1)):=bG 1 _ rfl;have dL:b7.frozen? ⟨b4,(b1:Int).toNat*2,none⟩=false:=bH 0;have dM:b7.frozen? ⟨b4,(b1:Int).toNat*2+1,none⟩=false:=bH 1;clear dA bG bH d6;have bS:=am (show Kd.R iY 75 b7 w0.heap.size (fun k_=>(kz k_∨w.heap.size≤k_)) (.slice (some ⟨b4,0,none⟩) b2.length bJ) b6 from(oR b3));obtain⟨dR,bM,bT,bB,bN⟩:=Kd.kn bS.out z75 (b1:Int) oa (by have h_:(b1:Int)<((b2.length:Int):Int):=oa;first|exact h_|(have e_:=(Kd.bu b3.out).1;omega)|simpa using h_);obtain rfl:=lv bT;have bI:=Kd.pb bS.out (b1:Int) oa (by have h_:(b1:Int)<((b2.length:Int):Int):=oa;first|exact h_|(have e_:=(Kd.bu b3.out).1;omega)|simpa using h_) (seg:=[.int .i64 (wrap64 (b5+1))]) (j:=1) bM bB (show 2≤2 from by decide) (x':=(⟨(al b6 b1).f0,wrap64 (b5+1)⟩:ed)) (qt _ _ _ (⟨(al b6 b1).f0,wrap64 (b5+1)⟩:ed)) (fun _ hk=>hk);have bU:=bB 1 _ rfl;(try simp only[show(iY).sz=2 from rfl,Nat.mul_one,Nat.add_zero]at bU);have bV:=bN 1;(try simp only[show(iY).sz=2 from rfl,Nat.mul_one,Nat.add_zero]at bV);clear bM bB bN bT)|((with_reducible refine fw (t:=3) (p:=24) rfl ?_);refine fi (t:=3) (p:=24) (v:= ?uW) (w1:=(b7.setCell ⟨b4,(b1:Int).toNat*2+1,none⟩ (.int .i64 (wrap64 (b5+1))))) ?hg ?ho ?hn ?hr ?_;(case ho=>rfl);(case hg=>rfl);(case hn=>rfl);(case hr=>first|(go_simp;done)|(go_simp;rfl));intro bW hw;have hg:b7.grownBy bW (some b4):=(by rw[hw];exact bI.2);have nB:Kd.R iY 75 bW w0.heap.size (fun k_=>(kz k_∨w.heap.size≤k_)) (.slice (some ⟨b4,0,none⟩) b2.length bJ) bC:=(by rw[hw,bY.out];exact bI.1);clear bI;replace b3:=am (nB);replace HK:=am (Kept.lD (S:=(fun k_=>kz k_)) hg oK (fun k_ e_=>(b3.out.1 k_ e_)));replace HB:=am ((by rw[hw];exact aG (HB.out) d4.out:Below w0.heap.size w0 bW));clear hg hw nB))
   go_roundg k1
   case measure=>have:=bZ.out;omega
   case rel=>exact⟨(bC),(wrap64 ((wrap64 (b5+1))+1)),(wrap64 (b1+1)),oS,oS,H',⟨by have:=bZ.out;omega⟩,⟨oR b3⟩,⟨oK⟩,⟨oB⟩⟩

theorem tS.calls (k:Nat) (s:ByteArray) (t:Bool) (w:World) (h:aA.f k s=some t):
  Calls Tryz.prog 144 #[.string s] w fun e w'=>e= .returned (.bool (!t))∧Below w.heap.size w w':=by
 have hc:=aA.calls k s t w h;clear h
 go_enter Tryz.func144,Tryz.ntmps144
 go_wp2_with (go_at_call 65;refine hc.mono ?_;rintro e w1 ⟨rfl,m,rfl⟩)
 go_ret
 exact⟨rfl,aI (Below.refl _ _) m⟩
/-- The first of the names that is not right, counted from i on. -/
def badR (k:Nat):List ByteArray→Nat→Option Int
 |[],_=>some (-1)
 |x::l,i=>(aA.f k x).bind fun t=>if t=true then badR k l (i+1)else some (i:Int)
theorem aaW.calls (k:Nat) (A0:Option Addr) (c0:Nat) (l:List ByteArray) (r:Int) (w:World) (hr:Kd.C Kd.string w A0 l.length l) (hl:l.length≤9223372036854775807) (h:badR k l 0=some r):
  Calls Tryz.prog 156 #[.slice A0 l.length c0,.func (.func 144) #[] #[]] w fun e w'=>e= .returned (.int .i64 r)∧Below w.heap.size w w':=by
 have H0:=ae.mk h;clear h
 go_enter Tryz.func156,Tryz.ntmps156
 go_wp2
 go_loopg [5,8] l.length (fun gg _ s8 wr=>∃kk:Nat,kk≤l.length∧l.length-kk≤gg∧s8= .int .i64 kk∧ae (Below w.heap.size w wr)∧ae (badR k (l.drop kk) kk=some r))
 case atStart=>exact⟨0,Nat.zero_le _,by omega,rfl,⟨Below.refl _ w⟩,H0⟩
 case round=>
  clear H0;obtain⟨kk,hkk,hg,rfl,BW,HA⟩:=hrel
  by_cases hlt:kk<l.length
  rotate_left
  ·have hltz:¬(kk:Int)<(l.length:Int):=by omega
   obtain rfl:kk=l.length:=by omega
   have h1:=HA.out;rw[List.drop_length,badR]at h1;obtain rfl:=Option.some.inj h1
   go_wp2
   go_ret
   exact⟨rfl,BW.out⟩
  have hltz:(kk:Int)<(l.length:Int):=by omega
  have h1:=HA.out;rw[List.drop_eq_getElem_cons hlt,badR]at h1;replace h1:=bA h1;obtain⟨t,A1,h1⟩:=h1;obtain⟨ad,c,e0,hcl,hK,hcell⟩:=Kd.nY (Kd.dq hr BW.out) ⟨#[]⟩ (kk:Int) (by omega) hltz
  cases e0
  have hx:l.getD (kk:Int).toNat ⟨#[]⟩=l[kk]:=by rw[Int.toNat_natCast,List.getD_eq_getElem?_getD,List.getElem?_eq_getElem hlt];rfl
  rw[hx]at hK;obtain rfl:c=[.string l[kk]]:=hK
  have h0:wr.cell? (ad.add kk)=some (.string l[kk]):=by have:=hcell 0 _ rfl;simpa [Kd.string,Kd.scalar]using this
  clear hcell hcl hx
  cases t with
  |true=>
   have H':=ae.mk h1;clear h1
   go_wp2_with (go_at_call 144;refine(tS.calls k l[kk] true _ A1.out).mono ?_;rintro e w1 ⟨rfl,hb⟩)
   go_roundg (l.length-(kk+1))
   case measure=>omega
   case rel=>exact⟨kk+1,by omega,by omega,by go_num,⟨jj BW.out BW.out.size hb⟩,H'⟩
  |false=>
   obtain rfl:=Option.some.inj h1
   go_wp2_with (go_at_call 144;refine(tS.calls k l[kk] false _ A1.out).mono ?_;rintro e w1 ⟨rfl,hb⟩)
   go_ret
   exact⟨rfl,jj BW.out BW.out.size hb⟩
theorem aaX.calls (k:Nat) (A0:Option Addr) (c0:Nat) (l:List ByteArray) (r:Int) (w:World) (hr:Kd.C Kd.string w A0 l.length l) (hl:l.length≤9223372036854775807) (h:badR k l 0=some r):
  Calls Tryz.prog 143 #[.slice A0 l.length c0,.func (.func 144) #[] #[]] w fun e w'=>e= .returned (.bool (decide (0≤r)))∧Below w.heap.size w w':=by
 have hc:=aaW.calls k A0 c0 l r w hr hl h;clear hr h
 go_enter Tryz.func143,Tryz.ntmps143
 go_wp2_with (go_at_call 156;refine hc.mono ?_;rintro e w1 ⟨rfl,hb⟩)
 go_ret
 exact⟨rfl,hb⟩
def gf.f (k:Nat) (l:List ByteArray):Option Bool:=if l.length≤30 then(badR k l 0).bind fun r=>some (!decide (0≤r))else some false
theorem gf.calls (k:Nat) (A0:Option Addr) (c0:Nat) (l:List ByteArray) (r:Bool) (w:World) (hr:Kd.C Kd.string w A0 l.length l) (hc0:l.length≤c0) (h:gf.f k l=some r):
  Calls Tryz.prog 122 #[.slice A0 l.length c0] w fun e w'=>e= .returned (.bool r)∧Below w.heap.size w w':=by
 unfold gf.f at h
 split at h
 case isTrue hl=>
  replace h:=bA h;obtain⟨i,A1,h⟩:=h;obtain rfl:=Option.some.inj h;have hc:=aaX.calls k A0 c0 l i w hr (by omega) A1.out;have hlz:decide ((l.length:Int)≤30)=true:=decide_eq_true (by omega);clear hr h hl hc0
  go_enter Tryz.func122,Tryz.ntmps122
  go_wp2_with (go_at_call 143;refine hc.mono ?_;rintro e w1 ⟨rfl,hb⟩)
  go_ret
  exact⟨rfl,hb⟩
 case isFalse hl=>
  obtain rfl:=Option.some.inj h;have hlz:decide ((l.length:Int)≤30)=false:=decide_eq_false (by omega);clear hr h hl hc0
  go_enter Tryz.func122,Tryz.ntmps122
  go_wp2
  go_ret
  exact⟨rfl,Below.refl _ _⟩
def fc.f (k:Nat) (ag:List (bg)) (ak:Int) (a1:Int):Option (Int×Int×Int×List Int×(List (ed))×(List (eg))×Bool):=(cA.f k ag ak a1).bind fun b1=>(if b1<0 then(some (0,0,0,([]:List Int),([]:List (ed)),([]:List (eg)),false))else(if 0≤b1 then(if b1<(ag.length:Int)then((df.f ((af ag b1).f0) ((af ag b1).f1) ((af ag b1).f2) ((af ag b1).f3) ((af ag b1).f4) ((af ag b1).f5)).bind fun b2=>(some (b2.1,b2.2.1,b2.2.2.1,b2.2.2.2.1,b2.2.2.2.2.1,b2.2.2.2.2.2,true)))else(none))else(none)))
theorem fc.calls (k:Nat) (bh:Option Addr) (aU:Nat) (ag:List (bg)) (ak:Int) (a1:Int) (r1:Int) (r2:Int) (r3:Int) (r4:List Int) (r5:List (ed)) (r6:List (eg)) (r7:Bool) (w:World) (cg:Kd.C fy w bh ag.length ag) (cj:ag.length≤aU) (h:fc.f k ag ak a1=some (r1,r2,r3,r4,r5,r6,r7)):
  Calls Tryz.prog 85 #[.agg #[.slice bh ag.length aU,.int .i64 ak],.int .i64 a1] w fun e w'=>∃pR pS pT:Value,e= .returned (.tuple #[.agg #[.int .i64 r1,.int .i64 r2,.int .i64 r3,pR,pS,pT],.bool r7])∧Kd.R (Kd.int .u8) 5 w' w.heap.size (fun _=>True) pR r4∧Kd.R iY 75 w' w.heap.size (fun _=>True) pS r5∧Kd.R iZ 82 w' w.heap.size (fun _=>True) pT r6∧Below w.heap.size w w':=by
 have dP:=Tryz.underlying28;have dQ:=Tryz.underlying58;have b6:=ae.mk cg;have b8:=ae.mk cj;clear cg cj;have HB:=am (Below.refl w.heap.size w);unfold fc.f at h;have H:=h;clear h;replace H:=bA H;obtain⟨b3,A3,H⟩:=H
 try dsimp only at H
 replace H:=iE H;rcases H with⟨bU,H⟩|⟨bU,H⟩
 ·simp only[Option.some.injEq,Prod.mk.injEq]at H;obtain⟨rfl,rfl,rfl,rfl,rfl,rfl,rfl⟩:=H
  go_enter Tryz.func85,Tryz.ntmps85
  go_wp2_with (first|((with_reducible refine ai (N:=2) rfl ?_);refine dd 2 #[.slice bh ag.length aU,.int .i64 ak] 28 ?_;intro bP hg w5 hbox hb;have b1:=am (hbox);have bQ:=de hg;replace HB:=hB HB hb;clear hb hbox hg)|((with_reducible refine ai (N:=4) rfl ?_);refine dd 4 #[.int .i64 0,.int .i64 0,.int .i64 0,.slice none 0 0,.slice none 0 0,.slice none 0 0] 58 ?_;intro b7 hg w6 hbox hb;have b2:=am (hbox);have bR:=de hg;have b4:=eE hg b1;have b5:=eF hg b1;replace b1:=bl b1 hb;replace HB:=hB HB hb;clear hb hbox hg;have dR:=b4.out;have dS:=b5.out;obtain⟨⟨_,_⟩,_,_⟩:=z2 b1)|((with_reducible refine aj (f:=82) rfl ?_);refine eG 9 Tryz.func82 (cA.calls k _ _ ag ak a1 b3 _ (kC b6) b8.out A3.out) ?_;rintro e w9 ⟨rfl,hb⟩;refine⟨_,rfl,?_⟩;replace b1:=bl b1 hb;replace b2:=bl b2 hb;replace HB:=hB HB hb;obtain⟨⟨_,_,_,_,_,_⟩,_,_,_,_,_,_⟩:=z6 b2))
  refine bodyPost_ret (di rfl _ _ b7 58 #[.int .i64 0,.int .i64 0,.int .i64 0,.slice none 0 0,.slice none 0 0,.slice none 0 0] (0,0) _ rfl (oP b2) Tryz.underlying58 rfl (by kernel_rfl)) rfl ?_;exact⟨_,_,_,oE,by first|exact Kd.fx _ _ _ _ _|exact Kd.iB _ _ _ _ _|exact Kd.iC _ _ _ _ _|exact Kd.iz _ _ _ _ _|exact Kd.iA _ _ _ _ _,by first|exact Kd.fx _ _ _ _ _|exact Kd.iB _ _ _ _ _|exact Kd.iC _ _ _ _ _|exact Kd.iz _ _ _ _ _|exact Kd.iA _ _ _ _ _,by first|exact Kd.fx _ _ _ _ _|exact Kd.iB _ _ _ _ _|exact Kd.iC _ _ _ _ _|exact Kd.iz _ _ _ _ _|exact Kd.iA _ _ _ _ _,oB⟩
 obtain⟨dK,H⟩:=cX H;obtain⟨dL,H⟩:=cX H;replace H:=bA H;obtain⟨⟨bJ,bK,bL,bM,bN,bO⟩,dC,H⟩:=H
 try dsimp only at H
 simp only[Option.some.injEq,Prod.mk.injEq]at H;obtain⟨rfl,rfl,rfl,rfl,rfl,rfl,rfl⟩:=H
 go_enter Tryz.func85,Tryz.ntmps85
 go_wp2_with (first|((with_reducible refine ai (N:=2) rfl ?_);refine dd 2 #[.slice bh ag.length aU,.int .i64 ak] 28 ?_;intro bP hg dY hbox hb;have b1:=am (hbox);have bQ:=de hg;replace HB:=hB HB hb;clear hb hbox hg)|((with_reducible refine ai (N:=4) rfl ?_);refine dd 4 #[.int .i64 0,.int .i64 0,.int .i64 0,.slice none 0 0,.slice none 0 0,.slice none 0 0] 58 ?_;intro b7 hg dZ hbox hb;have b2:=am (hbox);have bR:=de hg;have b4:=eE hg b1;have b5:=eF hg b1;replace b1:=bl b1 hb;replace HB:=hB HB hb;clear hb hbox hg;have dM:=b4.out;have dN:=b5.out;obtain⟨⟨_,_⟩,_,_⟩:=z2 b1)|((with_reducible refine aj (f:=82) rfl ?_);refine eG 9 Tryz.func82 (cA.calls k _ _ ag ak a1 b3 _ (kC b6) b8.out A3.out) ?_;rintro e gA ⟨rfl,hb⟩;refine⟨_,rfl,?_⟩;replace b1:=bl b1 hb;replace b2:=bl b2 hb;replace HB:=hB HB hb;obtain⟨⟨_,_⟩,_,_⟩:=z2 b1;have dT:(0≤(b3:Int))=True:=oT;have dU:(b3<(ag.length:Int))=True:=oT;obtain⟨dO,dD,dE,dF,dG,dH,dI,bV,d6,d7,d8,d9,dA,dB,bD,bE,bF,bG,bH,bI⟩:=fb b6 HB b3 oa oa;cases bV)|((with_reducible refine aj (f:=83) rfl ?_);refine eG 18 Tryz.func83 (df.calls ((af ag b3).f0) ((af ag b3).f1) ((af ag b3).f2) _ _ ((af ag b3).f3) _ _ ((af ag b3).f4) _ _ ((af ag b3).f5) bJ bK bL bM bN bO _ (kC bE) bD.out (kC bG) bF.out (kC bI) bH.out dC.out) ?_;rintro e gB ⟨dV,dW,dX,rfl,dJ,bS,bT,hb⟩;refine⟨_,rfl,?_⟩;have b9:=am (Kd.aw dJ (ah oB));have bB:=am (Kd.aw bS (ah oB));have bC:=am (Kd.aw bT (ah oB));replace b1:=bl b1 hb;replace b2:=bl b2 hb;replace HB:=hB HB hb;(try clear bS);(try clear bT);obtain⟨⟨_,_,_,_,_,_⟩,_,_,_,_,_,_⟩:=z6 b2;obtain⟨bW,bX,bY⟩:=Kd.ax b9.out;subst bY;obtain⟨bZ,d1,d2⟩:=Kd.ax bB.out;subst d2;obtain⟨d3,d4,d5⟩:=Kd.ax bC.out;subst d5))
 refine bodyPost_ret (di rfl _ _ b7 58 #[.int .i64 bJ,.int .i64 bK,.int .i64 bL,.slice bW bM.length bX,.slice bZ bN.length d1,.slice d3 bO.length d4] (0,0) _ rfl (oP b2) Tryz.underlying58 rfl (by kernel_rfl)) rfl ?_;exact⟨_,_,_,oE,wD b9 b2,wD bB b2,wD bC b2,oB⟩

def ek.f (bn:Int) (ak:Int) (cG:Int) (ch:List Int) (aH:List (ed)) (cv:List (eg)):Option (Int×Int×Int×List Int×(List (ed))×(List (eg))):=(cw.f ch).bind fun b1=>((dg.f aH).bind fun b2=>((cS.f cv).bind fun b3=>(some (bn,ak,cG,b1,b2,b3))))
theorem ek.calls (bn:Int) (ak:Int) (cG:Int) (fL:Option Addr) (fM:Nat) (ch:List Int) (fC:Option Addr) (fD:Nat) (aH:List (ed)) (fq:Option Addr) (ft:Nat) (cv:List (eg)) (r1:Int) (r2:Int) (r3:Int) (r4:List Int) (r5:List (ed)) (r6:List (eg)) (w:World) (iH:Kd.C (Kd.int .u8) w fL ch.length ch) (iI:ch.length≤fM) (iJ:Kd.C iY w fC aH.length aH) (iK:aH.length≤fD) (iL:Kd.C iZ w fq cv.length cv) (iM:cv.length≤ft) (h:ek.f bn ak cG ch aH cv=some (r1,r2,r3,r4,r5,r6)):
  Calls Tryz.prog 87 #[.agg #[.int .i64 bn,.int .i64 ak,.int .i64 cG,.slice fL ch.length fM,.slice fC aH.length fD,.slice fq cv.length ft]] w fun e w'=>∃pR pS pT:Value,e= .returned (.agg #[.int .i64 r1,.int .i64 r2,.int .i64 r3,pR,pS,pT])∧Kd.R (Kd.int .u8) 5 w' w.heap.size (fun _=>True) pR r4∧Kd.R iY 75 w' w.heap.size (fun _=>True) pS r5∧Kd.R iZ 82 w' w.heap.size (fun _=>True) pT r6∧Below w.heap.size w w':=by
 have bW:=Tryz.underlying58;have bH:=ae.mk iH;have bI:=ae.mk iI;clear iH iI;have bJ:=ae.mk iJ;have bK:=ae.mk iK;clear iJ iK;have bL:=ae.mk iL;have bM:=ae.mk iM;clear iL iM;have HB:=am (Below.refl w.heap.size w);unfold ek.f at h;have H:=h;clear h;replace H:=bA H;obtain⟨b5,A2,H⟩:=H
 try dsimp only at H
 replace H:=bA H;obtain⟨b9,A3,H⟩:=H
 try dsimp only at H
 replace H:=bA H;obtain⟨bE,A4,H⟩:=H
 try dsimp only at H
 simp only[Option.some.injEq,Prod.mk.injEq]at H;obtain⟨rfl,rfl,rfl,rfl,rfl,rfl⟩:=H
 go_enter Tryz.func87,Tryz.ntmps87
 go_wp2_with (first|((with_reducible refine ai (N:=1) rfl ?_);refine dd 1 #[.int .i64 bn,.int .i64 ak,.int .i64 cG,.slice fL ch.length fM,.slice fC aH.length fD,.slice fq cv.length ft] 58 ?_;intro bT hg w5 hbox hb;have b1:=am (hbox);have bU:=de hg;replace HB:=hB HB hb;clear hb hbox hg)|((with_reducible refine ai (N:=2) rfl ?_);refine dd 2 #[.int .i64 0,.int .i64 0,.int .i64 0,.slice none 0 0,.slice none 0 0,.slice none 0 0] 58 ?_;intro bN hg w6 hbox hb;have b2:=am (hbox);have bV:=de hg;have b6:=eE hg b1;have b7:=eF hg b1;replace b1:=bl b1 hb;replace HB:=hB HB hb;clear hb hbox hg;have bX:=b6.out;have bY:=b7.out;obtain⟨⟨_,_,_,_,_,_⟩,_,_,_,_,_,_⟩:=z6 b1)|((with_reducible refine aj (f:=119) rfl ?_);refine eG 5 Tryz.func119 (cw.calls _ _ ch b5 _ (kC bH) bI.out A2.out) ?_;rintro e w9 ⟨bZ,rfl,b8,hb⟩;refine⟨_,rfl,?_⟩;have b3:=am (Kd.aw b8 (ah oB));replace b1:=bl b1 hb;replace b2:=bl b2 hb;replace HB:=hB HB hb;obtain⟨bB,bC,bO⟩:=Kd.ax b3.out;subst bO;obtain⟨⟨_,_,_,_,_,_⟩,_,_,_,_,_,_⟩:=z6 b1)|((with_reducible refine aj (f:=96) rfl ?_);refine eG 9 Tryz.func96 (dg.calls _ _ aH b9 _ ?eY bK.out A3.out) ?_;(case eY=>exact Kd.dq bJ.out oB);rintro e d3 ⟨d1,rfl,b8,hb⟩;refine⟨_,rfl,?_⟩;have b4:=am (Kd.aw b8 (ah oB));replace b3:=kV b3 b1 hb;replace b1:=tt #[.int .i64 bn,.int .i64 ak,.int .i64 cG,.slice bB b5.length bC,.slice fC aH.length fD,.slice fq cv.length ft] b1 hb;replace b2:=bl b2 hb;replace HB:=hB HB hb;(try clear hk);obtain⟨bF,bG,bP⟩:=Kd.ax b4.out;subst bP;obtain⟨⟨_,_,_,_,_,_⟩,_,_,_,_,_,_⟩:=z6 b1)|((with_reducible refine aj (f:=120) rfl ?_);refine eG 13 Tryz.func120 (cS.calls _ _ cv bE _ ?eY bM.out A4.out) ?_;(case eY=>exact Kd.dq bL.out oB);rintro e d4 ⟨d2,rfl,b8,hb⟩;refine⟨_,rfl,?_⟩;have bD:=am (Kd.aw b8 (ah oB));replace b3:=kV b3 b1 hb;replace b4:=kV b4 b1 hb;replace b1:=tt #[.int .i64 bn,.int .i64 ak,.int .i64 cG,.slice bB b5.length bC,.slice bF b9.length bG,.slice fq cv.length ft] b1 hb;replace b2:=bl b2 hb;replace HB:=hB HB hb;(try clear hk);obtain⟨bQ,bR,bS⟩:=Kd.ax bD.out;subst bS;obtain⟨⟨_,_,_,_,_,_⟩,_,_,_,_,_,_⟩:=z6 b1;obtain⟨⟨_,_,_,_,_,_⟩,_,_,_,_,_,_⟩:=z6 b2))
 refine bodyPost_ret (results_cell_row rfl _ _ bN 58 #[.int .i64 bn,.int .i64 ak,.int .i64 cG,.slice bB b5.length bC,.slice bF b9.length bG,.slice bQ bE.length bR] (0,0) _ rfl (oP b2) Tryz.underlying58 rfl (by kernel_rfl)) rfl ?_;exact⟨_,_,_,oE,oN b3 b1 b2,oN b4 b1 b2,oN bD b1 b2,oB⟩
end Go.Proofs.YtlecajlnjmbilaaGreatDoor.P
