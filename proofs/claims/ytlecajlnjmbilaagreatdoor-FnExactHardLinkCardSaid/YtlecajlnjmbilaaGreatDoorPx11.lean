-- Printed walks.
import Derived.Test.YtlecajlnjmbilaaGreatDoorPx6
import Derived.Test.YtlecajlnjmbilaaGreatDoorPx10
set_option linter.all false
set_option maxHeartbeats 8000000
set_option maxRecDepth 100000
namespace Go.Proofs.YtlecajlnjmbilaaGreatDoor.P
open Go.RowKit Go.Proofs.ab.ar Go.Proofs.ab.aH Go.Proofs.ab.aN Go.Proofs.Tryz
attribute [local go_sem] ib ic jc jd fU fV ie ig

def ed.l0:Nat→List Int→Int→List (aX)→Int→Option (List Int)
 |0,_,_,_,_=>none
 |k+1,x3,x4,b1,b2=>if x4<(b1.length:Int)then((az.f k b1 b2 x3).bind fun b3=>(ed.l0 k b3 (wrap64 (x4+1)) b1 b2))else(some x3)
def ed.f (k:Nat) (ag:List (aX)) (ak:Int):Option (List Int):=(some (([]:List Int):List Int)).bind fun b1=>((cH.f k ag ak 1).bind fun b2=>(if b2<0 then(some b1)else(if b1.length<17592186044416 then(ed.l0 k (b1++[1]) 0 ag ak)else(none))))
theorem ed.calls (k:Nat) (bh:Option Addr) (aT:Nat) (ag:List (aX)) (ak:Int) (r:List Int) (w:World) (cj:Kd.C gh w bh ag.length ag) (ck:ag.length≤aT) (h:ed.f k ag ak=some r):
  Calls Tryz.prog 80 #[.agg #[.slice bh ag.length aT,.int .i64 ak]] w fun e w'=>∃jx:Value,e= .returned (jx)∧Kd.R (Kd.int .i64) 3 w' w.heap.size (fun _=>True) jx r∧Below w.heap.size w w':=by
 have bT:=underlying28;have b7:=ae.mk cj;have b8:=ae.mk ck;clear cj ck;have HB:=am (Below.refl w.heap.size w);unfold ed.f at h;have H:=h;clear h;obtain⟨b4,da⟩:∃y_:List Int,y_=(([]:List Int)):=⟨_,rfl⟩;replace H:((cH.f k ag ak 1).bind fun b9=>(if b9<0 then(some b4)else(if b4.length<17592186044416 then(ed.l0 k (b4++[1]) 0 ag ak)else(none))))=some r:=oY;have b3:=ae.mk da;clear da;replace H:=bA H;obtain⟨b9,A2,H⟩:=H
 try dsimp only at H
 replace H:=jm H;rcases H with⟨bF,H⟩|⟨bF,H⟩
 ·obtain rfl:=Option.some.inj H
  go_enter func80,ntmps80
  go_wp2_with (first|((with_reducible refine aj (N:=1) rfl ?_);refine cO 1 #[.slice bh ag.length aT,.int .i64 ak] 28 ?_;intro bE hg w4 hbox hb;have b1:=am (hbox);have bJ:=cN hg;replace HB:=hB HB hb;clear hb hbox hg)|((with_reducible refine aj (N:=5) rfl ?_);refine Kd.kM (Kd.int .i64) _ 3 ?hg (N:=5) ?hd (xs:=([]:List Int)) (inner:=[]) (ok:=fun _=>True) (fY:=fun _=>True) ?hr ?hp (fun _ hk=>hk) trivial (Below.refl _ _) (Nat.le_refl _) (by simp) ?_;(case hd=>rfl);(case hg=>rfl);(case hr=>first|(go_simp;done)|(go_simp;rfl));(case hp=>exact(cS.none _ _));intro bG w5 bD hb kX ek;clear kX ek;(first|rw[←b3.out]at bD|(simp only[Int.reduceToNat]at bD;rw[←b3.out]at bD));have b2:=am (Kd.an bD (ah oB));replace b1:=aJ b1 hb;replace HB:=hB HB hb;clear hb bD;obtain⟨⟨_,_⟩,_,_⟩:=z2 b1)|((with_reducible refine ai (f:=82) rfl ?_);refine ej 7 func82 (cH.calls k _ _ ag ak 1 b9 _ (kC b7) b8.out A2.out) ?_;rintro e w8 ⟨rfl,hb⟩;refine⟨_,rfl,?_⟩;replace b2:=ei b2 hb;replace b1:=aJ b1 hb;replace HB:=hB HB hb))
  go_ret
  exact⟨_,oE,oR b2,oB⟩
 obtain⟨c9,H⟩:=lC H;have bP:=ae.mk c9;clear c9;obtain⟨bH,da⟩:∃y_:List Int,y_=(b4++[1]):=⟨_,rfl⟩;replace H:(ed.l0 k bH 0 ag ak)=some r:=oY;have bK:=ae.mk da;clear da;have H':=ae.mk H;clear H
 go_enter func80,ntmps80
 go_wp2_with (first|((with_reducible refine aj (N:=1) rfl ?_);refine cO 1 #[.slice bh ag.length aT,.int .i64 ak] 28 ?_;intro bE hg bY hbox hb;have b1:=am (hbox);have bJ:=cN hg;replace HB:=hB HB hb;clear hb hbox hg)|((with_reducible refine aj (N:=5) rfl ?_);refine Kd.kM (Kd.int .i64) _ 3 ?hg (N:=5) ?hd (xs:=([]:List Int)) (inner:=[]) (ok:=fun _=>True) (fY:=fun _=>True) ?hr ?hp (fun _ hk=>hk) trivial (Below.refl _ _) (Nat.le_refl _) (by simp) ?_;(case hd=>rfl);(case hg=>rfl);(case hr=>first|(go_simp;done)|(go_simp;rfl));(case hp=>exact(cS.none _ _));intro bG bZ b5 hb kX ek;clear kX ek;(first|rw[←b3.out]at b5|(simp only[Int.reduceToNat]at b5;rw[←b3.out]at b5));have b2:=am (Kd.an b5 (ah oB));replace b1:=aJ b1 hb;replace HB:=hB HB hb;clear hb b5;obtain⟨⟨_,_⟩,_,_⟩:=z2 b1)|((with_reducible refine ai (f:=82) rfl ?_);refine ej 7 func82 (cH.calls k _ _ ag ak 1 b9 _ (kC b7) b8.out A2.out) ?_;rintro e d1 ⟨rfl,hb⟩;refine⟨_,rfl,?_⟩;replace b2:=ei b2 hb;replace b1:=aJ b1 hb;replace HB:=hB HB hb)|((with_reducible refine eU (b:= .append) (xs:= #[.tmp 10,.tmp 11]) rfl ?_);at_builtin;refine Kd.pb (Kd.int .i64) (w0:=w) w.heap.size rfl (.tmp 10) (.tmp 11) 98 3 (.int .i64 0) 8 rfl underlying98 info3 rfl (by decide) (by omega) bG b4 1 [.int .i64 1] (fun _=>True) (fun _=>False) rfl rfl ?aP (fun _ hk=>hk.elim) ?aF ?aO ?aB ?aS ?aL ?_;(case aP=>exact rfl);(case aB=>exact oB);(case aF=>exact(fun _ _=>trivial));(case aO=>exact(oR b2));(case aS=>exact(ah oB));(case aL=>have:=bP.out;omega);intro bU d2 ho hb hg hat;rw[←bK.out]at ho;have bL:=am (ho);replace b1:=lM b1 hg (Kd.nX b2.out b1.out (by decide));replace HB:=am (hb);clear b2;clear ho hb hg hat))
 go_loopg [3,4] k (fun kq v3 v4 w'=>∃(bB:List Int) (bC:Int),v4= .int .i64 bC∧ae (ed.l0 kq bB bC ag ak=some r)∧ae (kq≤k)∧ae (Kd.R (Kd.int .i64) 3 w' w.heap.size (fun _=>True) v3 bB)∧ae (w'.heap[bE]? =some (.cells #[(.slice bh ag.length aT),.int .i64 ak] 28 (0,0)))∧ae (Below w.heap.size w w'))
 case atStart=>exact⟨(bH),(0),oS,H',⟨Nat.le_refl _⟩,⟨oR bL⟩,⟨oF b1⟩,⟨oB⟩⟩
 case round=>
  clear H'
  try clear bF
  try clear c9
  obtain⟨bB,bC,rfl,HA,bO,b6,b1,HB⟩:=hrel
  cases gk with
  |zero=>exact absurd HA.out (by simp[ed.l0])
  |succ k1=>
   have H:=HA.out;clear HA;simp only[ed.l0]at H;replace H:=jm H;rcases H with⟨bM,H⟩|⟨bM,H⟩;rotate_left
   ·obtain rfl:=Option.some.inj H;obtain⟨⟨_,_⟩,_,_⟩:=z2 b1
    go_wp2
    go_ret
    exact⟨_,oE,oR b6,oB⟩
   replace H:=bA H;obtain⟨bI,bR,H⟩:=H
   try dsimp only at H
   have H':=ae.mk H;clear H;obtain⟨⟨_,_⟩,_,_⟩:=z2 b1;obtain⟨bV,bW,bQ⟩:=Kd.ao b6.out;subst bQ
   go_wp2_with (first|((with_reducible refine ai (f:=117) rfl ?_);refine ej 22 func117 (az.calls k1 _ _ ag ak _ _ bB bI w.heap.size _ (ah oB) (kC b7) b8.out (oR b6) bR.out) ?_;rintro e d3 ⟨bX,rfl,bS,hb⟩;refine⟨_,rfl,?_⟩;have bN:=ae.mk bS;replace b6:=ei b6 hb;replace b1:=aJ b1 hb;replace HB:=hB HB hb))
   go_roundg k1
   case measure=>have:=bO.out;omega
   case rel=>exact⟨(bI),(wrap64 (bC+1)),oS,H',⟨by have:=bO.out;omega⟩,⟨mR bN⟩,⟨oF b1⟩,⟨oB⟩⟩

def eB.f (k:Nat) (a0:ByteArray):Option (ByteArray×ByteArray×Bool):=(aE.f k a0).bind fun b1=>(if b1.2=true then(if(b1.1.length:Int)=0 then(some ((⟨#[]⟩:ByteArray),(⟨#[]⟩:ByteArray),false))else(if 0≤(wrap64 ((b1.1.length:Int)-1))then(if(wrap64 ((b1.1.length:Int)-1))≤(b1.1.length:Int)then((cP.f k (b1.1.take ((wrap64 ((b1.1.length:Int)-1)):Int).toNat)).bind fun b2=>(if(wrap64 ((b1.1.length:Int)-1))<(b1.1.length:Int)then(some (b2,jb ByteArray.empty b1.1 (wrap64 ((b1.1.length:Int)-1)),true))else(none)))else(none))else(none)))else(some ((⟨#[]⟩:ByteArray),(⟨#[]⟩:ByteArray),false)))
theorem eB.calls (k:Nat) (a0:ByteArray) (r1:ByteArray) (r2:ByteArray) (r3:Bool) (w:World) (h:eB.f k a0=some (r1,r2,r3)):
  Calls Tryz.prog 39 #[.string a0] w fun e w'=>e= .returned (.tuple #[.string r1,.string r2,.bool r3])∧Below w.heap.size w w':=by
 have HB:=am (Below.refl w.heap.size w);unfold eB.f at h;have H:=h;clear h;replace H:=bA H;obtain⟨⟨b1,d7⟩,A2,H⟩:=H
 try dsimp only at H
 replace H:=lr H;rcases H with⟨rfl,H⟩|⟨rfl,H⟩;rotate_left
 ·simp only[Option.some.injEq,Prod.mk.injEq]at H;obtain⟨rfl,rfl,rfl⟩:=H
  go_enter func39,ntmps39
  go_wp2_with (first|(go_at_call 51;(with_reducible refine(aE.calls k a0 b1 false _ A2.out).mono ?_);rintro e bY ⟨bD,rfl,b5,hb⟩;have b2:=am (Kd.an b5 (ah oB));replace HB:=hB HB hb))
  repeat(go_quiet (first|(go_at_call 51;(with_reducible refine(aE.calls k a0 b1 false _ A2.out).mono ?_);rintro e bY ⟨bD,rfl,b5,hb⟩;have b2:=am (Kd.an b5 (ah oB));replace HB:=hB HB hb));try go_wp2_with (first|(go_at_call 51;(with_reducible refine(aE.calls k a0 b1 false _ A2.out).mono ?_);rintro e bY ⟨bD,rfl,b5,hb⟩;have b2:=am (Kd.an b5 (ah oB));replace HB:=hB HB hb)))
  go_ret3
  exact⟨oE,oB⟩
 by_cases c4:(b1.length:Int)=0
 ·rw[if_pos c4]at H;have d3:((b1.length:Int)==0)=true:=beq_iff_eq.mpr c4;have d4:((b1.length:Int) !=0)=false:=bne_eq_false_iff_eq.mpr c4;clear c4;simp only[Option.some.injEq,Prod.mk.injEq]at H;obtain⟨rfl,rfl,rfl⟩:=H
  go_enter func39,ntmps39
  go_wp2_with (first|(go_at_call 51;(with_reducible refine(aE.calls k a0 b1 true _ A2.out).mono ?_);rintro e w5 ⟨bD,rfl,b5,hb⟩;have b2:=am (Kd.an b5 (ah oB));replace HB:=hB HB hb;obtain⟨bZ,d1,bS⟩:=Kd.ao b2.out;subst bS))
  repeat(go_quiet (first|(go_at_call 51;(with_reducible refine(aE.calls k a0 b1 true _ A2.out).mono ?_);rintro e w5 ⟨bD,rfl,b5,hb⟩;have b2:=am (Kd.an b5 (ah oB));replace HB:=hB HB hb;obtain⟨bZ,d1,bS⟩:=Kd.ao b2.out;subst bS));try go_wp2_with (first|(go_at_call 51;(with_reducible refine(aE.calls k a0 b1 true _ A2.out).mono ?_);rintro e w5 ⟨bD,rfl,b5,hb⟩;have b2:=am (Kd.an b5 (ah oB));replace HB:=hB HB hb;obtain⟨bZ,d1,bS⟩:=Kd.ao b2.out;subst bS)))
  go_ret3
  exact⟨oE,oB⟩
 rw[if_neg c4]at H;have d3:((b1.length:Int)==0)=false:=beq_eq_false_iff_ne.mpr c4;have d4:((b1.length:Int) !=0)=true:=bne_iff_ne.mpr c4
 have d8:¬(b1=[]):=fun h_=>c4 (by rw[h_];rfl)
 obtain⟨b3,bM⟩:∃j_:Int,(wrap64 ((b1.length:Int)-1))=j_:=⟨_,rfl⟩
 replace H:(if 0≤(b3)then(if(b3)≤(b1.length:Int)then((cP.f k (b1.take ((b3):Int).toNat)).bind fun bJ=>(if(b3)<(b1.length:Int)then(some (bJ,jb ByteArray.empty b1 (b3),true))else(none)))else(none))else(none))=some (r1,r2,r3):=by first|(rw[bM]at H;exact H)|(simp only[bM]at H⊢;exact H)
 (try rw[bM]at A2)
 have d5:(IntKind.i64.wrap ((b1.length:Int)-1))=b3:=(kK _).trans bM;obtain⟨c8,H⟩:=lC H;have d9:=eq_true c8;have dA:decide (0≤(b3))=true:=decide_eq_true c8;clear c8;obtain⟨c9,H⟩:=lC H;have dB:=eq_true c9;have dC:decide ((b3)≤(b1.length:Int))=true:=decide_eq_true c9;clear c9;obtain⟨bC,da⟩:∃y_:List ByteArray,y_=(b1.take ((b3):Int).toNat):=⟨_,rfl⟩;replace H:((cP.f k bC).bind fun bJ=>(if(b3)<(b1.length:Int)then(some (bJ,jb ByteArray.empty b1 (b3),true))else(none)))=some (r1,r2,r3):=oY;have bI:=ae.mk da;clear da;replace H:=bA H;obtain⟨bJ,bU,H⟩:=H
 try dsimp only at H
 obtain⟨d6,H⟩:=cU H;simp only[Option.some.injEq,Prod.mk.injEq]at H;obtain⟨rfl,rfl,rfl⟩:=H
 go_enter func39,ntmps39
 go_wp2_with (first|(go_at_call 51;(with_reducible refine(aE.calls k a0 b1 true _ A2.out).mono ?_);rintro e d2 ⟨bD,rfl,b5,hb⟩;have b2:=am (Kd.an b5 (ah oB));replace HB:=hB HB hb;obtain⟨bE,b6,bN⟩:=Kd.ao b2.out;subst bN;have bF:((b3):Int)≤((b1.length:Int):Int):=oa;obtain⟨bV,b9,_,bK,_⟩:=info_parts info9;have b4:b1.length≤b6:=(Kd.bd b2.out).2.1;have bG:Kd.C Kd.string _ bE b1.length b1:=(Kd.bd b2.out).2.2;have bH:=qQ (P:=Tryz.prog) 68 9 .i64 underlying68 b9 bE b1.length b6 (b3) oa bF b4;have b7:=Kd.sm (m:=((b3):Int).toNat) bG (by omega);have b8:bC.length=((b3):Int).toNat:=(by rw[bI.out,List.length_take];omega);rw[←bI.out]at b7;rw[←b8]at bH;have bB:=ae.mk b7;have bL:=am (show bC.length≤b6 from by omega);clear b7 bG b4 b9 bK;have bW:=ae.mk b8;clear b8;have bX:=am (show((b3):Int).toNat≤b1.length from by omega);replace bF:=eq_true bF)|(go_at_call 78;(with_reducible refine(cP.calls k _ _ bC bJ _ ?eQ bL.out bU.out).mono ?_);(case eQ=>repeat(first|exact(by repeat(first|(with_reducible exact bB.out)|(with_reducible refine Kd.eF ?_ _)|(with_reducible refine Kd.eG ?_ _)|(with_reducible refine Kd.ft ?_)|exact bB.out))|(with_reducible refine Kd.eF ?_ _)|(with_reducible refine Kd.eG ?_ _)|(with_reducible refine Kd.ft ?_)));rintro e w' ⟨rfl,⟨nd,rfl⟩⟩;have bO:(0≤((b3):Int))=True:=oT;have bP:((b3)<(b1.length:Int))=True:=oT;obtain⟨bT,bQ,bR⟩:=Kd.fb (Kd.bd b2.out).2.2 (b3) oa oa;cases bQ))
 try(have bO:0≤((b3):Int):=oa;have bP:(b3)<(b1.length:Int):=oa;obtain⟨bT,bQ,bR⟩:=Kd.fb (Kd.bd b2.out).2.2 (b3) bO bP;cases bQ;replace bO:=eq_true bO;replace bP:=eq_true bP)
 repeat(go_quiet (first|(go_at_call 51;(with_reducible refine(aE.calls k a0 b1 true _ A2.out).mono ?_);rintro e d2 ⟨bD,rfl,b5,hb⟩;have b2:=am (Kd.an b5 (ah oB));replace HB:=hB HB hb;obtain⟨bE,b6,bN⟩:=Kd.ao b2.out;subst bN;have bF:((b3):Int)≤((b1.length:Int):Int):=oa;obtain⟨bV,b9,_,bK,_⟩:=info_parts info9;have b4:b1.length≤b6:=(Kd.bd b2.out).2.1;have bG:Kd.C Kd.string _ bE b1.length b1:=(Kd.bd b2.out).2.2;have bH:=qQ (P:=Tryz.prog) 68 9 .i64 underlying68 b9 bE b1.length b6 (b3) oa bF b4;have b7:=Kd.sm (m:=((b3):Int).toNat) bG (by omega);have b8:bC.length=((b3):Int).toNat:=(by rw[bI.out,List.length_take];omega);rw[←bI.out]at b7;rw[←b8]at bH;have bB:=ae.mk b7;have bL:=am (show bC.length≤b6 from by omega);clear b7 bG b4 b9 bK;have bW:=ae.mk b8;clear b8;have bX:=am (show((b3):Int).toNat≤b1.length from by omega);replace bF:=eq_true bF)|(go_at_call 78;(with_reducible refine(cP.calls k _ _ bC bJ _ ?eQ bL.out bU.out).mono ?_);(case eQ=>repeat(first|exact(by repeat(first|(with_reducible exact bB.out)|(with_reducible refine Kd.eF ?_ _)|(with_reducible refine Kd.eG ?_ _)|(with_reducible refine Kd.ft ?_)|exact bB.out))|(with_reducible refine Kd.eF ?_ _)|(with_reducible refine Kd.eG ?_ _)|(with_reducible refine Kd.ft ?_)));rintro e w' ⟨rfl,⟨nd,rfl⟩⟩;exact oQ));try go_wp2_with (first|(go_at_call 51;(with_reducible refine(aE.calls k a0 b1 true _ A2.out).mono ?_);rintro e d2 ⟨bD,rfl,b5,hb⟩;have b2:=am (Kd.an b5 (ah oB));replace HB:=hB HB hb;obtain⟨bE,b6,bN⟩:=Kd.ao b2.out;subst bN;have bF:((b3):Int)≤((b1.length:Int):Int):=oa;obtain⟨bV,b9,_,bK,_⟩:=info_parts info9;have b4:b1.length≤b6:=(Kd.bd b2.out).2.1;have bG:Kd.C Kd.string _ bE b1.length b1:=(Kd.bd b2.out).2.2;have bH:=qQ (P:=Tryz.prog) 68 9 .i64 underlying68 b9 bE b1.length b6 (b3) oa bF b4;have b7:=Kd.sm (m:=((b3):Int).toNat) bG (by omega);have b8:bC.length=((b3):Int).toNat:=(by rw[bI.out,List.length_take];omega);rw[←bI.out]at b7;rw[←b8]at bH;have bB:=ae.mk b7;have bL:=am (show bC.length≤b6 from by omega);clear b7 bG b4 b9 bK;have bW:=ae.mk b8;clear b8;have bX:=am (show((b3):Int).toNat≤b1.length from by omega);replace bF:=eq_true bF)|(go_at_call 78;(with_reducible refine(cP.calls k _ _ bC bJ _ ?eQ bL.out bU.out).mono ?_);(case eQ=>repeat(first|exact(by repeat(first|(with_reducible exact bB.out)|(with_reducible refine Kd.eF ?_ _)|(with_reducible refine Kd.eG ?_ _)|(with_reducible refine Kd.ft ?_)|exact bB.out))|(with_reducible refine Kd.eF ?_ _)|(with_reducible refine Kd.eG ?_ _)|(with_reducible refine Kd.ft ?_)));rintro e w' ⟨rfl,⟨nd,rfl⟩⟩;have bO:(0≤((b3):Int))=True:=oT;have bP:((b3)<(b1.length:Int))=True:=oT;obtain⟨bT,bQ,bR⟩:=Kd.fb (Kd.bd b2.out).2.2 (b3) oa oa;cases bQ)))
 go_ret3
 exact⟨by first|rfl|(simp[ee,ef]<;>rfl)|(simp only[←bM];first|rfl|(simp[ee,ef]<;>rfl))|(simp[*,ee,ef]<;>rfl),oB⟩

def kv.f (k:Nat) (ag:List (aX)) (ak:Int) (a1:ByteArray):Option (Int×Int):=(aE.f k a1).bind fun b1=>(if b1.2=true then((cM.f k ag ak b1.1).bind fun b2=>(some (b2.1,b2.2)))else(some (0,1)))
theorem kv.calls (k:Nat) (bh:Option Addr) (aT:Nat) (ag:List (aX)) (ak:Int) (a1:ByteArray) (r1:Int) (r2:Int) (w:World) (cj:Kd.C gh w bh ag.length ag) (ck:ag.length≤aT) (h:kv.f k ag ak a1=some (r1,r2)):
  Calls Tryz.prog 84 #[.agg #[.slice bh ag.length aT,.int .i64 ak],.string a1] w fun e w'=>e= .returned (.tuple #[.int .i64 r1,.int .i64 r2])∧Below w.heap.size w w':=by
 have bE:=underlying28;have b5:=ae.mk cj;have b6:=ae.mk ck;clear cj ck;have HB:=am (Below.refl w.heap.size w);unfold kv.f at h;have H:=h;clear h;replace H:=bA H;obtain⟨⟨b3,bF⟩,A3,H⟩:=H
 try dsimp only at H
 replace H:=lr H;rcases H with⟨rfl,H⟩|⟨rfl,H⟩;rotate_left
 ·simp only[Option.some.injEq,Prod.mk.injEq]at H;obtain⟨rfl,rfl⟩:=H
  go_enter func84,ntmps84
  go_wp2_with (first|((with_reducible refine aj (N:=2) rfl ?_);refine cO 2 #[.slice bh ag.length aT,.int .i64 ak] 28 ?_;intro b7 hg bG hbox hb;have b1:=am (hbox);have b8:=cN hg;replace HB:=hB HB hb;clear hb hbox hg)|((with_reducible refine ai (f:=51) rfl ?_);refine ej 10 func51 (aE.calls k a1 b3 false _ A3.out) ?_;rintro e bH ⟨b9,rfl,b4,hb⟩;refine⟨_,rfl,?_⟩;have b2:=am (Kd.an b4 (ah oB));replace b1:=aJ b1 hb;replace HB:=hB HB hb))
  go_ret2
  exact⟨oE,oB⟩
 replace H:=bA H;obtain⟨⟨bB,bC⟩,A5,H⟩:=H
 try dsimp only at H
 simp only[Option.some.injEq,Prod.mk.injEq]at H;obtain⟨rfl,rfl⟩:=H
 go_enter func84,ntmps84
 go_wp2_with (first|((with_reducible refine aj (N:=2) rfl ?_);refine cO 2 #[.slice bh ag.length aT,.int .i64 ak] 28 ?_;intro b7 hg w6 hbox hb;have b1:=am (hbox);have b8:=cN hg;replace HB:=hB HB hb;clear hb hbox hg)|((with_reducible refine ai (f:=51) rfl ?_);refine ej 10 func51 (aE.calls k a1 b3 true _ A3.out) ?_;rintro e w7 ⟨b9,rfl,b4,hb⟩;refine⟨_,rfl,?_⟩;have b2:=am (Kd.an b4 (ah oB));replace b1:=aJ b1 hb;replace HB:=hB HB hb;obtain⟨⟨_,_⟩,_,_⟩:=z2 b1;obtain⟨bI,bJ,bD⟩:=Kd.ao b2.out;subst bD)|((with_reducible refine ai (f:=118) rfl ?_);refine ej 17 func118 (cM.calls k _ _ ag ak _ _ b3 bB bC _ (kC b5) b6.out (kO b2) (ko b2) A5.out) ?_;rintro e bK ⟨rfl,hb⟩;refine⟨_,rfl,?_⟩;replace b2:=ei b2 hb;replace b1:=aJ b1 hb;replace HB:=hB HB hb))
 go_ret2
 exact⟨oE,oB⟩

def fz.f (k:Nat) (ag:List (aX)) (ak:Int) (a1:Int):Option (Int):=(aA.f k ag a1).bind fun b1=>(if b1<0 then(some (-1))else(some b1))
theorem fz.calls (k:Nat) (bh:Option Addr) (aT:Nat) (ag:List (aX)) (ak:Int) (a1:Int) (r:Int) (w:World) (cj:Kd.C gh w bh ag.length ag) (ck:ag.length≤aT) (h:fz.f k ag ak a1=some r):
  Calls Tryz.prog 16 #[.agg #[.slice bh ag.length aT,.int .i64 ak],.int .i64 a1] w fun e w'=>e= .returned (.int .i64 r)∧Below w.heap.size w w':=by
 have b8:=underlying28;have b2:=ae.mk cj;have b3:=ae.mk ck;clear cj ck;have HB:=am (Below.refl w.heap.size w);unfold fz.f at h;have H:=h;clear h;replace H:=bA H;obtain⟨b4,A3,H⟩:=H
 try dsimp only at H
 replace H:=jm H;rcases H with⟨b7,H⟩|⟨b7,H⟩
 ·obtain rfl:=Option.some.inj H
  go_enter func16,ntmps16
  go_wp2_with (first|((with_reducible refine aj (N:=2) rfl ?_);refine cO 2 #[.slice bh ag.length aT,.int .i64 ak] 28 ?_;intro b5 hg w5 hbox hb;have b1:=am (hbox);have b6:=cN hg;replace HB:=hB HB hb;clear hb hbox hg;obtain⟨⟨_,_⟩,_,_⟩:=z2 b1)|((with_reducible refine ai (f:=38) rfl ?_);refine ej 8 func38 (aA.calls k _ _ ag a1 b4 _ (kC b2) b3.out A3.out) ?_;rintro e w7 ⟨rfl,hb⟩;refine⟨_,rfl,?_⟩;replace b1:=aJ b1 hb;replace HB:=hB HB hb))
  go_ret
  exact⟨oE,oB⟩
 obtain rfl:=Option.some.inj H
 go_enter func16,ntmps16
 go_wp2_with (first|((with_reducible refine aj (N:=2) rfl ?_);refine cO 2 #[.slice bh ag.length aT,.int .i64 ak] 28 ?_;intro b5 hg w8 hbox hb;have b1:=am (hbox);have b6:=cN hg;replace HB:=hB HB hb;clear hb hbox hg;obtain⟨⟨_,_⟩,_,_⟩:=z2 b1)|((with_reducible refine ai (f:=38) rfl ?_);refine ej 8 func38 (aA.calls k _ _ ag a1 b4 _ (kC b2) b3.out A3.out) ?_;rintro e b9 ⟨rfl,hb⟩;refine⟨_,rfl,?_⟩;replace b1:=aJ b1 hb;replace HB:=hB HB hb))
 go_ret
 exact⟨oE,oB⟩
theorem fz.calls' (k:Nat) (bh:Option Addr) (aT n:Nat) (ag:List aX) (ak a1 r:Int) (w:World) (hn:ag.length=n) (cj:Kd.C gh w bh ag.length ag) (ck:ag.length≤aT) (h:fz.f k ag ak a1=some r):
  Calls Tryz.prog 16 #[.agg #[.slice bh n aT,.int .i64 ak],.int .i64 a1] w fun e w'=>e= .returned (.int .i64 r)∧Below w.heap.size w w':=by
 subst hn;exact fz.calls k bh aT ag ak a1 r w cj ck h
theorem qg.calls (k:Nat) (lx:Nat→Prop) (u:Value) (l0:List aX) (a0 a1 r1:Int) (r2:List aX) (w0 w:World) (hB:Below w0.heap.size w0 w) (ho0:Kd.S gh 58 w w0.heap.size lx u l0) (h:eI.f k l0 a1=some (r1,r2)):
  Calls Tryz.prog 15 #[.agg #[u,.int .i64 a0],.int .i64 a1] w fun e w'=>e= .returned (.int .i64 r1)∧Kd.S gh 58 w' w0.heap.size (fun k_=>lx k_∨w.heap.size≤k_) u r2∧Below w0.heap.size w0 w'∧Kept w w' lx:=by
 obtain⟨A,co,rfl⟩:=Kd.iA ho0;have HH:=ae.mk h;have hc:=eI.calls k lx (.slice A l0.length co) l0 a1 r1 r2 w0 (w.alloc (.cells #[.slice A l0.length co,.int .i64 a0] 28)) (hB.alloc hB.size _) (Kd.eL ho0 _) h;have HC:=ae.mk hc;have HW:=ae.mk hB.size;clear h hc hB ho0
 go_enter func15,ntmps15
 go_wp2_with (go_at_call 37;refine HC.out.mono ?_;rintro e w1 ⟨rfl,hs,hb,hk⟩)
 go_ret
 exact⟨rfl,Kd.eV hs (fun q hq=>hq.imp_right (fun h=>by simp at h;omega)),hb,(Kept.alloc (Kept.refl w lx) _).then_ hk (fun q hq=> .inl hq)⟩
mutual
def br.j0:Nat→Bool→List (aX)→Int→Option (Bool)
 |0,_,_,_=>none
 |k+1,b3,b1,b2=>if b3=true then(some false)else(br.l0 k 0 b1 b2)
def br.l0:Nat→Int→List (aX)→Int→Option (Bool)
 |0,_,_,_=>none
 |k+1,x3,b1,b2=>if x3<(b1.length:Int)then(if 0≤x3 then((cK.f k ((af b1 x3).f0) ((af b1 x3).f1) ((af b1 x3).f2) ((af b1 x3).f3) ((af b1 x3).f4) ((af b1 x3).f5)).bind fun b3=>(if b3=true then(if((af b1 x3).f0)≥b2 then(some false)else(if x3>0 then(if 0≤(wrap64 (x3-1))then(if(wrap64 (x3-1))<(b1.length:Int)then(if((af b1 (wrap64 (x3-1))).f0)≥((af b1 x3).f0)then(some false)else(br.l0 k (wrap64 (x3+1)) b1 b2))else(none))else(none))else(br.l0 k (wrap64 (x3+1)) b1 b2)))else(some false)))else(none))else(if 0<(b1.length:Int)then(if((af b1 0).f0)=1 then(some (((af b1 0).f1)==2))else(some false))else(none))
end
def br.f (k:Nat) (ag:List (aX)) (ak:Int):Option (Bool):=(bb.f (ag.length:Int) 1 30).bind fun b1=>(if b1=true then((bb.f ak 2 1000).bind fun b2=>(br.j0 k (!b2) ag ak))else(br.j0 k true ag ak))
def br.T7:Bool×List (List Nat×List Nat):=(true,[([],[]),([0],[0]),([1],[1]),([2,1],[2]),([3],[3]),([4,3],[3,4]),([3],[3]),([6,3],[3,6]),([5,7,3],[3,5,7]),([3,8],[3,8]),([9,3],[9]),([10],[10]),([11,10],[10,11]),([12,10,10],[10,12]),([13],[13]),([14,13],[13,14]),([13],[13]),([16,13],[13,16]),([15,17,13],[13,15,17]),([18,13],[13,18]),([19,13],[13,19]),([13],[13]),([21,13],[13,21]),([20,22,13],[13,20,22]),([13,23,10],[10,13,23]),([10,24],[10,24])])
def br.B7:List Nat:=[0,1,3,7,15,31,15,79,255,511,1023,2047,4095,8191,16383,32767,16383,81919,262143,524287,1048575,16383,2113535,8388607,16777215,33554431]
theorem br.rM:ij .any (opsOf Tryz.f79 7)=br.T7:=by kernel_rfl
theorem br.oy:fa br.T7.2 br.B7=true:=by kernel_rfl
theorem br.calls (k:Nat) (bh:Option Addr) (aT:Nat) (ag:List (aX)) (ak:Int) (r:Bool) (w:World) (cj:Kd.C gh w bh ag.length ag) (ck:ag.length≤aT) (h:br.f k ag ak=some r):
  Calls Tryz.prog 79 #[.agg #[.slice bh ag.length aT,.int .i64 ak]] w fun e w'=>e= .returned (.bool r)∧Below w.heap.size w w':=by
 have mZ:=underlying28;have zA:=underlying58;have bY:=ae.mk cj;have mG:=ae.mk ck;clear cj ck;have HB:=am (Below.refl w.heap.size w);unfold br.f at h;have H:=h;clear h;have jD:=ae.mk H;clear H
 go_enter func79,ntmps79
 go_upto_region 1 with(first|((with_reducible refine aj (N:=1) rfl ?_);refine cO 1 #[.slice bh ag.length aT,.int .i64 ak] 28 ?_;intro bZ hg w3 hbox hb;have b2:=am (hbox);have mH:=cN hg;replace HB:=hB HB hb;clear hb hbox hg))
 (try simp only[Act.put,List.setIfInBounds_toArray,List.set_cons_zero,List.set_cons_succ])
 go_cut [15] (fun m3 wc=>∃(kq:Nat) (gL:Bool),m3= .bool gL∧ae (br.j0 kq gL ag ak=some r)∧ae (kq≤k)∧ae (wc.heap[bZ]? =some (.cells #[(.slice bh ag.length aT),.int .i64 ak] 28 (0,0)))∧ae (Below w.heap.size w wc))
 case first=>
  have H:=jD.out;clear jD;replace H:=bA H;obtain⟨zB,A4,H⟩:=H
  try dsimp only at H
  replace H:=lr H;rcases H with⟨rfl,H⟩|⟨rfl,H⟩;rotate_left
  ·have H':=ae.mk H;clear H;obtain⟨⟨_,_⟩,_,_⟩:=z2 b2
   go_wp2_with (first|((with_reducible refine ai (f:=60) rfl ?_);refine ej 8 func60 (bb.calls (ag.length:Int) 1 30 false _ A4.out) ?_;rintro e w' ⟨rfl,⟨nd,rfl⟩⟩;refine⟨_,rfl,?_⟩))
   go_meet
   case rel=>exact⟨_,(true),oS,H',⟨by first|omega|exact Nat.le_refl _⟩,⟨oF b2⟩,⟨oB⟩⟩
  replace H:=bA H;obtain⟨jE,A6,H⟩:=H
  try dsimp only at H
  have H':=ae.mk H;clear H;obtain⟨⟨_,_⟩,_,_⟩:=z2 b2
  go_wp2_with (first|((with_reducible refine ai (f:=60) rfl ?_);refine ej 8 func60 (bb.calls (ag.length:Int) 1 30 true _ A4.out) ?_;rintro e w' ⟨rfl,⟨nd,rfl⟩⟩;refine⟨_,rfl,?_⟩)|(go_at_call 60;(with_reducible refine(bb.calls ak 2 1000 jE _ A6.out).mono ?_);rintro e w' ⟨rfl,⟨nd,rfl⟩⟩))
  go_meet
  case rel=>exact⟨_,(!jE),oS,H',⟨by first|omega|exact Nat.le_refl _⟩,⟨oF b2⟩,⟨oB⟩⟩
 case rest=>
  clear jD;obtain⟨kq,gL,rfl,HA,gT,b2,HB⟩:=hcut
  cases kq with
  |zero=>exact absurd HA.out (by simp[br.j0])
  |succ xw=>
   have H:=HA.out;clear HA;simp only[br.j0]at H;replace H:=lr H;rcases H with⟨rfl,H⟩|⟨rfl,H⟩
   ·obtain rfl:=Option.some.inj H
    go_wp2
    go_ret
    exact⟨oE,oB⟩
   have H':=ae.mk H;clear H
   go_wp2
   go_loopg [3] xw (fun kq v3 w'=>∃(b1:Int),v3= .int .i64 b1∧ae (br.l0 kq b1 ag ak=some r)∧ae (kq≤xw)∧ae (w'.heap[bZ]? =some (.cells #[(.slice bh ag.length aT),.int .i64 ak] 28 (0,0)))∧ae (Below w.heap.size w w'))
   case atStart=>exact⟨(0),oS,H',⟨Nat.le_refl _⟩,⟨oF b2⟩,⟨oB⟩⟩
   case round=>
    clear H';obtain⟨b1,rfl,HA,gU,b2,HB⟩:=hrel
    cases gk with
    |zero=>exact absurd HA.out (by simp[br.l0])
    |succ k2=>
     have H:=HA.out;clear HA;simp only[br.l0]at H;replace H:=jm H;rcases H with⟨jL,H⟩|⟨jL,H⟩;rotate_left
     ·by_cases gV:0<(ag.length:Int)
      rotate_left
      ·rw[if_neg gV]at H;exact absurd H (by simp)
      rw[if_pos gV]at H;have mI:decide (0<(ag.length:Int))=true:=decide_eq_true gV;have mJ:decide (0<ag.length)=true:=decide_eq_true (by omega);clear gV
      by_cases dX:((af ag 0).f0)=1
      rotate_left
      ·rw[if_neg dX]at H;have jM:(((af ag 0).f0)==1)=false:=beq_eq_false_iff_ne.mpr dX;have jN:(((af ag 0).f0) !=1)=true:=bne_iff_ne.mpr dX;obtain rfl:=Option.some.inj H;obtain⟨⟨_,_⟩,_,_⟩:=z2 b2;have dQ:0≤(0:Int):=(by omega);have dR:0<(ag.length:Int):=oa;obtain⟨gW,jF,jG,jH,jI,jJ,jK,gP,bJ,bK,bL,bE,bF,bG,d4,d5,d6,d7,d8,d9⟩:=gi bY.out 0 dQ dR
       cases gP
       have jO:(0<ag.length)=True:=eq_true (by omega)
       (try rw[show((0:Int)).toNat=0 from rfl]at bJ)
       (try rw[show 0*6=0 from rfl]at bJ)
       (try rw[Addr.add_zero']at bJ)
       (try rw[show((0:Int)).toNat=0 from rfl]at bK)
       (try rw[show 0*6=0 from rfl]at bK)
       (try rw[Addr.add_zero']at bK)
       (try rw[show((0:Int)).toNat=0 from rfl]at bL)
       (try rw[show 0*6=0 from rfl]at bL)
       (try rw[Addr.add_zero']at bL)
       (try rw[show((0:Int)).toNat=0 from rfl]at bE)
       (try rw[show 0*6=0 from rfl]at bE)
       (try rw[Addr.add_zero']at bE)
       (try rw[show((0:Int)).toNat=0 from rfl]at bF)
       (try rw[show 0*6=0 from rfl]at bF)
       (try rw[Addr.add_zero']at bF)
       (try rw[show((0:Int)).toNat=0 from rfl]at bG)
       (try rw[show 0*6=0 from rfl]at bG)
       (try rw[Addr.add_zero']at bG)
       replace bJ:=cB HB bJ;replace bK:=cB HB bK;replace bL:=cB HB bL;replace bE:=cB HB bE;replace bF:=cB HB bF;replace bG:=cB HB bG;have gX:=ae.mk d5;have gY:=ae.mk d4;clear d5 d4;have gZ:=ae.mk d7;have j1:=ae.mk d6;clear d7 d6;have j2:=ae.mk d9;have j3:=ae.mk d8;clear d9 d8;replace dQ:=eq_true dQ;replace dR:=eq_true dR
       go_wp2
       go_ret
       exact⟨oE,oB⟩
      rw[if_pos dX]at H;have jM:(((af ag 0).f0)==1)=true:=beq_iff_eq.mpr dX;have jN:(((af ag 0).f0) !=1)=false:=bne_eq_false_iff_eq.mpr dX;clear dX;obtain rfl:=Option.some.inj H;obtain⟨⟨_,_⟩,_,_⟩:=z2 b2;have dQ:0≤(0:Int):=(by omega);have dR:0<(ag.length:Int):=oa;obtain⟨gW,jF,jG,jH,jI,jJ,jK,gP,bJ,bK,bL,bE,bF,bG,d4,d5,d6,d7,d8,d9⟩:=gi bY.out 0 dQ dR
      cases gP
      have jO:(0<ag.length)=True:=eq_true (by omega)
      (try rw[show((0:Int)).toNat=0 from rfl]at bJ)
      (try rw[show 0*6=0 from rfl]at bJ)
      (try rw[Addr.add_zero']at bJ)
      (try rw[show((0:Int)).toNat=0 from rfl]at bK)
      (try rw[show 0*6=0 from rfl]at bK)
      (try rw[Addr.add_zero']at bK)
      (try rw[show((0:Int)).toNat=0 from rfl]at bL)
      (try rw[show 0*6=0 from rfl]at bL)
      (try rw[Addr.add_zero']at bL)
      (try rw[show((0:Int)).toNat=0 from rfl]at bE)
      (try rw[show 0*6=0 from rfl]at bE)
      (try rw[Addr.add_zero']at bE)
      (try rw[show((0:Int)).toNat=0 from rfl]at bF)
      (try rw[show 0*6=0 from rfl]at bF)
      (try rw[Addr.add_zero']at bF)
      (try rw[show((0:Int)).toNat=0 from rfl]at bG)
      (try rw[show 0*6=0 from rfl]at bG)
      (try rw[Addr.add_zero']at bG)
      replace bJ:=cB HB bJ;replace bK:=cB HB bK;replace bL:=cB HB bL;replace bE:=cB HB bE;replace bF:=cB HB bF;replace bG:=cB HB bG;have gX:=ae.mk d5;have gY:=ae.mk d4;clear d5 d4;have gZ:=ae.mk d7;have j1:=ae.mk d6;clear d7 d6;have j2:=ae.mk d9;have j3:=ae.mk d8;clear d9 d8;replace dQ:=eq_true dQ;replace dR:=eq_true dR;have gQ:0≤(0:Int):=(by omega);have gR:0<(ag.length:Int):=oa;obtain⟨jP,m4,m5,m6,m7,m8,m9,jT,dA,dB,dC,d1,d2,d3,gE,gF,gG,gH,gI,gJ⟩:=gi bY.out 0 gQ gR;obtain rfl:gW=jP:=(by injection jT);have mK:(0<ag.length)=True:=eq_true (by omega)
      (try rw[show((0:Int)).toNat=0 from rfl]at dA)
      (try rw[show 0*6=0 from rfl]at dA)
      (try rw[Addr.add_zero']at dA)
      (try rw[show((0:Int)).toNat=0 from rfl]at dB)
      (try rw[show 0*6=0 from rfl]at dB)
      (try rw[Addr.add_zero']at dB)
      (try rw[show((0:Int)).toNat=0 from rfl]at dC)
      (try rw[show 0*6=0 from rfl]at dC)
      (try rw[Addr.add_zero']at dC)
      (try rw[show((0:Int)).toNat=0 from rfl]at d1)
      (try rw[show 0*6=0 from rfl]at d1)
      (try rw[Addr.add_zero']at d1)
      (try rw[show((0:Int)).toNat=0 from rfl]at d2)
      (try rw[show 0*6=0 from rfl]at d2)
      (try rw[Addr.add_zero']at d2)
      (try rw[show((0:Int)).toNat=0 from rfl]at d3)
      (try rw[show 0*6=0 from rfl]at d3)
      (try rw[Addr.add_zero']at d3)
      replace dA:=cB HB dA;replace dB:=cB HB dB;replace dC:=cB HB dC;replace d1:=cB HB d1;replace d2:=cB HB d2;replace d3:=cB HB d3;have jW:=ae.mk gF;have jX:=ae.mk gE;clear gF gE;have jY:=ae.mk gH;have jZ:=ae.mk gG;clear gH gG;have m1:=ae.mk gJ;have m2:=ae.mk gI;clear gJ gI;replace gQ:=eq_true gQ;replace gR:=eq_true gR;have iF:=Option.some.inj (bE.symm.trans d1);injection iF with iF oc od;subst iF;subst od;clear oc;have iF:=Option.some.inj (bF.symm.trans d2);injection iF with iF oc od;subst iF;subst od;clear oc;have iF:=Option.some.inj (bG.symm.trans d3);injection iF with iF oc od;subst iF;subst od;clear oc
      go_wp2
      go_ret
      exact⟨oE,oB⟩
     obtain⟨mL,H⟩:=cU H;replace H:=bA H;obtain⟨zC,gK,H⟩:=H
     try dsimp only at H
     replace H:=lr H;rcases H with⟨rfl,H⟩|⟨rfl,H⟩;rotate_left
     ·obtain rfl:=Option.some.inj H;obtain⟨⟨_,_⟩,_,_⟩:=z2 b2;have gM:(0≤(b1:Int))=True:=oT;have gN:(b1<(ag.length:Int))=True:=oT;obtain⟨b6,b7,b8,b9,bB,bC,bD,dJ,dK,dL,dM,dN,dO,dP,bM,bN,bO,bP,bQ,bR⟩:=fN bY HB b1 oa oa
      cases dJ
      try go_wp2_with (first|((with_reducible refine aj (N:=4) rfl ?_);refine cO 4 #[.int .i64 0,.int .i64 0,.int .i64 0,.slice none 0 0,.slice none 0 0,.slice none 0 0] 58 ?_;intro b3 hg mA hbox hb;have b4:=am (hbox);have dW:=cN hg;have bH:=dm hg b2;have bI:=dn hg b2;replace b2:=aJ b2 hb;replace HB:=hB HB hb;clear hb hbox hg;have mM:=bI.out;have mN:=bH.out;obtain⟨⟨_,_,_,_,_,_⟩,_,_,_,_,_,_⟩:=z6 b4))
      generalize kc:((((((mA.setCell ⟨b3,0,none⟩ (.int .i64 ((af ag b1).f0))).setCell ⟨b3,1,none⟩ (.int .i64 ((af ag b1).f1))).setCell ⟨b3,2,none⟩ (.int .i64 ((af ag b1).f2))).setCell ⟨b3,3,none⟩ (.slice b7 ((af ag b1).f3).length b8)).setCell ⟨b3,4,none⟩ (.slice b9 ((af ag b1).f4).length bB)).setCell ⟨b3,5,none⟩ (.slice bC ((af ag b1).f5).length bD))=w52;replace b2:=wO kc b2;replace b4:=yl #[.int .i64 ((af ag b1).f0),.int .i64 ((af ag b1).f1),.int .i64 ((af ag b1).f2),.slice b7 ((af ag b1).f3).length b8,.slice b9 ((af ag b1).f4).length bB,.slice bC ((af ag b1).f5).length bD] kc b4;replace HB:=wS kc HB;clear kc;replace b2:=am (au b2.out);replace b4:=am (au b4.out);replace HB:=am (av HB.out);refine np 26 (fun w'=>w'.cell? ⟨b3,0,none⟩=some (.int .i64 ((af ag b1).f0))∧w'.cell? ⟨b3,1,none⟩=some (.int .i64 ((af ag b1).f1))∧w'.cell? ⟨b3,2,none⟩=some (.int .i64 ((af ag b1).f2))∧w'.cell? ⟨b3,3,none⟩=some (.slice b7 ((af ag b1).f3).length b8)∧w'.cell? ⟨b3,4,none⟩=some (.slice b9 ((af ag b1).f4).length bB)∧w'.cell? ⟨b3,5,none⟩=some (.slice bC ((af ag b1).f5).length bD)) br.rM br.oy oH (fun hHeld ax eN=> ?_);generalize w52.drew=zD at b2 b4 HB hHeld⊢;refine gj 0 28 ax eN hHeld ?_;refine lg 1 29 ax (fun K hK=> ?_);refine lO 29 func116 (cK.calls k2 ((af ag b1).f0) ((af ag b1).f1) ((af ag b1).f2) _ _ ((af ag b1).f3) _ _ ((af ag b1).f4) _ _ ((af ag b1).f5) false _ (kC bN) bM.out (kC bP) bO.out (kC bR) bQ.out gK.out) ?_;rintro e zE ⟨rfl,hb⟩;refine⟨_,rfl,?_⟩;replace b2:=aJ b2 hb;replace b4:=aJ b4 hb;replace HB:=hB HB hb;refine eW hK 29 oH (fun hHeld=> ?_);clear hK K;refine bz 2 30 ax ?_;refine bz 3 31 ax ?_;refine fX 4 32 ax ?_;refine fX 5 33 ax ?_;refine fX 6 34 ax ?_;refine fX 7 35 ax ?_;refine fX 8 36 ax ?_;refine bz 9 37 ax ?_;refine bz 10 38 ax ?_;refine fX 11 39 ax ?_;refine fX 12 40 ax ?_;refine fX 13 41 ax ?_;refine fX 14 42 ax ?_;refine fX 15 43 ax ?_;refine fX 16 44 ax ?_;refine fX 17 45 ax ?_;refine fX 18 46 ax ?_;refine fX 19 47 ax ?_;refine fX 20 48 ax ?_;refine fX 21 49 ax ?_;refine fX 22 50 ax ?_;refine fX 23 51 ax ?_;refine fX 24 52 ax ?_;refine bz 25 53 ax ?_;refine mo ax ?_
      try go_wp2
      go_ret
      exact⟨oE,oB⟩
     replace H:=itH H;rcases H with⟨jQ,H⟩|⟨jQ,H⟩
     ·obtain rfl:=Option.some.inj H;obtain⟨⟨_,_⟩,_,_⟩:=z2 b2;have gM:(0≤(b1:Int))=True:=oT;have gN:(b1<(ag.length:Int))=True:=oT;obtain⟨b6,b7,b8,b9,bB,bC,bD,dJ,dK,dL,dM,dN,dO,dP,bM,bN,bO,bP,bQ,bR⟩:=fN bY HB b1 oa oa
      cases dJ
      try go_wp2_with (first|((with_reducible refine aj (N:=4) rfl ?_);refine cO 4 #[.int .i64 0,.int .i64 0,.int .i64 0,.slice none 0 0,.slice none 0 0,.slice none 0 0] 58 ?_;intro b3 hg mB hbox hb;have b4:=am (hbox);have dW:=cN hg;have bH:=dm hg b2;have bI:=dn hg b2;replace b2:=aJ b2 hb;replace HB:=hB HB hb;clear hb hbox hg;have mO:=bI.out;have mP:=bH.out;obtain⟨⟨_,_,_,_,_,_⟩,_,_,_,_,_,_⟩:=z6 b4))
      generalize kc:((((((mB.setCell ⟨b3,0,none⟩ (.int .i64 ((af ag b1).f0))).setCell ⟨b3,1,none⟩ (.int .i64 ((af ag b1).f1))).setCell ⟨b3,2,none⟩ (.int .i64 ((af ag b1).f2))).setCell ⟨b3,3,none⟩ (.slice b7 ((af ag b1).f3).length b8)).setCell ⟨b3,4,none⟩ (.slice b9 ((af ag b1).f4).length bB)).setCell ⟨b3,5,none⟩ (.slice bC ((af ag b1).f5).length bD))=w19;replace b2:=wO kc b2;replace b4:=yl #[.int .i64 ((af ag b1).f0),.int .i64 ((af ag b1).f1),.int .i64 ((af ag b1).f2),.slice b7 ((af ag b1).f3).length b8,.slice b9 ((af ag b1).f4).length bB,.slice bC ((af ag b1).f5).length bD] kc b4;replace HB:=wS kc HB;clear kc;replace b2:=am (au b2.out);replace b4:=am (au b4.out);replace HB:=am (av HB.out);refine np 26 (fun w'=>w'.cell? ⟨b3,0,none⟩=some (.int .i64 ((af ag b1).f0))∧w'.cell? ⟨b3,1,none⟩=some (.int .i64 ((af ag b1).f1))∧w'.cell? ⟨b3,2,none⟩=some (.int .i64 ((af ag b1).f2))∧w'.cell? ⟨b3,3,none⟩=some (.slice b7 ((af ag b1).f3).length b8)∧w'.cell? ⟨b3,4,none⟩=some (.slice b9 ((af ag b1).f4).length bB)∧w'.cell? ⟨b3,5,none⟩=some (.slice bC ((af ag b1).f5).length bD)∧w'.cell? ⟨bZ,0,none⟩=some (.slice (some b6) ag.length aT)∧w'.cell? ⟨bZ,1,none⟩=some (.int .i64 ak)) br.rM br.oy oH (fun hHeld ax eN=> ?_);generalize w19.drew=zF at b2 b4 HB hHeld⊢;refine gj 0 28 ax eN hHeld ?_;refine lg 1 29 ax (fun K hK=> ?_);refine lO 29 func116 (cK.calls k2 ((af ag b1).f0) ((af ag b1).f1) ((af ag b1).f2) _ _ ((af ag b1).f3) _ _ ((af ag b1).f4) _ _ ((af ag b1).f5) true _ (kC bN) bM.out (kC bP) bO.out (kC bR) bQ.out gK.out) ?_;rintro e zG ⟨rfl,hb⟩;refine⟨_,rfl,?_⟩;replace b2:=aJ b2 hb;replace b4:=aJ b4 hb;replace HB:=hB HB hb;refine eW hK 29 oH (fun hHeld=> ?_);clear hK K;refine bz 2 30 ax ?_;refine bz 3 31 ax ?_;refine bz 4 32 ax ?_;refine bz 6 34 ax ?_;refine gj 5 33 ax eN hHeld ?_;refine gj 7 35 ax eN hHeld ?_;refine bz 8 36 ax ?_;refine bz 9 37 ax ?_;refine bz 10 38 ax ?_;refine fX 11 39 ax ?_;refine fX 12 40 ax ?_;refine fX 13 41 ax ?_;refine fX 14 42 ax ?_;refine fX 15 43 ax ?_;refine fX 16 44 ax ?_;refine fX 17 45 ax ?_;refine fX 18 46 ax ?_;refine fX 19 47 ax ?_;refine fX 20 48 ax ?_;refine fX 21 49 ax ?_;refine fX 22 50 ax ?_;refine fX 23 51 ax ?_;refine fX 24 52 ax ?_;refine bz 25 53 ax ?_;refine mo ax ?_
      try go_wp2
      go_ret
      exact⟨oE,oB⟩
     replace H:=AA H;rcases H with⟨jR,H⟩|⟨jR,H⟩;rotate_left
     ·have H':=ae.mk H;clear H;obtain⟨⟨_,_⟩,_,_⟩:=z2 b2;have gM:(0≤(b1:Int))=True:=oT;have gN:(b1<(ag.length:Int))=True:=oT;obtain⟨b6,b7,b8,b9,bB,bC,bD,dJ,dK,dL,dM,dN,dO,dP,bM,bN,bO,bP,bQ,bR⟩:=fN bY HB b1 oa oa
      cases dJ
      try go_wp2_with (first|((with_reducible refine aj (N:=4) rfl ?_);refine cO 4 #[.int .i64 0,.int .i64 0,.int .i64 0,.slice none 0 0,.slice none 0 0,.slice none 0 0] 58 ?_;intro b3 hg mC hbox hb;have b4:=am (hbox);have dW:=cN hg;have bH:=dm hg b2;have bI:=dn hg b2;replace b2:=aJ b2 hb;replace HB:=hB HB hb;clear hb hbox hg;have mQ:=bI.out;have mS:=bH.out;obtain⟨⟨_,_,_,_,_,_⟩,_,_,_,_,_,_⟩:=z6 b4))
      generalize kc:((((((mC.setCell ⟨b3,0,none⟩ (.int .i64 ((af ag b1).f0))).setCell ⟨b3,1,none⟩ (.int .i64 ((af ag b1).f1))).setCell ⟨b3,2,none⟩ (.int .i64 ((af ag b1).f2))).setCell ⟨b3,3,none⟩ (.slice b7 ((af ag b1).f3).length b8)).setCell ⟨b3,4,none⟩ (.slice b9 ((af ag b1).f4).length bB)).setCell ⟨b3,5,none⟩ (.slice bC ((af ag b1).f5).length bD))=w45;replace b2:=wO kc b2;replace b4:=yl #[.int .i64 ((af ag b1).f0),.int .i64 ((af ag b1).f1),.int .i64 ((af ag b1).f2),.slice b7 ((af ag b1).f3).length b8,.slice b9 ((af ag b1).f4).length bB,.slice bC ((af ag b1).f5).length bD] kc b4;replace HB:=wS kc HB;clear kc;replace b2:=am (au b2.out);replace b4:=am (au b4.out);replace HB:=am (av HB.out);refine np 26 (fun w'=>w'.cell? ⟨b3,0,none⟩=some (.int .i64 ((af ag b1).f0))∧w'.cell? ⟨b3,1,none⟩=some (.int .i64 ((af ag b1).f1))∧w'.cell? ⟨b3,2,none⟩=some (.int .i64 ((af ag b1).f2))∧w'.cell? ⟨b3,3,none⟩=some (.slice b7 ((af ag b1).f3).length b8)∧w'.cell? ⟨b3,4,none⟩=some (.slice b9 ((af ag b1).f4).length bB)∧w'.cell? ⟨b3,5,none⟩=some (.slice bC ((af ag b1).f5).length bD)∧w'.cell? ⟨bZ,0,none⟩=some (.slice (some b6) ag.length aT)∧w'.cell? ⟨bZ,1,none⟩=some (.int .i64 ak)) br.rM br.oy oH (fun hHeld ax eN=> ?_);generalize w45.drew=zH at b2 b4 HB hHeld⊢;refine gj 0 28 ax eN hHeld ?_;refine lg 1 29 ax (fun K hK=> ?_);refine lO 29 func116 (cK.calls k2 ((af ag b1).f0) ((af ag b1).f1) ((af ag b1).f2) _ _ ((af ag b1).f3) _ _ ((af ag b1).f4) _ _ ((af ag b1).f5) true _ (kC bN) bM.out (kC bP) bO.out (kC bR) bQ.out gK.out) ?_;rintro e zI ⟨rfl,hb⟩;refine⟨_,rfl,?_⟩;replace b2:=aJ b2 hb;replace b4:=aJ b4 hb;replace HB:=hB HB hb;refine eW hK 29 oH (fun hHeld=> ?_);clear hK K;refine bz 2 30 ax ?_;refine bz 3 31 ax ?_;refine bz 4 32 ax ?_;refine bz 6 34 ax ?_;refine gj 5 33 ax eN hHeld ?_;refine gj 7 35 ax eN hHeld ?_;refine bz 8 36 ax ?_;refine bz 9 37 ax ?_;refine bz 10 38 ax ?_;refine bz 11 39 ax ?_;refine bz 12 40 ax ?_;refine bz 13 41 ax ?_;refine fX 14 42 ax ?_;refine fX 15 43 ax ?_;refine fX 16 44 ax ?_;refine fX 17 45 ax ?_;refine fX 18 46 ax ?_;refine fX 19 47 ax ?_;refine fX 20 48 ax ?_;refine fX 21 49 ax ?_;refine fX 22 50 ax ?_;refine fX 23 51 ax ?_;refine bz 24 52 ax ?_;refine bz 25 53 ax ?_;refine mo ax ?_
      try go_wp2
      go_roundg k2
      case measure=>have:=gT.out;have:=gU.out;omega
      case rel=>exact⟨(wrap64 (b1+1)),oS,H',⟨by have:=gT.out;have:=gU.out;omega⟩,⟨oF b2⟩,⟨oB⟩⟩
     obtain⟨b5,dS⟩:∃j_:Int,(wrap64 (b1-1))=j_:=⟨_,rfl⟩
     replace H:(if 0≤(b5)then(if(b5)<(ag.length:Int)then(if((af ag (b5)).f0)≥((af ag b1).f0)then(some false)else(br.l0 k2 (wrap64 (b1+1)) ag ak))else(none))else(none))=some r:=by first|(rw[dS]at H;exact H)|(simp only[dS]at H⊢;exact H)
     (try rw[dS]at gK)
     have mD:(IntKind.i64.wrap (b1-1))=b5:=(kK _).trans dS;obtain⟨mT,H⟩:=cU H;obtain⟨mU,H⟩:=cU H;replace H:=itH H;rcases H with⟨jS,H⟩|⟨jS,H⟩;rotate_left
     ·have H':=ae.mk H;clear H;obtain⟨⟨_,_⟩,_,_⟩:=z2 b2;have gM:(0≤(b1:Int))=True:=oT;have gN:(b1<(ag.length:Int))=True:=oT;obtain⟨b6,b7,b8,b9,bB,bC,bD,dJ,dK,dL,dM,dN,dO,dP,bM,bN,bO,bP,bQ,bR⟩:=fN bY HB b1 oa oa
      cases dJ
      try go_wp2_with (first|((with_reducible refine aj (N:=4) rfl ?_);refine cO 4 #[.int .i64 0,.int .i64 0,.int .i64 0,.slice none 0 0,.slice none 0 0,.slice none 0 0] 58 ?_;intro b3 hg mE hbox hb;have b4:=am (hbox);have dW:=cN hg;have bH:=dm hg b2;have bI:=dn hg b2;replace b2:=aJ b2 hb;replace HB:=hB HB hb;clear hb hbox hg;have mV:=bI.out;have mW:=bH.out;obtain⟨⟨_,_,_,_,_,_⟩,_,_,_,_,_,_⟩:=z6 b4))
      generalize kc:((((((mE.setCell ⟨b3,0,none⟩ (.int .i64 ((af ag b1).f0))).setCell ⟨b3,1,none⟩ (.int .i64 ((af ag b1).f1))).setCell ⟨b3,2,none⟩ (.int .i64 ((af ag b1).f2))).setCell ⟨b3,3,none⟩ (.slice b7 ((af ag b1).f3).length b8)).setCell ⟨b3,4,none⟩ (.slice b9 ((af ag b1).f4).length bB)).setCell ⟨b3,5,none⟩ (.slice bC ((af ag b1).f5).length bD))=w38;replace b2:=wO kc b2;replace b4:=yl #[.int .i64 ((af ag b1).f0),.int .i64 ((af ag b1).f1),.int .i64 ((af ag b1).f2),.slice b7 ((af ag b1).f3).length b8,.slice b9 ((af ag b1).f4).length bB,.slice bC ((af ag b1).f5).length bD] kc b4;replace HB:=wS kc HB;clear kc;replace b2:=am (au b2.out);replace b4:=am (au b4.out);replace HB:=am (av HB.out);have jU:(0≤((b5):Int))=True:=oT;have jV:((b5)<(ag.length:Int))=True:=oT;obtain⟨gO,dY,dZ,gA,gB,gC,gD,gS,bS,bT,bU,bV,bW,bX,dD,dE,dF,dG,dH,dI⟩:=gi bY.out (b5) oa oa;have j4:=bX;have j5:=bW;have j6:=bV;have j7:=bU;have j8:=bT;have j9:=bS;obtain rfl:b6=gO:=(by injection gS);replace bS:=cB HB bS;replace bT:=cB HB bT;replace bU:=cB HB bU;replace bV:=cB HB bV;replace bW:=cB HB bW;replace bX:=cB HB bX;have dT:=ae.mk dE;have jA:=ae.mk dD;clear dE dD;have dU:=ae.mk dG;have jB:=ae.mk dF;clear dG dF;have dV:=ae.mk dI;have jC:=ae.mk dH;clear dI dH;refine np 26 (fun w'=>w'.cell? ⟨b3,0,none⟩=some (.int .i64 ((af ag b1).f0))∧w'.cell? ⟨b3,1,none⟩=some (.int .i64 ((af ag b1).f1))∧w'.cell? ⟨b3,2,none⟩=some (.int .i64 ((af ag b1).f2))∧w'.cell? ⟨b3,3,none⟩=some (.slice b7 ((af ag b1).f3).length b8)∧w'.cell? ⟨b3,4,none⟩=some (.slice b9 ((af ag b1).f4).length bB)∧w'.cell? ⟨b3,5,none⟩=some (.slice bC ((af ag b1).f5).length bD)∧w'.cell? ⟨bZ,0,none⟩=some (.slice (some b6) ag.length aT)∧w'.cell? ⟨bZ,1,none⟩=some (.int .i64 ak)∧w'.cell? (b6.add (((b5)).toNat*6))=some (.int .i64 ((af ag (b5)).f0))∧w'.cell? ⟨(b6.add (((b5)).toNat*6)).block,(b6.add (((b5)).toNat*6)).off+1,none⟩=some (.int .i64 ((af ag (b5)).f1))∧w'.cell? ⟨(b6.add (((b5)).toNat*6)).block,(b6.add (((b5)).toNat*6)).off+2,none⟩=some (.int .i64 ((af ag (b5)).f2))∧w'.cell? ⟨(b6.add (((b5)).toNat*6)).block,(b6.add (((b5)).toNat*6)).off+3,none⟩=some (.slice dY ((af ag (b5)).f3).length dZ)∧w'.cell? ⟨(b6.add (((b5)).toNat*6)).block,(b6.add (((b5)).toNat*6)).off+4,none⟩=some (.slice gA ((af ag (b5)).f4).length gB)∧w'.cell? ⟨(b6.add (((b5)).toNat*6)).block,(b6.add (((b5)).toNat*6)).off+5,none⟩=some (.slice gC ((af ag (b5)).f5).length gD)) br.rM br.oy oH (fun hHeld ax eN=> ?_);generalize w38.drew=zJ at b2 b4 HB dT dU dV bS bT bU bV bW bX hHeld⊢;refine gj 0 28 ax eN hHeld ?_;refine lg 1 29 ax (fun K hK=> ?_);refine lO 29 func116 (cK.calls k2 ((af ag b1).f0) ((af ag b1).f1) ((af ag b1).f2) _ _ ((af ag b1).f3) _ _ ((af ag b1).f4) _ _ ((af ag b1).f5) true _ (kC bN) bM.out (kC bP) bO.out (kC bR) bQ.out gK.out) ?_;rintro e zK ⟨rfl,hb⟩;refine⟨_,rfl,?_⟩;replace b2:=aJ b2 hb;replace b4:=aJ b4 hb;replace HB:=hB HB hb;refine eW hK 29 oH (fun hHeld=> ?_);clear hK K;refine bz 2 30 ax ?_;refine bz 3 31 ax ?_;refine bz 4 32 ax ?_;refine bz 6 34 ax ?_;refine gj 5 33 ax eN hHeld ?_;refine gj 7 35 ax eN hHeld ?_;refine bz 8 36 ax ?_;refine bz 9 37 ax ?_;refine bz 10 38 ax ?_;refine bz 11 39 ax ?_;refine bz 12 40 ax ?_;refine bz 13 41 ax ?_;refine bz 14 42 ax ?_;refine bz 16 44 ax ?_;refine bz 17 45 ax ?_;refine bz 21 49 ax ?_;refine gj 15 43 ax eN hHeld ?_;refine bz 18 46 ax ?_;refine bz 19 47 ax ?_;refine gj 20 48 ax eN hHeld ?_;refine gj 22 50 ax eN hHeld ?_;refine bz 23 51 ax ?_;refine bz 24 52 ax ?_;refine bz 25 53 ax ?_;refine mo ax ?_
      try go_wp2
      go_roundg k2
      case measure=>have:=gT.out;have:=gU.out;omega
      case rel=>exact⟨(wrap64 (b1+1)),oS,H',⟨by have:=gT.out;have:=gU.out;omega⟩,⟨oF b2⟩,⟨oB⟩⟩
     obtain rfl:=Option.some.inj H;obtain⟨⟨_,_⟩,_,_⟩:=z2 b2;have gM:(0≤(b1:Int))=True:=oT;have gN:(b1<(ag.length:Int))=True:=oT;obtain⟨b6,b7,b8,b9,bB,bC,bD,dJ,dK,dL,dM,dN,dO,dP,bM,bN,bO,bP,bQ,bR⟩:=fN bY HB b1 oa oa
     cases dJ
     try go_wp2_with (first|((with_reducible refine aj (N:=4) rfl ?_);refine cO 4 #[.int .i64 0,.int .i64 0,.int .i64 0,.slice none 0 0,.slice none 0 0,.slice none 0 0] 58 ?_;intro b3 hg mF hbox hb;have b4:=am (hbox);have dW:=cN hg;have bH:=dm hg b2;have bI:=dn hg b2;replace b2:=aJ b2 hb;replace HB:=hB HB hb;clear hb hbox hg;have mX:=bI.out;have mY:=bH.out;obtain⟨⟨_,_,_,_,_,_⟩,_,_,_,_,_,_⟩:=z6 b4))
     generalize kc:((((((mF.setCell ⟨b3,0,none⟩ (.int .i64 ((af ag b1).f0))).setCell ⟨b3,1,none⟩ (.int .i64 ((af ag b1).f1))).setCell ⟨b3,2,none⟩ (.int .i64 ((af ag b1).f2))).setCell ⟨b3,3,none⟩ (.slice b7 ((af ag b1).f3).length b8)).setCell ⟨b3,4,none⟩ (.slice b9 ((af ag b1).f4).length bB)).setCell ⟨b3,5,none⟩ (.slice bC ((af ag b1).f5).length bD))=w31;replace b2:=wO kc b2;replace b4:=yl #[.int .i64 ((af ag b1).f0),.int .i64 ((af ag b1).f1),.int .i64 ((af ag b1).f2),.slice b7 ((af ag b1).f3).length b8,.slice b9 ((af ag b1).f4).length bB,.slice bC ((af ag b1).f5).length bD] kc b4;replace HB:=wS kc HB;clear kc;replace b2:=am (au b2.out);replace b4:=am (au b4.out);replace HB:=am (av HB.out);have jU:(0≤((b5):Int))=True:=oT;have jV:((b5)<(ag.length:Int))=True:=oT;obtain⟨gO,dY,dZ,gA,gB,gC,gD,gS,bS,bT,bU,bV,bW,bX,dD,dE,dF,dG,dH,dI⟩:=gi bY.out (b5) oa oa;have j4:=bX;have j5:=bW;have j6:=bV;have j7:=bU;have j8:=bT;have j9:=bS;obtain rfl:b6=gO:=(by injection gS);replace bS:=cB HB bS;replace bT:=cB HB bT;replace bU:=cB HB bU;replace bV:=cB HB bV;replace bW:=cB HB bW;replace bX:=cB HB bX;have dT:=ae.mk dE;have jA:=ae.mk dD;clear dE dD;have dU:=ae.mk dG;have jB:=ae.mk dF;clear dG dF;have dV:=ae.mk dI;have jC:=ae.mk dH;clear dI dH;refine np 26 (fun w'=>w'.cell? ⟨b3,0,none⟩=some (.int .i64 ((af ag b1).f0))∧w'.cell? ⟨b3,1,none⟩=some (.int .i64 ((af ag b1).f1))∧w'.cell? ⟨b3,2,none⟩=some (.int .i64 ((af ag b1).f2))∧w'.cell? ⟨b3,3,none⟩=some (.slice b7 ((af ag b1).f3).length b8)∧w'.cell? ⟨b3,4,none⟩=some (.slice b9 ((af ag b1).f4).length bB)∧w'.cell? ⟨b3,5,none⟩=some (.slice bC ((af ag b1).f5).length bD)∧w'.cell? ⟨bZ,0,none⟩=some (.slice (some b6) ag.length aT)∧w'.cell? ⟨bZ,1,none⟩=some (.int .i64 ak)∧w'.cell? (b6.add (((b5)).toNat*6))=some (.int .i64 ((af ag (b5)).f0))∧w'.cell? ⟨(b6.add (((b5)).toNat*6)).block,(b6.add (((b5)).toNat*6)).off+1,none⟩=some (.int .i64 ((af ag (b5)).f1))∧w'.cell? ⟨(b6.add (((b5)).toNat*6)).block,(b6.add (((b5)).toNat*6)).off+2,none⟩=some (.int .i64 ((af ag (b5)).f2))∧w'.cell? ⟨(b6.add (((b5)).toNat*6)).block,(b6.add (((b5)).toNat*6)).off+3,none⟩=some (.slice dY ((af ag (b5)).f3).length dZ)∧w'.cell? ⟨(b6.add (((b5)).toNat*6)).block,(b6.add (((b5)).toNat*6)).off+4,none⟩=some (.slice gA ((af ag (b5)).f4).length gB)∧w'.cell? ⟨(b6.add (((b5)).toNat*6)).block,(b6.add (((b5)).toNat*6)).off+5,none⟩=some (.slice gC ((af ag (b5)).f5).length gD)) br.rM br.oy oH (fun hHeld ax eN=> ?_);generalize w31.drew=zL at b2 b4 HB dT dU dV bS bT bU bV bW bX hHeld⊢;refine gj 0 28 ax eN hHeld ?_;refine lg 1 29 ax (fun K hK=> ?_);refine lO 29 func116 (cK.calls k2 ((af ag b1).f0) ((af ag b1).f1) ((af ag b1).f2) _ _ ((af ag b1).f3) _ _ ((af ag b1).f4) _ _ ((af ag b1).f5) true _ (kC bN) bM.out (kC bP) bO.out (kC bR) bQ.out gK.out) ?_;rintro e zM ⟨rfl,hb⟩;refine⟨_,rfl,?_⟩;replace b2:=aJ b2 hb;replace b4:=aJ b4 hb;replace HB:=hB HB hb;refine eW hK 29 oH (fun hHeld=> ?_);clear hK K;refine bz 2 30 ax ?_;refine bz 3 31 ax ?_;refine bz 4 32 ax ?_;refine bz 6 34 ax ?_;refine gj 5 33 ax eN hHeld ?_;refine gj 7 35 ax eN hHeld ?_;refine bz 8 36 ax ?_;refine bz 9 37 ax ?_;refine bz 10 38 ax ?_;refine bz 11 39 ax ?_;refine bz 12 40 ax ?_;refine bz 13 41 ax ?_;refine bz 14 42 ax ?_;refine bz 16 44 ax ?_;refine bz 17 45 ax ?_;refine bz 21 49 ax ?_;refine gj 15 43 ax eN hHeld ?_;refine bz 18 46 ax ?_;refine bz 19 47 ax ?_;refine gj 20 48 ax eN hHeld ?_;refine gj 22 50 ax eN hHeld ?_;refine bz 23 51 ax ?_;refine bz 24 52 ax ?_;refine bz 25 53 ax ?_;refine mo ax ?_
     try go_wp2
     go_ret
     exact⟨by first|rfl|(simp[ee,ef]<;>rfl)|(simp only[←dS];first|rfl|(simp[ee,ef]<;>rfl))|(simp[*,ee,ef]<;>rfl),oB⟩
end Go.Proofs.YtlecajlnjmbilaaGreatDoor.P
