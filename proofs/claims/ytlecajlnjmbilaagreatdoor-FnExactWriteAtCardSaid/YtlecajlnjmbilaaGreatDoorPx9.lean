-- Printed walks.
import Derived.Test.YtlecajlnjmbilaaGreatDoorPx7
import Derived.Test.YtlecajlnjmbilaaGreatDoorPx8
set_option linter.all false
set_option maxHeartbeats 8000000
set_option maxRecDepth 100000
namespace Go.Proofs.YtlecajlnjmbilaaGreatDoor.P
open Go.RowKit Go.Proofs.ae.au Go.Proofs.ae.ba Go.Proofs.ae.bg
attribute [local go_sem] gh gi iR iS ft fu gj gl

def cf.l0:Nat→List (bh)→List (bh)→Int→Option (Bool)
 |0,_,_,_=>none
 |k+1,x0,x1,x5=>if x5<(x0.length:Int)then(if 0≤x5 then(if x5<(x1.length:Int)then((ia.f k ((af x0 x5).f0) ((af x0 x5).f1) ((af x0 x5).f2) ((af x0 x5).f3) ((af x0 x5).f4) ((af x0 x5).f5) ((af x1 x5).f0) ((af x1 x5).f1) ((af x1 x5).f2) ((af x1 x5).f3) ((af x1 x5).f4) ((af x1 x5).f5)).bind fun b1=>(if b1=true then(cf.l0 k x0 x1 (wrap64 (x5+1)))else(some false)))else(none))else(none))else(some true)
def cf.f (k:Nat) (l0:List (bh)) (l1:List (bh)):Option (Bool):=if(l0.length:Int)=(l1.length:Int)then(cf.l0 k l0 l1 0)else(some false)
def cf.T6:Bool×List (List Nat×List Nat):=(true,[([],[]),([],[]),([0,1],[0,1]),([2],[2]),([],[]),([],[]),([4,5],[4,5]),([6],[6]),([3,7],[3,7]),([8],[8])])
def cf.B6:List Nat:=[0,0,3,7,0,0,48,112,255,511]
theorem cf.tab6:gf .any (opsOf Tryz.f36 6)=cf.T6:=by kernel_rfl
theorem cf.ma:eL cf.T6.2 cf.B6=true:=by kernel_rfl
theorem cf.calls (k:Nat) (A0:Option Addr) (c0:Nat) (l0:List (bh)) (A1:Option Addr) (c1:Nat) (l1:List (bh)) (r:Bool) (w:World) (hr0:Kd.C fD w A0 l0.length l0) (hc0:l0.length≤c0) (hr1:Kd.C fD w A1 l1.length l1) (hc1:l1.length≤c1) (h:cf.f k l0 l1=some r):
  Calls Tryz.prog 36 #[.slice A0 l0.length c0,.slice A1 l1.length c1] w fun e w'=>e= .returned (.bool r)∧Below w.heap.size w w':=by
 have gH:=Tryz.underlying58;have dW:=ab.mk hr0;have gL:=ab.mk hc0;clear hr0 hc0;have dX:=ab.mk hr1;have gM:=ab.mk hc1;clear hr1 hc1;have HB:=am (Below.refl w.heap.size w);unfold cf.f at h;have H:=h;clear h
 by_cases c3:(l0.length:Int)=(l1.length:Int)
 rotate_left
 ·rw[if_neg c3]at H;have dZ:((l0.length:Int)==(l1.length:Int))=false:=beq_eq_false_iff_ne.mpr c3;have gA:((l0.length:Int) !=(l1.length:Int))=true:=bne_iff_ne.mpr c3
  have gB:(l0.length==l1.length)=false:=by first|simpa using c3|(simp at c3⊢;omega)
  obtain rfl:=Option.some.inj H
  go_enter Tryz.func36,Tryz.ntmps36
  go_wp2
  go_ret
  exact⟨oE,oB⟩
 rw[if_pos c3]at H;have dZ:((l0.length:Int)==(l1.length:Int))=true:=beq_iff_eq.mpr c3;have gA:((l0.length:Int) !=(l1.length:Int))=false:=bne_eq_false_iff_eq.mpr c3
 have gB:(l0.length==l1.length)=true:=by first|simpa using c3|(simp at c3⊢;omega)
 clear c3;have H':=ab.mk H;clear H
 go_enter Tryz.func36,Tryz.ntmps36
 go_wp2
 go_loopg [5] k (fun kq v5 w'=>∃(b1:Int),v5= .int .i64 b1∧ab (cf.l0 kq l0 l1 b1=some r)∧ab (kq≤k)∧ab (Below w.heap.size w w'))
 case atStart=>exact⟨(0),oS,H',⟨Nat.le_refl _⟩,⟨oB⟩⟩
 case round=>
  clear H'
  try clear c1
  try clear c3
  obtain⟨b1,rfl,HA,dY,HB⟩:=hrel
  cases gk with
  |zero=>exact absurd HA.out (by simp[cf.l0])
  |succ k1=>
   have H:=HA.out;clear HA;simp only[cf.l0]at H;replace H:=iH H;rcases H with⟨gC,H⟩|⟨gC,H⟩;rotate_left
   ·obtain rfl:=Option.some.inj H
    go_wp2
    go_ret
    exact⟨oE,oB⟩
   obtain⟨gI,H⟩:=cU H;obtain⟨gJ,H⟩:=cU H;replace H:=bA H;obtain⟨gK,A7,H⟩:=H
   try dsimp only at H
   replace H:=ll H;rcases H with⟨rfl,H⟩|⟨rfl,H⟩;rotate_left
   ·obtain rfl:=Option.some.inj H
    try go_wp2
    replace HB:=am (ar HB.out);have gD:(0≤(b1:Int))=True:=oT;have gE:(b1<(l0.length:Int))=True:=oT;obtain⟨b2,d6,d7,d8,d9,dA,dB,dI,b4,b5,b6,b7,b8,b9,bH,bI,bJ,bK,bL,bM⟩:=fl dW.out b1 oa oa;have dK:=b9;have dL:=b8;have dM:=b7;have dN:=b6;have dO:=b5;have dP:=b4
    cases dI
    replace b4:=cB HB b4;replace b5:=cB HB b5;replace b6:=cB HB b6;replace b7:=cB HB b7;replace b8:=cB HB b8;replace b9:=cB HB b9;have bN:=ab.mk bI;have bZ:=ab.mk bH;clear bI bH;have bO:=ab.mk bK;have d1:=ab.mk bJ;clear bK bJ;have bP:=ab.mk bM;have d2:=ab.mk bL;clear bM bL;have gF:(0≤(b1:Int))=True:=oT;have gG:(b1<(l1.length:Int))=True:=oT;obtain⟨b3,dC,dD,dE,dF,dG,dH,dJ,bB,bC,bD,bE,bF,bG,bQ,bR,bS,bT,bU,bV⟩:=fl dX.out b1 oa oa;have dQ:=bG;have dR:=bF;have dS:=bE;have dT:=bD;have dU:=bC;have dV:=bB
    cases dJ
    replace bB:=cB HB bB;replace bC:=cB HB bC;replace bD:=cB HB bD;replace bE:=cB HB bE;replace bF:=cB HB bF;replace bG:=cB HB bG;have bW:=ab.mk bR;have d3:=ab.mk bQ;clear bR bQ;have bX:=ab.mk bT;have d4:=ab.mk bS;clear bT bS;have bY:=ab.mk bV;have d5:=ab.mk bU;clear bV bU;refine mq 10 (fun w'=>w'.cell? (b2.add ((b1).toNat*6))=some (.int .i64 ((af l0 b1).f0))∧w'.cell? ⟨(b2.add ((b1).toNat*6)).block,(b2.add ((b1).toNat*6)).off+1,none⟩=some (.int .i64 ((af l0 b1).f1))∧w'.cell? ⟨(b2.add ((b1).toNat*6)).block,(b2.add ((b1).toNat*6)).off+2,none⟩=some (.int .i64 ((af l0 b1).f2))∧w'.cell? ⟨(b2.add ((b1).toNat*6)).block,(b2.add ((b1).toNat*6)).off+3,none⟩=some (.slice d6 ((af l0 b1).f3).length d7)∧w'.cell? ⟨(b2.add ((b1).toNat*6)).block,(b2.add ((b1).toNat*6)).off+4,none⟩=some (.slice d8 ((af l0 b1).f4).length d9)∧w'.cell? ⟨(b2.add ((b1).toNat*6)).block,(b2.add ((b1).toNat*6)).off+5,none⟩=some (.slice dA ((af l0 b1).f5).length dB)∧w'.cell? (b3.add ((b1).toNat*6))=some (.int .i64 ((af l1 b1).f0))∧w'.cell? ⟨(b3.add ((b1).toNat*6)).block,(b3.add ((b1).toNat*6)).off+1,none⟩=some (.int .i64 ((af l1 b1).f1))∧w'.cell? ⟨(b3.add ((b1).toNat*6)).block,(b3.add ((b1).toNat*6)).off+2,none⟩=some (.int .i64 ((af l1 b1).f2))∧w'.cell? ⟨(b3.add ((b1).toNat*6)).block,(b3.add ((b1).toNat*6)).off+3,none⟩=some (.slice dC ((af l1 b1).f3).length dD)∧w'.cell? ⟨(b3.add ((b1).toNat*6)).block,(b3.add ((b1).toNat*6)).off+4,none⟩=some (.slice dE ((af l1 b1).f4).length dF)∧w'.cell? ⟨(b3.add ((b1).toNat*6)).block,(b3.add ((b1).toNat*6)).off+5,none⟩=some (.slice dG ((af l1 b1).f5).length dH)) cf.tab6 cf.ma oH (fun hHeld av ey=> ?_);generalize wr.drew=gN at HB bN bO bP bW bX bY b4 b5 b6 b7 b8 b9 bB bC bD bE bF bG hHeld⊢;refine b_ 0 17 av ?_;refine b_ 1 18 av ?_;refine b_ 2 19 av ?_;refine b_ 4 21 av ?_;refine b_ 5 22 av ?_;refine b_ 6 23 av ?_;refine fJ 3 20 av ey hHeld ?_;refine fJ 7 24 av ey hHeld ?_;refine kF 8 25 av (fun K hK=> ?_);refine lU 25 Tryz.func72 (ia.calls k1 ((af l0 b1).f0) ((af l0 b1).f1) ((af l0 b1).f2) _ _ ((af l0 b1).f3) _ _ ((af l0 b1).f4) _ _ ((af l0 b1).f5) ((af l1 b1).f0) ((af l1 b1).f1) ((af l1 b1).f2) _ _ ((af l1 b1).f3) _ _ ((af l1 b1).f4) _ _ ((af l1 b1).f5) false _ (kC bN) bZ.out (kC bO) d1.out (kC bP) d2.out (kC bW) d3.out (kC bX) d4.out (kC bY) d5.out A7.out) ?_;rintro e gO ⟨rfl,hb⟩;refine⟨_,rfl,?_⟩;replace HB:=hB HB hb;refine fV hK 25 oH (fun hHeld=> ?_);clear hK K;refine b_ 9 26 av ?_;refine lX av ?_
    try go_wp2
    go_ret
    exact⟨oE,oB⟩
   have H':=ab.mk H;clear H
   try go_wp2
   replace HB:=am (ar HB.out);have gD:(0≤(b1:Int))=True:=oT;have gE:(b1<(l0.length:Int))=True:=oT;obtain⟨b2,d6,d7,d8,d9,dA,dB,dI,b4,b5,b6,b7,b8,b9,bH,bI,bJ,bK,bL,bM⟩:=fl dW.out b1 oa oa;have dK:=b9;have dL:=b8;have dM:=b7;have dN:=b6;have dO:=b5;have dP:=b4
   cases dI
   replace b4:=cB HB b4;replace b5:=cB HB b5;replace b6:=cB HB b6;replace b7:=cB HB b7;replace b8:=cB HB b8;replace b9:=cB HB b9;have bN:=ab.mk bI;have bZ:=ab.mk bH;clear bI bH;have bO:=ab.mk bK;have d1:=ab.mk bJ;clear bK bJ;have bP:=ab.mk bM;have d2:=ab.mk bL;clear bM bL;have gF:(0≤(b1:Int))=True:=oT;have gG:(b1<(l1.length:Int))=True:=oT;obtain⟨b3,dC,dD,dE,dF,dG,dH,dJ,bB,bC,bD,bE,bF,bG,bQ,bR,bS,bT,bU,bV⟩:=fl dX.out b1 oa oa;have dQ:=bG;have dR:=bF;have dS:=bE;have dT:=bD;have dU:=bC;have dV:=bB
   cases dJ
   replace bB:=cB HB bB;replace bC:=cB HB bC;replace bD:=cB HB bD;replace bE:=cB HB bE;replace bF:=cB HB bF;replace bG:=cB HB bG;have bW:=ab.mk bR;have d3:=ab.mk bQ;clear bR bQ;have bX:=ab.mk bT;have d4:=ab.mk bS;clear bT bS;have bY:=ab.mk bV;have d5:=ab.mk bU;clear bV bU;refine mq 10 (fun w'=>w'.cell? (b2.add ((b1).toNat*6))=some (.int .i64 ((af l0 b1).f0))∧w'.cell? ⟨(b2.add ((b1).toNat*6)).block,(b2.add ((b1).toNat*6)).off+1,none⟩=some (.int .i64 ((af l0 b1).f1))∧w'.cell? ⟨(b2.add ((b1).toNat*6)).block,(b2.add ((b1).toNat*6)).off+2,none⟩=some (.int .i64 ((af l0 b1).f2))∧w'.cell? ⟨(b2.add ((b1).toNat*6)).block,(b2.add ((b1).toNat*6)).off+3,none⟩=some (.slice d6 ((af l0 b1).f3).length d7)∧w'.cell? ⟨(b2.add ((b1).toNat*6)).block,(b2.add ((b1).toNat*6)).off+4,none⟩=some (.slice d8 ((af l0 b1).f4).length d9)∧w'.cell? ⟨(b2.add ((b1).toNat*6)).block,(b2.add ((b1).toNat*6)).off+5,none⟩=some (.slice dA ((af l0 b1).f5).length dB)∧w'.cell? (b3.add ((b1).toNat*6))=some (.int .i64 ((af l1 b1).f0))∧w'.cell? ⟨(b3.add ((b1).toNat*6)).block,(b3.add ((b1).toNat*6)).off+1,none⟩=some (.int .i64 ((af l1 b1).f1))∧w'.cell? ⟨(b3.add ((b1).toNat*6)).block,(b3.add ((b1).toNat*6)).off+2,none⟩=some (.int .i64 ((af l1 b1).f2))∧w'.cell? ⟨(b3.add ((b1).toNat*6)).block,(b3.add ((b1).toNat*6)).off+3,none⟩=some (.slice dC ((af l1 b1).f3).length dD)∧w'.cell? ⟨(b3.add ((b1).toNat*6)).block,(b3.add ((b1).toNat*6)).off+4,none⟩=some (.slice dE ((af l1 b1).f4).length dF)∧w'.cell? ⟨(b3.add ((b1).toNat*6)).block,(b3.add ((b1).toNat*6)).off+5,none⟩=some (.slice dG ((af l1 b1).f5).length dH)) cf.tab6 cf.ma oH (fun hHeld av ey=> ?_);generalize wr.drew=w9 at HB bN bO bP bW bX bY b4 b5 b6 b7 b8 b9 bB bC bD bE bF bG hHeld⊢;refine b_ 0 17 av ?_;refine b_ 1 18 av ?_;refine b_ 2 19 av ?_;refine b_ 4 21 av ?_;refine b_ 5 22 av ?_;refine b_ 6 23 av ?_;refine fJ 3 20 av ey hHeld ?_;refine fJ 7 24 av ey hHeld ?_;refine kF 8 25 av (fun K hK=> ?_);refine lU 25 Tryz.func72 (ia.calls k1 ((af l0 b1).f0) ((af l0 b1).f1) ((af l0 b1).f2) _ _ ((af l0 b1).f3) _ _ ((af l0 b1).f4) _ _ ((af l0 b1).f5) ((af l1 b1).f0) ((af l1 b1).f1) ((af l1 b1).f2) _ _ ((af l1 b1).f3) _ _ ((af l1 b1).f4) _ _ ((af l1 b1).f5) true _ (kC bN) bZ.out (kC bO) d1.out (kC bP) d2.out (kC bW) d3.out (kC bX) d4.out (kC bY) d5.out A7.out) ?_;rintro e gP ⟨rfl,hb⟩;refine⟨_,rfl,?_⟩;replace HB:=hB HB hb;refine fV hK 25 oH (fun hHeld=> ?_);clear hK K;refine b_ 9 26 av ?_;refine lX av ?_
   try go_wp2
   go_roundg k1
   case measure=>have:=dY.out;omega
   case rel=>exact⟨(wrap64 (b1+1)),oS,H',⟨by have:=dY.out;omega⟩,⟨oB⟩⟩

mutual
def aU.l0:Nat→List Int→List Int→List (bh)→Int→Option (List Int)
 |0,_,_,_,_=>none
 |k+1,x3,x4,b2,b3=>if(x4.length:Int)>0 then(if 0<(x4.length:Int)then(if 1≤(x4.length:Int)then((some (x4.drop (1:Int).toNat:List Int)).bind fun b4=>((cP.f k b2 b3 (rd x4 0)).bind fun b1=>(if b1.2.2.2.2.2.2=true then((dt.f x3 (rd x4 0)).bind fun b5=>(aU.j1 k x3 b4 (rd x4 0) b5 b2 b3 b1.1 b1.2.1 b1.2.2.1 b1.2.2.2.1 b1.2.2.2.2.1 b1.2.2.2.2.2.1))else(aU.j1 k x3 b4 (rd x4 0) true b2 b3 b1.1 b1.2.1 b1.2.2.1 b1.2.2.2.1 b1.2.2.2.2.1 b1.2.2.2.2.2.1))))else(none))else(none))else(if x3.length<4611686018427387904 then some (nw x3)else none)
def aU.j1:Nat→List Int→List Int→Int→Bool→List (bh)→Int→Int→Int→Int→List Int→List (eb)→List (eh)→Option (List Int)
 |0,_,_,_,_,_,_,_,_,_,_,_,_=>none
 |k+1,x3,x4,x5,bB,b1,b2,b6,b4,b7,b8,b3,b9=>if bB=true then(aU.l0 k x3 x4 b1 b2)else(if x3.length<17592186044416 then((some (x3++[x5]:List Int)).bind fun b5=>(if b4=2 then(aU.l1 k b5 x4 b3 (b3.length:Int) 0 b1 b2)else(aU.l0 k b5 x4 b1 b2)))else(none))
def aU.l1:Nat→List Int→List Int→List (eb)→Int→Int→List (bh)→Int→Option (List Int)
 |0,_,_,_,_,_,_,_=>none
 |k+1,x3,x4,b4,b5,b3,b1,b2=>if b3<b5 then(if 0≤b3 then(if b3<(b4.length:Int)then(if x4.length<17592186044416 then(aU.l1 k x3 (x4++[(al b4 b3).f1]) b4 b5 (wrap64 (b3+1)) b1 b2)else(none))else(none))else(none))else(aU.l0 k x3 x4 b1 b2)
end
def aU.f (k:Nat) (ag:List (bh)) (ak:Int):Option (List Int):=aU.l0 k (([]:List Int)) (([1]:List Int)) ag ak
theorem aU.calls (k:Nat) (bj:Option Addr) (aW:Nat) (ag:List (bh)) (ak:Int) (r:List Int) (w:World) (ch:Kd.C fD w bj ag.length ag) (ck:ag.length≤aW) (h:aU.f k ag ak=some r):
  Calls Tryz.prog 124 #[.agg #[.slice bj ag.length aW,.int .i64 ak]] w fun e w'=>∃jd:Value,e= .returned (jd)∧Kd.R (Kd.int .i64) 3 w' w.heap.size (fun _=>True) jd r∧Below w.heap.size w w':=by
 have jX:=Tryz.underlying28;have jY:=Tryz.underlying58;have jZ:=Tryz.underlying75;have gM:=ab.mk ch;have gN:=ab.mk ck;clear ch ck;have HB:=am (Below.refl w.heap.size w);unfold aU.f at h;have H:=h;clear h;obtain⟨dP,dn⟩:∃y_:List Int,y_=(([]:List Int)):=⟨_,rfl⟩;replace H:(aU.l0 k dP (([1]:List Int)) ag ak)=some r:=oY;have dX:=ab.mk dn;clear dn;obtain⟨gF,dn⟩:∃y_:List Int,y_=(([1]:List Int)):=⟨_,rfl⟩;replace H:(aU.l0 k dP gF ag ak)=some r:=oY;have dY:=ab.mk dn;clear dn;have H':=ab.mk H;clear H
 go_enter Tryz.func124,Tryz.ntmps124
 go_wp2_with (first|((with_reducible refine ai (N:=1) rfl ?_);refine di 1 #[.slice bj ag.length aW,.int .i64 ak] 28 ?_;intro dE hg w2 hbox hb;have b1:=am (hbox);have jG:=dh hg;replace HB:=hB HB hb;clear hb hbox hg)|((with_reducible refine ai (N:=10) rfl ?_);refine Kd.jy (Kd.int .i64) _ 3 ?hg (N:=10) ?hd (xs:=([]:List Int)) (inner:=[]) (ok:=fun _=>True) (fm:=fun _=>True) ?hr ?hp (fun _ hk=>hk) trivial (Below.refl _ _) (Nat.le_refl _) (by simp) ?_;(case hd=>rfl);(case hg=>rfl);(case hr=>first|(go_simp;done)|(go_simp;rfl));(case hp=>exact(cS.none _ _));intro m1 w3 dK hb kB ep;clear kB ep;(first|rw[←dX.out]at dK|(simp only[Int.reduceToNat]at dK;rw[←dX.out]at dK));have d7:=am (Kd.ay dK (ah oB));replace b1:=bn b1 hb;replace HB:=hB HB hb;clear hb dK)|((with_reducible refine ai (N:=11) rfl ?_);refine Kd.jy (Kd.int .i64) _ 3 ?hg (N:=11) ?hd (xs:=([1]:List Int)) (inner:=[.int .i64 1]) (ok:=fun _=>True) (fm:=fun _=>True) ?hr ?hp (fun _ hk=>hk) trivial (Below.refl _ _) (Nat.le_refl _) (by simp) ?_;(case hd=>rfl);(case hg=>rfl);(case hr=>first|(go_simp;done)|(go_simp;rfl));(case hp=>exact(cS.one (show Kd.M (Kd.int .i64) _ _ _ 1 [.int .i64 1]from rfl) (cS.none _ _)));intro m2 w5 dC hb kB ep;clear kB ep;(first|rw[←dY.out]at dC|(simp only[Int.reduceToNat]at dC;rw[←dY.out]at dC));have gO:=am (Kd.ay (Kd.qU dC (kl_ d7)) (ah oB));replace d7:=ke_ d7 dC hb;replace b1:=bn b1 hb;replace HB:=hB HB hb;clear hb dC))
 go_loopg [3,4] k (fun kq v3 v4 w'=>∃(bG:List Int) (b4:List Int),ab (aU.l0 kq bG b4 ag ak=some r)∧ab (kq≤k)∧ab (Kd.R (Kd.int .i64) 3 w' w.heap.size (fun k_=>some k_≠(v4:Value).ownBlock) v3 bG)∧ab (Kd.Q (Kd.int .i64) 3 w' w.heap.size (fun k_=>some k_≠(v3:Value).ownBlock) v4 b4)∧ab (w'.heap[dE]? =some (.cells #[(.slice bj ag.length aW),.int .i64 ak] 28 (0,0)))∧ab (Below w.heap.size w w'))
 case atStart=>exact⟨(dP),(gF),H',⟨Nat.le_refl _⟩,⟨by(with_reducible repeat(first|apply Kd.cu|apply Kd.cv|apply Kd.cz));exact Kd.bm d7.out (fun _ hk=>hk.2)⟩,⟨Kd.oN (by(with_reducible repeat(first|apply Kd.cu|apply Kd.cv|apply Kd.cz));exact Kd.bm gO.out (fun _ hk=>hk.2))⟩,⟨oF b1⟩,⟨oB⟩⟩
 case round=>
  clear H';obtain⟨bG,b4,HA,bV,b3,b7,b1,HB⟩:=hrel
  cases gk with
  |zero=>exact absurd HA.out (by simp[aU.l0])
  |succ k1=>
   have H:=HA.out;clear HA;simp only[aU.l0]at H
   by_cases c7:(b4.length:Int)>0
   rotate_left
   ·rw[if_neg c7]at H;have dQ:decide (0<(b4.length:Int))=false:=decide_eq_false c7;have dR:decide (0<b4.length)=false:=decide_eq_false (by omega);clear c7
    split at H
    case isFalse=>cases H
    case isTrue adl=>
    obtain rfl:=Option.some.inj H;obtain⟨m3,m4,gY,_⟩:=Kd.sP b7.out;subst gY;obtain⟨Aq_,cq_,rfl⟩:=Kd.ax b3.out
    go_wp2_with (go_at_call 147;refine(ab8.calls Aq_ cq_ w.heap.size (fun _=>True) bG _ (Kd.bm (uO b3) (fun _ _=>trivial)) adl).mono ?_;rintro e mH ⟨rfl,hs_,kB⟩)
    go_ret
    exact⟨_,oE,hs_,(oB:Below w.heap.size w _).grown kB (ah oB) (fun k_ fV=>Kd.eB hs_ k_ fV)⟩
   rw[if_pos c7]at H;have dQ:decide (0<(b4.length:Int))=true:=decide_eq_true c7;have dR:decide (0<b4.length)=true:=decide_eq_true (by omega);clear c7;obtain⟨c8,H⟩:=lH H;have gG:decide (0<(b4.length:Int))=true:=decide_eq_true c8;have gH:decide (0<b4.length)=true:=decide_eq_true (by omega);clear c8;obtain⟨c9,H⟩:=lH H;have m5:=eq_true c9;have m6:decide (1≤(b4.length:Int))=true:=decide_eq_true c9;clear c9;obtain⟨bC,dn⟩:∃y_:List Int,y_=(b4.drop (1:Int).toNat):=⟨_,rfl⟩;replace H:((cP.f k1 ag ak (rd b4 0)).bind fun bE=>(if bE.2.2.2.2.2.2=true then((dt.f bG (rd b4 0)).bind fun dF=>(aU.j1 k1 bG bC (rd b4 0) dF ag ak bE.1 bE.2.1 bE.2.2.1 bE.2.2.2.1 bE.2.2.2.2.1 bE.2.2.2.2.2.1))else(aU.j1 k1 bG bC (rd b4 0) true ag ak bE.1 bE.2.1 bE.2.2.1 bE.2.2.2.1 bE.2.2.2.2.1 bE.2.2.2.2.2.1)))=some r:=oY;have dZ:=ab.mk dn;clear dn;replace H:=bA H;obtain⟨⟨bW,bH,bX,bI,b5,bJ,gZ⟩,jB,H⟩:=H
   try dsimp only at H
   have dS:=ab.mk H;clear H;obtain⟨m7,dG,j1,_⟩:=Kd.sP b7.out;subst j1;have dT:0≤(0:Int):=(by omega);have dU:0<(b4.length:Int):=oa;obtain⟨d4,j2,dD⟩:=Kd.jm (Kd.mv b7.out).2.2 0 dT dU
   cases j2
   have jH:(0<b4.length)=True:=eq_true (by omega)
   (try rw[show((0:Int)).toNat=0 from rfl]at dD)
   (try rw[Addr.add_zero']at dD)
   replace dT:=eq_true dT;replace dU:=eq_true dU;have gI:(1:Int)≤((b4.length:Int):Int):=oa;obtain⟨m8,gA,_,gB,_⟩:=info_parts info3;have gJ:=mu (P:=Tryz.prog) 98 3 .i64 Tryz.underlying98 gA 1 gB (some d4) b4.length dG 1 (by omega) gI;have d8:=Kd.aaC (k:=(1:Int).toNat) b7.out (by omega);obtain⟨d9,dH⟩:∃A1,A1=(if dG=(1:Int).toNat then(some d4)else((some d4):Option Addr).map (·.add ((1:Int).toNat*1))):=⟨_,rfl⟩;obtain⟨dA,dV⟩:∃c1,c1=dG-(1:Int).toNat:=⟨_,rfl⟩;have dW:bC.length=b4.length-(1:Int).toNat:=(by rw[dZ.out,List.length_drop]);rw[←dZ.out]at d8;rw[←dW,←dH,←dV]at gJ;replace d8:Kd.Q (Kd.int .i64) 3 wr w.heap.size (fun k_=>some k_≠(u3:Value).ownBlock) (.slice d9 bC.length dA) bC:=(by rw[dH,dV,dW];exact d8);have j3:ab ((Value.slice d9 bC.length dA).ownBlock=(.slice (some d4) b4.length dG:Value).ownBlock):=⟨by rw[dH];split<;>(cases ((some d4):Option Addr)<;>rfl)⟩;clear dW gA gB b7 dH dV;have bK:=ab.mk d8;clear d8;replace gI:=eq_true gI;have n_:=am (Kd.bm (ok':=fun k_=>some k_≠(.slice d9 bC.length dA:Value).ownBlock) b3.out (fun k_ hk=>(by rw[j3.out];exact hk)));clear b3;have b3:=n_;clear n_;obtain⟨⟨_,_⟩,_,_⟩:=z2 b1
   go_upto_region 7 with(first|((with_reducible refine aj (f:=91) rfl ?_);refine eI 23 Tryz.func91 (cP.calls k1 _ _ ag ak (rd b4 0) bW bH bX bI b5 bJ gZ _ (kC gM) gN.out jB.out) ?_;rintro e mI ⟨m9,mA,mB,rfl,jC,gV,gW,hb⟩;refine⟨_,rfl,?_⟩;have bM:=am (Kd.ay jC (ah oB));have bN:=am (Kd.ay gV (ah oB));have bO:=am (Kd.ay gW (ah oB));replace b3:=iI b3 hb;replace bK:=qO bK hb;replace b1:=bn b1 hb;replace HB:=hB HB hb;(try clear gV);(try clear gW))|((with_reducible refine ai (N:=6) rfl ?_);refine di 6 #[.int .i64 0,.int .i64 0,.int .i64 0,.slice none 0 0,.slice none 0 0,.slice none 0 0] 58 ?_;intro bD hg mJ hbox hb;have b2:=am (hbox);have jI:=dh hg;have bP:=eJ hg b1;have bQ:=eK hg b1;replace b3:=iI b3 hb;replace bK:=qO bK hb;replace bM:=iI bM hb;replace bN:=iI bN hb;replace bO:=iI bO hb;replace b1:=bn b1 hb;replace HB:=hB HB hb;clear hb hbox hg;have jJ:=bQ.out;have jK:=bP.out;obtain⟨⟨_,_,_,_,_,_⟩,_,_,_,_,_,_⟩:=z6 b2;obtain⟨bY,bZ,j4⟩:=Kd.ax bM.out;subst j4;obtain⟨bR,bS,j5⟩:=Kd.ax bN.out;subst j5;obtain⟨d1,d2,j6⟩:=Kd.ax bO.out;subst j6))
   (try simp only[Act.put,List.setIfInBounds_toArray,List.set_cons_zero,List.set_cons_succ])
   go_cut [32] (fun jD wc=>∃(kq:Nat) (dB:Bool),jD= .bool dB∧ab (aU.j1 kq bG bC (rd b4 0) dB ag ak bW bH bX bI b5 bJ=some r)∧ab (kq≤k1)∧ab (Kd.R (Kd.int .i64) 3 wc w.heap.size (fun k_=>some k_≠((.slice d9 bC.length dA):Value).ownBlock) u3 bG)∧ab (Kd.Q (Kd.int .i64) 3 wc w.heap.size (fun k_=>some k_≠(u3:Value).ownBlock) (.slice d9 bC.length dA) bC)∧ab (Kd.R (Kd.int .u8) 5 wc w.heap.size (fun _=>True) (.slice bY bI.length bZ) bI)∧ab (Kd.R iT 75 wc w.heap.size (fun _=>True) (.slice bR b5.length bS) b5)∧ab (Kd.R iU 82 wc w.heap.size (fun _=>True) (.slice d1 bJ.length d2) bJ)∧ab (wc.heap[dE]? =some (.cells #[(.slice bj ag.length aW),.int .i64 ak] 28 (0,0)))∧ab (wc.heap[bD]? =some (.cells #[.int .i64 bW,.int .i64 bH,.int .i64 bX,(.slice bY bI.length bZ),(.slice bR b5.length bS),(.slice d1 bJ.length d2)] 58 (0,0)))∧ab (Below w.heap.size w wc))
   case first=>
    have H:=dS.out;clear dS;replace H:=ll H;rcases H with⟨rfl,H⟩|⟨rfl,H⟩
    ·replace H:=bA H;obtain⟨dF,jE,H⟩:=H
     try dsimp only at H
     have H':=ab.mk H;clear H;obtain⟨mC,mD,j7⟩:=Kd.ax b3.out;subst j7
     go_wp2_with (first|(go_at_call 146;(with_reducible refine(dt.calls _ _ bG (rd b4 0) dF _ (uP b3 b2) (ko b3) jE.out).mono ?_);rintro e mK ⟨rfl,hb⟩;replace b3:=nf b3 b2 hb;replace bK:=acO bK b2 hb;replace bM:=nf bM b2 hb;replace bN:=nf bN b2 hb;replace bO:=nf bO b2 hb;replace b1:=bn b1 hb;replace b2:=uM #[.int .i64 bW,.int .i64 bH,.int .i64 bX,.slice bY bI.length bZ,.slice bR b5.length bS,.slice d1 bJ.length d2] b2 hb;replace HB:=hB HB hb;(try clear hk)))
     go_meet
     case rel=>exact⟨_,(dF),oS,H',⟨by have:=bV.out;first|omega|exact Nat.le_refl _⟩,⟨oR b3⟩,⟨by(with_reducible repeat(first|apply Kd.g_|apply Kd.hI|apply Kd.jk));exact bK.out⟩,⟨oR bM⟩,⟨oR bN⟩,⟨oR bO⟩,⟨oF b1⟩,⟨oF b2⟩,⟨oB⟩⟩
    have H':=ab.mk H;clear H
    go_wp2
    go_meet
    case rel=>exact⟨_,(true),oS,H',⟨by have:=bV.out;first|omega|exact Nat.le_refl _⟩,⟨by(with_reducible repeat(first|apply Kd.cu|apply Kd.cv|apply Kd.cz));exact Kd.bm (Kd.dm (p:=⟨bD,5,none⟩) (Kd.dm (p:=⟨bD,4,none⟩) (Kd.dm (p:=⟨bD,3,none⟩) (Kd.dm (p:=⟨bD,2,none⟩) (Kd.dm (p:=⟨bD,1,none⟩) (Kd.dm (p:=⟨bD,0,none⟩) (Kd.aI b3.out b2.out (by decide)) (fun _ hk=>hk.2) (.int .i64 bW)) (fun _ hk=>hk.2) (.int .i64 bH)) (fun _ hk=>hk.2) (.int .i64 bX)) (fun _ hk=>hk.2) (.slice bY bI.length bZ)) (fun _ hk=>hk.2) (.slice bR b5.length bS)) (fun _ hk=>hk.2) (.slice d1 bJ.length d2)) (fun _ hk=>hk.1)⟩,⟨by(with_reducible repeat(first|apply Kd.g_|apply Kd.hI|apply Kd.jk));exact Kd.lM (Kd.pf (p:=⟨bD,5,none⟩) (Kd.pf (p:=⟨bD,4,none⟩) (Kd.pf (p:=⟨bD,3,none⟩) (Kd.pf (p:=⟨bD,2,none⟩) (Kd.pf (p:=⟨bD,1,none⟩) (Kd.pf (p:=⟨bD,0,none⟩) (Kd.qC bK.out b2.out (by decide)) (fun _ hk=>hk.2) (.int .i64 bW)) (fun _ hk=>hk.2) (.int .i64 bH)) (fun _ hk=>hk.2) (.int .i64 bX)) (fun _ hk=>hk.2) (.slice bY bI.length bZ)) (fun _ hk=>hk.2) (.slice bR b5.length bS)) (fun _ hk=>hk.2) (.slice d1 bJ.length d2)) (fun _ hk=>hk.1)⟩,⟨wQ bM b2⟩,⟨wQ bN b2⟩,⟨wQ bO b2⟩,⟨oF b1⟩,⟨oP b2⟩,⟨oB⟩⟩
   case rest=>
    clear dS
    try clear c7
    try clear dQ
    try clear dR
    try clear c8
    try clear gG
    try clear gH
    try clear c9
    obtain⟨kq,dB,rfl,HA,bT,b3,b7,b8,b6,b9,b1,b2,HB⟩:=hcut
    cases kq with
    |zero=>exact absurd HA.out (by simp[aU.j1])
    |succ tZ=>
     have H:=HA.out;clear HA;simp only[aU.j1]at H;replace H:=ll H;rcases H with⟨rfl,H⟩|⟨rfl,H⟩
     ·have H':=ab.mk H;clear H
      go_wp2
      go_roundg tZ
      case measure=>have:=bV.out;have:=bT.out;omega
      case rel=>exact⟨(bG),(bC),H',⟨by have:=bV.out;have:=bT.out;omega⟩,⟨oR b3⟩,⟨by(with_reducible repeat(first|apply Kd.g_|apply Kd.hI|apply Kd.jk));exact b7.out⟩,⟨oF b1⟩,⟨oB⟩⟩
     obtain⟨gK,H⟩:=lH H;have gC:=ab.mk gK;clear gK;obtain⟨d3,dn⟩:∃y_:List Int,y_=(bG++[(rd b4 0)]):=⟨_,rfl⟩;replace H:(if bH=2 then(aU.l1 tZ d3 bC b5 (b5.length:Int) 0 ag ak)else(aU.l0 tZ d3 bC ag ak))=some r:=oY;have gD:=ab.mk dn;clear dn
     by_cases d6:bH=2
     rotate_left
     ·rw[if_neg d6]at H;have gP:(bH==2)=false:=beq_eq_false_iff_ne.mpr d6;have gQ:(bH !=2)=true:=bne_iff_ne.mpr d6;have H':=ab.mk H;clear H
      go_wp2_with (first|((with_reducible refine dp (b:= .append) (xs:= #[.tmp 33,.tmp 35]) rfl ?_);at_builtin;refine Kd.mr (Kd.int .i64) (w0:=w) w.heap.size rfl (.tmp 33) (.tmp 35) 98 3 (.int .i64 0) 8 rfl Tryz.underlying98 info3 rfl (by decide) (by omega) u3 bG (rd b4 0) [.int .i64 (rd b4 0)] (fun k_=>some k_≠(.slice d9 bC.length dA:Value).ownBlock) (fun _=>False) rfl rfl ?aP (fun _ hk=>hk.elim) ?aF ?aO ?aB ?aS ?aL ?_;(case aP=>exact rfl);(case aB=>exact oB);(case aF=>exact(fun k_ hk=>Kd.fresh' (adE b7) k_ hk));(case aO=>exact(oR b3));(case aS=>exact(ah oB));(case aL=>have:=gC.out;omega);intro dI mL ho hb hg hat;rw[←gD.out]at ho;have dJ:=am (ho);replace b7:=am (Kd.wx (ok:=(fun _=>True)) (by(with_reducible repeat(first|apply Kd.g_|apply Kd.hI|apply Kd.jk));exact Kd.lM b7.out (fun _ hk=>⟨trivial,hk⟩)) hg hat);replace b8:=am (Kd.iX (oR b8) (Kd.fT (oR b3)) (by decide) hg);replace b6:=am (Kd.iX (oR b6) (Kd.fT (oR b3)) (by decide) hg);replace b9:=am (Kd.iX (oR b9) (Kd.fT (oR b3)) (by decide) hg);replace b1:=lA b1 hg (Kd.lr b3.out b1.out (by decide));replace b2:=lA b2 hg (Kd.lr b3.out b2.out (by decide));replace HB:=am (hb);clear b3;clear ho hb hg hat;have jL:=bQ.out;have jM:=bP.out;obtain⟨⟨_,_,_,_,_,_⟩,_,_,_,_,_,_⟩:=z6 b2))
      go_roundg tZ
      case measure=>have:=bV.out;have:=bT.out;omega
      case rel=>exact⟨(d3),(bC),H',⟨by have:=bV.out;have:=bT.out;omega⟩,⟨oR dJ⟩,⟨by(with_reducible repeat(first|apply Kd.g_|apply Kd.hI|apply Kd.jk));exact Kd.lM b7.out (fun _ hk=>hk.2)⟩,⟨oF b1⟩,⟨oB⟩⟩
     rw[if_pos d6]at H;have gP:(bH==2)=true:=beq_iff_eq.mpr d6;have gQ:(bH !=2)=false:=bne_eq_false_iff_eq.mpr d6;clear d6;have H':=ab.mk H;clear H
     go_wp2_with (first|((with_reducible refine dp (b:= .append) (xs:= #[.tmp 33,.tmp 35]) rfl ?_);at_builtin;refine Kd.mr (Kd.int .i64) (w0:=w) w.heap.size rfl (.tmp 33) (.tmp 35) 98 3 (.int .i64 0) 8 rfl Tryz.underlying98 info3 rfl (by decide) (by omega) u3 bG (rd b4 0) [.int .i64 (rd b4 0)] (fun k_=>some k_≠(.slice d9 bC.length dA:Value).ownBlock) (fun _=>False) rfl rfl ?aP (fun _ hk=>hk.elim) ?aF ?aO ?aB ?aS ?aL ?_;(case aP=>exact rfl);(case aB=>exact oB);(case aF=>exact(fun k_ hk=>Kd.fresh' (adE b7) k_ hk));(case aO=>exact(oR b3));(case aS=>exact(ah oB));(case aL=>have:=gC.out;omega);intro dI mM ho hb hg hat;rw[←gD.out]at ho;have dJ:=am (ho);replace b7:=am (Kd.wx (ok:=(fun _=>True)) (by(with_reducible repeat(first|apply Kd.g_|apply Kd.hI|apply Kd.jk));exact Kd.lM b7.out (fun _ hk=>⟨trivial,hk⟩)) hg hat);replace b8:=am (Kd.iX (oR b8) (Kd.fT (oR b3)) (by decide) hg);replace b6:=am (Kd.iX (oR b6) (Kd.fT (oR b3)) (by decide) hg);replace b9:=am (Kd.iX (oR b9) (Kd.fT (oR b3)) (by decide) hg);replace b1:=lA b1 hg (Kd.lr b3.out b1.out (by decide));replace b2:=lA b2 hg (Kd.lr b3.out b2.out (by decide));replace HB:=am (hb);clear b3;clear ho hb hg hat;have jN:=bQ.out;have jO:=bP.out;obtain⟨⟨_,_,_,_,_,_⟩,_,_,_,_,_,_⟩:=z6 b2))
     go_loopg [4,43] tZ (fun kq v4 jF w'=>∃(d5:List Int) (bB:Int),jF= .int .i64 bB∧ab (aU.l1 kq d3 d5 b5 (b5.length:Int) bB ag ak=some r)∧ab (kq≤tZ)∧ab (Kd.R (Kd.int .i64) 3 w' w.heap.size (fun k_=>some k_≠(v4:Value).ownBlock) dI d3)∧ab (Kd.Q (Kd.int .i64) 3 w' w.heap.size (fun k_=>some k_≠(dI:Value).ownBlock) v4 d5)∧ab (Kd.R iT 75 w' w.heap.size (fun _=>True) (.slice bR b5.length bS) b5)∧ab (Kd.R (Kd.int .u8) 5 w' w.heap.size (fun _=>True) (.slice bY bI.length bZ) bI)∧ab (Kd.R iT 75 w' w.heap.size (fun _=>True) (.slice bR b5.length bS) b5)∧ab (Kd.R iU 82 w' w.heap.size (fun _=>True) (.slice d1 bJ.length d2) bJ)∧ab (w'.heap[dE]? =some (.cells #[(.slice bj ag.length aW),.int .i64 ak] 28 (0,0)))∧ab (w'.heap[bD]? =some (.cells #[.int .i64 bW,.int .i64 bH,.int .i64 bX,(.slice bY bI.length bZ),(.slice bR b5.length bS),(.slice d1 bJ.length d2)] 58 (0,0)))∧ab (Below w.heap.size w w'))
     case atStart=>exact⟨(bC),(0),oS,H',⟨Nat.le_refl _⟩,⟨oR dJ⟩,⟨by(with_reducible repeat(first|apply Kd.g_|apply Kd.hI|apply Kd.jk));exact Kd.lM b7.out (fun _ hk=>hk.2)⟩,⟨oR b6⟩,⟨oR b8⟩,⟨oR b6⟩,⟨oR b9⟩,⟨oF b1⟩,⟨oF b2⟩,⟨oB⟩⟩
     case round=>
      clear H'
      try clear c7
      try clear dQ
      try clear dR
      try clear c8
      try clear gG
      try clear gH
      try clear c9
      try clear gK
      try clear d6
      obtain⟨d5,bB,rfl,HA,gE,b3,b7,bU,b8,b6,b9,b1,b2,HB⟩:=hrel
      cases gk with
      |zero=>exact absurd HA.out (by simp[aU.l1])
      |succ k3=>
       have H:=HA.out;clear HA;simp only[aU.l1]at H;replace H:=iH H;rcases H with⟨gR,H⟩|⟨gR,H⟩;rotate_left
       ·have H':=ab.mk H;clear H
        go_wp2
        go_roundg k3
        case measure=>have:=bV.out;have:=bT.out;have:=gE.out;omega
        case rel=>exact⟨(d3),(d5),H',⟨by have:=bV.out;have:=bT.out;have:=gE.out;omega⟩,⟨oR b3⟩,⟨by(with_reducible repeat(first|apply Kd.g_|apply Kd.hI|apply Kd.jk));exact b7.out⟩,⟨oF b1⟩,⟨oB⟩⟩
       obtain⟨jP,H⟩:=cU H;obtain⟨jQ,H⟩:=cU H;obtain⟨gX,H⟩:=lH H;have gS:=ab.mk gX;clear gX;obtain⟨gL,dn⟩:∃y_:List Int,y_=(d5++[(al b5 bB).f1]):=⟨_,rfl⟩;replace H:(aU.l1 k3 d3 gL b5 (b5.length:Int) (wrap64 (bB+1)) ag ak)=some r:=oY;have gT:=ab.mk dn;clear dn;have H':=ab.mk H;clear H;have mE:(0≤(bB:Int))=True:=oT;have mF:(bB<(b5.length:Int))=True:=oT;obtain⟨jR,j8,j9,jA⟩:=cV (Kd.bu bU.out).2.2 bB oa oa
       cases j8
       go_wp2_with (first|((with_reducible refine ai (N:=9) rfl ?_);refine di 9 #[.string (⟨#[]⟩:ByteArray),.int .i64 0] 75 ?_;intro bL hg mN hbox hb;have bF:=am (hbox);have jS:=dh hg;have dL:=eJ hg b1;have dM:=eK hg b1;have dN:=eJ hg b2;have dO:=eK hg b2;replace b3:=iI b3 hb;replace b7:=qO b7 hb;replace bU:=am (Kd.iq (Kd.tM (oR bU) bL (Nat.le_of_eq hg.symm)) hb);replace b8:=iI b8 hb;replace b6:=am (Kd.iq (Kd.tM (oR b6) bL (Nat.le_of_eq hg.symm)) hb);replace b9:=iI b9 hb;replace b1:=bn b1 hb;replace b2:=bn b2 hb;replace HB:=hB HB hb;clear hb hbox hg;have jT:=dM.out;have jU:=dL.out;have jV:=dO.out;have jW:=dN.out;obtain⟨⟨_,_⟩,_,_⟩:=z2 bF)|((with_reducible refine dp (b:= .append) (xs:= #[.tmp 47,.tmp 50]) rfl ?_);at_builtin;refine Kd.aaD (Kd.int .i64) (w0:=w) w.heap.size rfl (.tmp 47) (.tmp 50) 98 3 (.int .i64 0) 8 rfl Tryz.underlying98 info3 rfl (by decide) (by omega) u4 d5 ((al b5 bB).f1) [.int .i64 ((al b5 bB).f1)] (fun k_=>some k_≠(dI:Value).ownBlock) (fun _=>False) rfl (by first|(go_simp;done)|(go_simp;rfl)) ?aP (fun _ hk=>hk.elim) ?aF ?aO ?aB ?aS ?aL ?_;(case aP=>exact rfl);(case aB=>exact oB);(case aF=>exact(fun k_ hk=>Kd.fresh' (aei b3 bF) k_ hk));(case aO=>exact(by(with_reducible repeat(first|apply Kd.g_|apply Kd.hI|apply Kd.jk));exact Kd.lM (Kd.pf (p:=⟨bL,1,none⟩) (Kd.pf (p:=⟨bL,0,none⟩) (Kd.qC b7.out bF.out (by decide)) (fun _ hk=>hk.2) (.string ((al b5 bB).f0))) (fun _ hk=>hk.2) (.int .i64 ((al b5 bB).f1))) (fun _ hk=>hk.1)));(case aS=>exact(ah oB));(case aL=>have:=gS.out;omega);intro mG mO ho hb hg hat;rw[←gT.out]at ho;have gU:=am (ho);replace b3:=am (Kd.abU (ok:=(fun _=>True)) (by(with_reducible repeat(first|apply Kd.cu|apply Kd.cv|apply Kd.cz));exact Kd.bm (Kd.dm (p:=⟨bL,1,none⟩) (Kd.dm (p:=⟨bL,0,none⟩) (Kd.aI b3.out bF.out (by decide)) (fun _ hk=>hk.2) (.string ((al b5 bB).f0))) (fun _ hk=>hk.2) (.int .i64 ((al b5 bB).f1))) (fun _ hk=>⟨trivial,hk.1⟩)) hg hat);replace bU:=am (Kd.iX (nR2 bU bL (fun _ hk=>hk.2)) (Kd.qH (nQ1 b7 bF)) (by decide) hg);replace b8:=am (Kd.iX (nR1 b8 bF) (Kd.qH (nQ1 b7 bF)) (by decide) hg);replace b6:=am (Kd.iX (nR2 b6 bL (fun _ hk=>hk.2)) (Kd.qH (nQ1 b7 bF)) (by decide) hg);replace b9:=am (Kd.iX (nR1 b9 bF) (Kd.qH (nQ1 b7 bF)) (by decide) hg);replace b1:=lA b1 hg (Kd.acZ b7.out b1.out (by decide));replace b2:=lA b2 hg (Kd.acZ b7.out b2.out (by decide));replace bF:=bp_ #[.string ((al b5 bB).f0),.int .i64 ((al b5 bB).f1)] bF hg (Kd.acZ b7.out bF.out (by decide));replace HB:=am (hb);clear b7;clear ho hb hg hat))
       go_roundg k3
       case measure=>have:=bV.out;have:=bT.out;have:=gE.out;omega
       case rel=>exact⟨(gL),(wrap64 (bB+1)),oS,H',⟨by have:=bV.out;have:=bT.out;have:=gE.out;omega⟩,⟨by(with_reducible repeat(first|apply Kd.cu|apply Kd.cv|apply Kd.cz));exact Kd.bm b3.out (fun _ hk=>hk.2)⟩,⟨by(with_reducible repeat(first|apply Kd.g_|apply Kd.hI|apply Kd.jk));exact gU.out⟩,⟨mR bU⟩,⟨oR b8⟩,⟨mR b6⟩,⟨oR b9⟩,⟨oF b1⟩,⟨oF b2⟩,⟨oB⟩⟩

def cK.j0:Nat→Bool→Int→Int→Int→List Int→List (eb)→List (eh)→Option (Bool)
 |0,_,_,_,_,_,_,_=>none
 |k+1,b7,b5,b1,b2,b3,b4,b6=>if b7=true then(some false)else(if b1=1 then(some ((b4.length:Int)==0))else(if b1=2 then(if(b3.length:Int)=0 then(some (decide (b2≤1)))else(some false))else(some false)))
def cK.f (k:Nat) (bp:Int) (ak:Int) (cJ:Int) (cj:List Int) (aK:List (eb)) (cw:List (eh)):Option (Bool):=(aT.f bp 1 1000).bind fun b1=>(if b1=true then((aT.f cJ 0 1000).bind fun b2=>(if b2=true then(if((cJ==0) !=(bp==1))=true then(cK.j0 k true bp ak cJ cj aK cw)else(if(cj.length:Int)>100 then(cK.j0 k true bp ak cJ cj aK cw)else((du.f k aK).bind fun b3=>(if b3=true then((de.f k cw).bind fun b4=>(cK.j0 k (!b4) bp ak cJ cj aK cw))else(cK.j0 k true bp ak cJ cj aK cw)))))else(cK.j0 k true bp ak cJ cj aK cw)))else(cK.j0 k true bp ak cJ cj aK cw))
theorem cK.calls (k:Nat) (bp:Int) (ak:Int) (cJ:Int) (fO:Option Addr) (fP:Nat) (cj:List Int) (fE:Option Addr) (fF:Nat) (aK:List (eb)) (fp:Option Addr) (fq:Nat) (cw:List (eh)) (r:Bool) (w:World) (iK:Kd.C (Kd.int .u8) w fO cj.length cj) (iL:cj.length≤fP) (iM:Kd.C iT w fE aK.length aK) (iN:aK.length≤fF) (iO:Kd.C iU w fp cw.length cw) (iP:cw.length≤fq) (h:cK.f k bp ak cJ cj aK cw=some r):
  Calls Tryz.prog 116 #[.agg #[.int .i64 bp,.int .i64 ak,.int .i64 cJ,.slice fO cj.length fP,.slice fE aK.length fF,.slice fp cw.length fq]] w fun e w'=>e= .returned (.bool r)∧Below w.heap.size w w':=by
 have bW:=Tryz.underlying58;have bS:=ab.mk iK;have bT:=ab.mk iL;clear iK iL;have b8:=ab.mk iM;have b9:=ab.mk iN;clear iM iN;have bD:=ab.mk iO;have bE:=ab.mk iP;clear iO iP;have HB:=am (Below.refl w.heap.size w);unfold cK.f at h;have H:=h;clear h;have bB:=ab.mk H;clear H
 go_enter Tryz.func116,Tryz.ntmps116
 go_upto_region 1 with(first|((with_reducible refine ai (N:=1) rfl ?_);(try(refine bx (by rfl) ?_;dsimp only));refine di 1 #[.int .i64 bp,.int .i64 ak,.int .i64 cJ,.slice fO cj.length fP,.slice fE aK.length fF,.slice fp cw.length fq] 58 ?_;intro bF hg w3 hbox hb;have b1:=am (hbox);have bU:=dh hg;replace HB:=hB HB hb;clear hb hbox hg))
 (try simp only[Act.put,List.setIfInBounds_toArray,List.set_cons_zero,List.set_cons_succ])
 go_cut [39] (fun bQ wc=>∃(kq:Nat) (b6:Bool),bQ= .bool b6∧ab (cK.j0 kq b6 bp ak cJ cj aK cw=some r)∧ab (kq≤k)∧ab (wc.heap[bF]? =some (.cells #[.int .i64 bp,.int .i64 ak,.int .i64 cJ,(.slice fO cj.length fP),(.slice fE aK.length fF),(.slice fp cw.length fq)] 58 (0,0)))∧ab (Below w.heap.size w wc))
 case first=>
  have H:=bB.out;clear bB;replace H:=bA H;obtain⟨bX,A4,H⟩:=H
  try dsimp only at H
  replace H:=ll H;rcases H with⟨rfl,H⟩|⟨rfl,H⟩;rotate_left
  ·have H':=ab.mk H;clear H;obtain⟨⟨_,_,_,_,_,_⟩,_,_,_,_,_,_⟩:=z6 b1
   go_wp2_with (first|((with_reducible refine aj (f:=60) rfl ?_);refine eI 5 Tryz.func60 (aT.calls bp 1 1000 false _ A4.out) ?_;rintro e w' ⟨rfl,⟨nd,rfl⟩⟩;refine⟨_,rfl,?_⟩))
   go_meet
   case rel=>exact⟨_,(true),oS,H',⟨by first|omega|exact Nat.le_refl _⟩,⟨oF b1⟩,⟨oB⟩⟩
  replace H:=bA H;obtain⟨bY,A6,H⟩:=H
  try dsimp only at H
  replace H:=ll H;rcases H with⟨rfl,H⟩|⟨rfl,H⟩;rotate_left
  ·have H':=ab.mk H;clear H;obtain⟨⟨_,_,_,_,_,_⟩,_,_,_,_,_,_⟩:=z6 b1
   go_wp2_with (first|((with_reducible refine aj (f:=60) rfl ?_);refine eI 5 Tryz.func60 (aT.calls bp 1 1000 true _ A4.out) ?_;rintro e w' ⟨rfl,⟨nd,rfl⟩⟩;refine⟨_,rfl,?_⟩)|(go_at_call 60;(with_reducible refine(aT.calls cJ 0 1000 false _ A6.out).mono ?_);rintro e w' ⟨rfl,⟨nd,rfl⟩⟩))
   go_meet
   case rel=>exact⟨_,(true),oS,H',⟨by first|omega|exact Nat.le_refl _⟩,⟨oF b1⟩,⟨oB⟩⟩
  by_cases c8:((cJ==0) !=(bp==1))=true
  ·rw[if_pos c8]at H;have b3:((cJ==0) !=(bp==1))=true:=c8
   (try(have bP:decide ((cJ==0)=(bp==1))=false:=by simpa using c8))
   (try(have b7:((cJ==0)==(bp==1))=false:=by simpa using c8))
   (try(have bZ:¬((cJ==0)=(bp==1)):=by simpa using c8))
   clear c8
   (first|rw[b3]|rw[b7]|(simp only[fo,gy];rw[b3])|skip)
   have H':=ab.mk H;clear H;obtain⟨⟨_,_,_,_,_,_⟩,_,_,_,_,_,_⟩:=z6 b1
   go_wp2_with (first|((with_reducible refine aj (f:=60) rfl ?_);refine eI 5 Tryz.func60 (aT.calls bp 1 1000 true _ A4.out) ?_;rintro e w' ⟨rfl,⟨nd,rfl⟩⟩;refine⟨_,rfl,?_⟩)|(go_at_call 60;(with_reducible refine(aT.calls cJ 0 1000 true _ A6.out).mono ?_);rintro e w' ⟨rfl,⟨nd,rfl⟩⟩))
   go_meet
   case rel=>exact⟨_,(true),oS,H',⟨by first|omega|exact Nat.le_refl _⟩,⟨oF b1⟩,⟨oB⟩⟩
  rw[if_neg c8]at H
  have b3:((cJ==0) !=(bp==1))=false:=by simpa using c8
  (try(have bP:decide ((cJ==0)=(bp==1))=true:=by simpa using c8))
  (try(have b7:((cJ==0)==(bp==1))=true:=by simpa using c8))
  clear c8
  (first|rw[b3]|rw[b7]|(simp only[fo,gy];rw[b3])|skip)
  by_cases c10:(cj.length:Int)>100
  ·rw[if_pos c10]at H;have bG:decide (100<(cj.length:Int))=true:=decide_eq_true c10;have bH:decide (100<cj.length)=true:=decide_eq_true (by omega);clear c10;have H':=ab.mk H;clear H;obtain⟨⟨_,_,_,_,_,_⟩,_,_,_,_,_,_⟩:=z6 b1
   go_wp2_with (first|((with_reducible refine aj (f:=60) rfl ?_);refine eI 5 Tryz.func60 (aT.calls bp 1 1000 true _ A4.out) ?_;rintro e w' ⟨rfl,⟨nd,rfl⟩⟩;refine⟨_,rfl,?_⟩)|(go_at_call 60;(with_reducible refine(aT.calls cJ 0 1000 true _ A6.out).mono ?_);rintro e w' ⟨rfl,⟨nd,rfl⟩⟩))
   go_meet
   case rel=>exact⟨_,(true),oS,H',⟨by first|omega|exact Nat.le_refl _⟩,⟨oF b1⟩,⟨oB⟩⟩
  rw[if_neg c10]at H;have bG:decide (100<(cj.length:Int))=false:=decide_eq_false c10;have bH:decide (100<cj.length)=false:=decide_eq_false (by omega);clear c10;replace H:=bA H;obtain⟨d1,bO,H⟩:=H
  try dsimp only at H
  replace H:=ll H;rcases H with⟨rfl,H⟩|⟨rfl,H⟩;rotate_left
  ·have H':=ab.mk H;clear H;obtain⟨⟨_,_,_,_,_,_⟩,_,_,_,_,_,_⟩:=z6 b1
   go_wp2_with (first|((with_reducible refine aj (f:=60) rfl ?_);refine eI 5 Tryz.func60 (aT.calls bp 1 1000 true _ A4.out) ?_;rintro e w' ⟨rfl,⟨nd,rfl⟩⟩;refine⟨_,rfl,?_⟩)|(go_at_call 60;(with_reducible refine(aT.calls cJ 0 1000 true _ A6.out).mono ?_);rintro e w' ⟨rfl,⟨nd,rfl⟩⟩)|(go_at_call 139;(with_reducible refine(du.calls k _ _ aK false _ (kC b8) b9.out bO.out).mono ?_);rintro e w' ⟨rfl,⟨nd,rfl⟩⟩))
   go_meet
   case rel=>exact⟨_,(true),oS,H',⟨by first|omega|exact Nat.le_refl _⟩,⟨oF b1⟩,⟨oB⟩⟩
  replace H:=bA H;obtain⟨bC,bR,H⟩:=H
  try dsimp only at H
  have H':=ab.mk H;clear H;obtain⟨⟨_,_,_,_,_,_⟩,_,_,_,_,_,_⟩:=z6 b1
  go_wp2_with (first|((with_reducible refine aj (f:=60) rfl ?_);refine eI 5 Tryz.func60 (aT.calls bp 1 1000 true _ A4.out) ?_;rintro e w' ⟨rfl,⟨nd,rfl⟩⟩;refine⟨_,rfl,?_⟩)|(go_at_call 60;(with_reducible refine(aT.calls cJ 0 1000 true _ A6.out).mono ?_);rintro e w' ⟨rfl,⟨nd,rfl⟩⟩)|(go_at_call 139;(with_reducible refine(du.calls k _ _ aK true _ (kC b8) b9.out bO.out).mono ?_);rintro e w' ⟨rfl,⟨nd,rfl⟩⟩)|(go_at_call 140;(with_reducible refine(de.calls k _ _ cw bC _ (kC bD) bE.out bR.out).mono ?_);rintro e w' ⟨rfl,⟨nd,rfl⟩⟩))
  go_meet
  case rel=>exact⟨_,(!bC),oS,H',⟨by first|omega|exact Nat.le_refl _⟩,⟨oF b1⟩,⟨oB⟩⟩
 case rest=>
  clear bB;obtain⟨kq,b6,rfl,HA,d2,b1,HB⟩:=hcut
  cases kq with
  |zero=>exact absurd HA.out (by simp[cK.j0])
  |succ vy=>
   have H:=HA.out;clear HA;simp only[cK.j0]at H;replace H:=ll H;rcases H with⟨rfl,H⟩|⟨rfl,H⟩
   ·obtain rfl:=Option.some.inj H
    go_wp2
    go_ret
    exact⟨oE,oB⟩
   by_cases b4:ak=1
   ·rw[if_pos b4]at H;have bI:(ak==1)=true:=beq_iff_eq.mpr b4;have bJ:(ak !=1)=false:=bne_eq_false_iff_eq.mpr b4;clear b4;obtain rfl:=Option.some.inj H;obtain⟨⟨_,_,_,_,_,_⟩,_,_,_,_,_,_⟩:=z6 b1
    go_wp2
    go_ret
    exact⟨oE,oB⟩
   rw[if_neg b4]at H;have bI:(ak==1)=false:=beq_eq_false_iff_ne.mpr b4;have bJ:(ak !=1)=true:=bne_iff_ne.mpr b4
   by_cases b5:ak=2
   rotate_left
   ·rw[if_neg b5]at H;have bK:(ak==2)=false:=beq_eq_false_iff_ne.mpr b5;have bL:(ak !=2)=true:=bne_iff_ne.mpr b5;obtain rfl:=Option.some.inj H;obtain⟨⟨_,_,_,_,_,_⟩,_,_,_,_,_,_⟩:=z6 b1
    go_wp2
    go_ret
    exact⟨oE,oB⟩
   rw[if_pos b5]at H;have bK:(ak==2)=true:=beq_iff_eq.mpr b5;have bL:(ak !=2)=false:=bne_eq_false_iff_eq.mpr b5;clear b5
   by_cases b2:(cj.length:Int)=0
   ·rw[if_pos b2]at H;have bM:((cj.length:Int)==0)=true:=beq_iff_eq.mpr b2;have bN:((cj.length:Int) !=0)=false:=bne_eq_false_iff_eq.mpr b2;clear b2;obtain rfl:=Option.some.inj H;obtain⟨⟨_,_,_,_,_,_⟩,_,_,_,_,_,_⟩:=z6 b1
    go_wp2
    go_ret
    exact⟨oE,oB⟩
   rw[if_neg b2]at H;have bM:((cj.length:Int)==0)=false:=beq_eq_false_iff_ne.mpr b2;have bN:((cj.length:Int) !=0)=true:=bne_iff_ne.mpr b2
   have bV:¬(cj=[]):=fun h_=>b2 (by rw[h_];rfl)
   obtain rfl:=Option.some.inj H;obtain⟨⟨_,_,_,_,_,_⟩,_,_,_,_,_,_⟩:=z6 b1
   go_wp2
   go_ret
   exact⟨oE,oB⟩

theorem ads {α:Type}{d:Kd α}{e:Nat}{W:World}{base:Nat}{ok:Nat→Prop}{v:Value}{xs:List α}(h:Kd.S d e W base ok v xs):
  ∃(rows:List (List Value)) (f:Nat→Nat),rows.length=xs.length∧(Kd.raw d.sz).R e W base (fun k=>v.ownBlock=some k) v rows∧(∀k,v.ownBlock=some k→ok k)∧
   ∀(q:Nat) (x:α),xs[q]? =some x→d.M W base (fun k=>(ok k∧some k≠v.ownBlock)∧f k=q) x (rows.getD q []):=by
 obtain⟨f,hok0,inner,ho,hr⟩:=h
 have hlen:inner.length=xs.length*d.sz:=by have:=hr.1;rw[List.length_zipIdx]at this;exact this
 have hM:∀(q:Nat) (x:α),xs[q]? =some x→d.M W base (fun k=>(ok k∧some k≠v.ownBlock)∧f k=q) x ((inner.drop (q*d.sz)).take d.sz):=fun q x hx=>hr.2 q (x,q) (Kd.ni hx)
 have hrow:∀q,q<xs.length→((List.range xs.length).map fun j=>(inner.drop (j*d.sz)).take d.sz)[q]? =some ((inner.drop (q*d.sz)).take d.sz):=fun q hq=>by
  rw[List.getElem?_map,List.getElem?_range hq];rfl
 refine⟨(List.range xs.length).map fun j=>(inner.drop (j*d.sz)).take d.sz,f,by rw[List.length_map,List.length_range],⟨fun k hk=>hk,inner,?_,?_,fun j p hj=> ?_⟩,hok0,fun q x hx=> ?_⟩
 ·rw[List.length_map,List.length_range];rw[List.length_zipIdx]at ho;exact ho
 ·rw[List.length_map,List.length_range];exact hlen
 ·rw[List.getElem?_map]at hj;obtain⟨j',hj',rfl⟩:=Option.map_eq_some_iff.1 hj;obtain⟨hl,he⟩:=List.getElem?_eq_some_iff.1 hj';rw[List.getElem_range]at he;subst he;rw[List.length_range]at hl;have hm:=d.eC (hM j _ (List.getElem?_eq_getElem hl));exact⟨rfl,d.il hm,d.gn hm⟩
 ·have hq:q<xs.length:=(List.getElem?_eq_some_iff.1 hx).1;rw[List.getD_eq_getElem?_getD,hrow q hq];exact hM q x hx
theorem wD {α:Type}{d:Kd α}{e:Nat}{W:World}{base:Nat}{ok okr:Nat→Prop}{v:Value}{xs:List α}{rows:List (List Value)}(f:Nat→Nat)
  (hraw:(Kd.raw d.sz).R e W base okr v rows) (hlen:rows.length=xs.length) (hok:∀k,v.ownBlock=some k→ok k)
  (hM:∀(q:Nat) (x:α),xs[q]? =some x→d.M W base (fun k=>(ok k∧some k≠v.ownBlock)∧f k=q) x (rows.getD q [])):Kd.S d e W base ok v xs:=by
 obtain⟨_,inner,ho,hr⟩:=hraw;refine⟨f,hok,inner,?_,?_,fun j p hj=> ?_⟩
 ·rw[List.length_zipIdx,←hlen];exact ho
 ·rw[List.length_zipIdx,←hlen];exact hr.1
 ·rw[List.getElem?_zipIdx,Nat.zero_add]at hj;obtain⟨y,hy,rfl⟩:=Option.map_eq_some_iff.1 hj
  have hjl:j<rows.length:=by rw[hlen];exact(List.getElem?_eq_some_iff.1 hy).1
  have hrw:=(hr.2 j _ (List.getElem?_eq_getElem hjl)).1
  show d.M W base _ y ((inner.drop (j*d.sz)).take d.sz)
  rw[show(inner.drop (j*d.sz)).take d.sz=rows[j]from hrw];have:=hM j y hy;rw[List.getD_eq_getElem?_getD,List.getElem?_eq_getElem hjl]at this;exact this
theorem aaY {α:Type}(l:List α) (x:α) (j q:Nat) (hj:j≤l.length):(l.take j++[x]++l.drop j)[q]? =if q<j then l[q]? else if q=j then some x else l[q-1]? :=by
 have ht:(l.take j).length=j:=by rw[List.length_take];omega
 rw[List.append_assoc]
 by_cases h1:q<j
 ·rw[if_pos h1,List.getElem?_append_left (by omega),List.getElem?_take,if_pos h1]
 rw[if_neg h1,List.getElem?_append_right (by omega),ht]
 by_cases h2:q=j
 ·subst h2;rw[if_pos rfl,Nat.sub_self];rfl
 rw[if_neg h2,show q-j=(q-j-1)+1 by omega];simp only[List.singleton_append,List.getElem?_cons_succ,List.getElem?_drop];rw[show j+(q-j-1)=q-1 by omega]
/-- A row of structs whose element i is written over with a new one (made from N on): a row again. -/
theorem adZ {α:Type}{d:Kd α}{e:Nat}{W W1:World}{base N:Nat}{ok okx okr okf:Nat→Prop}{v:Value}{xs:List α}{rows:List (List Value)}{f:Nat→Nat}{i:Nat}{x:α}{vs:List Value}
  (hraw:(Kd.raw d.sz).R e W1 base okr v (rows.set i vs)) (hlen:rows.length=xs.length) (hi:i<xs.length)
  (hM:∀(q:Nat) (x:α),xs[q]? =some x→d.M W base (fun k=>(ok k∧some k≠v.ownBlock)∧f k=q) x (rows.getD q [])) (hx:d.M W base okx x vs)
  (hv:∀k,v.ownBlock=some k→ok k) (hN:∀k,ok k→k<N) (hxN:∀k,okx k→N≤k) (hof:∀k,ok k∨okx k→okf k)
  (sq:∀k,some k≠v.ownBlock→k<W.heap.size→W1.heap[k]? =W.heap[k]?):Kd.S d e W1 base okf v (xs.set i x):=by
 refine wD (fun k=>if k<N then f k else i) hraw (by rw[List.length_set,List.length_set,hlen]) (fun k hk=>hof k (.inl (hv k hk))) (fun q y hy=> ?_)
 by_cases hq:q=i
 rotate_left
 ·rw[List.getElem?_set_ne (fun e=>hq e.symm)]at hy;rw[List.getD_eq_getElem?_getD,List.getElem?_set_ne (fun e=>hq e.symm),←List.getD_eq_getElem?_getD];exact d.dx (fun k hk=>⟨⟨hof k (.inl hk.1.1),hk.1.2⟩,by rw[if_pos (hN k hk.1.1)];exact hk.2⟩) (Kd.nN (hM q y hy) (fun k hk hlt=>sq k hk.1.2 hlt))
 subst hq;rw[List.getElem?_set_self hi]at hy;injection hy with hy;subst hy;rw[List.getD_eq_getElem?_getD,List.getElem?_set_self (by omega)]
 have hne:∀k,okx k→some k≠v.ownBlock:=fun k hk he=>by have:=hN k (hv k he.symm);have:=hxN k hk;omega
 exact d.dx (fun k hk=>⟨⟨hof k (.inr hk),hne k hk⟩,by rw[if_neg (by have:=hxN k hk;omega)]⟩) (Kd.nN hx (fun k hk hlt=>sq k (hne k hk) hlt))
/-- The same where a new one is set in between. -/
theorem acw {α:Type}{d:Kd α}{e:Nat}{W W1:World}{base N N2:Nat}{ok okx okr okf:Nat→Prop}{v v1:Value}{xs:List α}{rows:List (List Value)}{f:Nat→Nat}{i:Nat}{x:α}{vs:List Value}
  (hraw:(Kd.raw d.sz).R e W1 base okr v1 (rows.take i++[vs]++rows.drop i)) (hlen:rows.length=xs.length) (hi:i≤xs.length)
  (hM:∀(q:Nat) (x:α),xs[q]? =some x→d.M W base (fun k=>(ok k∧some k≠v.ownBlock)∧f k=q) x (rows.getD q [])) (hx:d.M W base okx x vs)
  (hv:∀k,v.ownBlock=some k→ok k) (hv1:v1.ownBlock=v.ownBlock∨∃b,v1.ownBlock=some b∧N2≤b) (hN:∀k,ok k→k<N) (hxN:∀k,okx k→N≤k∧k<N2) (hNN:N≤N2) (hof:∀k,ok k∨okx k∨N2≤k→okf k)
  (sq:∀k,some k≠v.ownBlock→k<W.heap.size→W1.heap[k]? =W.heap[k]?):Kd.S d e W1 base okf v1 (xs.take i++[x]++xs.drop i):=by
 have hl1:(rows.take i++[vs]++rows.drop i).length=(xs.take i++[x]++xs.drop i).length:=by simp only[List.length_append,List.length_take,List.length_drop,List.length_singleton,hlen]
 have hvx:∀k,okx k→some k≠v.ownBlock:=fun k hk he=>by have:=hN k (hv k he.symm);have:=(hxN k hk).1;omega
 have aes:∀k,okx k→some k≠v1.ownBlock:=fun k hk he=>by
  rcases hv1 with h|⟨b,h,hb⟩
  ·exact hvx k hk (he.trans h)
  ·rw[h]at he;injection he with he;have:=(hxN k hk).2;omega
 have ad0:∀k,ok k→some k≠v.ownBlock→some k≠v1.ownBlock:=fun k hk hne he=>by
  rcases hv1 with h|⟨b,h,hb⟩
  ·exact hne (he.trans h)
  ·rw[h]at he;injection he with he;have:=hN k hk;omega
 refine wD (fun k=>if k<N then(if f k<i then f k else f k+1)else i) hraw hl1 (fun k hk=> ?_) (fun q y hy=> ?_)
 ·rcases hv1 with h|⟨b,h,hb⟩
  ·exact hof k (.inl (hv k (h▸hk)))
  ·rw[h]at hk;injection hk with hk;exact hof k (.inr (.inr (hk▸hb)))
 ·rw[aaY xs x i q hi]at hy;rw[List.getD_eq_getElem?_getD,aaY rows vs i q (by omega)]
  by_cases h1:q<i
  ·rw[if_pos h1]at hy⊢;rw[←List.getD_eq_getElem?_getD];exact d.dx (fun k hk=>⟨⟨hof k (.inl hk.1.1),ad0 k hk.1.1 hk.1.2⟩,by rw[if_pos (hN k hk.1.1),hk.2,if_pos h1]⟩) (Kd.nN (hM q y hy) (fun k hk hlt=>sq k hk.1.2 hlt))
  rw[if_neg h1]at hy⊢
  by_cases h2:q=i
  ·rw[if_pos h2]at hy⊢;injection hy with hy;subst hy;exact d.dx (fun k hk=>⟨⟨hof k (.inr (.inl hk)),aes k hk⟩,by rw[if_neg (by have:=(hxN k hk).1;omega),h2]⟩) (Kd.nN hx (fun k hk hlt=>sq k (hvx k hk) hlt))
  rw[if_neg h2]at hy⊢;rw[←List.getD_eq_getElem?_getD];exact d.dx (fun k hk=>⟨⟨hof k (.inl hk.1.1),ad0 k hk.1.1 hk.1.2⟩,by rw[if_pos (hN k hk.1.1),hk.2,if_neg (by omega)];omega⟩) (Kd.nN (hM (q-1) y hy) (fun k hk hlt=>sq k hk.1.2 hlt))
def uc (ino:Int):List bh→Nat→Int
 |[],_=> -1
 |x::l,i=>if ino<x.f0 then(i:Int)else uc ino l (i+1)
theorem aaZ.calls (ino a b c:Int) (A3 A4 A5:Option Addr) (n3 c3 n4 c4 n5 c5:Nat) (B:Nat) (W:World) (hB:B<W.heap.size) (hc:W.cell? ⟨B,0,none⟩=some (.int .i64 ino)):
  Calls Tryz.prog 101 #[.agg #[.int .i64 a,.int .i64 b,.int .i64 c,.slice A3 n3 c3,.slice A4 n4 c4,.slice A5 n5 c5],.pointer (some ⟨B,0,none⟩)] W fun e w'=>e= .returned (.bool (decide (ino<a)))∧Below W.heap.size W w':=by
 have hne:B≠W.heap.size:=by omega
 go_enter Tryz.func101,Tryz.ntmps101
 go_wp2
 all_goals(go_ret;exact⟨by simp_all,(Below.refl _ W).alloc (Nat.le_refl _) _⟩)
theorem aa0 (l:List bh) (k:Nat) (h:k<l.length):af l (k:Int)=l[k]:=by
 simp[af,List.getD_eq_getElem?_getD,List.getElem?_eq_getElem h]
theorem ab9 (ino:Int) (l:List bh) (k j:Nat) (h:k<l.length) (hit:ino<(af l (k:Int)).f0):uc ino (l.drop k) j=(j:Int):=by
 rw[List.drop_eq_getElem_cons h,uc,if_pos (by rw[←aa0 l k h];exact hit)]
theorem aa1 (ino:Int) (l:List bh) (k j:Nat) (h:k<l.length) (hit:¬ino<(af l (k:Int)).f0):uc ino (l.drop k) j=uc ino (l.drop (k+1)) (j+1):=by
 rw[List.drop_eq_getElem_cons h,uc,if_neg (by rw[←aa0 l k h];exact hit)]
theorem adt.calls (ino:Int) (A0:Option Addr) (c0:Nat) (l:List bh) (B:Nat) (w:World) (hr:fD.C w A0 l.length l) (hB:B<w.heap.size) (hc:w.cell? ⟨B,0,none⟩=some (.int .i64 ino)) (hl:l.length≤9223372036854775807):
  Calls Tryz.prog 100 #[.slice A0 l.length c0,.func (.func 101) #[] #[.pointer (some ⟨B,0,none⟩)]] w fun e w'=>e= .returned (.int .i64 (uc ino l 0))∧Below w.heap.size w w':=by
 go_enter Tryz.func100,Tryz.ntmps100
 go_wp2
 go_loopg [5,8] l.length (fun gg _ s8 wr=>∃kk:Nat,kk≤l.length∧l.length-kk≤gg∧s8= .int .i64 kk∧ab (Below w.heap.size w wr)∧ab (uc ino l 0=uc ino (l.drop kk) kk))
 case atStart=>exact⟨0,Nat.zero_le _,by omega,rfl,⟨Below.refl _ w⟩,⟨rfl⟩⟩
 case round=>
  obtain⟨kk,hkk,hg,rfl,BW,A⟩:=hrel
  by_cases hlt:kk<l.length
  rotate_left
  ·have hltz:¬(kk:Int)<(l.length:Int):=by omega
   obtain rfl:kk=l.length:=by omega
   go_wp2
   go_ret
   exact⟨by rw[A.out,List.drop_length];rfl,BW.out⟩
  have hltz:(kk:Int)<(l.length:Int):=by omega
  obtain⟨ad,A3,c3,A4,c4,A5,c5,e0,h0,h1,h2,h3,h4,h5,_⟩:=fl (Kd.eg hr BW.out) (kk:Int) (by omega) hltz
  cases e0
  rw[Int.toNat_natCast]at h0 h1 h2 h3 h4 h5;have hBw:B<wr.heap.size:=Nat.lt_of_lt_of_le hB BW.out.size;have hcw:wr.cell? ⟨B,0,none⟩=some (.int .i64 ino):=(BW.out.cell (p:=⟨B,0,none⟩) hB).trans hc
  by_cases hit:ino<(af l (kk:Int)).f0
  ·have hq:decide (ino<(af l (kk:Int)).f0)=true:=by simpa using hit
   go_wp2_with (go_at_call 101;refine(aaZ.calls ino _ _ _ _ _ _ _ _ _ _ _ _ B wr hBw hcw).mono ?_;rintro e w' ⟨rfl,hb'⟩;rw[hq])
   go_ret
   exact⟨by rw[A.out,ab9 ino l kk kk hlt (by omega)];rfl,jl BW.out BW.out.size hb'⟩
  have hq:decide (ino<(af l (kk:Int)).f0)=false:=by simpa using hit
  go_wp2_with (go_at_call 101;refine(aaZ.calls ino _ _ _ _ _ _ _ _ _ _ _ _ B wr hBw hcw).mono ?_;rintro e w' ⟨rfl,hb'⟩;rw[hq])
  go_roundg (l.length-(kk+1))
  case measure=>omega
  case rel=>exact⟨kk+1,by omega,by omega,by go_num,⟨jl BW.out BW.out.size hb'⟩,⟨by rw[A.out,aa1 ino l kk kk hlt (by omega)]⟩⟩
theorem aa2 (ino:Int) (l:List bh):∀j:Nat,uc ino l j= -1∨∃i:Nat,uc ino l j=((j+i:Nat):Int)∧i<l.length:=by
 induction l with
 |nil=>intro j;exact .inl rfl
 |cons x l ih=>
  intro j;rw[uc]
  by_cases c:ino<x.f0
  ·rw[if_pos c];exact .inr ⟨0,by simp,by simp⟩
  rw[if_neg c];rcases ih (j+1)with h1|⟨i,h1,h2⟩
  ·exact .inl h1
  ·exact .inr ⟨i+1,by rw[h1];congr 1;omega,by simpa using h2⟩
theorem ud (ino:Int) (l:List bh):∀j:Nat,cE ino l j= -1∨∃i:Nat,cE ino l j=((j+i:Nat):Int)∧i<l.length:=by
 induction l with
 |nil=>intro j;exact .inl rfl
 |cons x l ih=>
  intro j;rw[cE]
  by_cases c:x.f0=ino
  ·rw[if_pos c];exact .inr ⟨0,by simp,by simp⟩
  rw[if_neg c];rcases ih (j+1)with h1|⟨i,h1,h2⟩
  ·exact .inl h1
  ·exact .inr ⟨i+1,by rw[h1];congr 1;omega,by simpa using h2⟩
def gtP (ino:Int) (l:List bh):Nat:=if uc ino l 0<0 then l.length else(uc ino l 0).toNat
def lE (x:bh) (l:List bh):List bh:=if 0≤cE x.f0 l 0 then l.set (cE x.f0 l 0).toNat x else l.take (gtP x.f0 l)++[x]++l.drop (gtP x.f0 l)
theorem qK {W W1:World}{g:Nat}{o:Obj}{v:Value}(h:ab (W.heap[g]? =some o)) (hg:W.grownBy W1 v.ownBlock) (hn:some g≠v.ownBlock):ab (W1.heap[g]? =some o):=⟨kL h.out hg hn⟩
theorem vz {w:World}{base sz:Nat}{ok:Nat→Prop}{c' seg:List Value}(hc:c'.length=sz) (hs:seg.length=sz) (h1:∀v∈seg,v.oneCell'=true):(Kd.raw sz).M w base ok seg (c'.take 0++seg++c'.drop (0+seg.length)):=by
 have e:c'.take 0++seg++c'.drop (0+seg.length)=seg:=by rw[Nat.zero_add,hs,←hc,List.drop_length];simp
 exact⟨e,by rw[e];exact hs,by rw[e];exact h1⟩
theorem aa3 {W W1:World}{g g':Nat}{o:Obj}(h:ab (W.heap[g]? =some o)) (hg:W.grownBy W1 (some g')) (hn:¬(g=g')):ab (W1.heap[g]? =some o):=⟨kL h.out hg (by intro he;injection he with he;exact hn he)⟩
theorem ad1 {W:World}{g:Nat}{t:TypeId}{a0 a1 a2 a3 a4 a5:Value}(h:W.heap[g]? =some (.cells #[a0,a1,a2,a3,a4,a5] t (0,0))) (v0 v1 v2 v3 v4 v5:Value):
  ((((((W.setCell ⟨g,0,none⟩ v0).setCell ⟨g,1,none⟩ v1).setCell ⟨g,2,none⟩ v2).setCell ⟨g,3,none⟩ v3).setCell ⟨g,4,none⟩ v4).setCell ⟨g,5,none⟩ v5).heap[g]? =some (.cells #[v0,v1,v2,v3,v4,v5] t (0,0))∧
   (∀k,k≠g→((((((W.setCell ⟨g,0,none⟩ v0).setCell ⟨g,1,none⟩ v1).setCell ⟨g,2,none⟩ v2).setCell ⟨g,3,none⟩ v3).setCell ⟨g,4,none⟩ v4).setCell ⟨g,5,none⟩ v5).heap[k]? =W.heap[k]?)∧
   ((((((W.setCell ⟨g,0,none⟩ v0).setCell ⟨g,1,none⟩ v1).setCell ⟨g,2,none⟩ v2).setCell ⟨g,3,none⟩ v3).setCell ⟨g,4,none⟩ v4).setCell ⟨g,5,none⟩ v5).heap.size=W.heap.size:=
 ⟨by
  refine iu (cs:= #[v0,v1,v2,v3,v4,a5]) ?_ 5 _ rfl;refine iu (cs:= #[v0,v1,v2,v3,a4,a5]) ?_ 4 _ rfl;refine iu (cs:= #[v0,v1,v2,a3,a4,a5]) ?_ 3 _ rfl;refine iu (cs:= #[v0,v1,a2,a3,a4,a5]) ?_ 2 _ rfl;refine iu (cs:= #[v0,a1,a2,a3,a4,a5]) ?_ 1 _ rfl
  exact iu h 0 _ rfl,
 fun k hk=>by rw[Below.heap_setCell _ _ _ _ hk,Below.heap_setCell _ _ _ _ hk,Below.heap_setCell _ _ _ _ hk,Below.heap_setCell _ _ _ _ hk,Below.heap_setCell _ _ _ _ hk,Below.heap_setCell _ _ _ _ hk],by simp[World.setCell]⟩
def ik.f (k:Nat) (ag:List bh) (ak b0 b1 b2:Int) (m3:List Int) (m4:List eb) (m5:List eh):Option (List bh×Int):=(cl.f k ag ak).bind fun t=>(er.f b0 b1 b2 m3 m4 m5).bind fun y=>if t.1.length≤1466015503700 then some (lE ⟨y.1,y.2.1,y.2.2.1,y.2.2.2.1,y.2.2.2.2.1,y.2.2.2.2.2⟩ t.1,t.2)else none
theorem ik.calls (k:Nat) (bj:Option Addr) (aW:Nat) (ag:List bh) (ak b0 b1 b2:Int) (kb:Option Addr) (kc:Nat) (m3:List Int) (kd:Option Addr) (ke:Nat) (m4:List eb) (kf:Option Addr) (kg:Nat) (m5:List eh) (r1:List bh) (r2:Int) (w:World)
  (ch:Kd.C fD w bj ag.length ag) (ck:ag.length≤aW) (qh:Kd.C (Kd.int .u8) w kb m3.length m3) (qi:m3.length≤kc) (qj:Kd.C iT w kd m4.length m4) (qk:m4.length≤ke) (ql:Kd.C iU w kf m5.length m5) (qm:m5.length≤kg) (h:ik.f k ag ak b0 b1 b2 m3 m4 m5=some (r1,r2)):
  Calls Tryz.prog 58 #[.agg #[.slice bj ag.length aW,.int .i64 ak],.agg #[.int .i64 b0,.int .i64 b1,.int .i64 b2,.slice kb m3.length kc,.slice kd m4.length ke,.slice kf m5.length kg]] w fun e w'=>∃jd:Value,e= .returned (.agg #[jd,.int .i64 r2])∧Kd.S fD 58 w' w.heap.size (fun _=>True) jd r1∧Below w.heap.size w w':=by
 unfold ik.f at h;replace h:=bA h;obtain⟨⟨t1,t2⟩,H1,h⟩:=h;replace h:=bA h;obtain⟨⟨y0,y1,y2,y3,y4,y5⟩,H2,h⟩:=h
 split at h
 case isFalse=>cases h
 case isTrue hl=>
 simp only[Option.some.injEq,Prod.mk.injEq]at h;obtain⟨bS,rfl⟩:=h;have hl':t1.length≤1466015503700:=hl;clear hl;have HL:=ab.mk hl';have bE:=ab.mk bS;clear hl' bS;have bZ:=ab.mk ch;have d1:=ab.mk ck;have d2:=ab.mk qh;have d3:=ab.mk qi;have d4:=ab.mk qj;have d5:=ab.mk qk;have d6:=ab.mk ql;have d7:=ab.mk qm;clear ch ck qh qi qj qk ql qm;have HB:=am (Below.refl w.heap.size w)
 go_enter Tryz.func58,Tryz.ntmps58
 go_wp2_with fail
 refine(cl.calls k _ _ ag ak t1 t2 _ (kC bZ) d1.out H1.out).mono ?_;rintro e w2 ⟨v0,rfl,hs,hb⟩;obtain⟨A,c,rfl⟩:=Kd.im hs;have KT:=am (fh (aD (aD (ky _ _) _) _) hb);have KI:=am (fh (aD (ky _ _) _) hb);have KR:=am (fh (ky _ _) hb);simp only[World.size_alloc]at KI KR;have S1:=sD hs (w.heap.size+3) w.heap.size (by simp) (by simp only[World.size_alloc];omega)
 have n1:w.heap.size+3≤w2.heap.size:=by have:=hb.size;simpa using this
 replace HB:=am (fw (aN (aN (aN (Below.refl _ _) _) _) _) hb);clear hs hb;have zt:=z2 KT;have zi:=z6 KI;have zr:=z2 KR;have bF:=am (show((w2.setCell ⟨w.heap.size,0,none⟩ (.slice A t1.length c)).setCell ⟨w.heap.size,1,none⟩ (.int .i64 t2)).heap[w.heap.size]? =some (.cells #[.slice A t1.length c,.int .i64 t2] 28 (0,0)) by simpa using ph (ph KT.out 0 (.slice A t1.length c)) 1 (.int .i64 t2));have bG:=am (show((w2.setCell ⟨w.heap.size,0,none⟩ (.slice A t1.length c)).setCell ⟨w.heap.size,1,none⟩ (.int .i64 t2)).heap[w.heap.size+1]? =some (.cells #[.int .i64 b0,.int .i64 b1,.int .i64 b2,.slice kb m3.length kc,.slice kd m4.length ke,.slice kf m5.length kg] 58 (0,0)) by rw[Below.heap_setCell _ _ _ _ (by simp),Below.heap_setCell _ _ _ _ (by simp)];exact KI.out);have bH:=am (show((w2.setCell ⟨w.heap.size,0,none⟩ (.slice A t1.length c)).setCell ⟨w.heap.size,1,none⟩ (.int .i64 t2)).heap[w.heap.size+1+1]? =some (.cells #[.slice none 0 0,.int .i64 0] 28 (0,0)) by rw[Below.heap_setCell _ _ _ _ (by simp;omega),Below.heap_setCell _ _ _ _ (by simp;omega)];exact KR.out);have b8:=am ((HB.out.setCell (p:=⟨w.heap.size,0,none⟩) (Nat.le_refl _) (.slice A t1.length c)).setCell (p:=⟨w.heap.size,1,none⟩) (Nat.le_refl _) (.int .i64 t2));have S3:=am (Kd.fK (p:=⟨w.heap.size,1,none⟩) (Kd.fK (p:=⟨w.heap.size,0,none⟩) S1.out (fun k hk=>by have:=hk.1;dsimp only;omega) (.slice A t1.length c)) (fun k hk=>by have:=hk.1;dsimp only;omega) (.int .i64 t2))
 go_wp2_with fail
 have bI:((w2.setCell ⟨w.heap.size,0,none⟩ (.slice A t1.length c)).setCell ⟨w.heap.size,1,none⟩ (.int .i64 t2)).heap.size=w2.heap.size:=by simp[World.setCell]
 generalize d8:((w2.setCell ⟨w.heap.size,0,none⟩ (.slice A t1.length c)).setCell ⟨w.heap.size,1,none⟩ (.int .i64 t2))=W3 at bF bG bH b8 S3 bI⊢;clear d8 zt zi zr KT KI KR S1 HB;refine(er.calls b0 b1 b2 _ _ m3 _ _ m4 _ _ m5 y0 y1 y2 y3 y4 y5 W3 (Kd.eg d2.out b8.out) d3.out (Kd.eg d4.out b8.out) d5.out (Kd.eg d6.out b8.out) d7.out H2.out).mono ?_;rintro e w4 ⟨v3,v4,v5,rfl,g3,g4,g5,hb⟩;have KT:=am (fh bF.out hb);have KI:=am (fh bG.out hb);have KR:=am (fh bH.out hb);have HB:=am (fw b8.out hb);have S4:=am (Kd.gz S3.out hb)
 have n4:w2.heap.size≤w4.heap.size:=by have:=hb.size;omega
 have G3:=uJ g3 w2.heap.size w.heap.size (by omega) (by omega);have G4:=uJ g4 w2.heap.size w.heap.size (by omega) (by omega);have G5:=uJ g5 w2.heap.size w.heap.size (by omega) (by omega);clear hb bF bG bH b8 S3 g3 g4 g5 bI;obtain⟨A3,c3,rfl⟩:=Kd.ax G3.out;obtain⟨A4,c4,rfl⟩:=Kd.ax G4.out;obtain⟨A5,c5,rfl⟩:=Kd.ax G5.out;have zt:=z2 KT;have zi:=z6 KI
 have dI:¬(w.heap.size=w.heap.size+1):=by omega
 have dJ:¬(w.heap.size+1=w.heap.size):=by omega
 go_wp2_with fail
 obtain⟨p1,p2,p3⟩:=ad1 KI.out (.int .i64 y0) (.int .i64 y1) (.int .i64 y2) (.slice A3 y3.length c3) (.slice A4 y4.length c4) (.slice A5 y5.length c5);have bJ:=am ((((((HB.out.setCell (p:=⟨w.heap.size+1,0,none⟩) (by dsimp only;omega) (.int .i64 y0)).setCell (p:=⟨w.heap.size+1,1,none⟩) (by dsimp only;omega) (.int .i64 y1)).setCell (p:=⟨w.heap.size+1,2,none⟩) (by dsimp only;omega) (.int .i64 y2)).setCell (p:=⟨w.heap.size+1,3,none⟩) (by dsimp only;omega) (.slice A3 y3.length c3)).setCell (p:=⟨w.heap.size+1,4,none⟩) (by dsimp only;omega) (.slice A4 y4.length c4)).setCell (p:=⟨w.heap.size+1,5,none⟩) (by dsimp only;omega) (.slice A5 y5.length c5));generalize d9:((((((w4.setCell ⟨w.heap.size+1,0,none⟩ (.int .i64 y0)).setCell ⟨w.heap.size+1,1,none⟩ (.int .i64 y1)).setCell ⟨w.heap.size+1,2,none⟩ (.int .i64 y2)).setCell ⟨w.heap.size+1,3,none⟩ (.slice A3 y3.length c3)).setCell ⟨w.heap.size+1,4,none⟩ (.slice A4 y4.length c4)).setCell ⟨w.heap.size+1,5,none⟩ (.slice A5 y5.length c5))=W5 at p1 p2 p3 bJ⊢;have bT:=am ((p2 w.heap.size (by omega)).trans KT.out);have bU:=am ((p2 (w.heap.size+1+1) (by omega)).trans KR.out);have bV:=ab.mk p1;have S5:=am (Kd.pP S4.out (fun k hk _=>p2 k (by have:=hk.1;omega)));replace G3:=am (Kd.kP G3.out (fun k hk _=>p2 k (by have:=hk.1;omega)));replace G4:=am (Kd.kP G4.out (fun k hk _=>p2 k (by have:=hk.1;omega)));replace G5:=am (Kd.kP G5.out (fun k hk _=>p2 k (by have:=hk.1;omega)));clear d9 p1 p2 KT KI KR HB S4 zt zi
 have aa4:ek.f k t1 t2 y0=some (cE y0 t1 0):=by unfold ek.f;rw[if_pos (by have:=HL.out;omega)]
 refine(ek.calls k _ _ t1 t2 y0 _ W5 (Kd.lN S5.out).2.2 (rl S5) aa4).mono ?_;rintro e w6 ⟨rfl,hb⟩
 replace n4:w2.heap.size≤w6.heap.size∧w4.heap.size≤w6.heap.size:=by have:=hb.size;omega
 have KT:=am (fh bT.out hb);have KI:=am (fh bV.out hb);have KR:=am (fh bU.out hb);have HB:=am (fw bJ.out hb);have S6:=am (Kd.gz S5.out hb);replace G3:=am (Kd.iq G3.out hb);replace G4:=am (Kd.iq G4.out hb);replace G5:=am (Kd.iq G5.out hb);clear hb bT bV bU bJ S5 aa4 p3;have zt:=z2 KT;have zi:=z6 KI;have zr:=z2 KR;obtain⟨rows,f,hrl,hraw,hPg,hM⟩:=ads S6.out;have HX:=am (nY w6 w.heap.size (fun k=>w2.heap.size≤k∧k<w4.heap.size) (⟨y0,y1,y2,y3,y4,y5⟩:bh) G3.out G4.out G5.out);have vA:=ab.mk hraw;have HM:=ab.mk hM;have HP:=ab.mk hPg;have HRL:=ab.mk hrl;clear G3 G4 G5 hraw hM hPg hrl;rcases ud y0 t1 0 with hp|⟨i,hp,hit⟩
 case inr=>
  rw[Nat.zero_add]at hp;rw[hp];obtain⟨g,cap,ev,gb,_,_⟩:=Kd.vp S6.out (by omega);injection ev with ea en ec;subst ea;clear en ec
  have hltz:(i:Int)<(t1.length:Int):=by omega
  have bW:(0:Int)≤(i:Int):=by omega
  have dK:=HP.out g rfl
  have dA:¬(w.heap.size=g):=by omega
  have dL:¬(w.heap.size+1=g):=by omega
  have dB:¬(w.heap.size+1+1=g):=by omega
  have aa5:=am (fD.gn (fD.eC HX.out));obtain⟨c',hcl',hcm',xh,_⟩:=Kd.kr vA.out [] (i:Int) bW hltz;have HCC:=ab.mk xh;have HCL:=ab.mk hcl';clear xh hcm' hcl'
  go_wp2_with ((with_reducible refine fx (t:=58) (p:=21) rfl ?_);refine Kd.abW (Kd.raw fD.sz) w.heap.size rfl rfl 58 (.tmp 21) (.tmp 20) rfl 58 (i:Int) 0 rows [.int .i64 y0,.int .i64 y1,.int .i64 y2,.slice A3 y3.length c3,.slice A4 y4.length c4,.slice A5 y5.length c5] (.agg [.int .i64 y0,.int .i64 y1,.int .i64 y2,.slice A3 y3.length c3,.slice A4 y4.length c4,.slice A5 y5.length c5].toArray) [.int .i64 y0,.int .i64 y1,.int .i64 y2,.slice A3 y3.length c3,.slice A4 y4.length c4,.slice A5 y5.length c5] c' _ (fun _=>False) rfl (by simp;rfl) rfl rfl (by kernel_rfl) aa5.out vA.out bW hltz HCL.out HCC.out (Nat.le_refl _) (vz HCL.out rfl aa5.out) (fun _ hk=>hk.elim) HB.out ?_;intro w7 b9 bX bD;have dC:=ab.mk b9;have dD:=ab.mk bX;have dE:=ab.mk bD;have dF:=aa3 KT bD dA;have bY:=aa3 KR bD dB;replace zt:=z2 dF;replace zr:=z2 bY;clear b9 bX bD)
  have b9:=dC.out;rw[Int.toNat_natCast]at b9;have bK:=adZ (okf:=fun k=>w.heap.size+3≤k) (N:=w2.heap.size) b9 HRL.out hit HM.out HX.out HP.out (fun k hk=>hk.2) (fun k hk=>hk.1) (fun k hk=>by rcases hk with h|h;exact h.1;have:=h.1;omega) (fun k hne hlt=>dE.out.block k hlt hne)
  have hres:lE (⟨y0,y1,y2,y3,y4,y5⟩:bh) t1=t1.set i ⟨y0,y1,y2,y3,y4,y5⟩:=by
   unfold lE;dsimp only;rw[hp,if_pos (by omega),Int.toNat_natCast]
  rw[bE.out]at hres;rw[←hres]at bK;have dG:=ab.mk bK;clear bK b9 hres
  try simp only[Exit.inBlock,Exit.then]
  refine bodyPost_ret (results_cell_row rfl _ _ (w.heap.size+1+1) 28 #[.slice (some ⟨g,0,none⟩) t1.length c,.int .i64 t2] (0,0) _ rfl (by refine iu (cs:= #[.slice (some ⟨g,0,none⟩) t1.length c,.int .i64 0]) ?_ 1 _ rfl;refine iu (cs:= #[.slice none 0 0,.int .i64 0]) ?_ 0 _ rfl;exact bY.out) Tryz.underlying28 rfl (by kernel_rfl)) rfl ?_;refine⟨_,rfl,?_,?_⟩
  ·exact Kd.eY (Kd.fK (Kd.fK dG.out (fun k hk=>by dsimp only;omega) _) (fun k hk=>by dsimp only;omega) _) (fun _ _=>trivial)
  ·exact(dD.out.setCell (by dsimp only;omega) _).setCell (by dsimp only;omega) _
 case inl=>
  rw[hp]
  go_wp2_with fail
  refine(adt.calls y0 A c t1 (w.heap.size+1) w6 (Kd.lN S6.out).2.2 (iA KI.out) zi.1.1 (by have:=HL.out;omega)).mono ?_;rintro e w7 ⟨rfl,hb⟩;have b4:=ab.mk hb.size;have bL:=ab.mk hb;replace KT:=am (fh KT.out hb);replace KI:=am (fh KI.out hb);replace KR:=am (fh KR.out hb);replace HB:=am (fw HB.out hb);replace vA:=am (Kd.iq vA.out hb);have aa5:=am (fD.gn (fD.eC HX.out));have HVB:=am (show some w7.heap.size≠(Value.slice A t1.length c).ownBlock from fun he=>by have:=Kd.abO vA.out _ he.symm;omega);have HWB:=am (show w.heap.size≤(w7.alloc (.cells #[.int .i64 y0,.int .i64 y1,.int .i64 y2,.slice A3 y3.length c3,.slice A4 y4.length c4,.slice A5 y5.length c5] 58)).heap.size by have:=b4.out;rw[World.size_alloc];omega);have HLB:=am (show(t1.length+1)*96≤140737488355328 by have:=HL.out;omega);have NT:=am (show some w.heap.size≠(Value.slice A t1.length c).ownBlock from fun he=>by have:=(HP.out _ he.symm).1;omega);have NR:=am (show some (w.heap.size+1+1)≠(Value.slice A t1.length c).ownBlock from fun he=>by have:=(HP.out _ he.symm).1;omega);clear hb S6;have dH:=KT;replace KT:=am (aD KT.out (.cells #[.int .i64 y0,.int .i64 y1,.int .i64 y2,.slice A3 y3.length c3,.slice A4 y4.length c4,.slice A5 y5.length c5] 58));replace KR:=am (aD KR.out (.cells #[.int .i64 y0,.int .i64 y1,.int .i64 y2,.slice A3 y3.length c3,.slice A4 y4.length c4,.slice A5 y5.length c5] 58));have zt':=z2 KT;have zi:=z6 KI;have zt:=z2 dH;rcases aa2 y0 t1 0 with hgt|⟨j,hgt,hjt⟩
  case inl=>
   rw[hgt];have HJ:=am (Nat.le_refl t1.length)
   go_wp2_with (go_at_call 102;refine(tV.calls A t1.length c t1.length w7.heap.size w.heap.size (fun k=>(Value.slice A t1.length c).ownBlock=some k) rows [.int .i64 y0,.int .i64 y1,.int .i64 y2,.slice A3 y3.length c3,.slice A4 y4.length c4,.slice A5 y5.length c5] w _ HJ.out HRL.out (Kd.iq vA.out (aN (Below.refl _ _) _)) (ky w7 _) HVB.out rfl aa5.out (aN HB.out _) HWB.out HLB.out).mono ?_;rintro e w8 ⟨v',rfl,b5,bB,b3,b6⟩;have bM:=ab.mk b5;have bN:=ab.mk bB;have bO:=ab.mk b3;have bP:=ab.mk b6;have bQ:=qK KT b3 NT.out;have bC:=qK KR b3 NR.out;replace zt:=z2 bQ;replace zr:=z2 bC;obtain⟨A',n',c',rfl⟩:∃A' n' c',v'=Value.slice A' n' c':=(by obtain⟨A',c',hs⟩:=Kd.ax b5;exact⟨_,_,_,hs⟩);clear b5 bB b3 b6)
   have b7:=acw (okf:=fun k=>w.heap.size+3≤k) (N:=w2.heap.size) (N2:=w6.heap.size) bM.out HRL.out HJ.out HM.out HX.out HP.out (by rcases bP.out with h|⟨b,h,hb⟩;exact .inl h;exact .inr ⟨b,h,by have:=b4.out;rw[World.size_alloc]at hb;omega⟩) (fun k hk=>hk.2) (fun k hk=>⟨hk.1,by have:=hk.2;omega⟩) (by omega) (fun k hk=>by rcases hk with h|h|h;exact h.1;have:=h.1;omega;omega) (fun k hne hlt=>by rw[bO.out.block k (by have:=b4.out;rw[World.size_alloc];omega) hne,Below.heap_alloc _ _ _ (by have:=b4.out;omega)];exact bL.out.block k hlt)
   have hres:lE (⟨y0,y1,y2,y3,y4,y5⟩:bh) t1=t1.take t1.length++[⟨y0,y1,y2,y3,y4,y5⟩]++t1.drop t1.length:=by
    unfold lE gtP;dsimp only;rw[hp,if_neg (by omega)];rw[if_pos (by rw[hgt];omega)]
   rw[bE.out]at hres;rw[←hres]at b7;have bR:=ab.mk b7;clear b7 hres
   try simp only[Exit.inBlock,Exit.then]
   refine bodyPost_ret (results_cell_row rfl _ _ (w.heap.size+1+1) 28 #[.slice A' n' c',.int .i64 t2] (0,0) _ rfl (by refine iu (cs:= #[.slice A' n' c',.int .i64 0]) ?_ 1 _ rfl;refine iu (cs:= #[.slice none 0 0,.int .i64 0]) ?_ 0 _ rfl;rw[Below.heap_setCell _ _ _ _ (by simp;omega)];exact bC.out) Tryz.underlying28 rfl (by kernel_rfl)) rfl ?_;refine⟨_,rfl,?_,?_⟩
   ·exact Kd.eY (Kd.fK (Kd.fK (Kd.fK bR.out (fun k hk=>by dsimp only;omega) _) (fun k hk=>by dsimp only;omega) _) (fun k hk=>by dsimp only;omega) _) (fun _ _=>trivial)
   ·exact((bN.out.setCell (by dsimp only;omega) _).setCell (by dsimp only;omega) _).setCell (by dsimp only;omega) _
  case inr=>
   rw[Nat.zero_add]at hgt;rw[hgt];have HJ:=am (Nat.le_of_lt hjt)
   go_wp2_with (go_at_call 102;refine(tV.calls A t1.length c j w7.heap.size w.heap.size (fun k=>(Value.slice A t1.length c).ownBlock=some k) rows [.int .i64 y0,.int .i64 y1,.int .i64 y2,.slice A3 y3.length c3,.slice A4 y4.length c4,.slice A5 y5.length c5] w _ HJ.out HRL.out (Kd.iq vA.out (aN (Below.refl _ _) _)) (ky w7 _) HVB.out rfl aa5.out (aN HB.out _) HWB.out HLB.out).mono ?_;rintro e w8 ⟨v',rfl,b5,bB,b3,b6⟩;have bM:=ab.mk b5;have bN:=ab.mk bB;have bO:=ab.mk b3;have bP:=ab.mk b6;have bQ:=qK KT b3 NT.out;have bC:=qK KR b3 NR.out;replace zt:=z2 bQ;replace zr:=z2 bC;obtain⟨A',n',c',rfl⟩:∃A' n' c',v'=Value.slice A' n' c':=(by obtain⟨A',c',hs⟩:=Kd.ax b5;exact⟨_,_,_,hs⟩);clear b5 bB b3 b6)
   have b7:=acw (okf:=fun k=>w.heap.size+3≤k) (N:=w2.heap.size) (N2:=w6.heap.size) bM.out HRL.out HJ.out HM.out HX.out HP.out (by rcases bP.out with h|⟨b,h,hb⟩;exact .inl h;exact .inr ⟨b,h,by have:=b4.out;rw[World.size_alloc]at hb;omega⟩) (fun k hk=>hk.2) (fun k hk=>⟨hk.1,by have:=hk.2;omega⟩) (by omega) (fun k hk=>by rcases hk with h|h|h;exact h.1;have:=h.1;omega;omega) (fun k hne hlt=>by rw[bO.out.block k (by have:=b4.out;rw[World.size_alloc];omega) hne,Below.heap_alloc _ _ _ (by have:=b4.out;omega)];exact bL.out.block k hlt)
   have hres:lE (⟨y0,y1,y2,y3,y4,y5⟩:bh) t1=t1.take j++[⟨y0,y1,y2,y3,y4,y5⟩]++t1.drop j:=by
    unfold lE gtP;dsimp only;rw[hp,if_neg (by omega)];rw[if_neg (by rw[hgt];omega),hgt,Int.toNat_natCast]
   rw[bE.out]at hres;rw[←hres]at b7;have bR:=ab.mk b7;clear b7 hres
   try simp only[Exit.inBlock,Exit.then]
   refine bodyPost_ret (results_cell_row rfl _ _ (w.heap.size+1+1) 28 #[.slice A' n' c',.int .i64 t2] (0,0) _ rfl (by refine iu (cs:= #[.slice A' n' c',.int .i64 0]) ?_ 1 _ rfl;refine iu (cs:= #[.slice none 0 0,.int .i64 0]) ?_ 0 _ rfl;rw[Below.heap_setCell _ _ _ _ (by simp;omega)];exact bC.out) Tryz.underlying28 rfl (by kernel_rfl)) rfl ?_;refine⟨_,rfl,?_,?_⟩
   ·exact Kd.eY (Kd.fK (Kd.fK (Kd.fK bR.out (fun k hk=>by dsimp only;omega) _) (fun k hk=>by dsimp only;omega) _) (fun k hk=>by dsimp only;omega) _) (fun _ _=>trivial)
   ·exact((bN.out.setCell (by dsimp only;omega) _).setCell (by dsimp only;omega) _).setCell (by dsimp only;omega) _
def eO.l0:Nat→Int→List ByteArray→Int→Int→List (bh)→Int→Option (Int×Int)
 |0,_,_,_,_,_,_=>none
 |k+1,x8,b5,b7,b4,b2,b3=>if b4<b7 then(if 0≤b4 then(if b4<(b5.length:Int)then((cP.f k b2 b3 x8).bind fun b1=>(if b1.2.2.2.2.2.2=true then(if b1.2.1=2 then((eG.f k b1.1 b1.2.1 b1.2.2.1 b1.2.2.2.1 b1.2.2.2.2.1 b1.2.2.2.2.2.1 (lq ByteArray.empty b5 b4)).bind fun b6=>(if b6=0 then(some (0,2))else(eO.l0 k b6 b5 b7 (wrap64 (b4+1)) b2 b3)))else(some (0,3)))else(some (0,2))))else(none))else(none))else(some (x8,0))
def eO.f (k:Nat) (ag:List (bh)) (ak:Int) (a1:ByteArray):Option (Int×Int):=(eH.f k a1).bind fun b1=>(if b1.2=true then(eO.l0 k 1 b1.1 (b1.1.length:Int) 0 ag ak)else(some (0,1)))
theorem eO.calls (k:Nat) (bj:Option Addr) (aW:Nat) (ag:List (bh)) (ak:Int) (a1:ByteArray) (r1:Int) (r2:Int) (w:World) (ch:Kd.C fD w bj ag.length ag) (ck:ag.length≤aW) (h:eO.f k ag ak a1=some (r1,r2)) (hG:GOk w:=by exact gk_ oB (by first|(with_reducible assumption)|assumption)):
  Calls Tryz.prog 90 #[.agg #[.slice bj ag.length aW,.int .i64 ak],.string a1] w fun e w'=>e= .returned (.tuple #[.int .i64 r1,.int .i64 r2])∧Below w.heap.size w w':=by
 have HG:=ab.mk hG;clear hG;have gP:=Tryz.underlying28;have gQ:=Tryz.underlying58;have bP:=ab.mk ch;have bQ:=ab.mk ck;clear ch ck;have HB:=am (Below.refl w.heap.size w);unfold eO.f at h;have H:=h;clear h;replace H:=bA H;obtain⟨⟨bC,gR⟩,A3,H⟩:=H
 try dsimp only at H
 replace H:=ll H;rcases H with⟨rfl,H⟩|⟨rfl,H⟩;rotate_left
 ·simp only[Option.some.injEq,Prod.mk.injEq]at H;obtain⟨rfl,rfl⟩:=H
  go_enter Tryz.func90,Tryz.ntmps90
  go_wp2_with (first|((with_reducible refine ai (N:=2) rfl ?_);refine di 2 #[.slice bj ag.length aW,.int .i64 ak] 28 ?_;intro d3 hg j7 hbox hb;have b1:=am (hbox);have d5:=dh hg;replace HB:=hB HB hb;clear hb hbox hg)|((with_reducible refine aj (f:=88) rfl ?_);refine eI 15 Tryz.func88 (eH.calls k a1 bC false _ A3.out) ?_;rintro e j8 ⟨dC,rfl,bD,hb⟩;refine⟨_,rfl,?_⟩;have bT:=am (Kd.qG bD (ah oB));replace b1:=bn b1 hb;replace HB:=hB HB hb))
  go_ret2
  exact⟨oE,oB⟩
 have H':=ab.mk H;clear H
 go_enter Tryz.func90,Tryz.ntmps90
 go_wp2_with (first|((with_reducible refine ai (N:=2) rfl ?_);refine di 2 #[.slice bj ag.length aW,.int .i64 ak] 28 ?_;intro d3 hg w5 hbox hb;have b1:=am (hbox);have d5:=dh hg;replace HB:=hB HB hb;clear hb hbox hg)|((with_reducible refine aj (f:=88) rfl ?_);refine eI 15 Tryz.func88 (eH.calls k a1 bC true _ A3.out) ?_;rintro e w6 ⟨dC,rfl,bD,hb⟩;refine⟨_,rfl,?_⟩;have bT:=am (Kd.qG bD (ah oB));replace b1:=bn b1 hb;replace HB:=hB HB hb;obtain⟨gC,gD,gE,_⟩:=Kd.sP bT.out;subst gE))
 go_loopg [8,22] k (fun kq v8 gF w'=>∃(bM:Int) (b7:Int),v8= .int .i64 bM∧gF= .int .i64 b7∧ab (eO.l0 kq bM bC (bC.length:Int) b7 ag ak=some (r1,r2))∧ab (kq≤k)∧ab (Kd.Q Kd.string 9 w' w.heap.size (fun _=>True) (.slice gC bC.length gD) bC)∧ab (w'.heap[d3]? =some (.cells #[(.slice bj ag.length aW),.int .i64 ak] 28 (0,0)))∧ab (Below w.heap.size w w'))
 case atStart=>exact⟨(1),(0),oS,oS,H',⟨Nat.le_refl _⟩,⟨by(with_reducible repeat(first|apply Kd.g_|apply Kd.hI|apply Kd.jk));exact bT.out⟩,⟨oF b1⟩,⟨oB⟩⟩
 case round=>
  clear H';obtain⟨bM,b7,rfl,rfl,HA,dA,b2,b1,HB⟩:=hrel
  cases gk with
  |zero=>exact absurd HA.out (by simp[eO.l0])
  |succ k1=>
   have H:=HA.out;clear HA;simp only[eO.l0]at H;replace H:=iH H;rcases H with⟨dD,H⟩|⟨dD,H⟩;rotate_left
   ·simp only[Option.some.injEq,Prod.mk.injEq]at H;obtain⟨rfl,rfl⟩:=H
    go_wp2
    go_ret2
    exact⟨oE,oB⟩
   obtain⟨gS,H⟩:=cU H;obtain⟨gG,H⟩:=cU H;replace H:=bA H;obtain⟨⟨bE,bB,bF,bG,bH,bI,gT⟩,d4,H⟩:=H
   try dsimp only at H
   replace H:=ll H;rcases H with⟨rfl,H⟩|⟨rfl,H⟩;rotate_left
   ·simp only[Option.some.injEq,Prod.mk.injEq]at H;obtain⟨rfl,rfl⟩:=H;have bX:(0≤(b7:Int))=True:=oT;have bY:(b7<(bC.length:Int))=True:=oT;obtain⟨bU,bN,bO⟩:=Kd.gw (Kd.mv b2.out).2.2 b7 oa oa
    cases bN
    obtain⟨⟨_,_⟩,_,_⟩:=z2 b1
    go_wp2_with (first|((with_reducible refine aj (f:=91) rfl ?_);refine eI 29 Tryz.func91 (cP.calls k1 _ _ ag ak bM bE bB bF bG bH bI false _ (kC bP) bQ.out d4.out) ?_;rintro e j9 ⟨bZ,d1,d2,rfl,bD,bJ,bK,hb⟩;refine⟨_,rfl,?_⟩;have b4:=am (Kd.ay bD (ah oB));have b5:=am (Kd.ay bJ (ah oB));have b6:=am (Kd.ay bK (ah oB));replace b2:=qO b2 hb;replace b1:=bn b1 hb;replace HB:=hB HB hb;(try clear bJ);(try clear bK))|((with_reducible refine ai (N:=11) rfl ?_);refine di 11 #[.int .i64 0,.int .i64 0,.int .i64 0,.slice none 0 0,.slice none 0 0,.slice none 0 0] 58 ?_;intro bV hg jA hbox hb;have b3:=am (hbox);have bW:=dh hg;have b8:=eJ hg b1;have b9:=eK hg b1;replace b2:=qO b2 hb;replace b4:=iI b4 hb;replace b5:=iI b5 hb;replace b6:=iI b6 hb;replace b1:=bn b1 hb;replace HB:=hB HB hb;clear hb hbox hg;have gH:=b9.out;have gI:=b8.out;obtain⟨⟨_,_,_,_,_,_⟩,_,_,_,_,_,_⟩:=z6 b3;obtain⟨gU,gV,dE⟩:=Kd.ax b4.out;subst dE;obtain⟨gW,gX,dF⟩:=Kd.ax b5.out;subst dF;obtain⟨gY,gZ,dG⟩:=Kd.ax b6.out;subst dG))
    go_ret2
    exact⟨oE,oB⟩
   by_cases bR:bB=2
   rotate_left
   ·rw[if_neg bR]at H;have d6:(bB==2)=false:=beq_eq_false_iff_ne.mpr bR;have d7:(bB !=2)=true:=bne_iff_ne.mpr bR;simp only[Option.some.injEq,Prod.mk.injEq]at H;obtain⟨rfl,rfl⟩:=H;have bX:(0≤(b7:Int))=True:=oT;have bY:(b7<(bC.length:Int))=True:=oT;obtain⟨bU,bN,bO⟩:=Kd.gw (Kd.mv b2.out).2.2 b7 oa oa
    cases bN
    obtain⟨⟨_,_⟩,_,_⟩:=z2 b1
    go_wp2_with (first|((with_reducible refine aj (f:=91) rfl ?_);refine eI 29 Tryz.func91 (cP.calls k1 _ _ ag ak bM bE bB bF bG bH bI true _ (kC bP) bQ.out d4.out) ?_;rintro e jB ⟨bZ,d1,d2,rfl,bD,bJ,bK,hb⟩;refine⟨_,rfl,?_⟩;have b4:=am (Kd.ay bD (ah oB));have b5:=am (Kd.ay bJ (ah oB));have b6:=am (Kd.ay bK (ah oB));replace b2:=qO b2 hb;replace b1:=bn b1 hb;replace HB:=hB HB hb;(try clear bJ);(try clear bK))|((with_reducible refine ai (N:=11) rfl ?_);refine di 11 #[.int .i64 0,.int .i64 0,.int .i64 0,.slice none 0 0,.slice none 0 0,.slice none 0 0] 58 ?_;intro bV hg jC hbox hb;have b3:=am (hbox);have bW:=dh hg;have b8:=eJ hg b1;have b9:=eK hg b1;replace b2:=qO b2 hb;replace b4:=iI b4 hb;replace b5:=iI b5 hb;replace b6:=iI b6 hb;replace b1:=bn b1 hb;replace HB:=hB HB hb;clear hb hbox hg;have gJ:=b9.out;have gK:=b8.out;obtain⟨⟨_,_,_,_,_,_⟩,_,_,_,_,_,_⟩:=z6 b3;obtain⟨j1,j2,dH⟩:=Kd.ax b4.out;subst dH;obtain⟨j3,j4,dI⟩:=Kd.ax b5.out;subst dI;obtain⟨j5,j6,dJ⟩:=Kd.ax b6.out;subst dJ))
    go_ret2
    exact⟨oE,oB⟩
   rw[if_pos bR]at H;have d6:(bB==2)=true:=beq_iff_eq.mpr bR;have d7:(bB !=2)=false:=bne_eq_false_iff_eq.mpr bR;clear bR;replace H:=bA H;obtain⟨bL,dB,H⟩:=H
   try dsimp only at H
   by_cases bS:bL=0
   ·rw[if_pos bS]at H;have d8:(bL==0)=true:=beq_iff_eq.mpr bS;have d9:(bL !=0)=false:=bne_eq_false_iff_eq.mpr bS;clear bS;simp only[Option.some.injEq,Prod.mk.injEq]at H;obtain⟨rfl,rfl⟩:=H;have bX:(0≤(b7:Int))=True:=oT;have bY:(b7<(bC.length:Int))=True:=oT;obtain⟨bU,bN,bO⟩:=Kd.gw (Kd.mv b2.out).2.2 b7 oa oa
    cases bN
    obtain⟨⟨_,_⟩,_,_⟩:=z2 b1
    go_wp2_with (first|((with_reducible refine aj (f:=91) rfl ?_);refine eI 29 Tryz.func91 (cP.calls k1 _ _ ag ak bM bE bB bF bG bH bI true _ (kC bP) bQ.out d4.out) ?_;rintro e jD ⟨bZ,d1,d2,rfl,bD,bJ,bK,hb⟩;refine⟨_,rfl,?_⟩;have b4:=am (Kd.ay bD (ah oB));have b5:=am (Kd.ay bJ (ah oB));have b6:=am (Kd.ay bK (ah oB));replace b2:=qO b2 hb;replace b1:=bn b1 hb;replace HB:=hB HB hb;(try clear bJ);(try clear bK))|((with_reducible refine ai (N:=11) rfl ?_);refine di 11 #[.int .i64 0,.int .i64 0,.int .i64 0,.slice none 0 0,.slice none 0 0,.slice none 0 0] 58 ?_;intro bV hg jE hbox hb;have b3:=am (hbox);have bW:=dh hg;have b8:=eJ hg b1;have b9:=eK hg b1;replace b2:=qO b2 hb;replace b4:=iI b4 hb;replace b5:=iI b5 hb;replace b6:=iI b6 hb;replace b1:=bn b1 hb;replace HB:=hB HB hb;clear hb hbox hg;have gL:=b9.out;have gM:=b8.out;obtain⟨⟨_,_,_,_,_,_⟩,_,_,_,_,_,_⟩:=z6 b3;obtain⟨dK,dL,dM⟩:=Kd.ax b4.out;subst dM;obtain⟨dN,dO,dP⟩:=Kd.ax b5.out;subst dP;obtain⟨dQ,dR,dS⟩:=Kd.ax b6.out;subst dS)|((with_reducible refine aj (f:=57) rfl ?_);refine eI 41 Tryz.func57 (eG.calls k1 bE bB bF _ _ bG _ _ bH _ _ bI (lq ByteArray.empty bC b7) bL _ (uP b4 b3) (ko b4) (uP b5 b3) (ko b5) (uP b6 b3) (ko b6) dB.out) ?_;rintro e jF ⟨rfl,hb⟩;refine⟨_,rfl,?_⟩;replace b2:=acO b2 b3 hb;replace b4:=nf b4 b3 hb;replace b5:=nf b5 b3 hb;replace b6:=nf b6 b3 hb;replace b1:=bn b1 hb;replace b3:=uM #[.int .i64 bE,.int .i64 bB,.int .i64 bF,.slice dK bG.length dL,.slice dN bH.length dO,.slice dQ bI.length dR] b3 hb;replace HB:=hB HB hb;(try clear hk)))
    go_ret2
    exact⟨oE,oB⟩
   rw[if_neg bS]at H;have d8:(bL==0)=false:=beq_eq_false_iff_ne.mpr bS;have d9:(bL !=0)=true:=bne_iff_ne.mpr bS;have H':=ab.mk H;clear H;have bX:(0≤(b7:Int))=True:=oT;have bY:(b7<(bC.length:Int))=True:=oT;obtain⟨bU,bN,bO⟩:=Kd.gw (Kd.mv b2.out).2.2 b7 oa oa
   cases bN
   obtain⟨⟨_,_⟩,_,_⟩:=z2 b1
   go_wp2_with (first|((with_reducible refine aj (f:=91) rfl ?_);refine eI 29 Tryz.func91 (cP.calls k1 _ _ ag ak bM bE bB bF bG bH bI true _ (kC bP) bQ.out d4.out) ?_;rintro e jG ⟨bZ,d1,d2,rfl,bD,bJ,bK,hb⟩;refine⟨_,rfl,?_⟩;have b4:=am (Kd.ay bD (ah oB));have b5:=am (Kd.ay bJ (ah oB));have b6:=am (Kd.ay bK (ah oB));replace b2:=qO b2 hb;replace b1:=bn b1 hb;replace HB:=hB HB hb;(try clear bJ);(try clear bK))|((with_reducible refine ai (N:=11) rfl ?_);refine di 11 #[.int .i64 0,.int .i64 0,.int .i64 0,.slice none 0 0,.slice none 0 0,.slice none 0 0] 58 ?_;intro bV hg jH hbox hb;have b3:=am (hbox);have bW:=dh hg;have b8:=eJ hg b1;have b9:=eK hg b1;replace b2:=qO b2 hb;replace b4:=iI b4 hb;replace b5:=iI b5 hb;replace b6:=iI b6 hb;replace b1:=bn b1 hb;replace HB:=hB HB hb;clear hb hbox hg;have gN:=b9.out;have gO:=b8.out;obtain⟨⟨_,_,_,_,_,_⟩,_,_,_,_,_,_⟩:=z6 b3;obtain⟨dT,dU,dV⟩:=Kd.ax b4.out;subst dV;obtain⟨dW,dX,dY⟩:=Kd.ax b5.out;subst dY;obtain⟨dZ,gA,gB⟩:=Kd.ax b6.out;subst gB)|((with_reducible refine aj (f:=57) rfl ?_);refine eI 41 Tryz.func57 (eG.calls k1 bE bB bF _ _ bG _ _ bH _ _ bI (lq ByteArray.empty bC b7) bL _ (uP b4 b3) (ko b4) (uP b5 b3) (ko b5) (uP b6 b3) (ko b6) dB.out) ?_;rintro e jI ⟨rfl,hb⟩;refine⟨_,rfl,?_⟩;replace b2:=acO b2 b3 hb;replace b4:=nf b4 b3 hb;replace b5:=nf b5 b3 hb;replace b6:=nf b6 b3 hb;replace b1:=bn b1 hb;replace b3:=uM #[.int .i64 bE,.int .i64 bB,.int .i64 bF,.slice dT bG.length dU,.slice dW bH.length dX,.slice dZ bI.length gA] b3 hb;replace HB:=hB HB hb;(try clear hk)))
   go_roundg k1
   case measure=>have:=dA.out;omega
   case rel=>exact⟨(bL),(wrap64 (b7+1)),oS,oS,H',⟨by have:=dA.out;omega⟩,⟨by(with_reducible repeat(first|apply Kd.g_|apply Kd.hI|apply Kd.jk));exact b2.out⟩,⟨oF b1⟩,⟨oB⟩⟩

def cZ.l0:Nat→List (mo)→Int→Int→Option (Int)
 |0,_,_,_=>none
 |k+1,x0,x1,x5=>if x5<(x0.length:Int)then(if 0≤x5 then((ib.f k ((cH x0 x5).f0) ((cH x0 x5).f1) ((cH x0 x5).f2) ((cH x0 x5).f3) ((cH x0 x5).f4) ((cH x0 x5).f5) x1).bind fun b1=>(if b1<0 then(some (-1))else(cZ.l0 k x0 b1 (wrap64 (x5+1)))))else(none))else(some x1)
def cZ.f (k:Nat) (l0:List (mo)) (a1:Int):Option (Int):=if(wrap64 (a1-(l0.length:Int)))<0 then(some (-1))else(cZ.l0 k l0 (wrap64 (a1-(l0.length:Int))) 0)
theorem cZ.calls (k:Nat) (A0:Option Addr) (c0:Nat) (l0:List (mo)) (a1:Int) (r:Int) (w:World) (hr0:Kd.C k92 w A0 l0.length l0) (hc0:l0.length≤c0) (h:cZ.f k l0 a1=some r):
  Calls Tryz.prog 32 #[.slice A0 l0.length c0,.int .i64 a1] w fun e w'=>e= .returned (.int .i64 r)∧Below w.heap.size w w':=by
 have bW:=Tryz.underlying92;have bQ:=ab.mk hr0;have bY:=ab.mk hc0;clear hr0 hc0;have HB:=am (Below.refl w.heap.size w);unfold cZ.f at h;have H:=h;clear h;replace H:=iH H;rcases H with⟨bI,H⟩|⟨bI,H⟩
 ·obtain rfl:=Option.some.inj H
  go_enter Tryz.func32,Tryz.ntmps32
  go_wp2
  go_ret
  exact⟨oE,oB⟩
 have H':=ab.mk H;clear H
 go_enter Tryz.func32,Tryz.ntmps32
 go_wp2
 go_loopg [1,5] k (fun kq v1 v5 w'=>∃(b8:Int) (b1:Int),v1= .int .i64 b8∧v5= .int .i64 b1∧ab (cZ.l0 kq l0 b8 b1=some r)∧ab (kq≤k)∧ab (Below w.heap.size w w'))
 case atStart=>exact⟨(wrap64 (a1-(l0.length:Int))),(0),oS,oS,H',⟨Nat.le_refl _⟩,⟨oB⟩⟩
 case round=>
  clear H'
  try clear bI
  obtain⟨b8,b1,rfl,rfl,HA,bR,HB⟩:=hrel
  cases gk with
  |zero=>exact absurd HA.out (by simp[cZ.l0])
  |succ k1=>
   have H:=HA.out;clear HA;simp only[cZ.l0]at H;replace H:=iH H;rcases H with⟨bS,H⟩|⟨bS,H⟩;rotate_left
   ·obtain rfl:=Option.some.inj H
    go_wp2
    go_ret
    exact⟨oE,oB⟩
   obtain⟨bX,H⟩:=cU H;replace H:=bA H;obtain⟨b9,A6,H⟩:=H
   try dsimp only at H
   replace H:=iH H;rcases H with⟨bT,H⟩|⟨bT,H⟩
   ·obtain rfl:=Option.some.inj H;have bU:(0≤(b1:Int))=True:=oT;have bV:(b1<(l0.length:Int))=True:=oT;obtain⟨bP,bJ,bK,bL,bM,bN,bO,bB,bC,bD,bE,bF,bG,bH,b2,b3,b4,b5,b6,b7⟩:=uV bQ HB b1 oa oa
    cases bB
    go_wp2_with (first|((with_reducible refine aj (f:=70) rfl ?_);refine eI 23 Tryz.func70 (ib.calls k1 ((cH l0 b1).f0) ((cH l0 b1).f1) ((cH l0 b1).f2) _ _ ((cH l0 b1).f3) _ _ ((cH l0 b1).f4) _ _ ((cH l0 b1).f5) b8 b9 _ (kC b3) b2.out (kC b5) b4.out (kC b7) b6.out A6.out) ?_;rintro e w8 ⟨rfl,hb⟩;refine⟨_,rfl,?_⟩;replace HB:=hB HB hb))
    go_ret
    exact⟨oE,oB⟩
   have H':=ab.mk H;clear H;have bU:(0≤(b1:Int))=True:=oT;have bV:(b1<(l0.length:Int))=True:=oT;obtain⟨bP,bJ,bK,bL,bM,bN,bO,bB,bC,bD,bE,bF,bG,bH,b2,b3,b4,b5,b6,b7⟩:=uV bQ HB b1 oa oa
   cases bB
   go_wp2_with (first|((with_reducible refine aj (f:=70) rfl ?_);refine eI 23 Tryz.func70 (ib.calls k1 ((cH l0 b1).f0) ((cH l0 b1).f1) ((cH l0 b1).f2) _ _ ((cH l0 b1).f3) _ _ ((cH l0 b1).f4) _ _ ((cH l0 b1).f5) b8 b9 _ (kC b3) b2.out (kC b5) b4.out (kC b7) b6.out A6.out) ?_;rintro e w9 ⟨rfl,hb⟩;refine⟨_,rfl,?_⟩;replace HB:=hB HB hb))
   go_roundg k1
   case measure=>have:=bR.out;omega
   case rel=>exact⟨(b9),(wrap64 (b1+1)),oS,oS,H',⟨by have:=bR.out;omega⟩,⟨oB⟩⟩
end Go.Proofs.YtlecajlnjmbilaaGreatDoor.P
