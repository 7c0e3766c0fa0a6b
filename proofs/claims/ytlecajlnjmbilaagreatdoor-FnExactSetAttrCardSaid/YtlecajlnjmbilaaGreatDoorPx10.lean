-- Printed walks.
import Derived.Test.YtlecajlnjmbilaaGreatDoorPx8
import Derived.Test.YtlecajlnjmbilaaGreatDoorPx9
set_option linter.all false
set_option maxHeartbeats 8000000
set_option maxRecDepth 100000
namespace Go.Proofs.YtlecajlnjmbilaaGreatDoor.P
open Go.RowKit Go.Proofs.ab.aq Go.Proofs.ab.aM Go.Proofs.ab.aT Go.Proofs.Tryz
attribute [local go_sem] gn gp iF iG fC fD gq gr

def cf.l0:Nat→List (bm)→List (bm)→Int→Option (Bool)
 |0,_,_,_=>none
 |k+1,x0,x1,x5=>if x5<(x0.length:Int)then(if 0≤x5 then(if x5<(x1.length:Int)then((iw.f k ((af x0 x5).f0) ((af x0 x5).f1) ((af x0 x5).f2) ((af x0 x5).f3) ((af x0 x5).f4) ((af x0 x5).f5) ((af x1 x5).f0) ((af x1 x5).f1) ((af x1 x5).f2) ((af x1 x5).f3) ((af x1 x5).f4) ((af x1 x5).f5)).bind fun b1=>(if b1=true then(cf.l0 k x0 x1 (wrap64 (x5+1)))else(some false)))else(none))else(none))else(some true)
def cf.f (k:Nat) (l0:List (bm)) (l1:List (bm)):Option (Bool):=if(l0.length:Int)=(l1.length:Int)then(cf.l0 k l0 l1 0)else(some false)
def cf.T6:Bool×List (List Nat×List Nat):=(true,[([],[]),([],[]),([0,1],[0,1]),([2],[2]),([],[]),([],[]),([4,5],[4,5]),([6],[6]),([3,7],[3,7]),([8],[8])])
def cf.B6:List Nat:=[0,0,3,7,0,0,48,112,255,511]
theorem cf.tab6:g_ .any (opsOf Tryz.f36 6)=cf.T6:=by kernel_rfl
theorem cf.mj:eX cf.T6.2 cf.B6=true:=by kernel_rfl
theorem cf.calls (k:Nat) (A0:Option Addr) (c0:Nat) (l0:List (bm)) (A1:Option Addr) (c1:Nat) (l1:List (bm)) (r:Bool) (w:World) (hr0:Kd.C fN w A0 l0.length l0) (hc0:l0.length≤c0) (hr1:Kd.C fN w A1 l1.length l1) (hc1:l1.length≤c1) (h:cf.f k l0 l1=some r):
  Calls Tryz.prog 36 #[.slice A0 l0.length c0,.slice A1 l1.length c1] w fun e w'=>e= .returned (.bool r)∧Below w.heap.size w w':=by
 have gH:=underlying58;have dW:=ae.mk hr0;have gL:=ae.mk hc0;clear hr0 hc0;have dX:=ae.mk hr1;have gM:=ae.mk hc1;clear hr1 hc1;have HB:=am (Below.refl w.heap.size w);unfold cf.f at h;have H:=h;clear h
 by_cases c3:(l0.length:Int)=(l1.length:Int)
 rotate_left
 ·rw[if_neg c3]at H;have dZ:((l0.length:Int)==(l1.length:Int))=false:=beq_eq_false_iff_ne.mpr c3;have gA:((l0.length:Int) !=(l1.length:Int))=true:=bne_iff_ne.mpr c3
  have gB:(l0.length==l1.length)=false:=by first|simpa using c3|(simp at c3⊢;omega)
  obtain rfl:=Option.some.inj H
  go_enter func36,ntmps36
  go_wp2
  go_ret
  exact⟨oE,oB⟩
 rw[if_pos c3]at H;have dZ:((l0.length:Int)==(l1.length:Int))=true:=beq_iff_eq.mpr c3;have gA:((l0.length:Int) !=(l1.length:Int))=false:=bne_eq_false_iff_eq.mpr c3
 have gB:(l0.length==l1.length)=true:=by first|simpa using c3|(simp at c3⊢;omega)
 clear c3;have H':=ae.mk H;clear H
 go_enter func36,ntmps36
 go_wp2
 go_loopg [5] k (fun kq v5 w'=>∃(b1:Int),v5= .int .i64 b1∧ae (cf.l0 kq l0 l1 b1=some r)∧ae (kq≤k)∧ae (Below w.heap.size w w'))
 case atStart=>exact⟨(0),oS,H',⟨Nat.le_refl _⟩,⟨oB⟩⟩
 case round=>
  clear H'
  try clear c1
  try clear c3
  obtain⟨b1,rfl,HA,dY,HB⟩:=hrel
  cases gk with
  |zero=>exact absurd HA.out (by simp[cf.l0])
  |succ k1=>
   have H:=HA.out;clear HA;simp only[cf.l0]at H;replace H:=iM H;rcases H with⟨gC,H⟩|⟨gC,H⟩;rotate_left
   ·obtain rfl:=Option.some.inj H
    go_wp2
    go_ret
    exact⟨oE,oB⟩
   obtain⟨gI,H⟩:=cO H;obtain⟨gJ,H⟩:=cO H;replace H:=bA H;obtain⟨gK,A7,H⟩:=H
   try dsimp only at H
   replace H:=kN H;rcases H with⟨rfl,H⟩|⟨rfl,H⟩;rotate_left
   ·obtain rfl:=Option.some.inj H
    try go_wp2
    replace HB:=am (au HB.out);have gD:(0≤(b1:Int))=True:=oT;have gE:(b1<(l0.length:Int))=True:=oT;obtain⟨b2,d6,d7,d8,d9,dA,dB,dI,b4,b5,b6,b7,b8,b9,bH,bI,bJ,bK,bL,bM⟩:=fI dW.out b1 oa oa;have dK:=b9;have dL:=b8;have dM:=b7;have dN:=b6;have dO:=b5;have dP:=b4
    cases dI
    replace b4:=cB HB b4;replace b5:=cB HB b5;replace b6:=cB HB b6;replace b7:=cB HB b7;replace b8:=cB HB b8;replace b9:=cB HB b9;have bN:=ae.mk bI;have bZ:=ae.mk bH;clear bI bH;have bO:=ae.mk bK;have d1:=ae.mk bJ;clear bK bJ;have bP:=ae.mk bM;have d2:=ae.mk bL;clear bM bL;have gF:(0≤(b1:Int))=True:=oT;have gG:(b1<(l1.length:Int))=True:=oT;obtain⟨b3,dC,dD,dE,dF,dG,dH,dJ,bB,bC,bD,bE,bF,bG,bQ,bR,bS,bT,bU,bV⟩:=fI dX.out b1 oa oa;have dQ:=bG;have dR:=bF;have dS:=bE;have dT:=bD;have dU:=bC;have dV:=bB
    cases dJ
    replace bB:=cB HB bB;replace bC:=cB HB bC;replace bD:=cB HB bD;replace bE:=cB HB bE;replace bF:=cB HB bF;replace bG:=cB HB bG;have bW:=ae.mk bR;have d3:=ae.mk bQ;clear bR bQ;have bX:=ae.mk bT;have d4:=ae.mk bS;clear bT bS;have bY:=ae.mk bV;have d5:=ae.mk bU;clear bV bU;refine mb 10 (fun w'=>w'.cell? (b2.add ((b1).toNat*6))=some (.int .i64 ((af l0 b1).f0))∧w'.cell? ⟨(b2.add ((b1).toNat*6)).block,(b2.add ((b1).toNat*6)).off+1,none⟩=some (.int .i64 ((af l0 b1).f1))∧w'.cell? ⟨(b2.add ((b1).toNat*6)).block,(b2.add ((b1).toNat*6)).off+2,none⟩=some (.int .i64 ((af l0 b1).f2))∧w'.cell? ⟨(b2.add ((b1).toNat*6)).block,(b2.add ((b1).toNat*6)).off+3,none⟩=some (.slice d6 ((af l0 b1).f3).length d7)∧w'.cell? ⟨(b2.add ((b1).toNat*6)).block,(b2.add ((b1).toNat*6)).off+4,none⟩=some (.slice d8 ((af l0 b1).f4).length d9)∧w'.cell? ⟨(b2.add ((b1).toNat*6)).block,(b2.add ((b1).toNat*6)).off+5,none⟩=some (.slice dA ((af l0 b1).f5).length dB)∧w'.cell? (b3.add ((b1).toNat*6))=some (.int .i64 ((af l1 b1).f0))∧w'.cell? ⟨(b3.add ((b1).toNat*6)).block,(b3.add ((b1).toNat*6)).off+1,none⟩=some (.int .i64 ((af l1 b1).f1))∧w'.cell? ⟨(b3.add ((b1).toNat*6)).block,(b3.add ((b1).toNat*6)).off+2,none⟩=some (.int .i64 ((af l1 b1).f2))∧w'.cell? ⟨(b3.add ((b1).toNat*6)).block,(b3.add ((b1).toNat*6)).off+3,none⟩=some (.slice dC ((af l1 b1).f3).length dD)∧w'.cell? ⟨(b3.add ((b1).toNat*6)).block,(b3.add ((b1).toNat*6)).off+4,none⟩=some (.slice dE ((af l1 b1).f4).length dF)∧w'.cell? ⟨(b3.add ((b1).toNat*6)).block,(b3.add ((b1).toNat*6)).off+5,none⟩=some (.slice dG ((af l1 b1).f5).length dH)) cf.tab6 cf.mj oH (fun hHeld av eH=> ?_);generalize wr.drew=gN at HB bN bO bP bW bX bY b4 b5 b6 b7 b8 b9 bB bC bD bE bF bG hHeld⊢;refine bx 0 17 av ?_;refine bx 1 18 av ?_;refine bx 2 19 av ?_;refine bx 4 21 av ?_;refine bx 5 22 av ?_;refine bx 6 23 av ?_;refine fO 3 20 av eH hHeld ?_;refine fO 7 24 av eH hHeld ?_;refine kQ 8 25 av (fun K hK=> ?_);refine l_ 25 func72 (iw.calls k1 ((af l0 b1).f0) ((af l0 b1).f1) ((af l0 b1).f2) _ _ ((af l0 b1).f3) _ _ ((af l0 b1).f4) _ _ ((af l0 b1).f5) ((af l1 b1).f0) ((af l1 b1).f1) ((af l1 b1).f2) _ _ ((af l1 b1).f3) _ _ ((af l1 b1).f4) _ _ ((af l1 b1).f5) false _ (kC bN) bZ.out (kC bO) d1.out (kC bP) d2.out (kC bW) d3.out (kC bX) d4.out (kC bY) d5.out A7.out) ?_;rintro e gO ⟨rfl,hb⟩;refine⟨_,rfl,?_⟩;replace HB:=hB HB hb;refine eP hK 25 oH (fun hHeld=> ?_);clear hK K;refine bx 9 26 av ?_;refine lZ av ?_
    try go_wp2
    go_ret
    exact⟨oE,oB⟩
   have H':=ae.mk H;clear H
   try go_wp2
   replace HB:=am (au HB.out);have gD:(0≤(b1:Int))=True:=oT;have gE:(b1<(l0.length:Int))=True:=oT;obtain⟨b2,d6,d7,d8,d9,dA,dB,dI,b4,b5,b6,b7,b8,b9,bH,bI,bJ,bK,bL,bM⟩:=fI dW.out b1 oa oa;have dK:=b9;have dL:=b8;have dM:=b7;have dN:=b6;have dO:=b5;have dP:=b4
   cases dI
   replace b4:=cB HB b4;replace b5:=cB HB b5;replace b6:=cB HB b6;replace b7:=cB HB b7;replace b8:=cB HB b8;replace b9:=cB HB b9;have bN:=ae.mk bI;have bZ:=ae.mk bH;clear bI bH;have bO:=ae.mk bK;have d1:=ae.mk bJ;clear bK bJ;have bP:=ae.mk bM;have d2:=ae.mk bL;clear bM bL;have gF:(0≤(b1:Int))=True:=oT;have gG:(b1<(l1.length:Int))=True:=oT;obtain⟨b3,dC,dD,dE,dF,dG,dH,dJ,bB,bC,bD,bE,bF,bG,bQ,bR,bS,bT,bU,bV⟩:=fI dX.out b1 oa oa;have dQ:=bG;have dR:=bF;have dS:=bE;have dT:=bD;have dU:=bC;have dV:=bB
   cases dJ
   replace bB:=cB HB bB;replace bC:=cB HB bC;replace bD:=cB HB bD;replace bE:=cB HB bE;replace bF:=cB HB bF;replace bG:=cB HB bG;have bW:=ae.mk bR;have d3:=ae.mk bQ;clear bR bQ;have bX:=ae.mk bT;have d4:=ae.mk bS;clear bT bS;have bY:=ae.mk bV;have d5:=ae.mk bU;clear bV bU;refine mb 10 (fun w'=>w'.cell? (b2.add ((b1).toNat*6))=some (.int .i64 ((af l0 b1).f0))∧w'.cell? ⟨(b2.add ((b1).toNat*6)).block,(b2.add ((b1).toNat*6)).off+1,none⟩=some (.int .i64 ((af l0 b1).f1))∧w'.cell? ⟨(b2.add ((b1).toNat*6)).block,(b2.add ((b1).toNat*6)).off+2,none⟩=some (.int .i64 ((af l0 b1).f2))∧w'.cell? ⟨(b2.add ((b1).toNat*6)).block,(b2.add ((b1).toNat*6)).off+3,none⟩=some (.slice d6 ((af l0 b1).f3).length d7)∧w'.cell? ⟨(b2.add ((b1).toNat*6)).block,(b2.add ((b1).toNat*6)).off+4,none⟩=some (.slice d8 ((af l0 b1).f4).length d9)∧w'.cell? ⟨(b2.add ((b1).toNat*6)).block,(b2.add ((b1).toNat*6)).off+5,none⟩=some (.slice dA ((af l0 b1).f5).length dB)∧w'.cell? (b3.add ((b1).toNat*6))=some (.int .i64 ((af l1 b1).f0))∧w'.cell? ⟨(b3.add ((b1).toNat*6)).block,(b3.add ((b1).toNat*6)).off+1,none⟩=some (.int .i64 ((af l1 b1).f1))∧w'.cell? ⟨(b3.add ((b1).toNat*6)).block,(b3.add ((b1).toNat*6)).off+2,none⟩=some (.int .i64 ((af l1 b1).f2))∧w'.cell? ⟨(b3.add ((b1).toNat*6)).block,(b3.add ((b1).toNat*6)).off+3,none⟩=some (.slice dC ((af l1 b1).f3).length dD)∧w'.cell? ⟨(b3.add ((b1).toNat*6)).block,(b3.add ((b1).toNat*6)).off+4,none⟩=some (.slice dE ((af l1 b1).f4).length dF)∧w'.cell? ⟨(b3.add ((b1).toNat*6)).block,(b3.add ((b1).toNat*6)).off+5,none⟩=some (.slice dG ((af l1 b1).f5).length dH)) cf.tab6 cf.mj oH (fun hHeld av eH=> ?_);generalize wr.drew=w9 at HB bN bO bP bW bX bY b4 b5 b6 b7 b8 b9 bB bC bD bE bF bG hHeld⊢;refine bx 0 17 av ?_;refine bx 1 18 av ?_;refine bx 2 19 av ?_;refine bx 4 21 av ?_;refine bx 5 22 av ?_;refine bx 6 23 av ?_;refine fO 3 20 av eH hHeld ?_;refine fO 7 24 av eH hHeld ?_;refine kQ 8 25 av (fun K hK=> ?_);refine l_ 25 func72 (iw.calls k1 ((af l0 b1).f0) ((af l0 b1).f1) ((af l0 b1).f2) _ _ ((af l0 b1).f3) _ _ ((af l0 b1).f4) _ _ ((af l0 b1).f5) ((af l1 b1).f0) ((af l1 b1).f1) ((af l1 b1).f2) _ _ ((af l1 b1).f3) _ _ ((af l1 b1).f4) _ _ ((af l1 b1).f5) true _ (kC bN) bZ.out (kC bO) d1.out (kC bP) d2.out (kC bW) d3.out (kC bX) d4.out (kC bY) d5.out A7.out) ?_;rintro e gP ⟨rfl,hb⟩;refine⟨_,rfl,?_⟩;replace HB:=hB HB hb;refine eP hK 25 oH (fun hHeld=> ?_);clear hK K;refine bx 9 26 av ?_;refine lZ av ?_
   try go_wp2
   go_roundg k1
   case measure=>have:=dY.out;omega
   case rel=>exact⟨(wrap64 (b1+1)),oS,H',⟨by have:=dY.out;omega⟩,⟨oB⟩⟩

mutual
def aU.l0:Nat→List Int→List Int→List (bm)→Int→Option (List Int)
 |0,_,_,_,_=>none
 |k+1,x3,x4,b2,b3=>if(x4.length:Int)>0 then(if 0<(x4.length:Int)then(if 1≤(x4.length:Int)then((some (x4.drop (1:Int).toNat:List Int)).bind fun b4=>((cP.f k b2 b3 (rd x4 0)).bind fun b1=>(if b1.2.2.2.2.2.2=true then((ee.f x3 (rd x4 0)).bind fun b5=>(aU.j1 k x3 b4 (rd x4 0) b5 b2 b3 b1.1 b1.2.1 b1.2.2.1 b1.2.2.2.1 b1.2.2.2.2.1 b1.2.2.2.2.2.1))else(aU.j1 k x3 b4 (rd x4 0) true b2 b3 b1.1 b1.2.1 b1.2.2.1 b1.2.2.2.1 b1.2.2.2.2.1 b1.2.2.2.2.2.1))))else(none))else(none))else(if x3.length<4611686018427387904 then some (nF x3)else none)
def aU.j1:Nat→List Int→List Int→Int→Bool→List (bm)→Int→Int→Int→Int→List Int→List (ey)→List (ct)→Option (List Int)
 |0,_,_,_,_,_,_,_,_,_,_,_,_=>none
 |k+1,x3,x4,x5,bB,b1,b2,b6,b4,b7,b8,b3,b9=>if bB=true then(aU.l0 k x3 x4 b1 b2)else(if x3.length<17592186044416 then((some (x3++[x5]:List Int)).bind fun b5=>(if b4=2 then(aU.l1 k b5 x4 b3 (b3.length:Int) 0 b1 b2)else(aU.l0 k b5 x4 b1 b2)))else(none))
def aU.l1:Nat→List Int→List Int→List (ey)→Int→Int→List (bm)→Int→Option (List Int)
 |0,_,_,_,_,_,_,_=>none
 |k+1,x3,x4,b4,b5,b3,b1,b2=>if b3<b5 then(if 0≤b3 then(if b3<(b4.length:Int)then(if x4.length<17592186044416 then(aU.l1 k x3 (x4++[(al b4 b3).f1]) b4 b5 (wrap64 (b3+1)) b1 b2)else(none))else(none))else(none))else(aU.l0 k x3 x4 b1 b2)
end
def aU.f (k:Nat) (ag:List (bm)) (aj:Int):Option (List Int):=aU.l0 k (([]:List Int)) (([1]:List Int)) ag aj
theorem aU.calls (k:Nat) (bo:Option Addr) (bg:Nat) (ag:List (bm)) (aj:Int) (r:List Int) (w:World) (cv:Kd.C fN w bo ag.length ag) (cA:ag.length≤bg) (h:aU.f k ag aj=some r):
  Calls Tryz.prog 124 #[.agg #[.slice bo ag.length bg,.int .i64 aj]] w fun e w'=>∃iV:Value,e= .returned (iV)∧Kd.R (Kd.int .i64) 3 w' w.heap.size (fun _=>True) iV r∧Below w.heap.size w w':=by
 have jX:=underlying28;have jY:=underlying58;have jZ:=underlying75;have gM:=ae.mk cv;have gN:=ae.mk cA;clear cv cA;have HB:=am (Below.refl w.heap.size w);unfold aU.f at h;have H:=h;clear h;obtain⟨dP,cX⟩:∃y_:List Int,y_=(([]:List Int)):=⟨_,rfl⟩;replace H:(aU.l0 k dP (([1]:List Int)) ag aj)=some r:=oY;have dX:=ae.mk cX;clear cX;obtain⟨gF,cX⟩:∃y_:List Int,y_=(([1]:List Int)):=⟨_,rfl⟩;replace H:(aU.l0 k dP gF ag aj)=some r:=oY;have dY:=ae.mk cX;clear cX;have H':=ae.mk H;clear H
 go_enter func124,ntmps124
 go_wp2_with (first|((with_reducible refine ai (N:=1) rfl ?_);refine eh 1 #[.slice bo ag.length bg,.int .i64 aj] 28 ?_;intro dE hg w2 hbox hb;have b1:=am (hbox);have jG:=eg hg;replace HB:=hB HB hb;clear hb hbox hg)|((with_reducible refine ai (N:=10) rfl ?_);refine Kd.iO (Kd.int .i64) _ 3 ?hg (N:=10) ?hd (xs:=([]:List Int)) (inner:=[]) (ok:=fun _=>True) (ft:=fun _=>True) ?hr ?hp (fun _ hk=>hk) trivial (Below.refl _ _) (Nat.le_refl _) (by simp) ?_;(case hd=>rfl);(case hg=>rfl);(case hr=>first|(go_simp;done)|(go_simp;rfl));(case hp=>exact(cK.none _ _));intro m1 w3 dK hb fc da;clear fc da;(first|rw[←dX.out]at dK|(simp only[Int.reduceToNat]at dK;rw[←dX.out]at dK));have d7:=am (Kd.aw dK (ah oB));replace b1:=aQ b1 hb;replace HB:=hB HB hb;clear hb dK)|((with_reducible refine ai (N:=11) rfl ?_);refine Kd.iO (Kd.int .i64) _ 3 ?hg (N:=11) ?hd (xs:=([1]:List Int)) (inner:=[.int .i64 1]) (ok:=fun _=>True) (ft:=fun _=>True) ?hr ?hp (fun _ hk=>hk) trivial (Below.refl _ _) (Nat.le_refl _) (by simp) ?_;(case hd=>rfl);(case hg=>rfl);(case hr=>first|(go_simp;done)|(go_simp;rfl));(case hp=>exact(cK.one (show Kd.M (Kd.int .i64) _ _ _ 1 [.int .i64 1]from rfl) (cK.none _ _)));intro m2 w5 dC hb fc da;clear fc da;(first|rw[←dY.out]at dC|(simp only[Int.reduceToNat]at dC;rw[←dY.out]at dC));have gO:=am (Kd.aw (Kd.ly dC (nK d7)) (ah oB));replace d7:=ke_ d7 dC hb;replace b1:=aQ b1 hb;replace HB:=hB HB hb;clear hb dC))
 go_loopg [3,4] k (fun kq v3 v4 w'=>∃(bG:List Int) (b4:List Int),ae (aU.l0 kq bG b4 ag aj=some r)∧ae (kq≤k)∧ae (Kd.R (Kd.int .i64) 3 w' w.heap.size (fun k_=>some k_≠(v4:Value).ownBlock) v3 bG)∧ae (Kd.Q (Kd.int .i64) 3 w' w.heap.size (fun k_=>some k_≠(v3:Value).ownBlock) v4 b4)∧ae (w'.heap[dE]? =some (.cells #[(.slice bo ag.length bg),.int .i64 aj] 28 (0,0)))∧ae (Below w.heap.size w w'))
 case atStart=>exact⟨(dP),(gF),H',⟨Nat.le_refl _⟩,⟨by(with_reducible repeat(first|apply Kd.ca|apply Kd.cd|apply Kd.cj));exact Kd.bn d7.out (fun _ hk=>hk.2)⟩,⟨Kd.pn (by(with_reducible repeat(first|apply Kd.ca|apply Kd.cd|apply Kd.cj));exact Kd.bn gO.out (fun _ hk=>hk.2))⟩,⟨oF b1⟩,⟨oB⟩⟩
 case round=>
  clear H';obtain⟨bG,b4,HA,bV,b3,b7,b1,HB⟩:=hrel
  cases gk with
  |zero=>exact absurd HA.out (by simp[aU.l0])
  |succ k1=>
   have H:=HA.out;clear HA;simp only[aU.l0]at H
   by_cases c7:(b4.length:Int)>0
   rotate_left
   ·rw[if_neg c7]at H;have dQ:decide (0<(b4.length:Int))=false:=decide_eq_false c7;have dR:decide (0<b4.length)=false:=decide_eq_false (by omega);clear c7
    split at H
    case isFalse=>cases H
    case isTrue aaL=>
    obtain rfl:=Option.some.inj H;obtain⟨m3,m4,gY,_⟩:=Kd.tz b7.out;subst gY;obtain⟨Aq_,cq_,rfl⟩:=Kd.ax b3.out
    go_wp2_with (go_at_call 147;refine(aci.calls Aq_ cq_ w.heap.size (fun _=>True) bG _ (Kd.bn (vK b3) (fun _ _=>trivial)) aaL).mono ?_;rintro e mH ⟨rfl,hs_,fc⟩)
    go_ret
    exact⟨_,oE,hs_,(oB:Below w.heap.size w _).grown fc (ah oB) (fun k_ eP=>Kd.cQ hs_ k_ eP)⟩
   rw[if_pos c7]at H;have dQ:decide (0<(b4.length:Int))=true:=decide_eq_true c7;have dR:decide (0<b4.length)=true:=decide_eq_true (by omega);clear c7;obtain⟨c8,H⟩:=lu H;have gG:decide (0<(b4.length:Int))=true:=decide_eq_true c8;have gH:decide (0<b4.length)=true:=decide_eq_true (by omega);clear c8;obtain⟨c9,H⟩:=lu H;have m5:=eq_true c9;have m6:decide (1≤(b4.length:Int))=true:=decide_eq_true c9;clear c9;obtain⟨bC,cX⟩:∃y_:List Int,y_=(b4.drop (1:Int).toNat):=⟨_,rfl⟩;replace H:((cP.f k1 ag aj (rd b4 0)).bind fun bE=>(if bE.2.2.2.2.2.2=true then((ee.f bG (rd b4 0)).bind fun dF=>(aU.j1 k1 bG bC (rd b4 0) dF ag aj bE.1 bE.2.1 bE.2.2.1 bE.2.2.2.1 bE.2.2.2.2.1 bE.2.2.2.2.2.1))else(aU.j1 k1 bG bC (rd b4 0) true ag aj bE.1 bE.2.1 bE.2.2.1 bE.2.2.2.1 bE.2.2.2.2.1 bE.2.2.2.2.2.1)))=some r:=oY;have dZ:=ae.mk cX;clear cX;replace H:=bA H;obtain⟨⟨bW,bH,bX,bI,b5,bJ,gZ⟩,jB,H⟩:=H
   try dsimp only at H
   have dS:=ae.mk H;clear H;obtain⟨m7,dG,j1,_⟩:=Kd.tz b7.out;subst j1;have dT:0≤(0:Int):=(by omega);have dU:0<(b4.length:Int):=oa;obtain⟨d4,j2,dD⟩:=Kd.kf (Kd.nh b7.out).2.2 0 dT dU
   cases j2
   have jH:(0<b4.length)=True:=eq_true (by omega)
   (try rw[show((0:Int)).toNat=0 from rfl]at dD)
   (try rw[Addr.add_zero']at dD)
   replace dT:=eq_true dT;replace dU:=eq_true dU;have gI:(1:Int)≤((b4.length:Int):Int):=oa;obtain⟨m8,gA,_,gB,_⟩:=info_parts info3;have gJ:=ng (P:=Tryz.prog) 98 3 .i64 underlying98 gA 1 gB (some d4) b4.length dG 1 (by omega) gI;have d8:=Kd.aaA (k:=(1:Int).toNat) b7.out (by omega);obtain⟨d9,dH⟩:∃A1,A1=(if dG=(1:Int).toNat then(some d4)else((some d4):Option Addr).map (·.add ((1:Int).toNat*1))):=⟨_,rfl⟩;obtain⟨dA,dV⟩:∃c1,c1=dG-(1:Int).toNat:=⟨_,rfl⟩;have dW:bC.length=b4.length-(1:Int).toNat:=(by rw[dZ.out,List.length_drop]);rw[←dZ.out]at d8;rw[←dW,←dH,←dV]at gJ;replace d8:Kd.Q (Kd.int .i64) 3 wr w.heap.size (fun k_=>some k_≠(u3:Value).ownBlock) (.slice d9 bC.length dA) bC:=(by rw[dH,dV,dW];exact d8);have j3:ae ((Value.slice d9 bC.length dA).ownBlock=(.slice (some d4) b4.length dG:Value).ownBlock):=⟨by rw[dH];split<;>(cases ((some d4):Option Addr)<;>rfl)⟩;clear dW gA gB b7 dH dV;have bK:=ae.mk d8;clear d8;replace gI:=eq_true gI;have n_:=am (Kd.bn (ok':=fun k_=>some k_≠(.slice d9 bC.length dA:Value).ownBlock) b3.out (fun k_ hk=>(by rw[j3.out];exact hk)));clear b3;have b3:=n_;clear n_;obtain⟨⟨_,_⟩,_,_⟩:=z2 b1
   go_upto_region 7 with(first|((with_reducible refine ak (f:=91) rfl ?_);refine fe 23 func91 (cP.calls k1 _ _ ag aj (rd b4 0) bW bH bX bI b5 bJ gZ _ (kC gM) gN.out jB.out) ?_;rintro e mI ⟨m9,mA,mB,rfl,jC,gV,gW,hb⟩;refine⟨_,rfl,?_⟩;have bM:=am (Kd.aw jC (ah oB));have bN:=am (Kd.aw gV (ah oB));have bO:=am (Kd.aw gW (ah oB));replace b3:=ga b3 hb;replace bK:=rb bK hb;replace b1:=aQ b1 hb;replace HB:=hB HB hb;(try clear gV);(try clear gW))|((with_reducible refine ai (N:=6) rfl ?_);refine eh 6 #[.int .i64 0,.int .i64 0,.int .i64 0,.slice none 0 0,.slice none 0 0,.slice none 0 0] 58 ?_;intro bD hg mJ hbox hb;have b2:=am (hbox);have jI:=eg hg;have bP:=eY hg b1;have bQ:=eZ hg b1;replace b3:=ga b3 hb;replace bK:=rb bK hb;replace bM:=ga bM hb;replace bN:=ga bN hb;replace bO:=ga bO hb;replace b1:=aQ b1 hb;replace HB:=hB HB hb;clear hb hbox hg;have jJ:=bQ.out;have jK:=bP.out;obtain⟨⟨_,_,_,_,_,_⟩,_,_,_,_,_,_⟩:=z6 b2;obtain⟨bY,bZ,j4⟩:=Kd.ax bM.out;subst j4;obtain⟨bR,bS,j5⟩:=Kd.ax bN.out;subst j5;obtain⟨d1,d2,j6⟩:=Kd.ax bO.out;subst j6))
   (try simp only[Act.put,List.setIfInBounds_toArray,List.set_cons_zero,List.set_cons_succ])
   go_cut [32] (fun jD wc=>∃(kq:Nat) (dB:Bool),jD= .bool dB∧ae (aU.j1 kq bG bC (rd b4 0) dB ag aj bW bH bX bI b5 bJ=some r)∧ae (kq≤k1)∧ae (Kd.R (Kd.int .i64) 3 wc w.heap.size (fun k_=>some k_≠((.slice d9 bC.length dA):Value).ownBlock) u3 bG)∧ae (Kd.Q (Kd.int .i64) 3 wc w.heap.size (fun k_=>some k_≠(u3:Value).ownBlock) (.slice d9 bC.length dA) bC)∧ae (Kd.R (Kd.int .u8) 5 wc w.heap.size (fun _=>True) (.slice bY bI.length bZ) bI)∧ae (Kd.R jc 75 wc w.heap.size (fun _=>True) (.slice bR b5.length bS) b5)∧ae (Kd.R fa 82 wc w.heap.size (fun _=>True) (.slice d1 bJ.length d2) bJ)∧ae (wc.heap[dE]? =some (.cells #[(.slice bo ag.length bg),.int .i64 aj] 28 (0,0)))∧ae (wc.heap[bD]? =some (.cells #[.int .i64 bW,.int .i64 bH,.int .i64 bX,(.slice bY bI.length bZ),(.slice bR b5.length bS),(.slice d1 bJ.length d2)] 58 (0,0)))∧ae (Below w.heap.size w wc))
   case first=>
    have H:=dS.out;clear dS;replace H:=kN H;rcases H with⟨rfl,H⟩|⟨rfl,H⟩
    ·replace H:=bA H;obtain⟨dF,jE,H⟩:=H
     try dsimp only at H
     have H':=ae.mk H;clear H;obtain⟨mC,mD,j7⟩:=Kd.ax b3.out;subst j7
     go_wp2_with (first|(go_at_call 146;(with_reducible refine(ee.calls _ _ bG (rd b4 0) dF _ (jw b3 b2) (ko b3) jE.out).mono ?_);rintro e mK ⟨rfl,hb⟩;replace b3:=fq b3 b2 hb;replace bK:=ac0 bK b2 hb;replace bM:=fq bM b2 hb;replace bN:=fq bN b2 hb;replace bO:=fq bO b2 hb;replace b1:=aQ b1 hb;replace b2:=oo #[.int .i64 bW,.int .i64 bH,.int .i64 bX,.slice bY bI.length bZ,.slice bR b5.length bS,.slice d1 bJ.length d2] b2 hb;replace HB:=hB HB hb;(try clear hk)))
     go_meet
     case rel=>exact⟨_,(dF),oS,H',⟨by have:=bV.out;first|omega|exact Nat.le_refl _⟩,⟨oR b3⟩,⟨by(with_reducible repeat(first|apply Kd.ik|apply Kd.il|apply Kd.jr));exact bK.out⟩,⟨oR bM⟩,⟨oR bN⟩,⟨oR bO⟩,⟨oF b1⟩,⟨oF b2⟩,⟨oB⟩⟩
    have H':=ae.mk H;clear H
    go_wp2
    go_meet
    case rel=>exact⟨_,(true),oS,H',⟨by have:=bV.out;first|omega|exact Nat.le_refl _⟩,⟨by(with_reducible repeat(first|apply Kd.ca|apply Kd.cd|apply Kd.cj));exact Kd.bn (Kd.kE (p:=⟨bD,5,none⟩) (Kd.kE (p:=⟨bD,4,none⟩) (Kd.kE (p:=⟨bD,3,none⟩) (Kd.kE (p:=⟨bD,2,none⟩) (Kd.kE (p:=⟨bD,1,none⟩) (Kd.kE (p:=⟨bD,0,none⟩) (Kd.bf b3.out b2.out (by decide)) (fun _ hk=>hk.2) (.int .i64 bW)) (fun _ hk=>hk.2) (.int .i64 bH)) (fun _ hk=>hk.2) (.int .i64 bX)) (fun _ hk=>hk.2) (.slice bY bI.length bZ)) (fun _ hk=>hk.2) (.slice bR b5.length bS)) (fun _ hk=>hk.2) (.slice d1 bJ.length d2)) (fun _ hk=>hk.1)⟩,⟨by(with_reducible repeat(first|apply Kd.ik|apply Kd.il|apply Kd.jr));exact Kd.lO (Kd.pB (p:=⟨bD,5,none⟩) (Kd.pB (p:=⟨bD,4,none⟩) (Kd.pB (p:=⟨bD,3,none⟩) (Kd.pB (p:=⟨bD,2,none⟩) (Kd.pB (p:=⟨bD,1,none⟩) (Kd.pB (p:=⟨bD,0,none⟩) (Kd.qN bK.out b2.out (by decide)) (fun _ hk=>hk.2) (.int .i64 bW)) (fun _ hk=>hk.2) (.int .i64 bH)) (fun _ hk=>hk.2) (.int .i64 bX)) (fun _ hk=>hk.2) (.slice bY bI.length bZ)) (fun _ hk=>hk.2) (.slice bR b5.length bS)) (fun _ hk=>hk.2) (.slice d1 bJ.length d2)) (fun _ hk=>hk.1)⟩,⟨xH bM b2⟩,⟨xH bN b2⟩,⟨xH bO b2⟩,⟨oF b1⟩,⟨oP b2⟩,⟨oB⟩⟩
   case rest=>
    clear dS
    try clear c7
    try clear dQ
    try clear dR
    try clear c8
    try clear gG
    try clear gH
    try clear c9
    obtain⟨kq,dB,rfl,HA,bT,b3,b7,b8,b6,b9,b1,b2,HB⟩:=hcut
    cases kq with
    |zero=>exact absurd HA.out (by simp[aU.j1])
    |succ uR=>
     have H:=HA.out;clear HA;simp only[aU.j1]at H;replace H:=kN H;rcases H with⟨rfl,H⟩|⟨rfl,H⟩
     ·have H':=ae.mk H;clear H
      go_wp2
      go_roundg uR
      case measure=>have:=bV.out;have:=bT.out;omega
      case rel=>exact⟨(bG),(bC),H',⟨by have:=bV.out;have:=bT.out;omega⟩,⟨oR b3⟩,⟨by(with_reducible repeat(first|apply Kd.ik|apply Kd.il|apply Kd.jr));exact b7.out⟩,⟨oF b1⟩,⟨oB⟩⟩
     obtain⟨gK,H⟩:=lu H;have gC:=ae.mk gK;clear gK;obtain⟨d3,cX⟩:∃y_:List Int,y_=(bG++[(rd b4 0)]):=⟨_,rfl⟩;replace H:(if bH=2 then(aU.l1 uR d3 bC b5 (b5.length:Int) 0 ag aj)else(aU.l0 uR d3 bC ag aj))=some r:=oY;have gD:=ae.mk cX;clear cX
     by_cases d6:bH=2
     rotate_left
     ·rw[if_neg d6]at H;have gP:(bH==2)=false:=beq_eq_false_iff_ne.mpr d6;have gQ:(bH !=2)=true:=bne_iff_ne.mpr d6;have H':=ae.mk H;clear H
      go_wp2_with (first|((with_reducible refine et (b:= .append) (xs:= #[.tmp 33,.tmp 35]) rfl ?_);at_builtin;refine Kd.nf (Kd.int .i64) (w0:=w) w.heap.size rfl (.tmp 33) (.tmp 35) 98 3 (.int .i64 0) 8 rfl underlying98 info3 rfl (by decide) (by omega) u3 bG (rd b4 0) [.int .i64 (rd b4 0)] (fun k_=>some k_≠(.slice d9 bC.length dA:Value).ownBlock) (fun _=>False) rfl rfl ?aP (fun _ hk=>hk.elim) ?aF ?aO ?aB ?aS ?aL ?_;(case aP=>exact rfl);(case aB=>exact oB);(case aF=>exact(fun k_ hk=>Kd.fresh' (adQ b7) k_ hk));(case aO=>exact(oR b3));(case aS=>exact(ah oB));(case aL=>have:=gC.out;omega);intro dI mL ho hb hg hat;rw[←gD.out]at ho;have dJ:=am (ho);replace b7:=am (Kd.xg (ok:=(fun _=>True)) (by(with_reducible repeat(first|apply Kd.ik|apply Kd.il|apply Kd.jr));exact Kd.lO b7.out (fun _ hk=>⟨trivial,hk⟩)) hg hat);replace b8:=am (Kd.gh (oR b8) (Kd.fj (oR b3)) (by decide) hg);replace b6:=am (Kd.gh (oR b6) (Kd.fj (oR b3)) (by decide) hg);replace b9:=am (Kd.gh (oR b9) (Kd.fj (oR b3)) (by decide) hg);replace b1:=ks b1 hg (Kd.kz b3.out b1.out (by decide));replace b2:=ks b2 hg (Kd.kz b3.out b2.out (by decide));replace HB:=am (hb);clear b3;clear ho hb hg hat;have jL:=bQ.out;have jM:=bP.out;obtain⟨⟨_,_,_,_,_,_⟩,_,_,_,_,_,_⟩:=z6 b2))
      go_roundg uR
      case measure=>have:=bV.out;have:=bT.out;omega
      case rel=>exact⟨(d3),(bC),H',⟨by have:=bV.out;have:=bT.out;omega⟩,⟨oR dJ⟩,⟨by(with_reducible repeat(first|apply Kd.ik|apply Kd.il|apply Kd.jr));exact Kd.lO b7.out (fun _ hk=>hk.2)⟩,⟨oF b1⟩,⟨oB⟩⟩
     rw[if_pos d6]at H;have gP:(bH==2)=true:=beq_iff_eq.mpr d6;have gQ:(bH !=2)=false:=bne_eq_false_iff_eq.mpr d6;clear d6;have H':=ae.mk H;clear H
     go_wp2_with (first|((with_reducible refine et (b:= .append) (xs:= #[.tmp 33,.tmp 35]) rfl ?_);at_builtin;refine Kd.nf (Kd.int .i64) (w0:=w) w.heap.size rfl (.tmp 33) (.tmp 35) 98 3 (.int .i64 0) 8 rfl underlying98 info3 rfl (by decide) (by omega) u3 bG (rd b4 0) [.int .i64 (rd b4 0)] (fun k_=>some k_≠(.slice d9 bC.length dA:Value).ownBlock) (fun _=>False) rfl rfl ?aP (fun _ hk=>hk.elim) ?aF ?aO ?aB ?aS ?aL ?_;(case aP=>exact rfl);(case aB=>exact oB);(case aF=>exact(fun k_ hk=>Kd.fresh' (adQ b7) k_ hk));(case aO=>exact(oR b3));(case aS=>exact(ah oB));(case aL=>have:=gC.out;omega);intro dI mM ho hb hg hat;rw[←gD.out]at ho;have dJ:=am (ho);replace b7:=am (Kd.xg (ok:=(fun _=>True)) (by(with_reducible repeat(first|apply Kd.ik|apply Kd.il|apply Kd.jr));exact Kd.lO b7.out (fun _ hk=>⟨trivial,hk⟩)) hg hat);replace b8:=am (Kd.gh (oR b8) (Kd.fj (oR b3)) (by decide) hg);replace b6:=am (Kd.gh (oR b6) (Kd.fj (oR b3)) (by decide) hg);replace b9:=am (Kd.gh (oR b9) (Kd.fj (oR b3)) (by decide) hg);replace b1:=ks b1 hg (Kd.kz b3.out b1.out (by decide));replace b2:=ks b2 hg (Kd.kz b3.out b2.out (by decide));replace HB:=am (hb);clear b3;clear ho hb hg hat;have jN:=bQ.out;have jO:=bP.out;obtain⟨⟨_,_,_,_,_,_⟩,_,_,_,_,_,_⟩:=z6 b2))
     go_loopg [4,43] uR (fun kq v4 jF w'=>∃(d5:List Int) (bB:Int),jF= .int .i64 bB∧ae (aU.l1 kq d3 d5 b5 (b5.length:Int) bB ag aj=some r)∧ae (kq≤uR)∧ae (Kd.R (Kd.int .i64) 3 w' w.heap.size (fun k_=>some k_≠(v4:Value).ownBlock) dI d3)∧ae (Kd.Q (Kd.int .i64) 3 w' w.heap.size (fun k_=>some k_≠(dI:Value).ownBlock) v4 d5)∧ae (Kd.R jc 75 w' w.heap.size (fun _=>True) (.slice bR b5.length bS) b5)∧ae (Kd.R (Kd.int .u8) 5 w' w.heap.size (fun _=>True) (.slice bY bI.length bZ) bI)∧ae (Kd.R jc 75 w' w.heap.size (fun _=>True) (.slice bR b5.length bS) b5)∧ae (Kd.R fa 82 w' w.heap.size (fun _=>True) (.slice d1 bJ.length d2) bJ)∧ae (w'.heap[dE]? =some (.cells #[(.slice bo ag.length bg),.int .i64 aj] 28 (0,0)))∧ae (w'.heap[bD]? =some (.cells #[.int .i64 bW,.int .i64 bH,.int .i64 bX,(.slice bY bI.length bZ),(.slice bR b5.length bS),(.slice d1 bJ.length d2)] 58 (0,0)))∧ae (Below w.heap.size w w'))
     case atStart=>exact⟨(bC),(0),oS,H',⟨Nat.le_refl _⟩,⟨oR dJ⟩,⟨by(with_reducible repeat(first|apply Kd.ik|apply Kd.il|apply Kd.jr));exact Kd.lO b7.out (fun _ hk=>hk.2)⟩,⟨oR b6⟩,⟨oR b8⟩,⟨oR b6⟩,⟨oR b9⟩,⟨oF b1⟩,⟨oF b2⟩,⟨oB⟩⟩
     case round=>
      clear H'
      try clear c7
      try clear dQ
      try clear dR
      try clear c8
      try clear gG
      try clear gH
      try clear c9
      try clear gK
      try clear d6
      obtain⟨d5,bB,rfl,HA,gE,b3,b7,bU,b8,b6,b9,b1,b2,HB⟩:=hrel
      cases gk with
      |zero=>exact absurd HA.out (by simp[aU.l1])
      |succ k3=>
       have H:=HA.out;clear HA;simp only[aU.l1]at H;replace H:=iM H;rcases H with⟨gR,H⟩|⟨gR,H⟩;rotate_left
       ·have H':=ae.mk H;clear H
        go_wp2
        go_roundg k3
        case measure=>have:=bV.out;have:=bT.out;have:=gE.out;omega
        case rel=>exact⟨(d3),(d5),H',⟨by have:=bV.out;have:=bT.out;have:=gE.out;omega⟩,⟨oR b3⟩,⟨by(with_reducible repeat(first|apply Kd.ik|apply Kd.il|apply Kd.jr));exact b7.out⟩,⟨oF b1⟩,⟨oB⟩⟩
       obtain⟨jP,H⟩:=cO H;obtain⟨jQ,H⟩:=cO H;obtain⟨gX,H⟩:=lu H;have gS:=ae.mk gX;clear gX;obtain⟨gL,cX⟩:∃y_:List Int,y_=(d5++[(al b5 bB).f1]):=⟨_,rfl⟩;replace H:(aU.l1 k3 d3 gL b5 (b5.length:Int) (wrap64 (bB+1)) ag aj)=some r:=oY;have gT:=ae.mk cX;clear cX;have H':=ae.mk H;clear H;have mE:(0≤(bB:Int))=True:=oT;have mF:(bB<(b5.length:Int))=True:=oT;obtain⟨jR,j8,j9,jA⟩:=dd (Kd.aH bU.out).2.2 bB oa oa
       cases j8
       go_wp2_with (first|((with_reducible refine ai (N:=9) rfl ?_);refine eh 9 #[.string (⟨#[]⟩:ByteArray),.int .i64 0] 75 ?_;intro bL hg mN hbox hb;have bF:=am (hbox);have jS:=eg hg;have dL:=eY hg b1;have dM:=eZ hg b1;have dN:=eY hg b2;have dO:=eZ hg b2;replace b3:=ga b3 hb;replace b7:=rb b7 hb;replace bU:=am (Kd.iX (Kd.uD (oR bU) bL (Nat.le_of_eq hg.symm)) hb);replace b8:=ga b8 hb;replace b6:=am (Kd.iX (Kd.uD (oR b6) bL (Nat.le_of_eq hg.symm)) hb);replace b9:=ga b9 hb;replace b1:=aQ b1 hb;replace b2:=aQ b2 hb;replace HB:=hB HB hb;clear hb hbox hg;have jT:=dM.out;have jU:=dL.out;have jV:=dO.out;have jW:=dN.out;obtain⟨⟨_,_⟩,_,_⟩:=z2 bF)|((with_reducible refine et (b:= .append) (xs:= #[.tmp 47,.tmp 50]) rfl ?_);at_builtin;refine Kd.aaB (Kd.int .i64) (w0:=w) w.heap.size rfl (.tmp 47) (.tmp 50) 98 3 (.int .i64 0) 8 rfl underlying98 info3 rfl (by decide) (by omega) u4 d5 ((al b5 bB).f1) [.int .i64 ((al b5 bB).f1)] (fun k_=>some k_≠(dI:Value).ownBlock) (fun _=>False) rfl (by first|(go_simp;done)|(go_simp;rfl)) ?aP (fun _ hk=>hk.elim) ?aF ?aO ?aB ?aS ?aL ?_;(case aP=>exact rfl);(case aB=>exact oB);(case aF=>exact(fun k_ hk=>Kd.fresh' (kc b3 bF) k_ hk));(case aO=>exact(by(with_reducible repeat(first|apply Kd.ik|apply Kd.il|apply Kd.jr));exact Kd.lO (Kd.pB (p:=⟨bL,1,none⟩) (Kd.pB (p:=⟨bL,0,none⟩) (Kd.qN b7.out bF.out (by decide)) (fun _ hk=>hk.2) (.string ((al b5 bB).f0))) (fun _ hk=>hk.2) (.int .i64 ((al b5 bB).f1))) (fun _ hk=>hk.1)));(case aS=>exact(ah oB));(case aL=>have:=gS.out;omega);intro mG mO ho hb hg hat;rw[←gT.out]at ho;have gU:=am (ho);replace b3:=am (Kd.ow (ok:=(fun _=>True)) (by(with_reducible repeat(first|apply Kd.ca|apply Kd.cd|apply Kd.cj));exact Kd.bn (Kd.kE (p:=⟨bL,1,none⟩) (Kd.kE (p:=⟨bL,0,none⟩) (Kd.bf b3.out bF.out (by decide)) (fun _ hk=>hk.2) (.string ((al b5 bB).f0))) (fun _ hk=>hk.2) (.int .i64 ((al b5 bB).f1))) (fun _ hk=>⟨trivial,hk.1⟩)) hg hat);replace bU:=am (Kd.gh (nR2 bU bL (fun _ hk=>hk.2)) (Kd.qS (nQ1 b7 bF)) (by decide) hg);replace b8:=am (Kd.gh (nR1 b8 bF) (Kd.qS (nQ1 b7 bF)) (by decide) hg);replace b6:=am (Kd.gh (nR2 b6 bL (fun _ hk=>hk.2)) (Kd.qS (nQ1 b7 bF)) (by decide) hg);replace b9:=am (Kd.gh (nR1 b9 bF) (Kd.qS (nQ1 b7 bF)) (by decide) hg);replace b1:=ks b1 hg (Kd.adb b7.out b1.out (by decide));replace b2:=ks b2 hg (Kd.adb b7.out b2.out (by decide));replace bF:=bp_ #[.string ((al b5 bB).f0),.int .i64 ((al b5 bB).f1)] bF hg (Kd.adb b7.out bF.out (by decide));replace HB:=am (hb);clear b7;clear ho hb hg hat))
       go_roundg k3
       case measure=>have:=bV.out;have:=bT.out;have:=gE.out;omega
       case rel=>exact⟨(gL),(wrap64 (bB+1)),oS,H',⟨by have:=bV.out;have:=bT.out;have:=gE.out;omega⟩,⟨by(with_reducible repeat(first|apply Kd.ca|apply Kd.cd|apply Kd.cj));exact Kd.bn b3.out (fun _ hk=>hk.2)⟩,⟨by(with_reducible repeat(first|apply Kd.ik|apply Kd.il|apply Kd.jr));exact gU.out⟩,⟨mR bU⟩,⟨oR b8⟩,⟨mR b6⟩,⟨oR b9⟩,⟨oF b1⟩,⟨oF b2⟩,⟨oB⟩⟩

def cL.j0:Nat→Bool→Int→Int→Int→List Int→List (ey)→List (ct)→Option (Bool)
 |0,_,_,_,_,_,_,_=>none
 |k+1,b7,b5,b1,b2,b3,b4,b6=>if b7=true then(some false)else(if b1=1 then(some ((b4.length:Int)==0))else(if b1=2 then(if(b3.length:Int)=0 then(some (decide (b2≤1)))else(some false))else(some false)))
def cL.f (k:Nat) (br:Int) (aj:Int) (cJ:Int) (cr:List Int) (aK:List (ey)) (cw:List (ct)):Option (Bool):=(ba.f br 1 1000).bind fun b1=>(if b1=true then((ba.f cJ 0 1000).bind fun b2=>(if b2=true then(if((cJ==0) !=(br==1))=true then(cL.j0 k true br aj cJ cr aK cw)else(if(cr.length:Int)>100 then(cL.j0 k true br aj cJ cr aK cw)else((ef.f k aK).bind fun b3=>(if b3=true then((dr.f k cw).bind fun b4=>(cL.j0 k (!b4) br aj cJ cr aK cw))else(cL.j0 k true br aj cJ cr aK cw)))))else(cL.j0 k true br aj cJ cr aK cw)))else(cL.j0 k true br aj cJ cr aK cw))
theorem cL.calls (k:Nat) (br:Int) (aj:Int) (cJ:Int) (fY:Option Addr) (fZ:Nat) (cr:List Int) (fQ:Option Addr) (fR:Nat) (aK:List (ey)) (fJ:Option Addr) (fK:Nat) (cw:List (ct)) (r:Bool) (w:World) (iP:Kd.C (Kd.int .u8) w fY cr.length cr) (iQ:cr.length≤fZ) (iR:Kd.C jc w fQ aK.length aK) (iS:aK.length≤fR) (iT:Kd.C fa w fJ cw.length cw) (iU:cw.length≤fK) (h:cL.f k br aj cJ cr aK cw=some r):
  Calls Tryz.prog 116 #[.agg #[.int .i64 br,.int .i64 aj,.int .i64 cJ,.slice fY cr.length fZ,.slice fQ aK.length fR,.slice fJ cw.length fK]] w fun e w'=>e= .returned (.bool r)∧Below w.heap.size w w':=by
 have bX:=underlying58;have bT:=ae.mk iP;have bU:=ae.mk iQ;clear iP iQ;have b9:=ae.mk iR;have bB:=ae.mk iS;clear iR iS;have bE:=ae.mk iT;have bF:=ae.mk iU;clear iT iU;have HB:=am (Below.refl w.heap.size w);unfold cL.f at h;have H:=h;clear h;have bC:=ae.mk H;clear H
 go_enter func116,ntmps116
 go_upto_region 1 with(first|((with_reducible refine ai (N:=1) rfl ?_);(try(refine aW (by rfl) ?_;dsimp only));refine eh 1 #[.int .i64 br,.int .i64 aj,.int .i64 cJ,.slice fY cr.length fZ,.slice fQ aK.length fR,.slice fJ cw.length fK] 58 ?_;intro bG hg w3 hbox hb;have b1:=am (hbox);have bV:=eg hg;replace HB:=hB HB hb;clear hb hbox hg))
 (try simp only[Act.put,List.setIfInBounds_toArray,List.set_cons_zero,List.set_cons_succ])
 go_cut [39] (fun bR wc=>∃(kq:Nat) (b5:Bool),bR= .bool b5∧ae (cL.j0 kq b5 br aj cJ cr aK cw=some r)∧ae (kq≤k)∧ae (wc.heap[bG]? =some (.cells #[.int .i64 br,.int .i64 aj,.int .i64 cJ,(.slice fY cr.length fZ),(.slice fQ aK.length fR),(.slice fJ cw.length fK)] 58 (0,0)))∧ae (Below w.heap.size w wc))
 case first=>
  have H:=bC.out;clear bC;replace H:=bA H;obtain⟨bY,A4,H⟩:=H
  try dsimp only at H
  replace H:=kN H;rcases H with⟨rfl,H⟩|⟨rfl,H⟩;rotate_left
  ·have H':=ae.mk H;clear H;obtain⟨⟨_,_,_,_,_,_⟩,_,_,_,_,_,_⟩:=z6 b1
   go_wp2_with (first|((with_reducible refine ak (f:=60) rfl ?_);refine fe 5 func60 (ba.calls br 1 1000 false _ A4.out) ?_;rintro e w' ⟨rfl,⟨nd,rfl⟩⟩;refine⟨_,rfl,?_⟩))
   go_meet
   case rel=>exact⟨_,(true),oS,H',⟨by first|omega|exact Nat.le_refl _⟩,⟨oF b1⟩,⟨oB⟩⟩
  replace H:=bA H;obtain⟨bZ,A6,H⟩:=H
  try dsimp only at H
  replace H:=kN H;rcases H with⟨rfl,H⟩|⟨rfl,H⟩;rotate_left
  ·have H':=ae.mk H;clear H;obtain⟨⟨_,_,_,_,_,_⟩,_,_,_,_,_,_⟩:=z6 b1
   go_wp2_with (first|((with_reducible refine ak (f:=60) rfl ?_);refine fe 5 func60 (ba.calls br 1 1000 true _ A4.out) ?_;rintro e w' ⟨rfl,⟨nd,rfl⟩⟩;refine⟨_,rfl,?_⟩)|(go_at_call 60;(with_reducible refine(ba.calls cJ 0 1000 false _ A6.out).mono ?_);rintro e w' ⟨rfl,⟨nd,rfl⟩⟩))
   go_meet
   case rel=>exact⟨_,(true),oS,H',⟨by first|omega|exact Nat.le_refl _⟩,⟨oF b1⟩,⟨oB⟩⟩
  by_cases c8:((cJ==0) !=(br==1))=true
  ·rw[if_pos c8]at H;have b6:((cJ==0) !=(br==1))=true:=c8
   (try(have b7:decide ((cJ==0)=(br==1))=false:=by simpa using c8))
   (try(have b8:((cJ==0)==(br==1))=false:=by simpa using c8))
   (try(have bQ:¬((cJ==0)=(br==1)):=by simpa using c8))
   clear c8
   (first|rw[b6]|rw[b7]|rw[b8]|rw[bQ]|skip)
   have H':=ae.mk H;clear H;obtain⟨⟨_,_,_,_,_,_⟩,_,_,_,_,_,_⟩:=z6 b1
   go_wp2_with (first|((with_reducible refine ak (f:=60) rfl ?_);refine fe 5 func60 (ba.calls br 1 1000 true _ A4.out) ?_;rintro e w' ⟨rfl,⟨nd,rfl⟩⟩;refine⟨_,rfl,?_⟩)|(go_at_call 60;(with_reducible refine(ba.calls cJ 0 1000 true _ A6.out).mono ?_);rintro e w' ⟨rfl,⟨nd,rfl⟩⟩))
   go_meet
   case rel=>exact⟨_,(true),oS,H',⟨by first|omega|exact Nat.le_refl _⟩,⟨oF b1⟩,⟨oB⟩⟩
  rw[if_neg c8]at H
  have b6:((cJ==0) !=(br==1))=false:=by simpa using c8
  (try(have b7:decide ((cJ==0)=(br==1))=true:=by simpa using c8))
  (try(have b8:((cJ==0)==(br==1))=true:=by simpa using c8))
  clear c8
  (first|rw[b6]|rw[b7]|rw[b8]|skip)
  by_cases c10:(cr.length:Int)>100
  ·rw[if_pos c10]at H;have bH:decide (100<(cr.length:Int))=true:=decide_eq_true c10;have bI:decide (100<cr.length)=true:=decide_eq_true (by omega);clear c10;have H':=ae.mk H;clear H;obtain⟨⟨_,_,_,_,_,_⟩,_,_,_,_,_,_⟩:=z6 b1
   go_wp2_with (first|((with_reducible refine ak (f:=60) rfl ?_);refine fe 5 func60 (ba.calls br 1 1000 true _ A4.out) ?_;rintro e w' ⟨rfl,⟨nd,rfl⟩⟩;refine⟨_,rfl,?_⟩)|(go_at_call 60;(with_reducible refine(ba.calls cJ 0 1000 true _ A6.out).mono ?_);rintro e w' ⟨rfl,⟨nd,rfl⟩⟩))
   go_meet
   case rel=>exact⟨_,(true),oS,H',⟨by first|omega|exact Nat.le_refl _⟩,⟨oF b1⟩,⟨oB⟩⟩
  rw[if_neg c10]at H;have bH:decide (100<(cr.length:Int))=false:=decide_eq_false c10;have bI:decide (100<cr.length)=false:=decide_eq_false (by omega);clear c10;replace H:=bA H;obtain⟨d1,bP,H⟩:=H
  try dsimp only at H
  replace H:=kN H;rcases H with⟨rfl,H⟩|⟨rfl,H⟩;rotate_left
  ·have H':=ae.mk H;clear H;obtain⟨⟨_,_,_,_,_,_⟩,_,_,_,_,_,_⟩:=z6 b1
   go_wp2_with (first|((with_reducible refine ak (f:=60) rfl ?_);refine fe 5 func60 (ba.calls br 1 1000 true _ A4.out) ?_;rintro e w' ⟨rfl,⟨nd,rfl⟩⟩;refine⟨_,rfl,?_⟩)|(go_at_call 60;(with_reducible refine(ba.calls cJ 0 1000 true _ A6.out).mono ?_);rintro e w' ⟨rfl,⟨nd,rfl⟩⟩)|(go_at_call 139;(with_reducible refine(ef.calls k _ _ aK false _ (kC b9) bB.out bP.out).mono ?_);rintro e w' ⟨rfl,⟨nd,rfl⟩⟩))
   go_meet
   case rel=>exact⟨_,(true),oS,H',⟨by first|omega|exact Nat.le_refl _⟩,⟨oF b1⟩,⟨oB⟩⟩
  replace H:=bA H;obtain⟨bD,bS,H⟩:=H
  try dsimp only at H
  have H':=ae.mk H;clear H;obtain⟨⟨_,_,_,_,_,_⟩,_,_,_,_,_,_⟩:=z6 b1
  go_wp2_with (first|((with_reducible refine ak (f:=60) rfl ?_);refine fe 5 func60 (ba.calls br 1 1000 true _ A4.out) ?_;rintro e w' ⟨rfl,⟨nd,rfl⟩⟩;refine⟨_,rfl,?_⟩)|(go_at_call 60;(with_reducible refine(ba.calls cJ 0 1000 true _ A6.out).mono ?_);rintro e w' ⟨rfl,⟨nd,rfl⟩⟩)|(go_at_call 139;(with_reducible refine(ef.calls k _ _ aK true _ (kC b9) bB.out bP.out).mono ?_);rintro e w' ⟨rfl,⟨nd,rfl⟩⟩)|(go_at_call 140;(with_reducible refine(dr.calls k _ _ cw bD _ (kC bE) bF.out bS.out).mono ?_);rintro e w' ⟨rfl,⟨nd,rfl⟩⟩))
  go_meet
  case rel=>exact⟨_,(!bD),oS,H',⟨by first|omega|exact Nat.le_refl _⟩,⟨oF b1⟩,⟨oB⟩⟩
 case rest=>
  clear bC;obtain⟨kq,b5,rfl,HA,d2,b1,HB⟩:=hcut
  cases kq with
  |zero=>exact absurd HA.out (by simp[cL.j0])
  |succ wm=>
   have H:=HA.out;clear HA;simp only[cL.j0]at H;replace H:=kN H;rcases H with⟨rfl,H⟩|⟨rfl,H⟩
   ·obtain rfl:=Option.some.inj H
    go_wp2
    go_ret
    exact⟨oE,oB⟩
   by_cases b3:aj=1
   ·rw[if_pos b3]at H;have bJ:(aj==1)=true:=beq_iff_eq.mpr b3;have bK:(aj !=1)=false:=bne_eq_false_iff_eq.mpr b3;clear b3;obtain rfl:=Option.some.inj H;obtain⟨⟨_,_,_,_,_,_⟩,_,_,_,_,_,_⟩:=z6 b1
    go_wp2
    go_ret
    exact⟨oE,oB⟩
   rw[if_neg b3]at H;have bJ:(aj==1)=false:=beq_eq_false_iff_ne.mpr b3;have bK:(aj !=1)=true:=bne_iff_ne.mpr b3
   by_cases b4:aj=2
   rotate_left
   ·rw[if_neg b4]at H;have bL:(aj==2)=false:=beq_eq_false_iff_ne.mpr b4;have bM:(aj !=2)=true:=bne_iff_ne.mpr b4;obtain rfl:=Option.some.inj H;obtain⟨⟨_,_,_,_,_,_⟩,_,_,_,_,_,_⟩:=z6 b1
    go_wp2
    go_ret
    exact⟨oE,oB⟩
   rw[if_pos b4]at H;have bL:(aj==2)=true:=beq_iff_eq.mpr b4;have bM:(aj !=2)=false:=bne_eq_false_iff_eq.mpr b4;clear b4
   by_cases b2:(cr.length:Int)=0
   ·rw[if_pos b2]at H;have bN:((cr.length:Int)==0)=true:=beq_iff_eq.mpr b2;have bO:((cr.length:Int) !=0)=false:=bne_eq_false_iff_eq.mpr b2;clear b2;obtain rfl:=Option.some.inj H;obtain⟨⟨_,_,_,_,_,_⟩,_,_,_,_,_,_⟩:=z6 b1
    go_wp2
    go_ret
    exact⟨oE,oB⟩
   rw[if_neg b2]at H;have bN:((cr.length:Int)==0)=false:=beq_eq_false_iff_ne.mpr b2;have bO:((cr.length:Int) !=0)=true:=bne_iff_ne.mpr b2
   have bW:¬(cr=[]):=fun h_=>b2 (by rw[h_];rfl)
   obtain rfl:=Option.some.inj H;obtain⟨⟨_,_,_,_,_,_⟩,_,_,_,_,_,_⟩:=z6 b1
   go_wp2
   go_ret
   exact⟨oE,oB⟩

theorem adG {α:Type}{d:Kd α}{e:Nat}{W:World}{base:Nat}{ok:Nat→Prop}{v:Value}{xs:List α}(h:Kd.S d e W base ok v xs):
  ∃(rows:List (List Value)) (f:Nat→Nat),rows.length=xs.length∧(Kd.raw d.sz).R e W base (fun k=>v.ownBlock=some k) v rows∧(∀k,v.ownBlock=some k→ok k)∧
   ∀(q:Nat) (x:α),xs[q]? =some x→d.M W base (fun k=>(ok k∧some k≠v.ownBlock)∧f k=q) x (rows.getD q []):=by
 obtain⟨f,hok0,inner,ho,hr⟩:=h
 have hlen:inner.length=xs.length*d.sz:=by have:=hr.1;rw[List.length_zipIdx]at this;exact this
 have hM:∀(q:Nat) (x:α),xs[q]? =some x→d.M W base (fun k=>(ok k∧some k≠v.ownBlock)∧f k=q) x ((inner.drop (q*d.sz)).take d.sz):=fun q x hx=>hr.2 q (x,q) (Kd.nz hx)
 have hrow:∀q,q<xs.length→((List.range xs.length).map fun j=>(inner.drop (j*d.sz)).take d.sz)[q]? =some ((inner.drop (q*d.sz)).take d.sz):=fun q hq=>by
  rw[List.getElem?_map,List.getElem?_range hq];rfl
 refine⟨(List.range xs.length).map fun j=>(inner.drop (j*d.sz)).take d.sz,f,by rw[List.length_map,List.length_range],⟨fun k hk=>hk,inner,?_,?_,fun j p hj=> ?_⟩,hok0,fun q x hx=> ?_⟩
 ·rw[List.length_map,List.length_range];rw[List.length_zipIdx]at ho;exact ho
 ·rw[List.length_map,List.length_range];exact hlen
 ·rw[List.getElem?_map]at hj;obtain⟨j',hj',rfl⟩:=Option.map_eq_some_iff.1 hj;obtain⟨hl,he⟩:=List.getElem?_eq_some_iff.1 hj';rw[List.getElem_range]at he;subst he;rw[List.length_range]at hl;have hm:=d.eI (hM j _ (List.getElem?_eq_getElem hl));exact⟨rfl,d.im hm,d.gu hm⟩
 ·have hq:q<xs.length:=(List.getElem?_eq_some_iff.1 hx).1;rw[List.getD_eq_getElem?_getD,hrow q hq];exact hM q x hx
theorem xn {α:Type}{d:Kd α}{e:Nat}{W:World}{base:Nat}{ok okr:Nat→Prop}{v:Value}{xs:List α}{rows:List (List Value)}(f:Nat→Nat)
  (hraw:(Kd.raw d.sz).R e W base okr v rows) (hlen:rows.length=xs.length) (hok:∀k,v.ownBlock=some k→ok k)
  (hM:∀(q:Nat) (x:α),xs[q]? =some x→d.M W base (fun k=>(ok k∧some k≠v.ownBlock)∧f k=q) x (rows.getD q [])):Kd.S d e W base ok v xs:=by
 obtain⟨_,inner,ho,hr⟩:=hraw;refine⟨f,hok,inner,?_,?_,fun j p hj=> ?_⟩
 ·rw[List.length_zipIdx,←hlen];exact ho
 ·rw[List.length_zipIdx,←hlen];exact hr.1
 ·rw[List.getElem?_zipIdx,Nat.zero_add]at hj;obtain⟨y,hy,rfl⟩:=Option.map_eq_some_iff.1 hj
  have hjl:j<rows.length:=by rw[hlen];exact(List.getElem?_eq_some_iff.1 hy).1
  have hrw:=(hr.2 j _ (List.getElem?_eq_getElem hjl)).1
  show d.M W base _ y ((inner.drop (j*d.sz)).take d.sz)
  rw[show(inner.drop (j*d.sz)).take d.sz=rows[j]from hrw];have:=hM j y hy;rw[List.getD_eq_getElem?_getD,List.getElem?_eq_getElem hjl]at this;exact this
theorem aa1 {α:Type}(l:List α) (x:α) (j q:Nat) (hj:j≤l.length):(l.take j++[x]++l.drop j)[q]? =if q<j then l[q]? else if q=j then some x else l[q-1]? :=by
 have ht:(l.take j).length=j:=by rw[List.length_take];omega
 rw[List.append_assoc]
 by_cases h1:q<j
 ·rw[if_pos h1,List.getElem?_append_left (by omega),List.getElem?_take,if_pos h1]
 rw[if_neg h1,List.getElem?_append_right (by omega),ht]
 by_cases h2:q=j
 ·subst h2;rw[if_pos rfl,Nat.sub_self];rfl
 rw[if_neg h2,show q-j=(q-j-1)+1 by omega];simp only[List.singleton_append,List.getElem?_cons_succ,List.getElem?_drop];rw[show j+(q-j-1)=q-1 by omega]
/-- A row of structs whose element i is written over with a new one (made from N on): a row again. -/
theorem aeb {α:Type}{d:Kd α}{e:Nat}{W W1:World}{base N:Nat}{ok okx okr okf:Nat→Prop}{v:Value}{xs:List α}{rows:List (List Value)}{f:Nat→Nat}{i:Nat}{x:α}{vs:List Value}
  (hraw:(Kd.raw d.sz).R e W1 base okr v (rows.set i vs)) (hlen:rows.length=xs.length) (hi:i<xs.length)
  (hM:∀(q:Nat) (x:α),xs[q]? =some x→d.M W base (fun k=>(ok k∧some k≠v.ownBlock)∧f k=q) x (rows.getD q [])) (hx:d.M W base okx x vs)
  (hv:∀k,v.ownBlock=some k→ok k) (hN:∀k,ok k→k<N) (hxN:∀k,okx k→N≤k) (hof:∀k,ok k∨okx k→okf k)
  (sS:∀k,some k≠v.ownBlock→k<W.heap.size→W1.heap[k]? =W.heap[k]?):Kd.S d e W1 base okf v (xs.set i x):=by
 refine xn (fun k=>if k<N then f k else i) hraw (by rw[List.length_set,List.length_set,hlen]) (fun k hk=>hof k (.inl (hv k hk))) (fun q y hy=> ?_)
 by_cases hq:q=i
 rotate_left
 ·rw[List.getElem?_set_ne (fun e=>hq e.symm)]at hy;rw[List.getD_eq_getElem?_getD,List.getElem?_set_ne (fun e=>hq e.symm),←List.getD_eq_getElem?_getD];exact d.ej (fun k hk=>⟨⟨hof k (.inl hk.1.1),hk.1.2⟩,by rw[if_pos (hN k hk.1.1)];exact hk.2⟩) (Kd.nT (hM q y hy) (fun k hk hlt=>sS k hk.1.2 hlt))
 subst hq;rw[List.getElem?_set_self hi]at hy;injection hy with hy;subst hy;rw[List.getD_eq_getElem?_getD,List.getElem?_set_self (by omega)]
 have hne:∀k,okx k→some k≠v.ownBlock:=fun k hk he=>by have:=hN k (hv k he.symm);have:=hxN k hk;omega
 exact d.ej (fun k hk=>⟨⟨hof k (.inr hk),hne k hk⟩,by rw[if_neg (by have:=hxN k hk;omega)]⟩) (Kd.nT hx (fun k hk hlt=>sS k (hne k hk) hlt))
/-- The same where a new one is set in between. -/
theorem acK {α:Type}{d:Kd α}{e:Nat}{W W1:World}{base N N2:Nat}{ok okx okr okf:Nat→Prop}{v v1:Value}{xs:List α}{rows:List (List Value)}{f:Nat→Nat}{i:Nat}{x:α}{vs:List Value}
  (hraw:(Kd.raw d.sz).R e W1 base okr v1 (rows.take i++[vs]++rows.drop i)) (hlen:rows.length=xs.length) (hi:i≤xs.length)
  (hM:∀(q:Nat) (x:α),xs[q]? =some x→d.M W base (fun k=>(ok k∧some k≠v.ownBlock)∧f k=q) x (rows.getD q [])) (hx:d.M W base okx x vs)
  (hv:∀k,v.ownBlock=some k→ok k) (hv1:v1.ownBlock=v.ownBlock∨∃b,v1.ownBlock=some b∧N2≤b) (hN:∀k,ok k→k<N) (hxN:∀k,okx k→N≤k∧k<N2) (hNN:N≤N2) (hof:∀k,ok k∨okx k∨N2≤k→okf k)
  (sS:∀k,some k≠v.ownBlock→k<W.heap.size→W1.heap[k]? =W.heap[k]?):Kd.S d e W1 base okf v1 (xs.take i++[x]++xs.drop i):=by
 have hl1:(rows.take i++[vs]++rows.drop i).length=(xs.take i++[x]++xs.drop i).length:=by simp only[List.length_append,List.length_take,List.length_drop,List.length_singleton,hlen]
 have hvx:∀k,okx k→some k≠v.ownBlock:=fun k hk he=>by have:=hN k (hv k he.symm);have:=(hxN k hk).1;omega
 have aev:∀k,okx k→some k≠v1.ownBlock:=fun k hk he=>by
  rcases hv1 with h|⟨b,h,hb⟩
  ·exact hvx k hk (he.trans h)
  ·rw[h]at he;injection he with he;have:=(hxN k hk).2;omega
 have aec:∀k,ok k→some k≠v.ownBlock→some k≠v1.ownBlock:=fun k hk hne he=>by
  rcases hv1 with h|⟨b,h,hb⟩
  ·exact hne (he.trans h)
  ·rw[h]at he;injection he with he;have:=hN k hk;omega
 refine xn (fun k=>if k<N then(if f k<i then f k else f k+1)else i) hraw hl1 (fun k hk=> ?_) (fun q y hy=> ?_)
 ·rcases hv1 with h|⟨b,h,hb⟩
  ·exact hof k (.inl (hv k (h▸hk)))
  ·rw[h]at hk;injection hk with hk;exact hof k (.inr (.inr (hk▸hb)))
 ·rw[aa1 xs x i q hi]at hy;rw[List.getD_eq_getElem?_getD,aa1 rows vs i q (by omega)]
  by_cases h1:q<i
  ·rw[if_pos h1]at hy⊢;rw[←List.getD_eq_getElem?_getD];exact d.ej (fun k hk=>⟨⟨hof k (.inl hk.1.1),aec k hk.1.1 hk.1.2⟩,by rw[if_pos (hN k hk.1.1),hk.2,if_pos h1]⟩) (Kd.nT (hM q y hy) (fun k hk hlt=>sS k hk.1.2 hlt))
  rw[if_neg h1]at hy⊢
  by_cases h2:q=i
  ·rw[if_pos h2]at hy⊢;injection hy with hy;subst hy;exact d.ej (fun k hk=>⟨⟨hof k (.inr (.inl hk)),aev k hk⟩,by rw[if_neg (by have:=(hxN k hk).1;omega),h2]⟩) (Kd.nT hx (fun k hk hlt=>sS k (hvx k hk) hlt))
  rw[if_neg h2]at hy⊢;rw[←List.getD_eq_getElem?_getD];exact d.ej (fun k hk=>⟨⟨hof k (.inl hk.1.1),aec k hk.1.1 hk.1.2⟩,by rw[if_pos (hN k hk.1.1),hk.2,if_neg (by omega)];omega⟩) (Kd.nT (hM (q-1) y hy) (fun k hk hlt=>sS k hk.1.2 hlt))
def uW (ino:Int):List bm→Nat→Int
 |[],_=> -1
 |x::l,i=>if ino<x.f0 then(i:Int)else uW ino l (i+1)
theorem aa2.calls (ino a b c:Int) (A3 A4 A5:Option Addr) (n3 c3 n4 c4 n5 c5:Nat) (B:Nat) (W:World) (hB:B<W.heap.size) (hc:W.cell? ⟨B,0,none⟩=some (.int .i64 ino)):
  Calls Tryz.prog 101 #[.agg #[.int .i64 a,.int .i64 b,.int .i64 c,.slice A3 n3 c3,.slice A4 n4 c4,.slice A5 n5 c5],.pointer (some ⟨B,0,none⟩)] W fun e w'=>e= .returned (.bool (decide (ino<a)))∧Below W.heap.size W w':=by
 have hne:B≠W.heap.size:=by omega
 go_enter func101,ntmps101
 go_wp2
 all_goals(go_ret;exact⟨by simp_all,(Below.refl _ W).alloc (Nat.le_refl _) _⟩)
theorem aa3 (l:List bm) (k:Nat) (h:k<l.length):af l (k:Int)=l[k]:=by
 simp[af,List.getD_eq_getElem?_getD,List.getElem?_eq_getElem h]
theorem acm (ino:Int) (l:List bm) (k j:Nat) (h:k<l.length) (hit:ino<(af l (k:Int)).f0):uW ino (l.drop k) j=(j:Int):=by
 rw[List.drop_eq_getElem_cons h,uW,if_pos (by rw[←aa3 l k h];exact hit)]
theorem aa4 (ino:Int) (l:List bm) (k j:Nat) (h:k<l.length) (hit:¬ino<(af l (k:Int)).f0):uW ino (l.drop k) j=uW ino (l.drop (k+1)) (j+1):=by
 rw[List.drop_eq_getElem_cons h,uW,if_neg (by rw[←aa3 l k h];exact hit)]
theorem adH.calls (ino:Int) (A0:Option Addr) (c0:Nat) (l:List bm) (B:Nat) (w:World) (hr:fN.C w A0 l.length l) (hB:B<w.heap.size) (hc:w.cell? ⟨B,0,none⟩=some (.int .i64 ino)) (hl:l.length≤9223372036854775807):
  Calls Tryz.prog 100 #[.slice A0 l.length c0,.func (.func 101) #[] #[.pointer (some ⟨B,0,none⟩)]] w fun e w'=>e= .returned (.int .i64 (uW ino l 0))∧Below w.heap.size w w':=by
 go_enter func100,ntmps100
 go_wp2
 go_loopg [5,8] l.length (fun gg _ s8 wr=>∃kk:Nat,kk≤l.length∧l.length-kk≤gg∧s8= .int .i64 kk∧ae (Below w.heap.size w wr)∧ae (uW ino l 0=uW ino (l.drop kk) kk))
 case atStart=>exact⟨0,Nat.zero_le _,by omega,rfl,⟨Below.refl _ w⟩,⟨rfl⟩⟩
 case round=>
  obtain⟨kk,hkk,hg,rfl,BW,A⟩:=hrel
  by_cases hlt:kk<l.length
  rotate_left
  ·have hltz:¬(kk:Int)<(l.length:Int):=by omega
   obtain rfl:kk=l.length:=by omega
   go_wp2
   go_ret
   exact⟨by rw[A.out,List.drop_length];rfl,BW.out⟩
  have hltz:(kk:Int)<(l.length:Int):=by omega
  obtain⟨ad,A3,c3,A4,c4,A5,c5,e0,h0,h1,h2,h3,h4,h5,_⟩:=fI (Kd.de hr BW.out) (kk:Int) (by omega) hltz
  cases e0
  rw[Int.toNat_natCast]at h0 h1 h2 h3 h4 h5;have hBw:B<wr.heap.size:=Nat.lt_of_lt_of_le hB BW.out.size;have hcw:wr.cell? ⟨B,0,none⟩=some (.int .i64 ino):=(BW.out.cell (p:=⟨B,0,none⟩) hB).trans hc
  by_cases hit:ino<(af l (kk:Int)).f0
  ·have hq:decide (ino<(af l (kk:Int)).f0)=true:=by simpa using hit
   go_wp2_with (go_at_call 101;refine(aa2.calls ino _ _ _ _ _ _ _ _ _ _ _ _ B wr hBw hcw).mono ?_;rintro e w' ⟨rfl,hb'⟩;rw[hq])
   go_ret
   exact⟨by rw[A.out,acm ino l kk kk hlt (by omega)];rfl,iC BW.out BW.out.size hb'⟩
  have hq:decide (ino<(af l (kk:Int)).f0)=false:=by simpa using hit
  go_wp2_with (go_at_call 101;refine(aa2.calls ino _ _ _ _ _ _ _ _ _ _ _ _ B wr hBw hcw).mono ?_;rintro e w' ⟨rfl,hb'⟩;rw[hq])
  go_roundg (l.length-(kk+1))
  case measure=>omega
  case rel=>exact⟨kk+1,by omega,by omega,by go_num,⟨iC BW.out BW.out.size hb'⟩,⟨by rw[A.out,aa4 ino l kk kk hlt (by omega)]⟩⟩
theorem aa5 (ino:Int) (l:List bm):∀j:Nat,uW ino l j= -1∨∃i:Nat,uW ino l j=((j+i:Nat):Int)∧i<l.length:=by
 induction l with
 |nil=>intro j;exact .inl rfl
 |cons x l ih=>
  intro j;rw[uW]
  by_cases c:ino<x.f0
  ·rw[if_pos c];exact .inr ⟨0,by simp,by simp⟩
  rw[if_neg c];rcases ih (j+1)with h1|⟨i,h1,h2⟩
  ·exact .inl h1
  ·exact .inr ⟨i+1,by rw[h1];congr 1;omega,by simpa using h2⟩
theorem uX (ino:Int) (l:List bm):∀j:Nat,cy ino l j= -1∨∃i:Nat,cy ino l j=((j+i:Nat):Int)∧i<l.length:=by
 induction l with
 |nil=>intro j;exact .inl rfl
 |cons x l ih=>
  intro j;rw[cy]
  by_cases c:x.f0=ino
  ·rw[if_pos c];exact .inr ⟨0,by simp,by simp⟩
  rw[if_neg c];rcases ih (j+1)with h1|⟨i,h1,h2⟩
  ·exact .inl h1
  ·exact .inr ⟨i+1,by rw[h1];congr 1;omega,by simpa using h2⟩
def gtP (ino:Int) (l:List bm):Nat:=if uW ino l 0<0 then l.length else(uW ino l 0).toNat
def lW (x:bm) (l:List bm):List bm:=if 0≤cy x.f0 l 0 then l.set (cy x.f0 l 0).toNat x else l.take (gtP x.f0 l)++[x]++l.drop (gtP x.f0 l)
theorem qW {W W1:World}{g:Nat}{o:Obj}{v:Value}(h:ae (W.heap[g]? =some o)) (hg:W.grownBy W1 v.ownBlock) (hn:some g≠v.ownBlock):ae (W1.heap[g]? =some o):=⟨oq h.out hg hn⟩
theorem wo {w:World}{base sz:Nat}{ok:Nat→Prop}{c' seg:List Value}(hc:c'.length=sz) (hs:seg.length=sz) (h1:∀v∈seg,v.oneCell'=true):(Kd.raw sz).M w base ok seg (c'.take 0++seg++c'.drop (0+seg.length)):=by
 have e:c'.take 0++seg++c'.drop (0+seg.length)=seg:=by rw[Nat.zero_add,hs,←hc,List.drop_length];simp
 exact⟨e,by rw[e];exact hs,by rw[e];exact h1⟩
theorem aa6 {W W1:World}{g g':Nat}{o:Obj}(h:ae (W.heap[g]? =some o)) (hg:W.grownBy W1 (some g')) (hn:¬(g=g')):ae (W1.heap[g]? =some o):=⟨oq h.out hg (by intro he;injection he with he;exact hn he)⟩
theorem aew {W:World}{g:Nat}{t:TypeId}{a0 a1 a2 a3 a4 a5:Value}(h:W.heap[g]? =some (.cells #[a0,a1,a2,a3,a4,a5] t (0,0))) (v0 v1 v2 v3 v4 v5:Value):
  ((((((W.setCell ⟨g,0,none⟩ v0).setCell ⟨g,1,none⟩ v1).setCell ⟨g,2,none⟩ v2).setCell ⟨g,3,none⟩ v3).setCell ⟨g,4,none⟩ v4).setCell ⟨g,5,none⟩ v5).heap[g]? =some (.cells #[v0,v1,v2,v3,v4,v5] t (0,0))∧
   (∀k,k≠g→((((((W.setCell ⟨g,0,none⟩ v0).setCell ⟨g,1,none⟩ v1).setCell ⟨g,2,none⟩ v2).setCell ⟨g,3,none⟩ v3).setCell ⟨g,4,none⟩ v4).setCell ⟨g,5,none⟩ v5).heap[k]? =W.heap[k]?)∧
   ((((((W.setCell ⟨g,0,none⟩ v0).setCell ⟨g,1,none⟩ v1).setCell ⟨g,2,none⟩ v2).setCell ⟨g,3,none⟩ v3).setCell ⟨g,4,none⟩ v4).setCell ⟨g,5,none⟩ v5).heap.size=W.heap.size:=
 ⟨by
  refine iH (cs:= #[v0,v1,v2,v3,v4,a5]) ?_ 5 _ rfl;refine iH (cs:= #[v0,v1,v2,v3,a4,a5]) ?_ 4 _ rfl;refine iH (cs:= #[v0,v1,v2,a3,a4,a5]) ?_ 3 _ rfl;refine iH (cs:= #[v0,v1,a2,a3,a4,a5]) ?_ 2 _ rfl;refine iH (cs:= #[v0,a1,a2,a3,a4,a5]) ?_ 1 _ rfl
  exact iH h 0 _ rfl,
 fun k hk=>by rw[Below.heap_setCell _ _ _ _ hk,Below.heap_setCell _ _ _ _ hk,Below.heap_setCell _ _ _ _ hk,Below.heap_setCell _ _ _ _ hk,Below.heap_setCell _ _ _ _ hk,Below.heap_setCell _ _ _ _ hk],by simp[World.setCell]⟩
def cC.f (k:Nat) (ag:List bm) (aj b0 b1 b2:Int) (m3:List Int) (m4:List ey) (m5:List ct):Option (List bm×Int):=(ck.f k ag aj).bind fun t=>(eD.f b0 b1 b2 m3 m4 m5).bind fun y=>if t.1.length≤1466015503700 then some (lW ⟨y.1,y.2.1,y.2.2.1,y.2.2.2.1,y.2.2.2.2.1,y.2.2.2.2.2⟩ t.1,t.2)else none
theorem cC.calls (k:Nat) (bo:Option Addr) (bg:Nat) (ag:List bm) (aj b0 b1 b2:Int) (kg:Option Addr) (ki:Nat) (m3:List Int) (kj:Option Addr) (km:Nat) (m4:List ey) (kn:Option Addr) (kp:Nat) (m5:List ct) (r1:List bm) (r2:Int) (w:World)
  (cv:Kd.C fN w bo ag.length ag) (cA:ag.length≤bg) (qt:Kd.C (Kd.int .u8) w kg m3.length m3) (qu:m3.length≤ki) (qv:Kd.C jc w kj m4.length m4) (qw:m4.length≤km) (qx:Kd.C fa w kn m5.length m5) (qy:m5.length≤kp) (h:cC.f k ag aj b0 b1 b2 m3 m4 m5=some (r1,r2)):
  Calls Tryz.prog 58 #[.agg #[.slice bo ag.length bg,.int .i64 aj],.agg #[.int .i64 b0,.int .i64 b1,.int .i64 b2,.slice kg m3.length ki,.slice kj m4.length km,.slice kn m5.length kp]] w fun e w'=>∃iV:Value,e= .returned (.agg #[iV,.int .i64 r2])∧Kd.S fN 58 w' w.heap.size (fun _=>True) iV r1∧Below w.heap.size w w':=by
 unfold cC.f at h;replace h:=bA h;obtain⟨⟨t1,t2⟩,H1,h⟩:=h;replace h:=bA h;obtain⟨⟨y0,y1,y2,y3,y4,y5⟩,H2,h⟩:=h
 split at h
 case isFalse=>cases h
 case isTrue hl=>
 simp only[Option.some.injEq,Prod.mk.injEq]at h;obtain⟨bS,rfl⟩:=h;have hl':t1.length≤1466015503700:=hl;clear hl;have HL:=ae.mk hl';have bE:=ae.mk bS;clear hl' bS;have bZ:=ae.mk cv;have d1:=ae.mk cA;have d2:=ae.mk qt;have d3:=ae.mk qu;have d4:=ae.mk qv;have d5:=ae.mk qw;have d6:=ae.mk qx;have d7:=ae.mk qy;clear cv cA qt qu qv qw qx qy;have HB:=am (Below.refl w.heap.size w)
 go_enter func58,ntmps58
 go_wp2_with fail
 refine(ck.calls k _ _ ag aj t1 t2 _ (kC bZ) d1.out H1.out).mono ?_;rintro e w2 ⟨v0,rfl,hs,hb⟩;obtain⟨A,c,rfl⟩:=Kd.eM hs;have KT:=am (fE (aG (aG (iZ _ _) _) _) hb);have KI:=am (fE (aG (iZ _ _) _) hb);have KR:=am (fE (iZ _ _) hb);simp only[World.size_alloc]at KI KR;have S1:=vH hs (w.heap.size+3) w.heap.size (by simp) (by simp only[World.size_alloc];omega)
 have n1:w.heap.size+3≤w2.heap.size:=by have:=hb.size;simpa using this
 replace HB:=am (fM (aX (aX (aX (Below.refl _ _) _) _) _) hb);clear hs hb;have zt:=z2 KT;have zi:=z6 KI;have zr:=z2 KR;have bF:=am (show((w2.setCell ⟨w.heap.size,0,none⟩ (.slice A t1.length c)).setCell ⟨w.heap.size,1,none⟩ (.int .i64 t2)).heap[w.heap.size]? =some (.cells #[.slice A t1.length c,.int .i64 t2] 28 (0,0)) by simpa using pD (pD KT.out 0 (.slice A t1.length c)) 1 (.int .i64 t2));have bG:=am (show((w2.setCell ⟨w.heap.size,0,none⟩ (.slice A t1.length c)).setCell ⟨w.heap.size,1,none⟩ (.int .i64 t2)).heap[w.heap.size+1]? =some (.cells #[.int .i64 b0,.int .i64 b1,.int .i64 b2,.slice kg m3.length ki,.slice kj m4.length km,.slice kn m5.length kp] 58 (0,0)) by rw[Below.heap_setCell _ _ _ _ (by simp),Below.heap_setCell _ _ _ _ (by simp)];exact KI.out);have bH:=am (show((w2.setCell ⟨w.heap.size,0,none⟩ (.slice A t1.length c)).setCell ⟨w.heap.size,1,none⟩ (.int .i64 t2)).heap[w.heap.size+1+1]? =some (.cells #[.slice none 0 0,.int .i64 0] 28 (0,0)) by rw[Below.heap_setCell _ _ _ _ (by simp;omega),Below.heap_setCell _ _ _ _ (by simp;omega)];exact KR.out);have b8:=am ((HB.out.setCell (p:=⟨w.heap.size,0,none⟩) (Nat.le_refl _) (.slice A t1.length c)).setCell (p:=⟨w.heap.size,1,none⟩) (Nat.le_refl _) (.int .i64 t2));have S3:=am (Kd.eS (p:=⟨w.heap.size,1,none⟩) (Kd.eS (p:=⟨w.heap.size,0,none⟩) S1.out (fun k hk=>by have:=hk.1;dsimp only;omega) (.slice A t1.length c)) (fun k hk=>by have:=hk.1;dsimp only;omega) (.int .i64 t2))
 go_wp2_with fail
 have bI:((w2.setCell ⟨w.heap.size,0,none⟩ (.slice A t1.length c)).setCell ⟨w.heap.size,1,none⟩ (.int .i64 t2)).heap.size=w2.heap.size:=by simp[World.setCell]
 generalize d8:((w2.setCell ⟨w.heap.size,0,none⟩ (.slice A t1.length c)).setCell ⟨w.heap.size,1,none⟩ (.int .i64 t2))=W3 at bF bG bH b8 S3 bI⊢;clear d8 zt zi zr KT KI KR S1 HB;refine(eD.calls b0 b1 b2 _ _ m3 _ _ m4 _ _ m5 y0 y1 y2 y3 y4 y5 W3 (Kd.de d2.out b8.out) d3.out (Kd.de d4.out b8.out) d5.out (Kd.de d6.out b8.out) d7.out H2.out).mono ?_;rintro e w4 ⟨v3,v4,v5,rfl,g3,g4,g5,hb⟩;have KT:=am (fE bF.out hb);have KI:=am (fE bG.out hb);have KR:=am (fE bH.out hb);have HB:=am (fM b8.out hb);have S4:=am (Kd.iY S3.out hb)
 have n4:w2.heap.size≤w4.heap.size:=by have:=hb.size;omega
 have G3:=ac2 g3 w2.heap.size w.heap.size (by omega) (by omega);have G4:=ac2 g4 w2.heap.size w.heap.size (by omega) (by omega);have G5:=ac2 g5 w2.heap.size w.heap.size (by omega) (by omega);clear hb bF bG bH b8 S3 g3 g4 g5 bI;obtain⟨A3,c3,rfl⟩:=Kd.ax G3.out;obtain⟨A4,c4,rfl⟩:=Kd.ax G4.out;obtain⟨A5,c5,rfl⟩:=Kd.ax G5.out;have zt:=z2 KT;have zi:=z6 KI
 have dI:¬(w.heap.size=w.heap.size+1):=by omega
 have dJ:¬(w.heap.size+1=w.heap.size):=by omega
 go_wp2_with fail
 obtain⟨p1,p2,p3⟩:=aew KI.out (.int .i64 y0) (.int .i64 y1) (.int .i64 y2) (.slice A3 y3.length c3) (.slice A4 y4.length c4) (.slice A5 y5.length c5);have bJ:=am ((((((HB.out.setCell (p:=⟨w.heap.size+1,0,none⟩) (by dsimp only;omega) (.int .i64 y0)).setCell (p:=⟨w.heap.size+1,1,none⟩) (by dsimp only;omega) (.int .i64 y1)).setCell (p:=⟨w.heap.size+1,2,none⟩) (by dsimp only;omega) (.int .i64 y2)).setCell (p:=⟨w.heap.size+1,3,none⟩) (by dsimp only;omega) (.slice A3 y3.length c3)).setCell (p:=⟨w.heap.size+1,4,none⟩) (by dsimp only;omega) (.slice A4 y4.length c4)).setCell (p:=⟨w.heap.size+1,5,none⟩) (by dsimp only;omega) (.slice A5 y5.length c5));generalize d9:((((((w4.setCell ⟨w.heap.size+1,0,none⟩ (.int .i64 y0)).setCell ⟨w.heap.size+1,1,none⟩ (.int .i64 y1)).setCell ⟨w.heap.size+1,2,none⟩ (.int .i64 y2)).setCell ⟨w.heap.size+1,3,none⟩ (.slice A3 y3.length c3)).setCell ⟨w.heap.size+1,4,none⟩ (.slice A4 y4.length c4)).setCell ⟨w.heap.size+1,5,none⟩ (.slice A5 y5.length c5))=W5 at p1 p2 p3 bJ⊢;have bT:=am ((p2 w.heap.size (by omega)).trans KT.out);have bU:=am ((p2 (w.heap.size+1+1) (by omega)).trans KR.out);have bV:=ae.mk p1;have S5:=am (Kd.rz S4.out (fun k hk _=>p2 k (by have:=hk.1;omega)));replace G3:=am (Kd.ny G3.out (fun k hk _=>p2 k (by have:=hk.1;omega)));replace G4:=am (Kd.ny G4.out (fun k hk _=>p2 k (by have:=hk.1;omega)));replace G5:=am (Kd.ny G5.out (fun k hk _=>p2 k (by have:=hk.1;omega)));clear d9 p1 p2 KT KI KR HB S4 zt zi
 have aa7:eA.f k t1 t2 y0=some (cy y0 t1 0):=by unfold eA.f;rw[if_pos (by have:=HL.out;omega)]
 refine(eA.calls k _ _ t1 t2 y0 _ W5 (Kd.kr S5.out).2.2 (rl S5) aa7).mono ?_;rintro e w6 ⟨rfl,hb⟩
 replace n4:w2.heap.size≤w6.heap.size∧w4.heap.size≤w6.heap.size:=by have:=hb.size;omega
 have KT:=am (fE bT.out hb);have KI:=am (fE bV.out hb);have KR:=am (fE bU.out hb);have HB:=am (fM bJ.out hb);have S6:=am (Kd.iY S5.out hb);replace G3:=am (Kd.iX G3.out hb);replace G4:=am (Kd.iX G4.out hb);replace G5:=am (Kd.iX G5.out hb);clear hb bT bV bU bJ S5 aa7 p3;have zt:=z2 KT;have zi:=z6 KI;have zr:=z2 KR;obtain⟨rows,f,hrl,hraw,hPg,hM⟩:=adG S6.out;have HX:=am (ou w6 w.heap.size (fun k=>w2.heap.size≤k∧k<w4.heap.size) (⟨y0,y1,y2,y3,y4,y5⟩:bm) G3.out G4.out G5.out);have wq:=ae.mk hraw;have HM:=ae.mk hM;have HP:=ae.mk hPg;have HRL:=ae.mk hrl;clear G3 G4 G5 hraw hM hPg hrl;rcases uX y0 t1 0 with hp|⟨i,hp,hit⟩
 case inr=>
  rw[Nat.zero_add]at hp;rw[hp];obtain⟨g,cap,ev,gb,_,_⟩:=Kd.v_ S6.out (by omega);injection ev with ea en ec;subst ea;clear en ec
  have hltz:(i:Int)<(t1.length:Int):=by omega
  have bW:(0:Int)≤(i:Int):=by omega
  have dK:=HP.out g rfl
  have dA:¬(w.heap.size=g):=by omega
  have dL:¬(w.heap.size+1=g):=by omega
  have dB:¬(w.heap.size+1+1=g):=by omega
  have aa8:=am (fN.gu (fN.eI HX.out));obtain⟨c',hcl',hcm',xX,_⟩:=Kd.gm wq.out [] (i:Int) bW hltz;have HCC:=ae.mk xX;have HCL:=ae.mk hcl';clear xX hcm' hcl'
  go_wp2_with ((with_reducible refine eK (t:=58) (p:=21) rfl ?_);refine Kd.ab4 (Kd.raw fN.sz) w.heap.size rfl rfl 58 (.tmp 21) (.tmp 20) rfl 58 (i:Int) 0 rows [.int .i64 y0,.int .i64 y1,.int .i64 y2,.slice A3 y3.length c3,.slice A4 y4.length c4,.slice A5 y5.length c5] (.agg [.int .i64 y0,.int .i64 y1,.int .i64 y2,.slice A3 y3.length c3,.slice A4 y4.length c4,.slice A5 y5.length c5].toArray) [.int .i64 y0,.int .i64 y1,.int .i64 y2,.slice A3 y3.length c3,.slice A4 y4.length c4,.slice A5 y5.length c5] c' _ (fun _=>False) rfl (by simp;rfl) rfl rfl (by kernel_rfl) aa8.out wq.out bW hltz HCL.out HCC.out (Nat.le_refl _) (wo HCL.out rfl aa8.out) (fun _ hk=>hk.elim) HB.out ?_;intro w7 b9 bX bD;have dC:=ae.mk b9;have dD:=ae.mk bX;have dE:=ae.mk bD;have dF:=aa6 KT bD dA;have bY:=aa6 KR bD dB;replace zt:=z2 dF;replace zr:=z2 bY;clear b9 bX bD)
  have b9:=dC.out;rw[Int.toNat_natCast]at b9;have bK:=aeb (okf:=fun k=>w.heap.size+3≤k) (N:=w2.heap.size) b9 HRL.out hit HM.out HX.out HP.out (fun k hk=>hk.2) (fun k hk=>hk.1) (fun k hk=>by rcases hk with h|h;exact h.1;have:=h.1;omega) (fun k hne hlt=>dE.out.block k hlt hne)
  have hres:lW (⟨y0,y1,y2,y3,y4,y5⟩:bm) t1=t1.set i ⟨y0,y1,y2,y3,y4,y5⟩:=by
   unfold lW;dsimp only;rw[hp,if_pos (by omega),Int.toNat_natCast]
  rw[bE.out]at hres;rw[←hres]at bK;have dG:=ae.mk bK;clear bK b9 hres
  try simp only[Exit.inBlock,Exit.then]
  refine bodyPost_ret (results_cell_row rfl _ _ (w.heap.size+1+1) 28 #[.slice (some ⟨g,0,none⟩) t1.length c,.int .i64 t2] (0,0) _ rfl (by refine iH (cs:= #[.slice (some ⟨g,0,none⟩) t1.length c,.int .i64 0]) ?_ 1 _ rfl;refine iH (cs:= #[.slice none 0 0,.int .i64 0]) ?_ 0 _ rfl;exact bY.out) underlying28 rfl (by kernel_rfl)) rfl ?_;refine⟨_,rfl,?_,?_⟩
  ·exact Kd.cS (Kd.eS (Kd.eS dG.out (fun k hk=>by dsimp only;omega) _) (fun k hk=>by dsimp only;omega) _) (fun _ _=>trivial)
  ·exact(dD.out.setCell (by dsimp only;omega) _).setCell (by dsimp only;omega) _
 case inl=>
  rw[hp]
  go_wp2_with fail
  refine(adH.calls y0 A c t1 (w.heap.size+1) w6 (Kd.kr S6.out).2.2 (ie KI.out) zi.1.1 (by have:=HL.out;omega)).mono ?_;rintro e w7 ⟨rfl,hb⟩;have b4:=ae.mk hb.size;have bL:=ae.mk hb;replace KT:=am (fE KT.out hb);replace KI:=am (fE KI.out hb);replace KR:=am (fE KR.out hb);replace HB:=am (fM HB.out hb);replace wq:=am (Kd.iX wq.out hb);have aa8:=am (fN.gu (fN.eI HX.out));have HVB:=am (show some w7.heap.size≠(Value.slice A t1.length c).ownBlock from fun he=>by have:=Kd.xz wq.out _ he.symm;omega);have HWB:=am (show w.heap.size≤(w7.alloc (.cells #[.int .i64 y0,.int .i64 y1,.int .i64 y2,.slice A3 y3.length c3,.slice A4 y4.length c4,.slice A5 y5.length c5] 58)).heap.size by have:=b4.out;rw[World.size_alloc];omega);have HLB:=am (show(t1.length+1)*96≤140737488355328 by have:=HL.out;omega);have NT:=am (show some w.heap.size≠(Value.slice A t1.length c).ownBlock from fun he=>by have:=(HP.out _ he.symm).1;omega);have NR:=am (show some (w.heap.size+1+1)≠(Value.slice A t1.length c).ownBlock from fun he=>by have:=(HP.out _ he.symm).1;omega);clear hb S6;have dH:=KT;replace KT:=am (aG KT.out (.cells #[.int .i64 y0,.int .i64 y1,.int .i64 y2,.slice A3 y3.length c3,.slice A4 y4.length c4,.slice A5 y5.length c5] 58));replace KR:=am (aG KR.out (.cells #[.int .i64 y0,.int .i64 y1,.int .i64 y2,.slice A3 y3.length c3,.slice A4 y4.length c4,.slice A5 y5.length c5] 58));have zt':=z2 KT;have zi:=z6 KI;have zt:=z2 dH;rcases aa5 y0 t1 0 with hgt|⟨j,hgt,hjt⟩
  case inl=>
   rw[hgt];have HJ:=am (Nat.le_refl t1.length)
   go_wp2_with (go_at_call 102;refine(uN.calls A t1.length c t1.length w7.heap.size w.heap.size (fun k=>(Value.slice A t1.length c).ownBlock=some k) rows [.int .i64 y0,.int .i64 y1,.int .i64 y2,.slice A3 y3.length c3,.slice A4 y4.length c4,.slice A5 y5.length c5] w _ HJ.out HRL.out (Kd.iX wq.out (aX (Below.refl _ _) _)) (iZ w7 _) HVB.out rfl aa8.out (aX HB.out _) HWB.out HLB.out).mono ?_;rintro e w8 ⟨v',rfl,b5,bB,b3,b6⟩;have bM:=ae.mk b5;have bN:=ae.mk bB;have bO:=ae.mk b3;have bP:=ae.mk b6;have bQ:=qW KT b3 NT.out;have bC:=qW KR b3 NR.out;replace zt:=z2 bQ;replace zr:=z2 bC;obtain⟨A',n',c',rfl⟩:∃A' n' c',v'=Value.slice A' n' c':=(by obtain⟨A',c',hs⟩:=Kd.ax b5;exact⟨_,_,_,hs⟩);clear b5 bB b3 b6)
   have b7:=acK (okf:=fun k=>w.heap.size+3≤k) (N:=w2.heap.size) (N2:=w6.heap.size) bM.out HRL.out HJ.out HM.out HX.out HP.out (by rcases bP.out with h|⟨b,h,hb⟩;exact .inl h;exact .inr ⟨b,h,by have:=b4.out;rw[World.size_alloc]at hb;omega⟩) (fun k hk=>hk.2) (fun k hk=>⟨hk.1,by have:=hk.2;omega⟩) (by omega) (fun k hk=>by rcases hk with h|h|h;exact h.1;have:=h.1;omega;omega) (fun k hne hlt=>by rw[bO.out.block k (by have:=b4.out;rw[World.size_alloc];omega) hne,Below.heap_alloc _ _ _ (by have:=b4.out;omega)];exact bL.out.block k hlt)
   have hres:lW (⟨y0,y1,y2,y3,y4,y5⟩:bm) t1=t1.take t1.length++[⟨y0,y1,y2,y3,y4,y5⟩]++t1.drop t1.length:=by
    unfold lW gtP;dsimp only;rw[hp,if_neg (by omega)];rw[if_pos (by rw[hgt];omega)]
   rw[bE.out]at hres;rw[←hres]at b7;have bR:=ae.mk b7;clear b7 hres
   try simp only[Exit.inBlock,Exit.then]
   refine bodyPost_ret (results_cell_row rfl _ _ (w.heap.size+1+1) 28 #[.slice A' n' c',.int .i64 t2] (0,0) _ rfl (by refine iH (cs:= #[.slice A' n' c',.int .i64 0]) ?_ 1 _ rfl;refine iH (cs:= #[.slice none 0 0,.int .i64 0]) ?_ 0 _ rfl;rw[Below.heap_setCell _ _ _ _ (by simp;omega)];exact bC.out) underlying28 rfl (by kernel_rfl)) rfl ?_;refine⟨_,rfl,?_,?_⟩
   ·exact Kd.cS (Kd.eS (Kd.eS (Kd.eS bR.out (fun k hk=>by dsimp only;omega) _) (fun k hk=>by dsimp only;omega) _) (fun k hk=>by dsimp only;omega) _) (fun _ _=>trivial)
   ·exact((bN.out.setCell (by dsimp only;omega) _).setCell (by dsimp only;omega) _).setCell (by dsimp only;omega) _
  case inr=>
   rw[Nat.zero_add]at hgt;rw[hgt];have HJ:=am (Nat.le_of_lt hjt)
   go_wp2_with (go_at_call 102;refine(uN.calls A t1.length c j w7.heap.size w.heap.size (fun k=>(Value.slice A t1.length c).ownBlock=some k) rows [.int .i64 y0,.int .i64 y1,.int .i64 y2,.slice A3 y3.length c3,.slice A4 y4.length c4,.slice A5 y5.length c5] w _ HJ.out HRL.out (Kd.iX wq.out (aX (Below.refl _ _) _)) (iZ w7 _) HVB.out rfl aa8.out (aX HB.out _) HWB.out HLB.out).mono ?_;rintro e w8 ⟨v',rfl,b5,bB,b3,b6⟩;have bM:=ae.mk b5;have bN:=ae.mk bB;have bO:=ae.mk b3;have bP:=ae.mk b6;have bQ:=qW KT b3 NT.out;have bC:=qW KR b3 NR.out;replace zt:=z2 bQ;replace zr:=z2 bC;obtain⟨A',n',c',rfl⟩:∃A' n' c',v'=Value.slice A' n' c':=(by obtain⟨A',c',hs⟩:=Kd.ax b5;exact⟨_,_,_,hs⟩);clear b5 bB b3 b6)
   have b7:=acK (okf:=fun k=>w.heap.size+3≤k) (N:=w2.heap.size) (N2:=w6.heap.size) bM.out HRL.out HJ.out HM.out HX.out HP.out (by rcases bP.out with h|⟨b,h,hb⟩;exact .inl h;exact .inr ⟨b,h,by have:=b4.out;rw[World.size_alloc]at hb;omega⟩) (fun k hk=>hk.2) (fun k hk=>⟨hk.1,by have:=hk.2;omega⟩) (by omega) (fun k hk=>by rcases hk with h|h|h;exact h.1;have:=h.1;omega;omega) (fun k hne hlt=>by rw[bO.out.block k (by have:=b4.out;rw[World.size_alloc];omega) hne,Below.heap_alloc _ _ _ (by have:=b4.out;omega)];exact bL.out.block k hlt)
   have hres:lW (⟨y0,y1,y2,y3,y4,y5⟩:bm) t1=t1.take j++[⟨y0,y1,y2,y3,y4,y5⟩]++t1.drop j:=by
    unfold lW gtP;dsimp only;rw[hp,if_neg (by omega)];rw[if_neg (by rw[hgt];omega),hgt,Int.toNat_natCast]
   rw[bE.out]at hres;rw[←hres]at b7;have bR:=ae.mk b7;clear b7 hres
   try simp only[Exit.inBlock,Exit.then]
   refine bodyPost_ret (results_cell_row rfl _ _ (w.heap.size+1+1) 28 #[.slice A' n' c',.int .i64 t2] (0,0) _ rfl (by refine iH (cs:= #[.slice A' n' c',.int .i64 0]) ?_ 1 _ rfl;refine iH (cs:= #[.slice none 0 0,.int .i64 0]) ?_ 0 _ rfl;rw[Below.heap_setCell _ _ _ _ (by simp;omega)];exact bC.out) underlying28 rfl (by kernel_rfl)) rfl ?_;refine⟨_,rfl,?_,?_⟩
   ·exact Kd.cS (Kd.eS (Kd.eS (Kd.eS bR.out (fun k hk=>by dsimp only;omega) _) (fun k hk=>by dsimp only;omega) _) (fun k hk=>by dsimp only;omega) _) (fun _ _=>trivial)
   ·exact((bN.out.setCell (by dsimp only;omega) _).setCell (by dsimp only;omega) _).setCell (by dsimp only;omega) _
def fg.l0:Nat→Int→List ByteArray→Int→Int→List (bm)→Int→Option (Int×Int)
 |0,_,_,_,_,_,_=>none
 |k+1,x8,b5,b7,b4,b2,b3=>if b4<b7 then(if 0≤b4 then(if b4<(b5.length:Int)then((cP.f k b2 b3 x8).bind fun b1=>(if b1.2.2.2.2.2.2=true then(if b1.2.1=2 then((eU.f k b1.1 b1.2.1 b1.2.2.1 b1.2.2.2.1 b1.2.2.2.2.1 b1.2.2.2.2.2.1 (lx ByteArray.empty b5 b4)).bind fun b6=>(if b6=0 then(some (0,2))else(fg.l0 k b6 b5 b7 (wrap64 (b4+1)) b2 b3)))else(some (0,3)))else(some (0,2))))else(none))else(none))else(some (x8,0))
def fg.f (k:Nat) (ag:List (bm)) (aj:Int) (a1:ByteArray):Option (Int×Int):=(eV.f k a1).bind fun b1=>(if b1.2=true then(fg.l0 k 1 b1.1 (b1.1.length:Int) 0 ag aj)else(some (0,1)))
theorem fg.calls (k:Nat) (bo:Option Addr) (bg:Nat) (ag:List (bm)) (aj:Int) (a1:ByteArray) (r1:Int) (r2:Int) (w:World) (cv:Kd.C fN w bo ag.length ag) (cA:ag.length≤bg) (h:fg.f k ag aj a1=some (r1,r2)) (hG:GOk w:=by exact gk_ oB (by first|(with_reducible assumption)|assumption)):
  Calls Tryz.prog 90 #[.agg #[.slice bo ag.length bg,.int .i64 aj],.string a1] w fun e w'=>e= .returned (.tuple #[.int .i64 r1,.int .i64 r2])∧Below w.heap.size w w':=by
 have HG:=ae.mk hG;clear hG;have gP:=underlying28;have gQ:=underlying58;have bP:=ae.mk cv;have bQ:=ae.mk cA;clear cv cA;have HB:=am (Below.refl w.heap.size w);unfold fg.f at h;have H:=h;clear h;replace H:=bA H;obtain⟨⟨bC,gR⟩,A3,H⟩:=H
 try dsimp only at H
 replace H:=kN H;rcases H with⟨rfl,H⟩|⟨rfl,H⟩;rotate_left
 ·simp only[Option.some.injEq,Prod.mk.injEq]at H;obtain⟨rfl,rfl⟩:=H
  go_enter func90,ntmps90
  go_wp2_with (first|((with_reducible refine ai (N:=2) rfl ?_);refine eh 2 #[.slice bo ag.length bg,.int .i64 aj] 28 ?_;intro d3 hg j7 hbox hb;have b1:=am (hbox);have d5:=eg hg;replace HB:=hB HB hb;clear hb hbox hg)|((with_reducible refine ak (f:=88) rfl ?_);refine fe 15 func88 (eV.calls k a1 bC false _ A3.out) ?_;rintro e j8 ⟨dC,rfl,bD,hb⟩;refine⟨_,rfl,?_⟩;have bT:=am (Kd.qR bD (ah oB));replace b1:=aQ b1 hb;replace HB:=hB HB hb))
  go_ret2
  exact⟨oE,oB⟩
 have H':=ae.mk H;clear H
 go_enter func90,ntmps90
 go_wp2_with (first|((with_reducible refine ai (N:=2) rfl ?_);refine eh 2 #[.slice bo ag.length bg,.int .i64 aj] 28 ?_;intro d3 hg w5 hbox hb;have b1:=am (hbox);have d5:=eg hg;replace HB:=hB HB hb;clear hb hbox hg)|((with_reducible refine ak (f:=88) rfl ?_);refine fe 15 func88 (eV.calls k a1 bC true _ A3.out) ?_;rintro e w6 ⟨dC,rfl,bD,hb⟩;refine⟨_,rfl,?_⟩;have bT:=am (Kd.qR bD (ah oB));replace b1:=aQ b1 hb;replace HB:=hB HB hb;obtain⟨gC,gD,gE,_⟩:=Kd.tz bT.out;subst gE))
 go_loopg [8,22] k (fun kq v8 gF w'=>∃(bM:Int) (b7:Int),v8= .int .i64 bM∧gF= .int .i64 b7∧ae (fg.l0 kq bM bC (bC.length:Int) b7 ag aj=some (r1,r2))∧ae (kq≤k)∧ae (Kd.Q Kd.string 9 w' w.heap.size (fun _=>True) (.slice gC bC.length gD) bC)∧ae (w'.heap[d3]? =some (.cells #[(.slice bo ag.length bg),.int .i64 aj] 28 (0,0)))∧ae (Below w.heap.size w w'))
 case atStart=>exact⟨(1),(0),oS,oS,H',⟨Nat.le_refl _⟩,⟨by(with_reducible repeat(first|apply Kd.ik|apply Kd.il|apply Kd.jr));exact bT.out⟩,⟨oF b1⟩,⟨oB⟩⟩
 case round=>
  clear H';obtain⟨bM,b7,rfl,rfl,HA,dA,b2,b1,HB⟩:=hrel
  cases gk with
  |zero=>exact absurd HA.out (by simp[fg.l0])
  |succ k1=>
   have H:=HA.out;clear HA;simp only[fg.l0]at H;replace H:=iM H;rcases H with⟨dD,H⟩|⟨dD,H⟩;rotate_left
   ·simp only[Option.some.injEq,Prod.mk.injEq]at H;obtain⟨rfl,rfl⟩:=H
    go_wp2
    go_ret2
    exact⟨oE,oB⟩
   obtain⟨gS,H⟩:=cO H;obtain⟨gG,H⟩:=cO H;replace H:=bA H;obtain⟨⟨bE,bB,bF,bG,bH,bI,gT⟩,d4,H⟩:=H
   try dsimp only at H
   replace H:=kN H;rcases H with⟨rfl,H⟩|⟨rfl,H⟩;rotate_left
   ·simp only[Option.some.injEq,Prod.mk.injEq]at H;obtain⟨rfl,rfl⟩:=H;have bX:(0≤(b7:Int))=True:=oT;have bY:(b7<(bC.length:Int))=True:=oT;obtain⟨bU,bN,bO⟩:=Kd.ig (Kd.nh b2.out).2.2 b7 oa oa
    cases bN
    obtain⟨⟨_,_⟩,_,_⟩:=z2 b1
    go_wp2_with (first|((with_reducible refine ak (f:=91) rfl ?_);refine fe 29 func91 (cP.calls k1 _ _ ag aj bM bE bB bF bG bH bI false _ (kC bP) bQ.out d4.out) ?_;rintro e j9 ⟨bZ,d1,d2,rfl,bD,bJ,bK,hb⟩;refine⟨_,rfl,?_⟩;have b4:=am (Kd.aw bD (ah oB));have b5:=am (Kd.aw bJ (ah oB));have b6:=am (Kd.aw bK (ah oB));replace b2:=rb b2 hb;replace b1:=aQ b1 hb;replace HB:=hB HB hb;(try clear bJ);(try clear bK))|((with_reducible refine ai (N:=11) rfl ?_);refine eh 11 #[.int .i64 0,.int .i64 0,.int .i64 0,.slice none 0 0,.slice none 0 0,.slice none 0 0] 58 ?_;intro bV hg jA hbox hb;have b3:=am (hbox);have bW:=eg hg;have b8:=eY hg b1;have b9:=eZ hg b1;replace b2:=rb b2 hb;replace b4:=ga b4 hb;replace b5:=ga b5 hb;replace b6:=ga b6 hb;replace b1:=aQ b1 hb;replace HB:=hB HB hb;clear hb hbox hg;have gH:=b9.out;have gI:=b8.out;obtain⟨⟨_,_,_,_,_,_⟩,_,_,_,_,_,_⟩:=z6 b3;obtain⟨gU,gV,dE⟩:=Kd.ax b4.out;subst dE;obtain⟨gW,gX,dF⟩:=Kd.ax b5.out;subst dF;obtain⟨gY,gZ,dG⟩:=Kd.ax b6.out;subst dG))
    go_ret2
    exact⟨oE,oB⟩
   by_cases bR:bB=2
   rotate_left
   ·rw[if_neg bR]at H;have d6:(bB==2)=false:=beq_eq_false_iff_ne.mpr bR;have d7:(bB !=2)=true:=bne_iff_ne.mpr bR;simp only[Option.some.injEq,Prod.mk.injEq]at H;obtain⟨rfl,rfl⟩:=H;have bX:(0≤(b7:Int))=True:=oT;have bY:(b7<(bC.length:Int))=True:=oT;obtain⟨bU,bN,bO⟩:=Kd.ig (Kd.nh b2.out).2.2 b7 oa oa
    cases bN
    obtain⟨⟨_,_⟩,_,_⟩:=z2 b1
    go_wp2_with (first|((with_reducible refine ak (f:=91) rfl ?_);refine fe 29 func91 (cP.calls k1 _ _ ag aj bM bE bB bF bG bH bI true _ (kC bP) bQ.out d4.out) ?_;rintro e jB ⟨bZ,d1,d2,rfl,bD,bJ,bK,hb⟩;refine⟨_,rfl,?_⟩;have b4:=am (Kd.aw bD (ah oB));have b5:=am (Kd.aw bJ (ah oB));have b6:=am (Kd.aw bK (ah oB));replace b2:=rb b2 hb;replace b1:=aQ b1 hb;replace HB:=hB HB hb;(try clear bJ);(try clear bK))|((with_reducible refine ai (N:=11) rfl ?_);refine eh 11 #[.int .i64 0,.int .i64 0,.int .i64 0,.slice none 0 0,.slice none 0 0,.slice none 0 0] 58 ?_;intro bV hg jC hbox hb;have b3:=am (hbox);have bW:=eg hg;have b8:=eY hg b1;have b9:=eZ hg b1;replace b2:=rb b2 hb;replace b4:=ga b4 hb;replace b5:=ga b5 hb;replace b6:=ga b6 hb;replace b1:=aQ b1 hb;replace HB:=hB HB hb;clear hb hbox hg;have gJ:=b9.out;have gK:=b8.out;obtain⟨⟨_,_,_,_,_,_⟩,_,_,_,_,_,_⟩:=z6 b3;obtain⟨j1,j2,dH⟩:=Kd.ax b4.out;subst dH;obtain⟨j3,j4,dI⟩:=Kd.ax b5.out;subst dI;obtain⟨j5,j6,dJ⟩:=Kd.ax b6.out;subst dJ))
    go_ret2
    exact⟨oE,oB⟩
   rw[if_pos bR]at H;have d6:(bB==2)=true:=beq_iff_eq.mpr bR;have d7:(bB !=2)=false:=bne_eq_false_iff_eq.mpr bR;clear bR;replace H:=bA H;obtain⟨bL,dB,H⟩:=H
   try dsimp only at H
   by_cases bS:bL=0
   ·rw[if_pos bS]at H;have d8:(bL==0)=true:=beq_iff_eq.mpr bS;have d9:(bL !=0)=false:=bne_eq_false_iff_eq.mpr bS;clear bS;simp only[Option.some.injEq,Prod.mk.injEq]at H;obtain⟨rfl,rfl⟩:=H;have bX:(0≤(b7:Int))=True:=oT;have bY:(b7<(bC.length:Int))=True:=oT;obtain⟨bU,bN,bO⟩:=Kd.ig (Kd.nh b2.out).2.2 b7 oa oa
    cases bN
    obtain⟨⟨_,_⟩,_,_⟩:=z2 b1
    go_wp2_with (first|((with_reducible refine ak (f:=91) rfl ?_);refine fe 29 func91 (cP.calls k1 _ _ ag aj bM bE bB bF bG bH bI true _ (kC bP) bQ.out d4.out) ?_;rintro e jD ⟨bZ,d1,d2,rfl,bD,bJ,bK,hb⟩;refine⟨_,rfl,?_⟩;have b4:=am (Kd.aw bD (ah oB));have b5:=am (Kd.aw bJ (ah oB));have b6:=am (Kd.aw bK (ah oB));replace b2:=rb b2 hb;replace b1:=aQ b1 hb;replace HB:=hB HB hb;(try clear bJ);(try clear bK))|((with_reducible refine ai (N:=11) rfl ?_);refine eh 11 #[.int .i64 0,.int .i64 0,.int .i64 0,.slice none 0 0,.slice none 0 0,.slice none 0 0] 58 ?_;intro bV hg jE hbox hb;have b3:=am (hbox);have bW:=eg hg;have b8:=eY hg b1;have b9:=eZ hg b1;replace b2:=rb b2 hb;replace b4:=ga b4 hb;replace b5:=ga b5 hb;replace b6:=ga b6 hb;replace b1:=aQ b1 hb;replace HB:=hB HB hb;clear hb hbox hg;have gL:=b9.out;have gM:=b8.out;obtain⟨⟨_,_,_,_,_,_⟩,_,_,_,_,_,_⟩:=z6 b3;obtain⟨dK,dL,dM⟩:=Kd.ax b4.out;subst dM;obtain⟨dN,dO,dP⟩:=Kd.ax b5.out;subst dP;obtain⟨dQ,dR,dS⟩:=Kd.ax b6.out;subst dS)|((with_reducible refine ak (f:=57) rfl ?_);refine fe 41 func57 (eU.calls k1 bE bB bF _ _ bG _ _ bH _ _ bI (lx ByteArray.empty bC b7) bL _ (jw b4 b3) (ko b4) (jw b5 b3) (ko b5) (jw b6 b3) (ko b6) dB.out) ?_;rintro e jF ⟨rfl,hb⟩;refine⟨_,rfl,?_⟩;replace b2:=ac0 b2 b3 hb;replace b4:=fq b4 b3 hb;replace b5:=fq b5 b3 hb;replace b6:=fq b6 b3 hb;replace b1:=aQ b1 hb;replace b3:=oo #[.int .i64 bE,.int .i64 bB,.int .i64 bF,.slice dK bG.length dL,.slice dN bH.length dO,.slice dQ bI.length dR] b3 hb;replace HB:=hB HB hb;(try clear hk)))
    go_ret2
    exact⟨oE,oB⟩
   rw[if_neg bS]at H;have d8:(bL==0)=false:=beq_eq_false_iff_ne.mpr bS;have d9:(bL !=0)=true:=bne_iff_ne.mpr bS;have H':=ae.mk H;clear H;have bX:(0≤(b7:Int))=True:=oT;have bY:(b7<(bC.length:Int))=True:=oT;obtain⟨bU,bN,bO⟩:=Kd.ig (Kd.nh b2.out).2.2 b7 oa oa
   cases bN
   obtain⟨⟨_,_⟩,_,_⟩:=z2 b1
   go_wp2_with (first|((with_reducible refine ak (f:=91) rfl ?_);refine fe 29 func91 (cP.calls k1 _ _ ag aj bM bE bB bF bG bH bI true _ (kC bP) bQ.out d4.out) ?_;rintro e jG ⟨bZ,d1,d2,rfl,bD,bJ,bK,hb⟩;refine⟨_,rfl,?_⟩;have b4:=am (Kd.aw bD (ah oB));have b5:=am (Kd.aw bJ (ah oB));have b6:=am (Kd.aw bK (ah oB));replace b2:=rb b2 hb;replace b1:=aQ b1 hb;replace HB:=hB HB hb;(try clear bJ);(try clear bK))|((with_reducible refine ai (N:=11) rfl ?_);refine eh 11 #[.int .i64 0,.int .i64 0,.int .i64 0,.slice none 0 0,.slice none 0 0,.slice none 0 0] 58 ?_;intro bV hg jH hbox hb;have b3:=am (hbox);have bW:=eg hg;have b8:=eY hg b1;have b9:=eZ hg b1;replace b2:=rb b2 hb;replace b4:=ga b4 hb;replace b5:=ga b5 hb;replace b6:=ga b6 hb;replace b1:=aQ b1 hb;replace HB:=hB HB hb;clear hb hbox hg;have gN:=b9.out;have gO:=b8.out;obtain⟨⟨_,_,_,_,_,_⟩,_,_,_,_,_,_⟩:=z6 b3;obtain⟨dT,dU,dV⟩:=Kd.ax b4.out;subst dV;obtain⟨dW,dX,dY⟩:=Kd.ax b5.out;subst dY;obtain⟨dZ,gA,gB⟩:=Kd.ax b6.out;subst gB)|((with_reducible refine ak (f:=57) rfl ?_);refine fe 41 func57 (eU.calls k1 bE bB bF _ _ bG _ _ bH _ _ bI (lx ByteArray.empty bC b7) bL _ (jw b4 b3) (ko b4) (jw b5 b3) (ko b5) (jw b6 b3) (ko b6) dB.out) ?_;rintro e jI ⟨rfl,hb⟩;refine⟨_,rfl,?_⟩;replace b2:=ac0 b2 b3 hb;replace b4:=fq b4 b3 hb;replace b5:=fq b5 b3 hb;replace b6:=fq b6 b3 hb;replace b1:=aQ b1 hb;replace b3:=oo #[.int .i64 bE,.int .i64 bB,.int .i64 bF,.slice dT bG.length dU,.slice dW bH.length dX,.slice dZ bI.length gA] b3 hb;replace HB:=hB HB hb;(try clear hk)))
   go_roundg k1
   case measure=>have:=dA.out;omega
   case rel=>exact⟨(bL),(wrap64 (b7+1)),oS,oS,H',⟨by have:=dA.out;omega⟩,⟨by(with_reducible repeat(first|apply Kd.ik|apply Kd.il|apply Kd.jr));exact b2.out⟩,⟨oF b1⟩,⟨oB⟩⟩

def di.l0:Nat→List (nc)→Int→Int→Option (Int)
 |0,_,_,_=>none
 |k+1,x0,x1,x5=>if x5<(x0.length:Int)then(if 0≤x5 then((ix.f k ((cI x0 x5).f0) ((cI x0 x5).f1) ((cI x0 x5).f2) ((cI x0 x5).f3) ((cI x0 x5).f4) ((cI x0 x5).f5) x1).bind fun b1=>(if b1<0 then(some (-1))else(di.l0 k x0 b1 (wrap64 (x5+1)))))else(none))else(some x1)
def di.f (k:Nat) (l0:List (nc)) (a1:Int):Option (Int):=if(wrap64 (a1-(l0.length:Int)))<0 then(some (-1))else(di.l0 k l0 (wrap64 (a1-(l0.length:Int))) 0)
theorem di.calls (k:Nat) (A0:Option Addr) (c0:Nat) (l0:List (nc)) (a1:Int) (r:Int) (w:World) (hr0:Kd.C k92 w A0 l0.length l0) (hc0:l0.length≤c0) (h:di.f k l0 a1=some r):
  Calls Tryz.prog 32 #[.slice A0 l0.length c0,.int .i64 a1] w fun e w'=>e= .returned (.int .i64 r)∧Below w.heap.size w w':=by
 have bW:=underlying92;have bQ:=ae.mk hr0;have bY:=ae.mk hc0;clear hr0 hc0;have HB:=am (Below.refl w.heap.size w);unfold di.f at h;have H:=h;clear h;replace H:=iM H;rcases H with⟨bI,H⟩|⟨bI,H⟩
 ·obtain rfl:=Option.some.inj H
  go_enter func32,ntmps32
  go_wp2
  go_ret
  exact⟨oE,oB⟩
 have H':=ae.mk H;clear H
 go_enter func32,ntmps32
 go_wp2
 go_loopg [1,5] k (fun kq v1 v5 w'=>∃(b8:Int) (b1:Int),v1= .int .i64 b8∧v5= .int .i64 b1∧ae (di.l0 kq l0 b8 b1=some r)∧ae (kq≤k)∧ae (Below w.heap.size w w'))
 case atStart=>exact⟨(wrap64 (a1-(l0.length:Int))),(0),oS,oS,H',⟨Nat.le_refl _⟩,⟨oB⟩⟩
 case round=>
  clear H'
  try clear bI
  obtain⟨b8,b1,rfl,rfl,HA,bR,HB⟩:=hrel
  cases gk with
  |zero=>exact absurd HA.out (by simp[di.l0])
  |succ k1=>
   have H:=HA.out;clear HA;simp only[di.l0]at H;replace H:=iM H;rcases H with⟨bS,H⟩|⟨bS,H⟩;rotate_left
   ·obtain rfl:=Option.some.inj H
    go_wp2
    go_ret
    exact⟨oE,oB⟩
   obtain⟨bX,H⟩:=cO H;replace H:=bA H;obtain⟨b9,A6,H⟩:=H
   try dsimp only at H
   replace H:=iM H;rcases H with⟨bT,H⟩|⟨bT,H⟩
   ·obtain rfl:=Option.some.inj H;have bU:(0≤(b1:Int))=True:=oT;have bV:(b1<(l0.length:Int))=True:=oT;obtain⟨bP,bJ,bK,bL,bM,bN,bO,bB,bC,bD,bE,bF,bG,bH,b2,b3,b4,b5,b6,b7⟩:=vQ bQ HB b1 oa oa
    cases bB
    go_wp2_with (first|((with_reducible refine ak (f:=70) rfl ?_);refine fe 23 func70 (ix.calls k1 ((cI l0 b1).f0) ((cI l0 b1).f1) ((cI l0 b1).f2) _ _ ((cI l0 b1).f3) _ _ ((cI l0 b1).f4) _ _ ((cI l0 b1).f5) b8 b9 _ (kC b3) b2.out (kC b5) b4.out (kC b7) b6.out A6.out) ?_;rintro e w8 ⟨rfl,hb⟩;refine⟨_,rfl,?_⟩;replace HB:=hB HB hb))
    go_ret
    exact⟨oE,oB⟩
   have H':=ae.mk H;clear H;have bU:(0≤(b1:Int))=True:=oT;have bV:(b1<(l0.length:Int))=True:=oT;obtain⟨bP,bJ,bK,bL,bM,bN,bO,bB,bC,bD,bE,bF,bG,bH,b2,b3,b4,b5,b6,b7⟩:=vQ bQ HB b1 oa oa
   cases bB
   go_wp2_with (first|((with_reducible refine ak (f:=70) rfl ?_);refine fe 23 func70 (ix.calls k1 ((cI l0 b1).f0) ((cI l0 b1).f1) ((cI l0 b1).f2) _ _ ((cI l0 b1).f3) _ _ ((cI l0 b1).f4) _ _ ((cI l0 b1).f5) b8 b9 _ (kC b3) b2.out (kC b5) b4.out (kC b7) b6.out A6.out) ?_;rintro e w9 ⟨rfl,hb⟩;refine⟨_,rfl,?_⟩;replace HB:=hB HB hb))
   go_roundg k1
   case measure=>have:=bR.out;omega
   case rel=>exact⟨(b9),(wrap64 (b1+1)),oS,oS,H',⟨by have:=bR.out;omega⟩,⟨oB⟩⟩
end Go.Proofs.YtlecajlnjmbilaaGreatDoor.P
