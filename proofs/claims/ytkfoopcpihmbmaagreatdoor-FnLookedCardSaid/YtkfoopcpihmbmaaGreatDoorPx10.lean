-- Printed walks.
import Derived.Test.YtkfoopcpihmbmaaGreatDoorPx7
import Derived.Test.YtkfoopcpihmbmaaGreatDoorPx8
set_option linter.all false
set_option maxHeartbeats 8000000
set_option maxRecDepth 100000
namespace Go.Proofs.YtkfoopcpihmbmaaGreatDoor.P
open Go.RowKit Go.Proofs.ab.av Go.Proofs.ab.aQ Go.Proofs.ab.aT Go.Proofs.Tryz
attribute [local go_sem] fP fQ hJ hO fm fo fR fS

mutual
def aw.j0:Nat→Bool→List (aW)→Int→Option (Bool)
 |0,_,_,_=>none
 |k+1,b3,b1,b2=>if b3=true then(some false)else(aw.l0 k 0 b1 b2)
def aw.l0:Nat→Int→List (aW)→Int→Option (Bool)
 |0,_,_,_=>none
 |k+1,x3,b1,b2=>if x3<(b1.length:Int)then(if 0≤x3 then((bq.f k b1 b2 ((ai b1 x3).f0)).bind fun b3=>(if b3=((ai b1 x3).f2)then(aw.l1 k x3 0 b1 b2 ((ai b1 x3).f0) ((ai b1 x3).f1) ((ai b1 x3).f2) ((ai b1 x3).f3) ((ai b1 x3).f4) ((ai b1 x3).f5))else(some false)))else(none))else(some true)
def aw.l1:Nat→Int→Int→List (aW)→Int→Int→Int→Int→List Int→List (cD)→List (bj)→Option (Bool)
 |0,_,_,_,_,_,_,_,_,_,_=>none
 |k+1,x3,x5,b1,b2,b4,b5,b6,b7,b3,b8=>if x5<(b3.length:Int)then(if 0≤x5 then((da.f k b1 b2 ((aA b3 x5).f1)).bind fun b9=>(if b9<0 then(some false)else(aw.l1 k x3 (wrap64 (x5+1)) b1 b2 b4 b5 b6 b7 b3 b8)))else(none))else(aw.l0 k (wrap64 (x3+1)) b1 b2)
end
def aw.f (k:Nat) (ah:List (aW)) (al:Int):Option (Bool):=(ca.f k ah al).bind fun b1=>(if b1=true then((dx.f k ah al).bind fun b2=>(aw.j0 k ((b2.length:Int) !=(ah.length:Int)) ah al))else(aw.j0 k true ah al))
def aw.T1:Bool×List (List Nat×List Nat):=(true,[([],[]),([0],[0]),([1],[1]),([2,1],[2]),([3],[3]),([4,3,3],[3,4]),([5,3],[3,5]),([3],[3]),([7,3],[3,7]),([8,3],[3,8]),([6,9,3],[3,6,9]),([3,10],[3,10])])
def aw.B1:List Nat:=[0,1,3,7,15,31,63,15,143,399,1023,2047]
theorem aw.adi:fK .any (opsOf Tryz.f65 1)=aw.T1:=by kernel_rfl
theorem aw.ab9:ep aw.T1.2 aw.B1=true:=by kernel_rfl
def aw.T12:Bool×List (List Nat×List Nat):=(true,[([],[]),([],[]),([1],[1]),([],[]),([2,3],[2,3]),([4],[4]),([5],[5]),([0,6],[0,6]),([7],[7])])
def aw.B12:List Nat:=[0,0,2,0,14,30,62,127,255]
theorem aw.aaP:fK .any (opsOf Tryz.f65 12)=aw.T12:=by kernel_rfl
theorem aw.vL:ep aw.T12.2 aw.B12=true:=by kernel_rfl
theorem aw.calls (k:Nat) (bs:Option Addr) (bo:Nat) (ah:List (aW)) (al:Int) (r:Bool) (w:World) (cy:Kd.C k32 w bs ah.length ah) (cA:ah.length≤bo) (h:aw.f k ah al=some r):
  Calls Tryz.prog 65 #[.agg #[.slice bs ah.length bo,.int .i64 al]] w fun e w'=>e= .returned (.bool r)∧Below w.heap.size w w':=by
 have gE:=underlying26;have gF:=underlying32;have bF:=ae.mk cy;have bI:=ae.mk cA;clear cy cA;have HB:=am (Below.refl w.heap.size w);unfold aw.f at h;have H:=h;clear h;have d4:=ae.mk H;clear H
 go_enter func65,ntmps65
 go_upto_region 1 with(((with_reducible refine au (N:=1) rfl ?_);(try(refine c_ (by rfl) ?_;dsimp only));refine fz 1 #[.slice bs ah.length bo,.int .i64 al] 26 ?_;intro b5 hg w3 hbox hb;have b2:=am (hbox);have dV:=fO hg;replace HB:=hB HB hb;clear hb hbox hg))
 go_cut [17] (fun dO wc=>∃(kq:Nat) (bN:Bool),dO= .bool bN∧ae (aw.j0 kq bN ah al=some r)∧ae (kq≤k)∧ae (wc.heap[b5]? =some (.cells #[(.slice bs ah.length bo),.int .i64 al] 26 (0,0)))∧ae (Below w.heap.size w wc))
 case first=>
  have H:=d4.out;clear d4;replace H:=bA H;obtain⟨gG,A4,H⟩:=H;replace H:=jl H;rcases H with⟨rfl,H⟩|⟨rfl,H⟩;rotate_left
  ·have H':=ae.mk H;clear H
   try go_wp2
   replace b2:=am (ar b2.out);replace HB:=am (bl HB.out);refine qS 12 (fun w'=>w'.cell? ⟨b5,0,none⟩=some (.slice bs ah.length bo)∧w'.cell? ⟨b5,1,none⟩=some (.int .i64 al)) aw.adi aw.ab9 oH (fun hHeld aV fA=> ?_);generalize w3.drew=gM at b2 HB hHeld⊢;refine iA 0 6 aV fA hHeld ?_;refine jg 1 7 aV (fun K hK=> ?_);refine mo 7 func33 (ca.calls k _ _ ah al false _ (kC bF) bI.out A4.out) ?_;rintro e gN ⟨rfl,hb⟩;refine⟨_,rfl,?_⟩;replace b2:=ba b2 hb;replace HB:=hB HB hb;refine aZ hK 7 oH (fun hHeld=> ?_);clear hK K;refine cG 2 8 aV ?_;refine cG 3 9 aV ?_;refine iM 4 10 aV ?_;refine iM 5 11 aV ?_;refine iM 6 12 aV ?_;refine iM 7 13 aV ?_;refine iM 8 14 aV ?_;refine iM 9 15 aV ?_;refine iM 10 16 aV ?_;refine cG 11 17 aV ?_;refine nF aV ?_
   try go_wp2
   go_meet
   case rel=>exact⟨_,(true),oS,H',⟨by omega⟩,⟨oF b2⟩,⟨oB⟩⟩
  replace H:=bA H;obtain⟨d5,A6,H⟩:=H;have H':=ae.mk H;clear H
  try go_wp2
  replace b2:=am (ar b2.out);replace HB:=am (bl HB.out);refine qS 12 (fun w'=>w'.cell? ⟨b5,0,none⟩=some (.slice bs ah.length bo)∧w'.cell? ⟨b5,1,none⟩=some (.int .i64 al)) aw.adi aw.ab9 oH (fun hHeld aV fA=> ?_);generalize w3.drew=w7 at b2 HB hHeld⊢;refine iA 0 6 aV fA hHeld ?_;refine jg 1 7 aV (fun K hK=> ?_);refine mo 7 func33 (ca.calls k _ _ ah al true _ (kC bF) bI.out A4.out) ?_;rintro e w8 ⟨rfl,hb⟩;refine⟨_,rfl,?_⟩;replace b2:=ba b2 hb;replace HB:=hB HB hb;refine aZ hK 7 oH (fun hHeld=> ?_);clear hK K;refine cG 2 8 aV ?_;refine cG 3 9 aV ?_;refine cG 7 13 aV ?_;refine iA 4 10 aV fA hHeld ?_;refine iA 8 14 aV fA hHeld ?_;refine cG 9 15 aV ?_;refine jg 5 11 aV (fun K hK=> ?_);refine mo 11 func114 (dx.calls k _ _ ah al d5 _ (kC bF) bI.out A6.out) ?_;rintro e w9 ⟨gH,rfl,dP,hb⟩;refine⟨_,rfl,?_⟩;have d9:=am (Kd.aq dP (af oB));replace b2:=ba b2 hb;replace HB:=hB HB hb;obtain⟨gI,gJ,d6⟩:=Kd.ao d9.out
  (subst d6)
  refine aZ hK 11 oH (fun hHeld=> ?_);clear hK K;refine cG 6 12 aV ?_;refine cG 10 16 aV ?_;refine cG 11 17 aV ?_;refine nF aV ?_
  try go_wp2
  go_meet
  case rel=>exact⟨_,(((d5.length:Int) !=(ah.length:Int))),oS,H',⟨by omega⟩,⟨oF b2⟩,⟨oB⟩⟩
 case rest=>
  clear d4;obtain⟨kq,bN,rfl,HA,bS,b2,HB⟩:=hcut
  cases kq with
  |zero=>exact absurd HA.out (by simp[aw.j0])
  |succ kj1=>
   have H:=HA.out;clear HA;simp only[aw.j0]at H;replace H:=jl H;rcases H with⟨rfl,H⟩|⟨rfl,H⟩
   ·obtain rfl:=Option.some.inj H
    go_wp2
    go_ret
    exact⟨oE,oB⟩
   have H':=ae.mk H;clear H
   go_wp2
   go_loopg [3] kj1 (fun kq v3 w'=>∃(b1:Int),v3= .int .i64 b1∧ae (aw.l0 kq b1 ah al=some r)∧ae (kq≤kj1)∧ae (w'.heap[b5]? =some (.cells #[(.slice bs ah.length bo),.int .i64 al] 26 (0,0)))∧ae (Below w.heap.size w w'))
   case atStart=>exact⟨(0),oS,H',⟨Nat.le_refl _⟩,⟨oF b2⟩,⟨oB⟩⟩
   case round=>
    clear H';obtain⟨b1,rfl,HA,bT,b2,HB⟩:=hrel
    cases gk with
    |zero=>exact absurd HA.out (by simp[aw.l0])
    |succ k2=>
     have H:=HA.out;clear HA;simp only[aw.l0]at H;replace H:=kU H;rcases H with⟨bU,H⟩|⟨bU,H⟩;rotate_left
     ·obtain rfl:=Option.some.inj H;obtain⟨⟨_,_⟩,_,_⟩:=z2 b2
      go_wp2
      go_ret
      exact⟨oE,oB⟩
     obtain⟨dA,H⟩:=dw H;replace H:=bA H;obtain⟨bK,dS,H⟩:=H;have d7:=ae.mk H;clear H;obtain⟨⟨_,_⟩,_,_⟩:=z2 b2;have dC:(0≤(b1:Int))=True:=oT;have dD:(b1<(ah.length:Int))=True:=oT;obtain⟨bO,b7,b8,bJ,b9,bB,bC,dE,bW,bX,bY,bZ,d1,d2,dH,dI,dJ,d3,dK,dL⟩:=kd bF HB b1 oa oa
     cases dE
     try go_wp2_with (((with_reducible refine au (N:=4) rfl ?_);(try(refine c_ (by rfl) ?_;dsimp only));refine fz 4 #[.int .i64 0,.int .i64 0,.int .i64 0,.slice none 0 0,.slice none 0 0,.slice none 0 0] 32 ?_;intro b3 hg dT hbox hb;have b4:=am (hbox);have dW:=fO hg;have bD:=fX hg b2;have bE:=fY hg b2;replace b2:=ba b2 hb;replace HB:=hB HB hb;clear hb hbox hg;have dX:=bE.out;have dY:=bD.out;obtain⟨⟨_,_,_,_,_,_⟩,_,_,_,_,_,_⟩:=z6 b4))
     generalize qW:((((((dT.setCell ⟨b3,0,none⟩ (.int .i64 ((ai ah b1).f0))).setCell ⟨b3,1,none⟩ (.int .i64 ((ai ah b1).f1))).setCell ⟨b3,2,none⟩ (.int .i64 ((ai ah b1).f2))).setCell ⟨b3,3,none⟩ (.slice b7 ((ai ah b1).f3).length b8)).setCell ⟨b3,4,none⟩ (.slice bJ ((ai ah b1).f4).length b9)).setCell ⟨b3,5,none⟩ (.slice bB ((ai ah b1).f5).length bC))=w22;replace b2:=kw_ qW b2;replace b4:=kv_ #[.int .i64 ((ai ah b1).f0),.int .i64 ((ai ah b1).f1),.int .i64 ((ai ah b1).f2),.slice b7 ((ai ah b1).f3).length b8,.slice bJ ((ai ah b1).f4).length b9,.slice bB ((ai ah b1).f5).length bC] qW b4;replace HB:=hw_ qW HB;clear qW;replace b2:=am (ar b2.out);replace b4:=am (ar b4.out);replace HB:=am (bl HB.out);refine s0_ 7 (fun w'=>w'.cell? ⟨b5,0,none⟩=some (.slice (some bO) ah.length bo)∧w'.cell? ⟨b5,1,none⟩=some (.int .i64 al)∧w'.cell? ⟨b3,0,none⟩=some (.int .i64 ((ai ah b1).f0))∧w'.cell? ⟨b3,1,none⟩=some (.int .i64 ((ai ah b1).f1))∧w'.cell? ⟨b3,2,none⟩=some (.int .i64 ((ai ah b1).f2))∧w'.cell? ⟨b3,3,none⟩=some (.slice b7 ((ai ah b1).f3).length b8)∧w'.cell? ⟨b3,4,none⟩=some (.slice bJ ((ai ah b1).f4).length b9)∧w'.cell? ⟨b3,5,none⟩=some (.slice bB ((ai ah b1).f5).length bC)) oH (fun hHeld=> ?_);generalize w22.drew=gO at b2 b4 HB hHeld⊢;refine p0_ 1 31 ?_;refine p0_ 4 34 ?_;refine t0_ 0 30 hHeld ?_;refine t0_ 2 32 hHeld ?_;refine t0_ 5 35 hHeld ?_;refine wJ 3 33 (fun K hK=> ?_);refine mo 33 func115 (bq.calls k2 _ _ ah al ((ai ah b1).f0) bK _ (kC bF) bI.out dS.out) ?_;rintro e gP ⟨rfl,hb⟩;refine⟨_,rfl,?_⟩;replace b2:=ba b2 hb;replace b4:=ba b4 hb;replace HB:=hB HB hb;refine aZ hK 33 oH (fun hHeld=> ?_);clear hK K;refine p0_ 6 36 ?_;refine sm (by kernel_rfl) ?_
     go_upto_if 36 with(fail)
     have H:=d7.out;clear d7
     by_cases bL:bK=((ai ah b1).f2)
     rotate_left
     ·rw[if_neg bL]at H;have bP:(bK==((ai ah b1).f2))=false:=beq_eq_false_iff_ne.mpr bL;have bQ:(bK !=((ai ah b1).f2))=true:=bne_iff_ne.mpr bL
      (rw[bQ])
      obtain rfl:=Option.some.inj H
      go_wp2
      go_ret
      exact⟨oE,oB⟩
     rw[if_pos bL]at H;have bP:(bK==((ai ah b1).f2))=true:=beq_iff_eq.mpr bL;have bQ:(bK !=((ai ah b1).f2))=false:=bne_eq_false_iff_eq.mpr bL;clear bL
     (rw[bQ])
     have H':=ae.mk H;clear H
     go_wp2
     go_loopg [5] k2 (fun kq v5 w'=>∃(b6:Int),v5= .int .i64 b6∧ae (aw.l1 kq b1 b6 ah al ((ai ah b1).f0) ((ai ah b1).f1) ((ai ah b1).f2) ((ai ah b1).f3) ((ai ah b1).f4) ((ai ah b1).f5)=some r)∧ae (kq≤k2)∧ae (w'.heap[b5]? =some (.cells #[(.slice (some bO) ah.length bo),.int .i64 al] 26 (0,0)))∧ae (w'.heap[b3]? =some (.cells #[.int .i64 ((ai ah b1).f0),.int .i64 ((ai ah b1).f1),.int .i64 ((ai ah b1).f2),(.slice b7 ((ai ah b1).f3).length b8),(.slice bJ ((ai ah b1).f4).length b9),(.slice bB ((ai ah b1).f5).length bC)] 32 (0,0)))∧ae (Below w.heap.size w w'))
     case atStart=>exact⟨(0),oS,H',⟨Nat.le_refl _⟩,⟨oF b2⟩,⟨oF b4⟩,⟨oB⟩⟩
     case round=>
      clear H'
      try clear bU
      try clear dA
      try clear bW
      try clear bX
      try clear bY
      try clear bZ
      try clear d1
      try clear d2
      try clear dC
      try clear dD
      obtain⟨b6,rfl,HA,bV,b2,b4,HB⟩:=hrel
      cases gk with
      |zero=>exact absurd HA.out (by simp[aw.l1])
      |succ k3=>
       have H:=HA.out;clear HA;simp only[aw.l1]at H;replace H:=kU H;rcases H with⟨dB,H⟩|⟨dB,H⟩;rotate_left
       ·have H':=ae.mk H;clear H;have dZ:=bE.out;have gA:=bD.out;obtain⟨⟨_,_,_,_,_,_⟩,_,_,_,_,_,_⟩:=z6 b4
        go_wp2
        go_roundg k3
        case measure=>have:=bS.out;have:=bT.out;have:=bV.out;omega
        case rel=>exact⟨(wrap64 (b1+1)),oS,H',⟨by have:=bS.out;have:=bT.out;have:=bV.out;omega⟩,⟨oF b2⟩,⟨oB⟩⟩
       obtain⟨gB,H⟩:=dw H;replace H:=bA H;obtain⟨dF,dU,H⟩:=H;have d8:=ae.mk H;clear H;have gC:=bE.out;have gD:=bD.out;obtain⟨⟨_,_,_,_,_,_⟩,_,_,_,_,_,_⟩:=z6 b4
       try go_wp2
       replace b2:=am (ar b2.out);replace b4:=am (ar b4.out);replace HB:=am (bl HB.out);have gK:(0≤(b6:Int))=True:=oT;have gL:(b6<(((ai ah b1).f4).length:Int))=True:=oT;obtain⟨bM,dG,bG,bH⟩:=ec d3.out b6 oa oa;have dM:=bH;have dN:=bG
       cases dG
       replace bG:=cB HB bG;replace bH:=cB HB bH;refine qS 9 (fun w'=>w'.cell? ⟨b5,0,none⟩=some (.slice (some bO) ah.length bo)∧w'.cell? ⟨b5,1,none⟩=some (.int .i64 al)∧w'.cell? ⟨b3,0,none⟩=some (.int .i64 ((ai ah b1).f0))∧w'.cell? ⟨b3,1,none⟩=some (.int .i64 ((ai ah b1).f1))∧w'.cell? ⟨b3,2,none⟩=some (.int .i64 ((ai ah b1).f2))∧w'.cell? ⟨b3,3,none⟩=some (.slice b7 ((ai ah b1).f3).length b8)∧w'.cell? ⟨b3,4,none⟩=some (.slice (some bM) ((ai ah b1).f4).length b9)∧w'.cell? ⟨b3,5,none⟩=some (.slice bB ((ai ah b1).f5).length bC)∧w'.cell? (bM.add ((b6).toNat*2))=some (.string ((aA ((ai ah b1).f4) b6).f0))∧w'.cell? ⟨(bM.add ((b6).toNat*2)).block,(bM.add ((b6).toNat*2)).off+1,none⟩=some (.int .i64 ((aA ((ai ah b1).f4) b6).f1))) aw.aaP aw.vL oH (fun hHeld aV fA=> ?_);generalize wr.drew=gQ at b2 b4 HB bG bH hHeld⊢;refine cG 1 45 aV ?_;refine cG 3 47 aV ?_;refine iA 0 44 aV fA hHeld ?_;refine iA 2 46 aV fA hHeld ?_;refine cG 4 48 aV ?_;refine cG 5 49 aV ?_;refine iA 6 50 aV fA hHeld ?_;refine jg 7 51 aV (fun K hK=> ?_);refine mo 51 func99 (da.calls k3 _ _ ah al ((aA ((ai ah b1).f4) b6).f1) dF _ (kC bF) bI.out dU.out) ?_;rintro e gR ⟨rfl,hb⟩;refine⟨_,rfl,?_⟩;replace b2:=ba b2 hb;replace b4:=ba b4 hb;replace HB:=hB HB hb;refine aZ hK 51 oH (fun hHeld=> ?_);clear hK K;refine cG 8 52 aV ?_;refine nF aV ?_
       go_upto_if 52 with(fail)
       have H:=d8.out;clear d8;replace H:=kU H;rcases H with⟨bR,H⟩|⟨bR,H⟩
       ·(rw[bR])
        obtain rfl:=Option.some.inj H
        go_wp2
        go_ret
        exact⟨oE,oB⟩
       (rw[bR])
       have H':=ae.mk H;clear H
       go_wp2
       go_roundg k3
       case measure=>have:=bS.out;have:=bT.out;have:=bV.out;omega
       case rel=>exact⟨(wrap64 (b6+1)),oS,H',⟨by have:=bS.out;have:=bT.out;have:=bV.out;omega⟩,⟨oF b2⟩,⟨oF b4⟩,⟨oB⟩⟩

def fU.f (k:Nat) (ah:List (aW)) (al:Int) (a1:ByteArray) (a2:Int):Option (Int×Int×Int×List Int×(List (cD))×(List (bj))×ByteArray×Int):=(cS.f k a1).bind fun b2=>(if b2.2.2=true then((eA.f k ah al b2.1).bind fun b1=>(if b1.2.2.2.2.2.2=0 then(if b1.2.1=2 then((eK.f k b1.1 b1.2.1 b1.2.2.1 b1.2.2.2.1 b1.2.2.2.2.1 b1.2.2.2.2.2.1 b2.2.1).bind fun b3=>(if b3=0 then(if(b1.2.2.2.2.1.length:Int)≥10 then(if b1.1=a2 then(some (b1.1,b1.2.1,b1.2.2.1,b1.2.2.2.1,b1.2.2.2.2.1,b1.2.2.2.2.2.1,b2.2.1,0))else(some (0,0,0,([]:List Int),([]:List (cD)),([]:List (bj)),(⟨#[]⟩:ByteArray),5)))else(some (b1.1,b1.2.1,b1.2.2.1,b1.2.2.2.1,b1.2.2.2.2.1,b1.2.2.2.2.2.1,b2.2.1,0)))else(some (0,0,0,([]:List Int),([]:List (cD)),([]:List (bj)),(⟨#[]⟩:ByteArray),4))))else(some (0,0,0,([]:List Int),([]:List (cD)),([]:List (bj)),(⟨#[]⟩:ByteArray),3)))else(some (0,0,0,([]:List Int),([]:List (cD)),([]:List (bj)),(⟨#[]⟩:ByteArray),b1.2.2.2.2.2.2))))else(some (0,0,0,([]:List Int),([]:List (cD)),([]:List (bj)),(⟨#[]⟩:ByteArray),1)))
theorem fU.calls (k:Nat) (bs:Option Addr) (bo:Nat) (ah:List (aW)) (al:Int) (a1:ByteArray) (a2:Int) (r1:Int) (r2:Int) (r3:Int) (r4:List Int) (r5:List (cD)) (r6:List (bj)) (r7:ByteArray) (r8:Int) (w:World) (cy:Kd.C k32 w bs ah.length ah) (cA:ah.length≤bo) (h:fU.f k ah al a1 a2=some (r1,r2,r3,r4,r5,r6,r7,r8)):
  Calls Tryz.prog 164 #[.agg #[.slice bs ah.length bo,.int .i64 al],.string a1,.int .i64 a2] w fun e w'=>∃pJ pK pL:Value,e= .returned (.tuple #[.agg #[.int .i64 r1,.int .i64 r2,.int .i64 r3,pJ,pK,pL],.string r7,.int .i64 r8])∧Kd.R (Kd.int .u8) 5 w' w.heap.size (fun _=>True) pJ r4∧Kd.R fL 74 w' w.heap.size (fun _=>True) pK r5∧Kd.R dn 101 w' w.heap.size (fun _=>True) pL r6∧Below w.heap.size w w':=by
 have jG:=underlying26;have jH:=underlying32;have dA:=ae.mk cy;have dB:=ae.mk cA;clear cy cA;have HB:=am (Below.refl w.heap.size w);unfold fU.f at h;have H:=h;clear h;replace H:=bA H;obtain⟨⟨d5,d6,dJ⟩,A4,H⟩:=H
 try dsimp only at H
 have dG:=ae.mk H;clear H
 go_enter func164,ntmps164
 go_upto_if 21 with(first|((with_reducible refine au (N:=3) rfl ?_);refine fz 3 #[.slice bs ah.length bo,.int .i64 al] 26 ?_;intro dQ hg w6 hbox hb;have b6:=am (hbox);have dR:=fO hg;replace HB:=hB HB hb;clear hb hbox hg)|((with_reducible refine au (N:=6) rfl ?_);refine fz 6 #[.int .i64 0,.int .i64 0,.int .i64 0,.slice none 0 0,.slice none 0 0,.slice none 0 0] 32 ?_;intro bH hg w7 hbox hb;have b1:=am (hbox);have dS:=fO hg;have b4:=fX hg b6;have b5:=fY hg b6;replace b6:=ba b6 hb;replace HB:=hB HB hb;clear hb hbox hg)|((with_reducible refine ag (f:=161) rfl ?_);refine dk 16 func161 (cS.calls k a1 d5 d6 dJ _ A4.out) ?_;rintro e w8 ⟨rfl,hb⟩;refine⟨_,rfl,?_⟩;replace b6:=ba b6 hb;replace b1:=ba b1 hb;replace HB:=hB HB hb))
 have H:=dG.out;clear dG;replace H:=jl H;rcases H with⟨rfl,H⟩|⟨rfl,H⟩;rotate_left
 ·simp only[Option.some.injEq,Prod.mk.injEq]at H;obtain⟨rfl,rfl,rfl,rfl,rfl,rfl,rfl,rfl⟩:=H;have dT:=b5.out;have dU:=b4.out;obtain⟨⟨_,_,_,_,_,_⟩,_,_,_,_,_,_⟩:=z6 b1
  go_wp2
  refine bodyPost_ret (iZ rfl _ _ bH 32 #[.int .i64 0,.int .i64 0,.int .i64 0,.slice none 0 0,.slice none 0 0,.slice none 0 0] (0,0) _ rfl (oP b1) underlying32 rfl (by kernel_rfl)) rfl ?_;exact⟨_,_,_,oE,by exact Kd.er _ _ _ _ _,by exact Kd.er _ _ _ _ _,by exact Kd.er _ _ _ _ _,oB⟩
 replace H:=bA H;obtain⟨⟨bE,bF,bK,bL,bG,bM,bI⟩,dN,H⟩:=H
 try dsimp only at H
 have d7:=ae.mk H;clear H;have dV:=b4.out;have dW:=b5.out;obtain⟨⟨_,_⟩,_,_⟩:=z2 b6
 go_upto_if 29 with(first|((with_reducible refine ag (f:=13) rfl ?_);refine dk 26 func13 (eA.calls k _ _ ah al d5 bE bF bK bL bG bM bI _ (kC dA) dB.out dN.out) ?_;rintro e jL ⟨jI,jJ,jK,rfl,dO,dH,dI,hb⟩;refine⟨_,rfl,?_⟩;have bB:=am (Kd.aq dO (af oB));have bC:=am (Kd.aq dH (af oB));have bD:=am (Kd.aq dI (af oB));replace b6:=ba b6 hb;replace b1:=ba b1 hb;replace HB:=hB HB hb;(try clear dH);(try clear dI))|((with_reducible refine au (N:=12) rfl ?_);refine fz 12 #[.int .i64 0,.int .i64 0,.int .i64 0,.slice none 0 0,.slice none 0 0,.slice none 0 0] 32 ?_;intro dX hg jM hbox hb;have b7:=am (hbox);have dY:=fO hg;have b8:=fX hg b6;have b9:=fY hg b6;have b2:=fX hg b1;have b3:=fY hg b1;replace bB:=dm bB hb;replace bC:=dm bC hb;replace bD:=dm bD hb;replace b6:=ba b6 hb;replace b1:=ba b1 hb;replace HB:=hB HB hb;clear hb hbox hg;have dZ:=b9.out;have gA:=b8.out;have gB:=b3.out;have gC:=b2.out;obtain⟨⟨_,_,_,_,_,_⟩,_,_,_,_,_,_⟩:=z6 b7;obtain⟨bY,bZ,dK⟩:=Kd.ao bB.out;subst dK;obtain⟨d1,d2,dL⟩:=Kd.ao bC.out;subst dL;obtain⟨d3,d4,dM⟩:=Kd.ao bD.out;subst dM))
 have H:=d7.out;clear d7
 by_cases bN:bI=0
 rotate_left
 ·rw[if_neg bN]at H;have bS:(bI==0)=false:=beq_eq_false_iff_ne.mpr bN;have bT:(bI !=0)=true:=bne_iff_ne.mpr bN
  (rw[bT])
  simp only[Option.some.injEq,Prod.mk.injEq]at H;obtain⟨rfl,rfl,rfl,rfl,rfl,rfl,rfl,rfl⟩:=H;have gD:=b5.out;have gE:=b4.out;have gF:=b2.out;have gG:=b3.out;obtain⟨⟨_,_,_,_,_,_⟩,_,_,_,_,_,_⟩:=z6 b1
  go_wp2
  refine bodyPost_ret (iZ rfl _ _ bH 32 #[.int .i64 0,.int .i64 0,.int .i64 0,.slice none 0 0,.slice none 0 0,.slice none 0 0] (0,0) _ rfl (oP b1) underlying32 rfl (by kernel_rfl)) rfl ?_;exact⟨_,_,_,oE,by exact Kd.er _ _ _ _ _,by exact Kd.er _ _ _ _ _,by exact Kd.er _ _ _ _ _,oB⟩
 rw[if_pos bN]at H;have bS:(bI==0)=true:=beq_iff_eq.mpr bN;have bT:(bI !=0)=false:=bne_eq_false_iff_eq.mpr bN;clear bN
 (rw[bT])
 by_cases bO:bF=2
 rotate_left
 ·rw[if_neg bO]at H;have dC:(bF==2)=false:=beq_eq_false_iff_ne.mpr bO;have dD:(bF !=2)=true:=bne_iff_ne.mpr bO;simp only[Option.some.injEq,Prod.mk.injEq]at H;obtain⟨rfl,rfl,rfl,rfl,rfl,rfl,rfl,rfl⟩:=H;have gH:=b9.out;have gI:=b8.out;have gJ:=b3.out;have gK:=b2.out;obtain⟨⟨_,_,_,_,_,_⟩,_,_,_,_,_,_⟩:=z6 b7;have gL:=b5.out;have gM:=b4.out;obtain⟨⟨_,_,_,_,_,_⟩,_,_,_,_,_,_⟩:=z6 b1
  go_wp2
  refine bodyPost_ret (iZ rfl _ _ bH 32 #[.int .i64 0,.int .i64 0,.int .i64 0,.slice none 0 0,.slice none 0 0,.slice none 0 0] (0,0) _ rfl (oP b1) underlying32 rfl (by kernel_rfl)) rfl ?_;exact⟨_,_,_,oE,by exact Kd.er _ _ _ _ _,by exact Kd.er _ _ _ _ _,by exact Kd.er _ _ _ _ _,oB⟩
 rw[if_pos bO]at H;have dC:(bF==2)=true:=beq_iff_eq.mpr bO;have dD:(bF !=2)=false:=bne_eq_false_iff_eq.mpr bO;clear bO;replace H:=bA H;obtain⟨bJ,dP,H⟩:=H;have d8:=ae.mk H;clear H;have gN:=b9.out;have gO:=b8.out;have gP:=b3.out;have gQ:=b2.out;obtain⟨⟨_,_,_,_,_,_⟩,_,_,_,_,_,_⟩:=z6 b7
 go_upto_if 39 with(((with_reducible refine ag (f:=137) rfl ?_);refine dk 42 func137 (eK.calls k bE bF bK _ _ bL _ _ bG _ _ bM d6 bJ _ (lg bB b7) (ko bB) (lg bC b7) (ko bC) (lg bD b7) (ko bD) dP.out) ?_;rintro e jN ⟨rfl,hb⟩;refine⟨_,rfl,?_⟩;replace bB:=du bB b7 hb;replace bC:=du bC b7 hb;replace bD:=du bD b7 hb;replace b6:=ba b6 hb;replace b1:=ba b1 hb;replace b7:=mc #[.int .i64 bE,.int .i64 bF,.int .i64 bK,.slice bY bL.length bZ,.slice d1 bG.length d2,.slice d3 bM.length d4] b7 hb;replace HB:=hB HB hb))
 have H:=d8.out;clear d8
 by_cases bP:bJ=0
 rotate_left
 ·rw[if_neg bP]at H;have bU:(bJ==0)=false:=beq_eq_false_iff_ne.mpr bP;have bV:(bJ !=0)=true:=bne_iff_ne.mpr bP
  (rw[bV])
  simp only[Option.some.injEq,Prod.mk.injEq]at H;obtain⟨rfl,rfl,rfl,rfl,rfl,rfl,rfl,rfl⟩:=H;have gR:=b5.out;have gS:=b4.out;have gT:=b2.out;have gU:=b3.out;obtain⟨⟨_,_,_,_,_,_⟩,_,_,_,_,_,_⟩:=z6 b1
  go_wp2
  refine bodyPost_ret (iZ rfl _ _ bH 32 #[.int .i64 0,.int .i64 0,.int .i64 0,.slice none 0 0,.slice none 0 0,.slice none 0 0] (0,0) _ rfl (oP b1) underlying32 rfl (by kernel_rfl)) rfl ?_;exact⟨_,_,_,oE,by exact Kd.er _ _ _ _ _,by exact Kd.er _ _ _ _ _,by exact Kd.er _ _ _ _ _,oB⟩
 rw[if_pos bP]at H;have bU:(bJ==0)=true:=beq_iff_eq.mpr bP;have bV:(bJ !=0)=false:=bne_eq_false_iff_eq.mpr bP;clear bP
 (rw[bV])
 by_cases bR:(bG.length:Int)≥10
 rotate_left
 ·rw[if_neg bR]at H;have dE:decide (10≤(bG.length:Int))=false:=decide_eq_false bR;have dF:decide (10≤bG.length)=false:=decide_eq_false (by omega);clear bR;simp only[Option.some.injEq,Prod.mk.injEq]at H;obtain⟨rfl,rfl,rfl,rfl,rfl,rfl,rfl,rfl⟩:=H;have gV:=b9.out;have gW:=b8.out;have gX:=b3.out;have gY:=b2.out;obtain⟨⟨_,_,_,_,_,_⟩,_,_,_,_,_,_⟩:=z6 b7;have gZ:=b5.out;have j1:=b4.out;obtain⟨⟨_,_,_,_,_,_⟩,_,_,_,_,_,_⟩:=z6 b1
  go_wp2
  refine bodyPost_ret (iZ rfl _ _ bH 32 #[.int .i64 bE,.int .i64 bF,.int .i64 bK,.slice bY bL.length bZ,.slice d1 bG.length d2,.slice d3 bM.length d4] (0,0) _ rfl (oP b1) underlying32 rfl (by kernel_rfl)) rfl ?_;exact⟨_,_,_,oE,nM bB b1,nM bC b1,nM bD b1,oB⟩
 rw[if_pos bR]at H;have dE:decide (10≤(bG.length:Int))=true:=decide_eq_true bR;have dF:decide (10≤bG.length)=true:=decide_eq_true (by omega);clear bR;have d9:=ae.mk H;clear H;have j2:=b9.out;have j3:=b8.out;have j4:=b3.out;have j5:=b2.out;obtain⟨⟨_,_,_,_,_,_⟩,_,_,_,_,_,_⟩:=z6 b7
 go_upto_if 45 with(fail)
 have H:=d9.out;clear d9
 by_cases bQ:bE=a2
 ·rw[if_pos bQ]at H;have bW:(bE==a2)=true:=beq_iff_eq.mpr bQ;have bX:(bE !=a2)=false:=bne_eq_false_iff_eq.mpr bQ;clear bQ
  (rw[bX])
  simp only[Option.some.injEq,Prod.mk.injEq]at H;obtain⟨rfl,rfl,rfl,rfl,rfl,rfl,rfl,rfl⟩:=H;have j6:=b9.out;have j7:=b8.out;have j8:=b3.out;have j9:=b2.out;obtain⟨⟨_,_,_,_,_,_⟩,_,_,_,_,_,_⟩:=z6 b7;have jA:=b5.out;have jB:=b4.out;obtain⟨⟨_,_,_,_,_,_⟩,_,_,_,_,_,_⟩:=z6 b1
  go_wp2
  refine bodyPost_ret (iZ rfl _ _ bH 32 #[.int .i64 bE,.int .i64 bF,.int .i64 bK,.slice bY bL.length bZ,.slice d1 bG.length d2,.slice d3 bM.length d4] (0,0) _ rfl (oP b1) underlying32 rfl (by kernel_rfl)) rfl ?_;exact⟨_,_,_,oE,nM bB b1,nM bC b1,nM bD b1,oB⟩
 rw[if_neg bQ]at H;have bW:(bE==a2)=false:=beq_eq_false_iff_ne.mpr bQ;have bX:(bE !=a2)=true:=bne_iff_ne.mpr bQ
 (rw[bX])
 simp only[Option.some.injEq,Prod.mk.injEq]at H;obtain⟨rfl,rfl,rfl,rfl,rfl,rfl,rfl,rfl⟩:=H;have jC:=b5.out;have jD:=b4.out;have jE:=b2.out;have jF:=b3.out;obtain⟨⟨_,_,_,_,_,_⟩,_,_,_,_,_,_⟩:=z6 b1
 go_wp2
 refine bodyPost_ret (iZ rfl _ _ bH 32 #[.int .i64 0,.int .i64 0,.int .i64 0,.slice none 0 0,.slice none 0 0,.slice none 0 0] (0,0) _ rfl (oP b1) underlying32 rfl (by kernel_rfl)) rfl ?_;exact⟨_,_,_,oE,by exact Kd.er _ _ _ _ _,by exact Kd.er _ _ _ _ _,by exact Kd.er _ _ _ _ _,oB⟩

def ff.l0:Nat→List ByteArray→Int→Int→Int→Int→List Int→List (cD)→List (bj)→Option (List ByteArray×Int)
 |0,_,_,_,_,_,_,_,_=>none
 |k+1,x6,x9,b2,b3,b4,b5,b1,b6=>if x9<(b1.length:Int)then(if 0≤x9 then(if x6.length<8796093022208 then(ff.l0 k (x6++[(aA b1 x9).f0]) (wrap64 (x9+1)) b2 b3 b4 b5 b1 b6)else(none))else(none))else(some (x6,0))
def ff.f (k:Nat) (ah:List (aW)) (al:Int) (a1:ByteArray):Option (List ByteArray×Int):=(some (([]:List ByteArray):List ByteArray)).bind fun b2=>((eA.f k ah al a1).bind fun b1=>(if b1.2.2.2.2.2.2=0 then(if b1.2.1=2 then(ff.l0 k b2 0 b1.1 b1.2.1 b1.2.2.1 b1.2.2.2.1 b1.2.2.2.2.1 b1.2.2.2.2.2.1)else(some (b2,3)))else(some (b2,b1.2.2.2.2.2.2))))
theorem ff.calls (k:Nat) (bs:Option Addr) (bo:Nat) (ah:List (aW)) (al:Int) (a1:ByteArray) (r1:List ByteArray) (r2:Int) (w:World) (cy:Kd.C k32 w bs ah.length ah) (cA:ah.length≤bo) (h:ff.f k ah al a1=some (r1,r2)):
  Calls Tryz.prog 15 #[.agg #[.slice bs ah.length bo,.int .i64 al],.string a1] w fun e w'=>∃fy:Value,e= .returned (.tuple #[fy,.int .i64 r2])∧Kd.R Kd.string 9 w' w.heap.size (fun _=>True) fy r1∧Below w.heap.size w w':=by
 have gL:=underlying26;have gM:=underlying32;have d9:=ae.mk cy;have dA:=ae.mk cA;clear cy cA;have HB:=am (Below.refl w.heap.size w);unfold ff.f at h;have H:=h;clear h;obtain⟨bN,cx⟩:∃y_:List ByteArray,y_=(([]:List ByteArray)):=⟨_,rfl⟩;replace H:((eA.f k ah al a1).bind fun b5=>(if b5.2.2.2.2.2.2=0 then(if b5.2.1=2 then(ff.l0 k bN 0 b5.1 b5.2.1 b5.2.2.1 b5.2.2.2.1 b5.2.2.2.2.1 b5.2.2.2.2.2.1)else(some (bN,3)))else(some (bN,b5.2.2.2.2.2.2))))=some (r1,r2):=oY;have bU:=ae.mk cx;clear cx;replace H:=bA H;obtain⟨⟨bO,b7,bP,bF,b6,bG,bH⟩,A3,H⟩:=H
 try dsimp only at H
 have dF:=ae.mk H;clear H
 go_enter func15,ntmps15
 go_upto_if 18 with(first|((with_reducible refine au (N:=2) rfl ?_);refine fz 2 #[.slice bs ah.length bo,.int .i64 al] 26 ?_;intro bX hg w5 hbox hb;have b2:=am (hbox);have dP:=fO hg;replace HB:=hB HB hb;clear hb hbox hg)|((with_reducible refine au (N:=10) rfl ?_);refine Kd.gu Kd.string _ 9 ?hg (N:=10) ?hd (xs:=([]:List ByteArray)) (inner:=[]) (ok:=fun _=>True) (fw:=fun _=>True) ?hr ?hp (fun _ hk=>hk) trivial (Below.refl _ _) (Nat.le_refl _) (by simp) ?_;(case hd=>rfl);(case hg=>rfl);(case hr=>(go_simp;done));(case hp=>exact(bp.none _ _));intro dT w6 bV hb fN cj;clear fN cj;(rw[←bU.out]at bV);have b9:=am (Kd.aq bV (af oB));replace b2:=ba b2 hb;replace HB:=hB HB hb;clear hb bV;obtain⟨⟨_,_⟩,_,_⟩:=z2 b2)|((with_reducible refine ag (f:=13) rfl ?_);refine dk 14 func13 (eA.calls k _ _ ah al a1 bO b7 bP bF b6 bG bH _ (kC d9) dA.out A3.out) ?_;rintro e w9 ⟨dU,dV,dW,rfl,dQ,dG,dH,hb⟩;refine⟨_,rfl,?_⟩;have bI:=am (Kd.aq dQ (af oB));have bJ:=am (Kd.aq dG (af oB));have bK:=am (Kd.aq dH (af oB));replace b9:=dm b9 hb;replace b2:=ba b2 hb;replace HB:=hB HB hb;(try clear dG);(try clear dH))|((with_reducible refine au (N:=7) rfl ?_);refine fz 7 #[.int .i64 0,.int .i64 0,.int .i64 0,.slice none 0 0,.slice none 0 0,.slice none 0 0] 32 ?_;intro bY hg gN hbox hb;have b1:=am (hbox);have dR:=fO hg;have b3:=fX hg b2;have b4:=fY hg b2;replace b9:=dm b9 hb;replace bI:=dm bI hb;replace bJ:=dm bJ hb;replace bK:=dm bK hb;replace b2:=ba b2 hb;replace HB:=hB HB hb;clear hb hbox hg;have dX:=b4.out;have dY:=b3.out;obtain⟨⟨_,_,_,_,_,_⟩,_,_,_,_,_,_⟩:=z6 b1;obtain⟨bZ,d1,dK⟩:=Kd.ao bI.out;subst dK;obtain⟨d2,d3,dL⟩:=Kd.ao bJ.out;subst dL;obtain⟨d4,d5,dM⟩:=Kd.ao bK.out;subst dM))
 have H:=dF.out;clear dF
 by_cases bL:bH=0
 rotate_left
 ·rw[if_neg bL]at H;have bQ:(bH==0)=false:=beq_eq_false_iff_ne.mpr bL;have bR:(bH !=0)=true:=bne_iff_ne.mpr bL
  (rw[bR])
  simp only[Option.some.injEq,Prod.mk.injEq]at H;obtain⟨rfl,rfl⟩:=H
  go_wp2
  go_ret2
  exact⟨_,oE,nM b9 b1,oB⟩
 rw[if_pos bL]at H;have bQ:(bH==0)=true:=beq_iff_eq.mpr bL;have bR:(bH !=0)=false:=bne_eq_false_iff_eq.mpr bL;clear bL
 (rw[bR])
 by_cases bM:b7=2
 rotate_left
 ·rw[if_neg bM]at H;have dB:(b7==2)=false:=beq_eq_false_iff_ne.mpr bM;have dC:(b7 !=2)=true:=bne_iff_ne.mpr bM;simp only[Option.some.injEq,Prod.mk.injEq]at H;obtain⟨rfl,rfl⟩:=H;have dZ:=b4.out;have gA:=b3.out;obtain⟨⟨_,_,_,_,_,_⟩,_,_,_,_,_,_⟩:=z6 b1
  go_wp2
  go_ret2
  exact⟨_,oE,nM b9 b1,oB⟩
 rw[if_pos bM]at H;have dB:(b7==2)=true:=beq_iff_eq.mpr bM;have dC:(b7 !=2)=false:=bne_eq_false_iff_eq.mpr bM;clear bM;have H':=ae.mk H;clear H;have gB:=b4.out;have gC:=b3.out;obtain⟨⟨_,_,_,_,_,_⟩,_,_,_,_,_,_⟩:=z6 b1
 go_wp2
 go_loopg [6,9] k (fun kq v6 v9 w'=>∃(bS:List ByteArray) (bB:Int),v9= .int .i64 bB∧ae (ff.l0 kq bS bB bO b7 bP bF b6 bG=some (r1,r2))∧ae (kq≤k)∧ae (Kd.R Kd.string 9 w' w.heap.size (fun _=>True) v6 bS)∧ae (Kd.R (Kd.int .u8) 5 w' w.heap.size (fun _=>True) (.slice bZ bF.length d1) bF)∧ae (Kd.R fL 74 w' w.heap.size (fun _=>True) (.slice d2 b6.length d3) b6)∧ae (Kd.R dn 101 w' w.heap.size (fun _=>True) (.slice d4 bG.length d5) bG)∧ae (w'.heap[bX]? =some (.cells #[(.slice bs ah.length bo),.int .i64 al] 26 (0,0)))∧ae (w'.heap[bY]? =some (.cells #[.int .i64 bO,.int .i64 b7,.int .i64 bP,(.slice bZ bF.length d1),(.slice d2 b6.length d3),(.slice d4 bG.length d5)] 32 (0,0)))∧ae (Below w.heap.size w w'))
 case atStart=>exact⟨(bN),(0),oS,H',⟨Nat.le_refl _⟩,⟨nM b9 b1⟩,⟨nM bI b1⟩,⟨nM bJ b1⟩,⟨nM bK b1⟩,⟨oF b2⟩,⟨oP b1⟩,⟨oB⟩⟩
 case round=>
  clear H'
  try clear bQ
  try clear bR
  obtain⟨bS,bB,rfl,HA,dI,bE,bC,b8,bD,b2,b1,HB⟩:=hrel
  cases gk with
  |zero=>exact absurd HA.out (by simp[ff.l0])
  |succ k1=>
   have H:=HA.out;clear HA;simp only[ff.l0]at H;have d6:=ae.mk H;clear H;have gD:=b4.out;have gE:=b3.out;obtain⟨⟨_,_,_,_,_,_⟩,_,_,_,_,_,_⟩:=z6 b1
   go_upto_if 29 with(fail)
   have H:=d6.out;clear d6;replace H:=kU H;rcases H with⟨bT,H⟩|⟨bT,H⟩;rotate_left
   ·(rw[bT])
    simp only[Option.some.injEq,Prod.mk.injEq]at H;obtain⟨rfl,rfl⟩:=H
    go_wp2
    go_ret2
    exact⟨_,oE,oR bE,oB⟩
   (rw[bT])
   obtain⟨gF,H⟩:=dw H;obtain⟨dJ,H⟩:=jm H;have dD:=ae.mk dJ;clear dJ;obtain⟨bW,cx⟩:∃y_:List ByteArray,y_=(bS++[(aA b6 bB).f0]):=⟨_,rfl⟩;replace H:(ff.l0 k1 bW (wrap64 (bB+1)) bO b7 bP bF b6 bG)=some (r1,r2):=oY;have d7:=ae.mk cx;clear cx;have H':=ae.mk H;clear H;have gG:=b4.out;have gH:=b3.out;obtain⟨⟨_,_,_,_,_,_⟩,_,_,_,_,_,_⟩:=z6 b1;have gI:(0≤(bB:Int))=True:=oT;have gJ:(bB<(b6.length:Int))=True:=oT;obtain⟨dS,dE,dN,dO⟩:=ec (Kd.aU b8.out).2.2 bB oa oa
   cases dE
   go_wp2_with (((with_reducible refine cX (b:= .append) (xs:= #[.tmp 32,.tmp 39]) rfl ?_);at_builtin;refine Kd.iN Kd.string (w0:=w) w.heap.size rfl (.tmp 32) (.tmp 39) 35 9 (.string ⟨#[]⟩) 16 rfl underlying35 info9 rfl (by decide) (by omega) u6 bS ((aA b6 bB).f0) [.string ((aA b6 bB).f0)] (fun _=>True) (fun _=>False) rfl rfl ?aP (fun _ hk=>hk.elim) ?aF ?aO ?aB ?aS ?aL ?_;(case aP=>exact rfl);(case aB=>exact oB);(case aF=>exact(fun _ _=>trivial));(case aO=>exact(oR bE));(case aS=>exact(af oB));(case aL=>have:=dD.out;omega);intro gK gO ho hb hg hat;rw[←d7.out]at ho;have d8:=am (ho);replace bC:=am (Kd.ev (oR bC) (Kd.ee (oR bE)) (by decide) hg);replace b8:=am (Kd.ev (oR b8) (Kd.ee (oR bE)) (by decide) hg);replace bD:=am (Kd.ev (oR bD) (Kd.ee (oR bE)) (by decide) hg);replace b2:=iF b2 hg (Kd.ig bE.out b2.out (by decide));replace b1:=iF b1 hg (Kd.ig bE.out b1.out (by decide));replace HB:=am (hb);clear bE;clear ho hb hg hat))
   go_roundg k1
   case measure=>have:=dI.out;omega
   case rel=>exact⟨(bW),(wrap64 (bB+1)),oS,H',⟨by have:=dI.out;omega⟩,⟨oR d8⟩,⟨oR bC⟩,⟨oR b8⟩,⟨oR bD⟩,⟨oF b2⟩,⟨oF b1⟩,⟨oB⟩⟩

def fe.l0:Nat→List ByteArray→List (cD)→Int→Int→Option (List ByteArray×Int)
 |0,_,_,_,_=>none
 |k+1,x8,b2,b3,b1=>if b1<b3 then(if 0≤b1 then(if b1<(b2.length:Int)then(if x8.length<8796093022208 then(fe.l0 k (x8++[(aA b2 b1).f0]) b2 b3 (wrap64 (b1+1)))else(none))else(none))else(none))else(some (x8,0))
def fe.f (k:Nat) (ah:List (aW)) (al:Int) (a1:ByteArray):Option (List ByteArray×Int):=(jh.f k ah al a1).bind fun b1=>(if b1.2.2.2.2.2.2=0 then(if b1.2.1=2 then(fe.l0 k (([]:List ByteArray)) b1.2.2.2.2.1 (b1.2.2.2.2.1.length:Int) 0)else(some (([]:List ByteArray),3)))else(some (([]:List ByteArray),b1.2.2.2.2.2.2)))
theorem fe.calls (k:Nat) (bs:Option Addr) (bo:Nat) (ah:List (aW)) (al:Int) (a1:ByteArray) (r1:List ByteArray) (r2:Int) (w:World) (cy:Kd.C k32 w bs ah.length ah) (cA:ah.length≤bo) (h:fe.f k ah al a1=some (r1,r2)) (hG:GOk w:=by exact gk_ oB (by first|(with_reducible assumption)|assumption)):
  Calls Tryz.prog 14 #[.agg #[.slice bs ah.length bo,.int .i64 al],.string a1] w fun e w'=>∃fy:Value,e= .returned (.tuple #[fy,.int .i64 r2])∧Kd.R Kd.string 9 w' w.heap.size (fun _=>True) fy r1∧Below w.heap.size w w':=by
 have HG:=ae.mk hG;clear hG;have gR:=underlying26;have gS:=underlying32;have gT:=underlying74;have dD:=ae.mk cy;have dE:=ae.mk cA;clear cy cA;have HB:=am (Below.refl w.heap.size w);unfold fe.f at h;have H:=h;clear h;replace H:=bA H;obtain⟨⟨bW,bC,bX,bJ,b3,bK,bH⟩,A3,H⟩:=H
 try dsimp only at H
 have dK:=ae.mk H;clear H
 go_enter func14,ntmps14
 go_upto_if 18 with(first|((with_reducible refine au (N:=2) rfl ?_);refine fz 2 #[.slice bs ah.length bo,.int .i64 al] 26 ?_;intro d8 hg w5 hbox hb;have b1:=am (hbox);have dU:=fO hg;replace HB:=hB HB hb;clear hb hbox hg;obtain⟨⟨_,_⟩,_,_⟩:=z2 b1)|((with_reducible refine ag (f:=12) rfl ?_);refine dk 14 func12 (jh.calls k _ _ ah al a1 bW bC bX bJ b3 bK bH _ (kC dD) dE.out A3.out) ?_;rintro e w7 ⟨gA,gB,gC,rfl,dV,dL,dM,hb⟩;refine⟨_,rfl,?_⟩;have bF:=am (Kd.aq dV (af oB));have bB:=am (Kd.aq dL (af oB));have bG:=am (Kd.aq dM (af oB));replace b1:=ba b1 hb;replace HB:=hB HB hb;(try clear dL);(try clear dM))|((with_reducible refine au (N:=6) rfl ?_);refine fz 6 #[.int .i64 0,.int .i64 0,.int .i64 0,.slice none 0 0,.slice none 0 0,.slice none 0 0] 32 ?_;intro d9 hg w8 hbox hb;have b2:=am (hbox);have dW:=fO hg;have bD:=fX hg b1;have bE:=fY hg b1;replace bF:=dm bF hb;replace bB:=dm bB hb;replace bG:=dm bG hb;replace b1:=ba b1 hb;replace HB:=hB HB hb;clear hb hbox hg;have gU:=bE.out;have gV:=bD.out;obtain⟨⟨_,_,_,_,_,_⟩,_,_,_,_,_,_⟩:=z6 b2;obtain⟨d2,d3,dP⟩:=Kd.ao bF.out;subst dP;obtain⟨bY,bZ,dQ⟩:=Kd.ao bB.out;subst dQ;obtain⟨d4,d5,dR⟩:=Kd.ao bG.out;subst dR))
 have H:=dK.out;clear dK
 by_cases bM:bH=0
 rotate_left
 ·rw[if_neg bM]at H;have bO:(bH==0)=false:=beq_eq_false_iff_ne.mpr bM;have bP:(bH !=0)=true:=bne_iff_ne.mpr bM
  (rw[bP])
  simp only[Option.some.injEq,Prod.mk.injEq]at H;obtain⟨rfl,rfl⟩:=H
  go_wp2
  go_ret2
  exact⟨_,oE,by exact Kd.er _ _ _ _ _,oB⟩
 rw[if_pos bM]at H;have bO:(bH==0)=true:=beq_iff_eq.mpr bM;have bP:(bH !=0)=false:=bne_eq_false_iff_eq.mpr bM;clear bM
 (rw[bP])
 by_cases bN:bC=2
 rotate_left
 ·rw[if_neg bN]at H;have dF:(bC==2)=false:=beq_eq_false_iff_ne.mpr bN;have dG:(bC !=2)=true:=bne_iff_ne.mpr bN;simp only[Option.some.injEq,Prod.mk.injEq]at H;obtain⟨rfl,rfl⟩:=H;have gD:=bE.out;have gE:=bD.out;obtain⟨⟨_,_,_,_,_,_⟩,_,_,_,_,_,_⟩:=z6 b2
  go_wp2
  go_ret2
  exact⟨_,oE,by exact Kd.er _ _ _ _ _,oB⟩
 rw[if_pos bN]at H;have dF:(bC==2)=true:=beq_iff_eq.mpr bN;have dG:(bC !=2)=false:=bne_eq_false_iff_eq.mpr bN;clear bN;obtain⟨d6,cx⟩:∃y_:List ByteArray,y_=(([]:List ByteArray)):=⟨_,rfl⟩;replace H:(fe.l0 k d6 b3 (b3.length:Int) 0)=some (r1,r2):=oY;have d1:=ae.mk cx;clear cx;have H':=ae.mk H;clear H;have gF:=bE.out;have gG:=bD.out;obtain⟨⟨_,_,_,_,_,_⟩,_,_,_,_,_,_⟩:=z6 b2
 go_wp2_with (((with_reducible refine au (N:=23) rfl ?_);refine Kd.gu Kd.string _ 9 ?hg (N:=23) ?hd (xs:=([]:List ByteArray)) (inner:=[]) (ok:=fun _=>True) (fw:=fun _=>True) ?hr ?hp (fun _ hk=>hk) trivial (Below.refl _ _) (Nat.le_refl _) (by simp) ?_;(case hd=>rfl);(case hg=>rfl);(case hr=>(go_simp;done));(case hp=>exact(bp.none _ _));intro gH gW bQ hb fN cj;clear fN cj;(rw[←d1.out]at bQ);have dA:=am (Kd.aq bQ (af oB));replace bF:=du bF b2 hb;replace bB:=du bB b2 hb;replace bG:=du bG b2 hb;replace b1:=ba b1 hb;replace b2:=mc #[.int .i64 bW,.int .i64 bC,.int .i64 bX,.slice d2 bJ.length d3,.slice bY b3.length bZ,.slice d4 bK.length d5] b2 hb;replace HB:=hB HB hb;clear hb bQ;obtain⟨⟨_,_,_,_,_,_⟩,_,_,_,_,_,_⟩:=z6 b2))
 go_loopg [8,27] k (fun kq v8 dX w'=>∃(bR:List ByteArray) (b5:Int),dX= .int .i64 b5∧ae (fe.l0 kq bR b3 (b3.length:Int) b5=some (r1,r2))∧ae (kq≤k)∧ae (Kd.R Kd.string 9 w' w.heap.size (fun _=>True) v8 bR)∧ae (Kd.R fL 74 w' w.heap.size (fun _=>True) (.slice bY b3.length bZ) b3)∧ae (Kd.R (Kd.int .u8) 5 w' w.heap.size (fun _=>True) (.slice d2 bJ.length d3) bJ)∧ae (Kd.R fL 74 w' w.heap.size (fun _=>True) (.slice bY b3.length bZ) b3)∧ae (Kd.R dn 101 w' w.heap.size (fun _=>True) (.slice d4 bK.length d5) bK)∧ae (w'.heap[d8]? =some (.cells #[(.slice bs ah.length bo),.int .i64 al] 26 (0,0)))∧ae (w'.heap[d9]? =some (.cells #[.int .i64 bW,.int .i64 bC,.int .i64 bX,(.slice d2 bJ.length d3),(.slice bY b3.length bZ),(.slice d4 bK.length d5)] 32 (0,0)))∧ae (Below w.heap.size w w'))
 case atStart=>exact⟨(d6),(0),oS,H',⟨Nat.le_refl _⟩,⟨oR dA⟩,⟨oR bB⟩,⟨oR bF⟩,⟨oR bB⟩,⟨oR bG⟩,⟨oF b1⟩,⟨oF b2⟩,⟨oB⟩⟩
 case round=>
  clear H'
  try clear bO
  try clear bP
  obtain⟨bR,b5,rfl,HA,dN,b9,bI,b6,b7,b8,b1,b2,HB⟩:=hrel
  cases gk with
  |zero=>exact absurd HA.out (by simp[fe.l0])
  |succ k1=>
   have H:=HA.out;clear HA;simp only[fe.l0]at H;replace H:=kU H;rcases H with⟨dH,H⟩|⟨dH,H⟩;rotate_left
   ·simp only[Option.some.injEq,Prod.mk.injEq]at H;obtain⟨rfl,rfl⟩:=H
    go_wp2
    go_ret2
    exact⟨_,oE,oR b9,oB⟩
   obtain⟨gI,H⟩:=dw H;obtain⟨gJ,H⟩:=dw H;obtain⟨dO,H⟩:=jm H;have dI:=ae.mk dO;clear dO;obtain⟨d7,cx⟩:∃y_:List ByteArray,y_=(bR++[(aA b3 b5).f0]):=⟨_,rfl⟩;replace H:(fe.l0 k1 d7 b3 (b3.length:Int) (wrap64 (b5+1)))=some (r1,r2):=oY;have dB:=ae.mk cx;clear cx;have H':=ae.mk H;clear H;have gK:(0≤(b5:Int))=True:=oT;have gL:(b5<(b3.length:Int))=True:=oT;obtain⟨dY,dJ,dS,dT⟩:=ec (Kd.aU bI.out).2.2 b5 oa oa
   cases dJ
   go_wp2_with (first|((with_reducible refine au (N:=10) rfl ?_);refine fz 10 #[.string (⟨#[]⟩:ByteArray),.int .i64 0] 74 ?_;intro bL hg gX hbox hb;have b4:=am (hbox);have dZ:=fO hg;have bS:=fX hg b1;have bT:=fY hg b1;have bU:=fX hg b2;have bV:=fY hg b2;replace b9:=dm b9 hb;replace bI:=am (Kd.jq (Kd.tZ (oR bI) bL (Nat.le_of_eq hg.symm)) hb);replace b6:=dm b6 hb;replace b7:=am (Kd.jq (Kd.tZ (oR b7) bL (Nat.le_of_eq hg.symm)) hb);replace b8:=dm b8 hb;replace b1:=ba b1 hb;replace b2:=ba b2 hb;replace HB:=hB HB hb;clear hb hbox hg;have gM:=bT.out;have gN:=bS.out;have gO:=bV.out;have gP:=bU.out;obtain⟨⟨_,_⟩,_,_⟩:=z2 b4)|((with_reducible refine cX (b:= .append) (xs:= #[.tmp 31,.tmp 34]) rfl ?_);at_builtin;refine Kd.iN Kd.string (w0:=w) w.heap.size rfl (.tmp 31) (.tmp 34) 35 9 (.string ⟨#[]⟩) 16 rfl underlying35 info9 rfl (by decide) (by omega) u8 bR ((aA b3 b5).f0) [.string ((aA b3 b5).f0)] (fun _=>True) (fun _=>False) rfl (by(go_simp;done)) ?aP (fun _ hk=>hk.elim) ?aF ?aO ?aB ?aS ?aL ?_;(case aP=>exact rfl);(case aB=>exact oB);(case aF=>exact(fun _ _=>trivial));(case aO=>exact(nM b9 b4));(case aS=>exact(af oB));(case aL=>have:=dI.out;omega);intro gQ gY ho hb hg hat;rw[←dB.out]at ho;have dC:=am (ho);replace bI:=am (Kd.ev (nR2 bI bL (fun _ hk=>hk.2)) (Kd.ee (vp b9 b4)) (by decide) hg);replace b6:=am (Kd.ev (vp b6 b4) (Kd.ee (vp b9 b4)) (by decide) hg);replace b7:=am (Kd.ev (nR2 b7 bL (fun _ hk=>hk.2)) (Kd.ee (vp b9 b4)) (by decide) hg);replace b8:=am (Kd.ev (vp b8 b4) (Kd.ee (vp b9 b4)) (by decide) hg);replace b1:=iF b1 hg (Kd.ig b9.out b1.out (by decide));replace b2:=iF b2 hg (Kd.ig b9.out b2.out (by decide));replace b4:=bp_ #[.string ((aA b3 b5).f0),.int .i64 ((aA b3 b5).f1)] b4 hg (Kd.ig b9.out b4.out (by decide));replace HB:=am (hb);clear b9;clear ho hb hg hat))
   go_roundg k1
   case measure=>have:=dN.out;omega
   case rel=>exact⟨(d7),(wrap64 (b5+1)),oS,H',⟨by have:=dN.out;omega⟩,⟨oR dC⟩,⟨mR bI⟩,⟨oR b6⟩,⟨mR b7⟩,⟨oR b8⟩,⟨oF b1⟩,⟨oF b2⟩,⟨oB⟩⟩

def ft.f (k:Nat) (ah:List (aW)) (al:Int) (a1:ByteArray):Option (Int×Int×Int×List Int×(List (cD))×(List (bj))×Int):=(eA.f k ah al a1).bind fun b1=>(if b1.2.2.2.2.2.2=0 then(if b1.2.1=1 then(some (b1.1,b1.2.1,b1.2.2.1,b1.2.2.2.1,b1.2.2.2.2.1,b1.2.2.2.2.2.1,b1.2.2.2.2.2.2))else(some (0,0,0,([]:List Int),([]:List (cD)),([]:List (bj)),3)))else(some (b1.1,b1.2.1,b1.2.2.1,b1.2.2.2.1,b1.2.2.2.2.1,b1.2.2.2.2.2.1,b1.2.2.2.2.2.2)))
theorem ft.calls (k:Nat) (bs:Option Addr) (bo:Nat) (ah:List (aW)) (al:Int) (a1:ByteArray) (r1:Int) (r2:Int) (r3:Int) (r4:List Int) (r5:List (cD)) (r6:List (bj)) (r7:Int) (w:World) (cy:Kd.C k32 w bs ah.length ah) (cA:ah.length≤bo) (h:ft.f k ah al a1=some (r1,r2,r3,r4,r5,r6,r7)):
  Calls Tryz.prog 85 #[.agg #[.slice bs ah.length bo,.int .i64 al],.string a1] w fun e w'=>∃pJ pK pL:Value,e= .returned (.tuple #[.agg #[.int .i64 r1,.int .i64 r2,.int .i64 r3,pJ,pK,pL],.int .i64 r7])∧Kd.R (Kd.int .u8) 5 w' w.heap.size (fun _=>True) pJ r4∧Kd.R fL 74 w' w.heap.size (fun _=>True) pK r5∧Kd.R dn 101 w' w.heap.size (fun _=>True) pL r6∧Below w.heap.size w w':=by
 have dZ:=underlying26;have gA:=underlying32;have bU:=ae.mk cy;have bV:=ae.mk cA;clear cy cA;have HB:=am (Below.refl w.heap.size w);unfold ft.f at h;have H:=h;clear h;replace H:=bA H;obtain⟨⟨bJ,bB,bK,bL,bM,bN,bF⟩,A3,H⟩:=H
 try dsimp only at H
 have d1:=ae.mk H;clear H
 go_enter func85,ntmps85
 go_upto_region 2 with(first|((with_reducible refine au (N:=2) rfl ?_);refine fz 2 #[.slice bs ah.length bo,.int .i64 al] 26 ?_;intro d8 hg w5 hbox hb;have b2:=am (hbox);have d9:=fO hg;replace HB:=hB HB hb;clear hb hbox hg)|((with_reducible refine au (N:=4) rfl ?_);refine fz 4 #[.int .i64 0,.int .i64 0,.int .i64 0,.slice none 0 0,.slice none 0 0,.slice none 0 0] 32 ?_;intro bI hg w6 hbox hb;have b1:=am (hbox);have dA:=fO hg;have b4:=fX hg b2;have b5:=fY hg b2;replace b2:=ba b2 hb;replace HB:=hB HB hb;clear hb hbox hg;have gB:=b4.out;have gC:=b5.out;obtain⟨⟨_,_⟩,_,_⟩:=z2 b2)|((with_reducible refine ag (f:=13) rfl ?_);refine dk 11 func13 (eA.calls k _ _ ah al a1 bJ bB bK bL bM bN bF _ (kC bU) bV.out A3.out) ?_;rintro e w9 ⟨gD,gE,gF,rfl,d7,d2,d3,hb⟩;refine⟨_,rfl,?_⟩;have bC:=am (Kd.aq d7 (af oB));have bD:=am (Kd.aq d2 (af oB));have bE:=am (Kd.aq d3 (af oB));replace b2:=ba b2 hb;replace b1:=ba b1 hb;replace HB:=hB HB hb;(try clear d2);(try clear d3))|((with_reducible refine au (N:=6) rfl ?_);refine fz 6 #[.int .i64 0,.int .i64 0,.int .i64 0,.slice none 0 0,.slice none 0 0,.slice none 0 0] 32 ?_;intro dB hg gG hbox hb;have b3:=am (hbox);have dC:=fO hg;have b6:=fX hg b2;have b7:=fY hg b2;have b8:=fX hg b1;have b9:=fY hg b1;replace bC:=dm bC hb;replace bD:=dm bD hb;replace bE:=dm bE hb;replace b2:=ba b2 hb;replace b1:=ba b1 hb;replace HB:=hB HB hb;clear hb hbox hg;have dD:=b7.out;have dE:=b6.out;have dF:=b9.out;have dG:=b8.out;obtain⟨⟨_,_,_,_,_,_⟩,_,_,_,_,_,_⟩:=z6 b3;obtain⟨bO,bP,d4⟩:=Kd.ao bC.out;subst d4;obtain⟨bQ,bR,d5⟩:=Kd.ao bD.out;subst d5;obtain⟨bS,bT,d6⟩:=Kd.ao bE.out;subst d6))
 have H:=d1.out;clear d1
 by_cases bG:bF=0
 rotate_left
 ·rw[if_neg bG]at H;have bW:(bF==0)=false:=beq_eq_false_iff_ne.mpr bG;have bX:(bF !=0)=true:=bne_iff_ne.mpr bG;simp only[Option.some.injEq,Prod.mk.injEq]at H;obtain⟨rfl,rfl,rfl,rfl,rfl,rfl,rfl⟩:=H;have dH:=b7.out;have dI:=b6.out;have dJ:=b9.out;have dK:=b8.out;obtain⟨⟨_,_,_,_,_,_⟩,_,_,_,_,_,_⟩:=z6 b3;have dL:=b5.out;have dM:=b4.out;obtain⟨⟨_,_,_,_,_,_⟩,_,_,_,_,_,_⟩:=z6 b1
  go_wp2
  refine bodyPost_ret (bu rfl _ _ bI 32 #[.int .i64 bJ,.int .i64 bB,.int .i64 bK,.slice bO bL.length bP,.slice bQ bM.length bR,.slice bS bN.length bT] (0,0) _ rfl (oP b1) underlying32 rfl (by kernel_rfl)) rfl ?_;exact⟨_,_,_,oE,nO bC b3 b1,nO bD b3 b1,nO bE b3 b1,oB⟩
 rw[if_pos bG]at H;have bW:(bF==0)=true:=beq_iff_eq.mpr bG;have bX:(bF !=0)=false:=bne_eq_false_iff_eq.mpr bG;clear bG
 by_cases bH:bB=1
 ·rw[if_pos bH]at H;have bY:(bB==1)=true:=beq_iff_eq.mpr bH;have bZ:(bB !=1)=false:=bne_eq_false_iff_eq.mpr bH;clear bH;simp only[Option.some.injEq,Prod.mk.injEq]at H;obtain⟨rfl,rfl,rfl,rfl,rfl,rfl,rfl⟩:=H;have dN:=b7.out;have dO:=b6.out;have dP:=b9.out;have dQ:=b8.out;obtain⟨⟨_,_,_,_,_,_⟩,_,_,_,_,_,_⟩:=z6 b3;have dR:=b5.out;have dS:=b4.out;obtain⟨⟨_,_,_,_,_,_⟩,_,_,_,_,_,_⟩:=z6 b1
  go_wp2
  refine bodyPost_ret (bu rfl _ _ bI 32 #[.int .i64 bJ,.int .i64 bB,.int .i64 bK,.slice bO bL.length bP,.slice bQ bM.length bR,.slice bS bN.length bT] (0,0) _ rfl (oP b1) underlying32 rfl (by kernel_rfl)) rfl ?_;exact⟨_,_,_,oE,nO bC b3 b1,nO bD b3 b1,nO bE b3 b1,oB⟩
 rw[if_neg bH]at H;have bY:(bB==1)=false:=beq_eq_false_iff_ne.mpr bH;have bZ:(bB !=1)=true:=bne_iff_ne.mpr bH;simp only[Option.some.injEq,Prod.mk.injEq]at H;obtain⟨rfl,rfl,rfl,rfl,rfl,rfl,rfl⟩:=H;have dT:=b7.out;have dU:=b6.out;have dV:=b9.out;have dW:=b8.out;obtain⟨⟨_,_,_,_,_,_⟩,_,_,_,_,_,_⟩:=z6 b3;have dX:=b5.out;have dY:=b4.out;obtain⟨⟨_,_,_,_,_,_⟩,_,_,_,_,_,_⟩:=z6 b1
 go_wp2
 refine bodyPost_ret (bu rfl _ _ bI 32 #[.int .i64 0,.int .i64 0,.int .i64 0,.slice none 0 0,.slice none 0 0,.slice none 0 0] (0,0) _ rfl (oP b1) underlying32 rfl (by kernel_rfl)) rfl ?_;exact⟨_,_,_,oE,by exact Kd.er _ _ _ _ _,by exact Kd.er _ _ _ _ _,by exact Kd.er _ _ _ _ _,oB⟩

def eo.l0:Nat→ByteArray→Int→List Int→Int→Int→Option (ByteArray×Int×Int)
 |0,_,_,_,_,_=>none
 |k+1,x3,x4,b2,b3,b4=>if x4>0 then(if x3.size+1≤9223372036854775807 then((gl.f b2 b3 b4).bind fun b1=>(if(x3++(⟨#[47]⟩:ByteArray)).size+b1.1.size≤9223372036854775807 then(eo.l0 k ((x3++(⟨#[47]⟩:ByteArray))++b1.1) (wrap64 (x4-1)) b2 b1.2.1 b1.2.2)else(none)))else(none))else(some (x3,b3,b4))
def eo.f (k:Nat) (bd:List Int) (de:Int) (df:Int):Option (ByteArray×Int×Int):=(br.f bd de df 3).bind fun b1=>(eo.l0 k (⟨#[]⟩:ByteArray) (wrap64 (1+b1.1)) bd b1.2.1 b1.2.2)
theorem eo.calls (k:Nat) (g:Nat) (bd:List Int) (de:Int) (df:Int) (r1:ByteArray) (r2:Int) (r3:Int) (w0 w:World) (hI:ak w0 w g bd de df) (hB:Below w0.heap.size w0 w) (h:eo.f k bd de df=some (r1,r2,r3)):
  Calls Tryz.prog 56 #[.pointer (some ⟨g,0,none⟩)] w fun e w'=>e= .returned (.string r1)∧ak w0 w' g bd r2 r3∧Below w0.heap.size w0 w'∧aI w w' g none:=by
 have HI0:=ae.mk hI;have HK:=am (aI.refl w g none);have HL:=ae.mk hB.size;clear hI;have HW0:=ae.mk hB.size;have HB:=ae.mk hB;clear hB;unfold eo.f at h;have H:=h;clear h;replace H:=bA H;obtain⟨⟨b6,b7,b8⟩,A2,H⟩:=H
 try dsimp only at H
 have H':=ae.mk H;clear H
 go_enter func56,ntmps56
 go_wp2_with (((with_reducible refine ag (f:=101) rfl ?_);refine dk 6 func101 (br.calls g bd de df 3 b6 b7 b8 w0 _ ?aC ?bh A2.out) ?_;(case aC=>exact cK);(case bh=>exact dg);rintro e w3 ⟨rfl,hi,hb,hk⟩;refine⟨_,rfl,?_⟩;replace HK:=hk2 HK hk;replace HI0:=am (hi);replace HB:=am (hb);(try clear hk);(try clear hi)))
 go_loopg [3,4] k (fun kq v3 v4 w'=>∃(b1:ByteArray) (b5:Int) (b2:Int) (b3:Int),v3= .string b1∧v4= .int .i64 b5∧ae (eo.l0 kq b1 b5 bd b2 b3=some (r1,r2,r3))∧ae (kq≤k)∧ae (ak w0 w' g bd b2 b3)∧ae (aI w w' g none)∧ae (Below w0.heap.size w0 w'))
 case atStart=>exact⟨((⟨#[]⟩:ByteArray)),(wrap64 (1+b6)),(b7),(b8),oS,oS,H',⟨Nat.le_refl _⟩,⟨HI0.out⟩,⟨HK.out⟩,⟨HB.out⟩⟩
 case round=>
  clear H';obtain⟨b1,b5,b2,b3,rfl,rfl,HA,bC,HI0,HK,HB⟩:=hrel
  cases gk with
  |zero=>exact absurd HA.out (by simp[eo.l0])
  |succ k1=>
   have H:=HA.out;clear HA;simp only[eo.l0]at H;replace H:=ym H;rcases H with⟨bD,H⟩|⟨bD,H⟩;rotate_left
   ·simp only[Option.some.injEq,Prod.mk.injEq]at H;obtain⟨rfl,rfl,rfl⟩:=H
    go_wp2
    go_ret
    exact⟨oE,HI0.out,HB.out,HK.out⟩
   obtain⟨c5,H⟩:=jm H;have bE:=eq_true c5;have bF:decide (b1.size+1≤9223372036854775807)=true:=decide_eq_true c5
   try have bG:(9223372036854775807<b1.size+1)=False:=eq_false (Nat.not_lt.2 c5)
   replace H:=bA H;obtain⟨⟨b4,b9,bB⟩,A6,H⟩:=H
   try dsimp only at H
   obtain⟨c7,H⟩:=jm H;have bH:=eq_true c7;have bI:decide ((b1++(⟨#[47]⟩:ByteArray)).size+b4.size≤9223372036854775807)=true:=decide_eq_true c7
   try have bJ:(9223372036854775807<(b1++(⟨#[47]⟩:ByteArray)).size+b4.size)=False:=eq_false (Nat.not_lt.2 c7)
   try have bK:(9223372036854775807<b1.size+1+b4.size)=False:=eq_false (Nat.not_lt.2 (by have h_:=c7;rw[ByteArray.size_append]at h_;exact h_))
   have H':=ae.mk H;clear H
   go_wp2_with (((with_reducible refine ag (f:=104) rfl ?_);refine dk 15 func104 (gl.calls g bd b2 b3 b4 b9 bB w0 _ ?aC ?bh A6.out) ?_;(case aC=>exact cK);(case bh=>exact dg);rintro e w8 ⟨rfl,hi,hb,hk⟩;refine⟨_,rfl,?_⟩;replace HK:=hk2 HK hk;replace HI0:=am (hi);replace HB:=am (hb);(try clear hk);(try clear hi)))
   go_roundg k1
   case measure=>have:=bC.out;omega
   case rel=>exact⟨((b1++(⟨#[47]⟩:ByteArray))++b4),(wrap64 (b5-1)),(b9),(bB),oS,oS,H',⟨by have:=bC.out;omega⟩,⟨HI0.out⟩,⟨HK.out⟩,⟨HB.out⟩⟩

def fu.f (k:Nat) (ah:List (aW)) (al:Int) (a1:ByteArray):Option ((List (aW))×Int):=(cS.f k a1).bind fun b2=>((eA.f k ah al b2.1).bind fun b1=>((eC.f k b1.2.2.2.2.1 b2.2.1).bind fun b4=>((aD.f k ah al b1.1 b1.2.1 b1.2.2.1 b1.2.2.2.1 b4 b1.2.2.2.2.2.1).bind fun b3=>(some (b3.1,b3.2)))))
theorem fu.calls (k:Nat) (bs:Option Addr) (bo:Nat) (ah:List (aW)) (al:Int) (a1:ByteArray) (r1:List (aW)) (r2:Int) (w:World) (cy:Kd.C k32 w bs ah.length ah) (cA:ah.length≤bo) (h:fu.f k ah al a1=some (r1,r2)):
  Calls Tryz.prog 162 #[.agg #[.slice bs ah.length bo,.int .i64 al],.string a1] w fun e w'=>∃fy:Value,e= .returned (.agg #[fy,.int .i64 r2])∧Kd.N k32 32 w' w.heap.size (fun k_=>(w.heap.size≤k_)) fy r1∧Below w.heap.size w w':=by
 have dQ:=underlying26;have dR:=underlying32;have bW:=ae.mk cy;have bX:=ae.mk cA;clear cy cA;have HB:=am (Below.refl w.heap.size w);unfold fu.f at h;have H:=h;clear h;replace H:=bA H;obtain⟨⟨d1,d2,d8⟩,A3,H⟩:=H
 try dsimp only at H
 replace H:=bA H;obtain⟨⟨bC,bD,bE,b9,bR,bB,d9⟩,A4,H⟩:=H
 try dsimp only at H
 replace H:=bA H;obtain⟨bF,A5,H⟩:=H;replace H:=bA H;obtain⟨⟨bS,bT⟩,A6,H⟩:=H
 try dsimp only at H
 simp only[Option.some.injEq,Prod.mk.injEq]at H;obtain⟨rfl,rfl⟩:=H
 go_enter func162,ntmps162
 go_wp2_with (first|((with_reducible refine au (N:=2) rfl ?_);refine fz 2 #[.slice bs ah.length bo,.int .i64 al] 26 ?_;intro d5 hg w7 hbox hb;have b2:=am (hbox);have dH:=fO hg;replace HB:=hB HB hb;clear hb hbox hg)|((with_reducible refine au (N:=4) rfl ?_);refine fz 4 #[.slice none 0 0,.int .i64 0] 26 ?_;intro b8 hg w8 hbox hb;have b3:=am (hbox);have dI:=fO hg;have bL:=fX hg b2;have bM:=fY hg b2;replace b2:=ba b2 hb;replace HB:=hB HB hb;clear hb hbox hg)|((with_reducible refine ag (f:=161) rfl ?_);refine dk 12 func161 (cS.calls k a1 d1 d2 d8 _ A3.out) ?_;rintro e w9 ⟨rfl,hb⟩;refine⟨_,rfl,?_⟩;replace b2:=ba b2 hb;replace b3:=ba b3 hb;replace HB:=hB HB hb;have dJ:=bL.out;have dK:=bM.out;obtain⟨⟨_,_⟩,_,_⟩:=z2 b2)|((with_reducible refine ag (f:=13) rfl ?_);refine dk 19 func13 (eA.calls k _ _ ah al d1 bC bD bE b9 bR bB d9 _ (kC bW) bX.out A4.out) ?_;rintro e dX ⟨dS,dT,dU,rfl,bG,d6,d7,hb⟩;refine⟨_,rfl,?_⟩;have b4:=am (Kd.aq (Kd.cI (M:=fun k_=>(w.heap.size≤k_)) bG (af oB) (fun k_ h_=>h_)) (af oB));have b6:=am (Kd.aq (Kd.cI (M:=fun k_=>(w.heap.size≤k_)) d6 (af oB) (fun k_ h_=>h_)) (af oB));have b5:=am (Kd.aq (Kd.cI (M:=fun k_=>(w.heap.size≤k_)) d7 (af oB) (fun k_ h_=>h_)) (af oB));replace b2:=ba b2 hb;replace b3:=ba b3 hb;replace HB:=hB HB hb;(try clear d6);(try clear d7))|((with_reducible refine au (N:=8) rfl ?_);refine fz 8 #[.int .i64 0,.int .i64 0,.int .i64 0,.slice none 0 0,.slice none 0 0,.slice none 0 0] 32 ?_;intro bY hg dY hbox hb;have b1:=am (hbox);have dL:=fO hg;have bN:=fX hg b2;have bO:=fY hg b2;have bP:=fX hg b3;have bQ:=fY hg b3;replace b4:=dm b4 hb;replace b6:=dm b6 hb;replace b5:=dm b5 hb;replace b2:=ba b2 hb;replace b3:=ba b3 hb;replace HB:=hB HB hb;clear hb hbox hg;have dM:=bO.out;have dN:=bN.out;have dO:=bQ.out;have dP:=bP.out;obtain⟨⟨_,_,_,_,_,_⟩,_,_,_,_,_,_⟩:=z6 b1;obtain⟨bH,bI,dA⟩:=Kd.ao b4.out;subst dA;obtain⟨dB,dC,dD⟩:=Kd.ao b6.out;subst dD;obtain⟨bJ,bK,dE⟩:=Kd.ao b5.out;subst dE)|((with_reducible refine ag (f:=193) rfl ?_);refine dk 25 func193 (eC.calls k _ _ bR d2 bF _ (lg b6 b1) (ko b6) A5.out) ?_;rintro e dZ ⟨dV,rfl,bG,hb⟩;refine⟨_,rfl,?_⟩;have b7:=am (Kd.aq (Kd.eS (Kd.cI (M:=fun k_=>(w.heap.size≤k_)) bG (af oB) (fun k_ h_=>h_)) (eN b6 b1)) (af oB));replace b4:=du b4 b1 hb;replace b6:=qZ b6 b1 (Kd.cL bG) hb;replace b5:=du b5 b1 hb;replace b2:=ba b2 hb;replace b3:=ba b3 hb;replace b1:=mc #[.int .i64 bC,.int .i64 bD,.int .i64 bE,.slice bH b9.length bI,.slice dB bR.length dC,.slice bJ bB.length bK] b1 hb;replace HB:=hB HB hb;obtain⟨bU,bV,dF⟩:=Kd.ao b7.out;subst dF;obtain⟨⟨_,_,_,_,_,_⟩,_,_,_,_,_,_⟩:=z6 b1;obtain⟨⟨_,_⟩,_,_⟩:=z2 b2)|((with_reducible refine ag (f:=86) rfl ?_);refine dk 29 func86 (aD.calls k _ _ ah al bC bD bE _ _ b9 _ _ bF _ _ bB bS bT _ ?aC bX.out (lg b4 b1) (ko b4) (lg b7 b1) (ko b7) (lg b5 b1) (ko b5) A6.out) ?_;(case aC=>exact Kd.cR bW.out oB);rintro e gA ⟨dW,rfl,bG,hb⟩;refine⟨_,rfl,?_⟩;have bZ:=am (Kd.cz (Kd.an (ok':=fun k_=>(w.heap.size≤k_)∧some k_≠(.slice bH b9.length bI:Value).ownBlock∧some k_≠(.slice bJ bB.length bK:Value).ownBlock∧some k_≠(.slice bU bF.length bV:Value).ownBlock∧k_≠d5∧k_≠b8∧k_≠bY) bG (fun k_ aZ=>⟨(Nat.le_trans (af oB) aZ),(Kd.fresh' (eN b4 b1) k_ aZ),(Kd.fresh' (eN b5 b1) k_ aZ),(Kd.fresh' (eN b7 b1) k_ aZ),(fB b2 aZ),(fB b3 aZ),(Kd.cM (g:=bY) (o:= .cells #[.int .i64 bC,.int .i64 bD,.int .i64 bE,.slice bH b9.length bI,.slice bU bF.length bV,.slice bJ bB.length bK] 32 (0,0)) (oP b1) k_ aZ)⟩)) (af oB));replace b4:=du b4 b1 hb;replace b5:=du b5 b1 hb;replace b7:=du b7 b1 hb;replace b2:=ba b2 hb;replace b3:=ba b3 hb;replace b1:=mc #[.int .i64 bC,.int .i64 bD,.int .i64 bE,.slice bH b9.length bI,.slice bU bF.length bV,.slice bJ bB.length bK] b1 hb;replace HB:=hB HB hb;obtain⟨d3,d4,dG⟩:=Kd.cl bZ.out;subst dG;obtain⟨⟨_,_⟩,_,_⟩:=z2 b3))
 refine bodyPost_ret (results_cell_row rfl _ _ b8 26 #[.slice d3 bS.length d4,.int .i64 bT] (0,0) _ rfl (oP b3) underlying26 rfl (by kernel_rfl)) rfl ?_;exact⟨_,oE,Kd.an (Kd.aN (p:=⟨b8,1,none⟩) (Kd.aN (p:=⟨b8,0,none⟩) (Kd.an bZ.out (fun k_ hk=>(⟨hk,hk.2.2.2.2.2.1⟩:_∧k_≠b8))) (fun _ hk=>hk.2) (.slice d3 bS.length d4)) (fun _ hk=>hk.2) (.int .i64 bT)) (fun _ hk=>hk.1.1),oB⟩
end Go.Proofs.YtkfoopcpihmbmaaGreatDoor.P
