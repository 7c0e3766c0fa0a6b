-- Printed walks.
import Derived.Test.YtlecajlnjmbilaaGreatDoorPx9
set_option linter.all false
namespace Go.Proofs.YtlecajlnjmbilaaGreatDoor.P
open Go.RowKit Go.Proofs.ab.ar Go.Proofs.ab.aV Go.Proofs.ab.aZ
attribute [local go_sem] fl fm gm gn eK eL fo fp

def cV.l0:Nat→List (ma)→Int→Int→Option (Int)
 |0,_,_,_=>none
 |k+1,x0,x1,x5=>if x5<(x0.length:Int)then(if 0≤x5 then((hL.f k ((cD x0 x5).f0) ((cD x0 x5).f1) ((cD x0 x5).f2) ((cD x0 x5).f3) ((cD x0 x5).f4) ((cD x0 x5).f5) x1).bind fun b1=>(if b1<0 then(some (-1))else(cV.l0 k x0 b1 (wrap64 (x5+1)))))else(none))else(some x1)
def cV.f (k:Nat) (l0:List (ma)) (a1:Int):Option (Int):=if(wrap64 (a1-(l0.length:Int)))<0 then(some (-1))else(cV.l0 k l0 (wrap64 (a1-(l0.length:Int))) 0)
set_option maxHeartbeats 8000000 in
set_option maxRecDepth 100000 in
theorem cV.calls (k:Nat) (A0:Option Addr) (c0:Nat) (l0:List (ma)) (a1:Int) (r:Int) (w:World) (hr0:Kd.C k92 w A0 l0.length l0) (hc0:l0.length≤c0) (h:cV.f k l0 a1=some r):
  Calls Tryz.prog 32 #[.slice A0 l0.length c0,.int .i64 a1] w fun e w'=>e= .returned (.int .i64 r)∧Below w.heap.size w w':=by
 have bW:=Tryz.underlying92;have bQ:=ae.mk hr0;have bY:=ae.mk hc0;clear hr0 hc0;have HB:=am (Below.refl w.heap.size w);unfold cV.f at h;have H:=h;clear h;replace H:=iE H;rcases H with⟨bI,H⟩|⟨bI,H⟩
 ·obtain rfl:=Option.some.inj H
  go_enter Tryz.func32,Tryz.ntmps32
  go_wp2
  go_ret
  exact⟨oE,oB⟩
 have H':=ae.mk H;clear H
 go_enter Tryz.func32,Tryz.ntmps32
 go_wp2
 go_loopg [1,5] k (fun kq v1 v5 w'=>∃(b8:Int) (b1:Int),v1= .int .i64 b8∧v5= .int .i64 b1∧ae (cV.l0 kq l0 b8 b1=some r)∧ae (kq≤k)∧ae (Below w.heap.size w w'))
 case atStart=>exact⟨(wrap64 (a1-(l0.length:Int))),(0),oS,oS,H',⟨Nat.le_refl _⟩,⟨oB⟩⟩
 case round=>
  clear H'
  try clear bI
  obtain⟨b8,b1,rfl,rfl,HA,bR,HB⟩:=hrel
  cases gk with
  |zero=>exact absurd HA.out (by simp[cV.l0])
  |succ k1=>
   have H:=HA.out;clear HA;simp only[cV.l0]at H;replace H:=iE H;rcases H with⟨bS,H⟩|⟨bS,H⟩;rotate_left
   ·obtain rfl:=Option.some.inj H
    go_wp2
    go_ret
    exact⟨oE,oB⟩
   obtain⟨bX,H⟩:=cX H;replace H:=bA H;obtain⟨b9,A6,H⟩:=H
   try dsimp only at H
   replace H:=iE H;rcases H with⟨bT,H⟩|⟨bT,H⟩
   ·obtain rfl:=Option.some.inj H;have bU:(0≤(b1:Int))=True:=oT;have bV:(b1<(l0.length:Int))=True:=oT;obtain⟨bP,bJ,bK,bL,bM,bN,bO,bB,bC,bD,bE,bF,bG,bH,b2,b3,b4,b5,b6,b7⟩:=uG bQ HB b1 oa oa
    cases bB
    go_wp2_with (first|((with_reducible refine aj (f:=70) rfl ?_);refine eG 23 Tryz.func70 (hL.calls k1 ((cD l0 b1).f0) ((cD l0 b1).f1) ((cD l0 b1).f2) _ _ ((cD l0 b1).f3) _ _ ((cD l0 b1).f4) _ _ ((cD l0 b1).f5) b8 b9 _ (kC b3) b2.out (kC b5) b4.out (kC b7) b6.out A6.out) ?_;rintro e w8 ⟨rfl,hb⟩;refine⟨_,rfl,?_⟩;replace HB:=hB HB hb))
    go_ret
    exact⟨oE,oB⟩
   have H':=ae.mk H;clear H;have bU:(0≤(b1:Int))=True:=oT;have bV:(b1<(l0.length:Int))=True:=oT;obtain⟨bP,bJ,bK,bL,bM,bN,bO,bB,bC,bD,bE,bF,bG,bH,b2,b3,b4,b5,b6,b7⟩:=uG bQ HB b1 oa oa
   cases bB
   go_wp2_with (first|((with_reducible refine aj (f:=70) rfl ?_);refine eG 23 Tryz.func70 (hL.calls k1 ((cD l0 b1).f0) ((cD l0 b1).f1) ((cD l0 b1).f2) _ _ ((cD l0 b1).f3) _ _ ((cD l0 b1).f4) _ _ ((cD l0 b1).f5) b8 b9 _ (kC b3) b2.out (kC b5) b4.out (kC b7) b6.out A6.out) ?_;rintro e w9 ⟨rfl,hb⟩;refine⟨_,rfl,?_⟩;replace HB:=hB HB hb))
   go_roundg k1
   case measure=>have:=bR.out;omega
   case rel=>exact⟨(b9),(wrap64 (b1+1)),oS,oS,H',⟨by have:=bR.out;omega⟩,⟨oB⟩⟩
end Go.Proofs.YtlecajlnjmbilaaGreatDoor.P
