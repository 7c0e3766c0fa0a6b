-- Printed walks.
import Derived.Test.YtlecajlnjmbilaaGreatDoorPx0
set_option linter.all false
set_option maxHeartbeats 8000000
set_option maxRecDepth 100000
namespace Go.Proofs.YtlecajlnjmbilaaGreatDoor.P
open Go.RowKit Go.Proofs.ae.au Go.Proofs.ae.ba Go.Proofs.ae.bg
attribute [local go_sem] gh gi iR iS ft fu gj gl

def aC.l0:Nat→ByteArray→Int→Int→Option (Bool)
 |0,_,_,_=>none
 |k+1,x0,x6,x7=>if x7<x6 then(if 0≤x7 then(if x7<(x0.size:Int)then(if(bt x0 x7)<97 then(if(bt x0 x7)<48 then(if(bt x0 x7)=95 then(aC.l0 k x0 x6 (wrap64 (x7+1)))else(if(bt x0 x7)=45 then(aC.l0 k x0 x6 (wrap64 (x7+1)))else(if(bt x0 x7)=46 then(aC.l0 k x0 x6 (wrap64 (x7+1)))else(some false))))else(if(bt x0 x7)>57 then(if(bt x0 x7)=95 then(aC.l0 k x0 x6 (wrap64 (x7+1)))else(if(bt x0 x7)=45 then(aC.l0 k x0 x6 (wrap64 (x7+1)))else(if(bt x0 x7)=46 then(aC.l0 k x0 x6 (wrap64 (x7+1)))else(some false))))else(aC.l0 k x0 x6 (wrap64 (x7+1)))))else(if(bt x0 x7)>122 then(if(bt x0 x7)<48 then(if(bt x0 x7)=95 then(aC.l0 k x0 x6 (wrap64 (x7+1)))else(if(bt x0 x7)=45 then(aC.l0 k x0 x6 (wrap64 (x7+1)))else(if(bt x0 x7)=46 then(aC.l0 k x0 x6 (wrap64 (x7+1)))else(some false))))else(if(bt x0 x7)>57 then(if(bt x0 x7)=95 then(aC.l0 k x0 x6 (wrap64 (x7+1)))else(if(bt x0 x7)=45 then(aC.l0 k x0 x6 (wrap64 (x7+1)))else(if(bt x0 x7)=46 then(aC.l0 k x0 x6 (wrap64 (x7+1)))else(some false))))else(aC.l0 k x0 x6 (wrap64 (x7+1)))))else(aC.l0 k x0 x6 (wrap64 (x7+1)))))else(none))else(none))else(if(x0.size:Int)≥1 then(if(x0.size:Int)≤14 then(if x0.toList=([46]:List UInt8)then(some false)else(some (x0.toList !=([46,46]:List UInt8))))else(some false))else(some false))
def aC.f (k:Nat) (a0:ByteArray):Option (Bool):=aC.l0 k a0 (a0.size:Int) 0
theorem aC.calls (k:Nat) (a0:ByteArray) (r:Bool) (w:World) (h:aC.f k a0=some r):
  Calls Tryz.prog 65 #[.string a0] w fun e w'=>e= .returned (.bool r)∧eX w w':=by
 unfold aC.f at h;have H:=h;clear h;have H':=ab.mk H;clear H
 go_enter Tryz.func65,Tryz.ntmps65
 go_wp2
 go_loopg [7] k (fun kq v7 w'=>∃(b1:Int),v7= .int .i64 b1∧ab (aC.l0 kq a0 (a0.size:Int) b1=some r)∧ab (kq≤k)∧eX w w')
 case atStart=>exact⟨(0),oS,H',⟨Nat.le_refl _⟩,oD⟩
 case round=>
  clear H';obtain⟨b1,rfl,HA,b2,⟨m1,rfl⟩⟩:=hrel
  cases gk with
  |zero=>exact absurd HA.out (by simp[aC.l0])
  |succ k1=>
   have H:=HA.out;clear HA;simp only[aC.l0]at H;replace H:=iH H;rcases H with⟨dC,H⟩|⟨dC,H⟩;rotate_left
   ·by_cases bF:(a0.size:Int)≥1
    rotate_left
    ·rw[if_neg bF]at H;have bH:decide (1≤(a0.size:Int))=false:=decide_eq_false bF;have bI:decide (1≤a0.size)=false:=decide_eq_false (by omega);clear bF;obtain rfl:=Option.some.inj H
     go_wp2
     go_ret
     exact⟨oS,oD⟩
    rw[if_pos bF]at H;have bH:decide (1≤(a0.size:Int))=true:=decide_eq_true bF;have bI:decide (1≤a0.size)=true:=decide_eq_true (by omega);clear bF
    by_cases bG:(a0.size:Int)≤14
    rotate_left
    ·rw[if_neg bG]at H;have bJ:decide ((a0.size:Int)≤14)=false:=decide_eq_false bG;have bK:decide (a0.size≤14)=false:=decide_eq_false (by omega);clear bG;obtain rfl:=Option.some.inj H
     go_wp2
     go_ret
     exact⟨oS,oD⟩
    rw[if_pos bG]at H;have bJ:decide ((a0.size:Int)≤14)=true:=decide_eq_true bG;have bK:decide (a0.size≤14)=true:=decide_eq_true (by omega);clear bG
    by_cases b4:a0.toList=([46]:List UInt8)
    rotate_left
    ·rw[if_neg b4]at H;have bL:(a0.toList==([46]:List UInt8))=false:=beq_eq_false_iff_ne.mpr b4;have bM:(a0.toList !=([46]:List UInt8))=true:=bne_iff_ne.mpr b4;obtain rfl:=Option.some.inj H
     go_wp2
     go_ret
     exact⟨oS,oD⟩
    rw[if_pos b4]at H;have bL:(a0.toList==([46]:List UInt8))=true:=beq_iff_eq.mpr b4;have bM:(a0.toList !=([46]:List UInt8))=false:=bne_eq_false_iff_eq.mpr b4;clear b4;obtain rfl:=Option.some.inj H
    go_wp2
    go_ret
    exact⟨oS,oD⟩
   obtain⟨dJ,H⟩:=cU H;obtain⟨dK,H⟩:=cU H;replace H:=iH H;rcases H with⟨dD,H⟩|⟨dD,H⟩
   ·replace H:=iH H;rcases H with⟨dE,H⟩|⟨dE,H⟩
    ·by_cases c8:(bt a0 b1)=95
     ·rw[if_pos c8]at H;have dF:((bt a0 b1)==95)=true:=beq_iff_eq.mpr c8;have dG:((bt a0 b1) !=95)=false:=bne_eq_false_iff_eq.mpr c8;clear c8;have H':=ab.mk H;clear H;have p5:(0≤(b1:Int))=True:=oT;have q5:(b1<(a0.size:Int))=True:=oT;have b3:=hL a0 b1
      go_wp2
      go_roundg k1
      case measure=>have:=b2.out;omega
      case rel=>exact⟨(wrap64 (b1+1)),oS,H',⟨by have:=b2.out;omega⟩,oD⟩
     rw[if_neg c8]at H;have dF:((bt a0 b1)==95)=false:=beq_eq_false_iff_ne.mpr c8;have dG:((bt a0 b1) !=95)=true:=bne_iff_ne.mpr c8
     by_cases c9:(bt a0 b1)=45
     ·rw[if_pos c9]at H;have dH:((bt a0 b1)==45)=true:=beq_iff_eq.mpr c9;have dI:((bt a0 b1) !=45)=false:=bne_eq_false_iff_eq.mpr c9;clear c9;have H':=ab.mk H;clear H;have p5:(0≤(b1:Int))=True:=oT;have q5:(b1<(a0.size:Int))=True:=oT;have b3:=hL a0 b1
      go_wp2
      go_roundg k1
      case measure=>have:=b2.out;omega
      case rel=>exact⟨(wrap64 (b1+1)),oS,H',⟨by have:=b2.out;omega⟩,oD⟩
     rw[if_neg c9]at H;have dH:((bt a0 b1)==45)=false:=beq_eq_false_iff_ne.mpr c9;have dI:((bt a0 b1) !=45)=true:=bne_iff_ne.mpr c9
     by_cases c10:(bt a0 b1)=46
     rotate_left
     ·rw[if_neg c10]at H;have bN:((bt a0 b1)==46)=false:=beq_eq_false_iff_ne.mpr c10;have bO:((bt a0 b1) !=46)=true:=bne_iff_ne.mpr c10;obtain rfl:=Option.some.inj H;have p5:(0≤(b1:Int))=True:=oT;have q5:(b1<(a0.size:Int))=True:=oT;have b3:=hL a0 b1
      go_wp2
      go_ret
      exact⟨oS,oD⟩
     rw[if_pos c10]at H;have bN:((bt a0 b1)==46)=true:=beq_iff_eq.mpr c10;have bO:((bt a0 b1) !=46)=false:=bne_eq_false_iff_eq.mpr c10;clear c10;have H':=ab.mk H;clear H;have p5:(0≤(b1:Int))=True:=oT;have q5:(b1<(a0.size:Int))=True:=oT;have b3:=hL a0 b1
     go_wp2
     go_roundg k1
     case measure=>have:=b2.out;omega
     case rel=>exact⟨(wrap64 (b1+1)),oS,H',⟨by have:=b2.out;omega⟩,oD⟩
    replace H:=itG H;rcases H with⟨bP,H⟩|⟨bP,H⟩;rotate_left
    ·have H':=ab.mk H;clear H;have p5:(0≤(b1:Int))=True:=oT;have q5:(b1<(a0.size:Int))=True:=oT;have b3:=hL a0 b1
     go_wp2
     go_roundg k1
     case measure=>have:=b2.out;omega
     case rel=>exact⟨(wrap64 (b1+1)),oS,H',⟨by have:=b2.out;omega⟩,oD⟩
    by_cases b5:(bt a0 b1)=95
    ·rw[if_pos b5]at H;have bQ:((bt a0 b1)==95)=true:=beq_iff_eq.mpr b5;have bR:((bt a0 b1) !=95)=false:=bne_eq_false_iff_eq.mpr b5;clear b5;have H':=ab.mk H;clear H;have p5:(0≤(b1:Int))=True:=oT;have q5:(b1<(a0.size:Int))=True:=oT;have b3:=hL a0 b1
     go_wp2
     go_roundg k1
     case measure=>have:=b2.out;omega
     case rel=>exact⟨(wrap64 (b1+1)),oS,H',⟨by have:=b2.out;omega⟩,oD⟩
    rw[if_neg b5]at H;have bQ:((bt a0 b1)==95)=false:=beq_eq_false_iff_ne.mpr b5;have bR:((bt a0 b1) !=95)=true:=bne_iff_ne.mpr b5
    by_cases b6:(bt a0 b1)=45
    ·rw[if_pos b6]at H;have bS:((bt a0 b1)==45)=true:=beq_iff_eq.mpr b6;have bT:((bt a0 b1) !=45)=false:=bne_eq_false_iff_eq.mpr b6;clear b6;have H':=ab.mk H;clear H;have p5:(0≤(b1:Int))=True:=oT;have q5:(b1<(a0.size:Int))=True:=oT;have b3:=hL a0 b1
     go_wp2
     go_roundg k1
     case measure=>have:=b2.out;omega
     case rel=>exact⟨(wrap64 (b1+1)),oS,H',⟨by have:=b2.out;omega⟩,oD⟩
    rw[if_neg b6]at H;have bS:((bt a0 b1)==45)=false:=beq_eq_false_iff_ne.mpr b6;have bT:((bt a0 b1) !=45)=true:=bne_iff_ne.mpr b6
    by_cases b7:(bt a0 b1)=46
    rotate_left
    ·rw[if_neg b7]at H;have bU:((bt a0 b1)==46)=false:=beq_eq_false_iff_ne.mpr b7;have bV:((bt a0 b1) !=46)=true:=bne_iff_ne.mpr b7;obtain rfl:=Option.some.inj H;have p5:(0≤(b1:Int))=True:=oT;have q5:(b1<(a0.size:Int))=True:=oT;have b3:=hL a0 b1
     go_wp2
     go_ret
     exact⟨oS,oD⟩
    rw[if_pos b7]at H;have bU:((bt a0 b1)==46)=true:=beq_iff_eq.mpr b7;have bV:((bt a0 b1) !=46)=false:=bne_eq_false_iff_eq.mpr b7;clear b7;have H':=ab.mk H;clear H;have p5:(0≤(b1:Int))=True:=oT;have q5:(b1<(a0.size:Int))=True:=oT;have b3:=hL a0 b1
    go_wp2
    go_roundg k1
    case measure=>have:=b2.out;omega
    case rel=>exact⟨(wrap64 (b1+1)),oS,H',⟨by have:=b2.out;omega⟩,oD⟩
   replace H:=itG H;rcases H with⟨bW,H⟩|⟨bW,H⟩;rotate_left
   ·have H':=ab.mk H;clear H;have p5:(0≤(b1:Int))=True:=oT;have q5:(b1<(a0.size:Int))=True:=oT;have b3:=hL a0 b1
    go_wp2
    go_roundg k1
    case measure=>have:=b2.out;omega
    case rel=>exact⟨(wrap64 (b1+1)),oS,H',⟨by have:=b2.out;omega⟩,oD⟩
   replace H:=iH H;rcases H with⟨bX,H⟩|⟨bX,H⟩
   ·by_cases b8:(bt a0 b1)=95
    ·rw[if_pos b8]at H;have bY:((bt a0 b1)==95)=true:=beq_iff_eq.mpr b8;have bZ:((bt a0 b1) !=95)=false:=bne_eq_false_iff_eq.mpr b8;clear b8;have H':=ab.mk H;clear H;have p5:(0≤(b1:Int))=True:=oT;have q5:(b1<(a0.size:Int))=True:=oT;have b3:=hL a0 b1
     go_wp2
     go_roundg k1
     case measure=>have:=b2.out;omega
     case rel=>exact⟨(wrap64 (b1+1)),oS,H',⟨by have:=b2.out;omega⟩,oD⟩
    rw[if_neg b8]at H;have bY:((bt a0 b1)==95)=false:=beq_eq_false_iff_ne.mpr b8;have bZ:((bt a0 b1) !=95)=true:=bne_iff_ne.mpr b8
    by_cases b9:(bt a0 b1)=45
    ·rw[if_pos b9]at H;have d1:((bt a0 b1)==45)=true:=beq_iff_eq.mpr b9;have d2:((bt a0 b1) !=45)=false:=bne_eq_false_iff_eq.mpr b9;clear b9;have H':=ab.mk H;clear H;have p5:(0≤(b1:Int))=True:=oT;have q5:(b1<(a0.size:Int))=True:=oT;have b3:=hL a0 b1
     go_wp2
     go_roundg k1
     case measure=>have:=b2.out;omega
     case rel=>exact⟨(wrap64 (b1+1)),oS,H',⟨by have:=b2.out;omega⟩,oD⟩
    rw[if_neg b9]at H;have d1:((bt a0 b1)==45)=false:=beq_eq_false_iff_ne.mpr b9;have d2:((bt a0 b1) !=45)=true:=bne_iff_ne.mpr b9
    by_cases bB:(bt a0 b1)=46
    rotate_left
    ·rw[if_neg bB]at H;have d3:((bt a0 b1)==46)=false:=beq_eq_false_iff_ne.mpr bB;have d4:((bt a0 b1) !=46)=true:=bne_iff_ne.mpr bB;obtain rfl:=Option.some.inj H;have p5:(0≤(b1:Int))=True:=oT;have q5:(b1<(a0.size:Int))=True:=oT;have b3:=hL a0 b1
     go_wp2
     go_ret
     exact⟨oS,oD⟩
    rw[if_pos bB]at H;have d3:((bt a0 b1)==46)=true:=beq_iff_eq.mpr bB;have d4:((bt a0 b1) !=46)=false:=bne_eq_false_iff_eq.mpr bB;clear bB;have H':=ab.mk H;clear H;have p5:(0≤(b1:Int))=True:=oT;have q5:(b1<(a0.size:Int))=True:=oT;have b3:=hL a0 b1
    go_wp2
    go_roundg k1
    case measure=>have:=b2.out;omega
    case rel=>exact⟨(wrap64 (b1+1)),oS,H',⟨by have:=b2.out;omega⟩,oD⟩
   replace H:=itG H;rcases H with⟨d5,H⟩|⟨d5,H⟩;rotate_left
   ·have H':=ab.mk H;clear H;have p5:(0≤(b1:Int))=True:=oT;have q5:(b1<(a0.size:Int))=True:=oT;have b3:=hL a0 b1
    go_wp2
    go_roundg k1
    case measure=>have:=b2.out;omega
    case rel=>exact⟨(wrap64 (b1+1)),oS,H',⟨by have:=b2.out;omega⟩,oD⟩
   by_cases bC:(bt a0 b1)=95
   ·rw[if_pos bC]at H;have d6:((bt a0 b1)==95)=true:=beq_iff_eq.mpr bC;have d7:((bt a0 b1) !=95)=false:=bne_eq_false_iff_eq.mpr bC;clear bC;have H':=ab.mk H;clear H;have p5:(0≤(b1:Int))=True:=oT;have q5:(b1<(a0.size:Int))=True:=oT;have b3:=hL a0 b1
    go_wp2
    go_roundg k1
    case measure=>have:=b2.out;omega
    case rel=>exact⟨(wrap64 (b1+1)),oS,H',⟨by have:=b2.out;omega⟩,oD⟩
   rw[if_neg bC]at H;have d6:((bt a0 b1)==95)=false:=beq_eq_false_iff_ne.mpr bC;have d7:((bt a0 b1) !=95)=true:=bne_iff_ne.mpr bC
   by_cases bD:(bt a0 b1)=45
   ·rw[if_pos bD]at H;have d8:((bt a0 b1)==45)=true:=beq_iff_eq.mpr bD;have d9:((bt a0 b1) !=45)=false:=bne_eq_false_iff_eq.mpr bD;clear bD;have H':=ab.mk H;clear H;have p5:(0≤(b1:Int))=True:=oT;have q5:(b1<(a0.size:Int))=True:=oT;have b3:=hL a0 b1
    go_wp2
    go_roundg k1
    case measure=>have:=b2.out;omega
    case rel=>exact⟨(wrap64 (b1+1)),oS,H',⟨by have:=b2.out;omega⟩,oD⟩
   rw[if_neg bD]at H;have d8:((bt a0 b1)==45)=false:=beq_eq_false_iff_ne.mpr bD;have d9:((bt a0 b1) !=45)=true:=bne_iff_ne.mpr bD
   by_cases bE:(bt a0 b1)=46
   rotate_left
   ·rw[if_neg bE]at H;have dA:((bt a0 b1)==46)=false:=beq_eq_false_iff_ne.mpr bE;have dB:((bt a0 b1) !=46)=true:=bne_iff_ne.mpr bE;obtain rfl:=Option.some.inj H;have p5:(0≤(b1:Int))=True:=oT;have q5:(b1<(a0.size:Int))=True:=oT;have b3:=hL a0 b1
    go_wp2
    go_ret
    exact⟨oS,oD⟩
   rw[if_pos bE]at H;have dA:((bt a0 b1)==46)=true:=beq_iff_eq.mpr bE;have dB:((bt a0 b1) !=46)=false:=bne_eq_false_iff_eq.mpr bE;clear bE;have H':=ab.mk H;clear H;have p5:(0≤(b1:Int))=True:=oT;have q5:(b1<(a0.size:Int))=True:=oT;have b3:=hL a0 b1
   go_wp2
   go_roundg k1
   case measure=>have:=b2.out;omega
   case rel=>exact⟨(wrap64 (b1+1)),oS,H',⟨by have:=b2.out;omega⟩,oD⟩

mutual
def bd.l0:Nat→Int→Int→Int→List (bh)→Int→Option (Int)
 |0,_,_,_,_,_=>none
 |k+1,x1,x5,x6,b1,b2=>if x6<(b1.length:Int)then(bd.l1 k x1 x5 x6 0 b1 b2)else(some x5)
def bd.l1:Nat→Int→Int→Int→Int→List (bh)→Int→Option (Int)
 |0,_,_,_,_,_,_=>none
 |k+1,x1,x5,x6,x7,b1,b2=>if 0≤x6 then(if x6<(b1.length:Int)then(if x7<(((af b1 x6).f4).length:Int)then(bd.j2 k x1 x5 x6 x7 (((af b1 x6).f1)==2) b1 b2)else(bd.j2 k x1 x5 x6 x7 false b1 b2))else(none))else(none)
def bd.j2:Nat→Int→Int→Int→Int→Bool→List (bh)→Int→Option (Int)
 |0,_,_,_,_,_,_,_=>none
 |k+1,x1,x5,x6,x7,b3,b1,b2=>if b3=true then(if 0≤x6 then(if x6<(b1.length:Int)then(if 0≤x7 then(if x7<(((af b1 x6).f4).length:Int)then(if((al ((af b1 x6).f4) x7).f1)=x1 then(bd.l1 k x1 (wrap64 (x5+1)) x6 (wrap64 (x7+1)) b1 b2)else(bd.l1 k x1 x5 x6 (wrap64 (x7+1)) b1 b2))else(none))else(none))else(none))else(none))else(bd.l0 k x1 x5 (wrap64 (x6+1)) b1 b2)
end
def bd.f (k:Nat) (ag:List (bh)) (ak:Int) (a1:Int):Option (Int):=bd.l0 k a1 0 0 ag ak
theorem bd.calls (k:Nat) (bj:Option Addr) (aW:Nat) (ag:List (bh)) (ak:Int) (a1:Int) (r:Int) (w:World) (ch:Kd.C fD w bj ag.length ag) (ck:ag.length≤aW) (h:bd.f k ag ak a1=some r):
  Calls Tryz.prog 81 #[.agg #[.slice bj ag.length aW,.int .i64 ak],.int .i64 a1] w fun e w'=>e= .returned (.int .i64 r)∧Below w.heap.size w w':=by
 have j7:=Tryz.underlying28;have b5:=ab.mk ch;have j1:=ab.mk ck;clear ch ck;have HB:=am (Below.refl w.heap.size w);unfold bd.f at h;have H:=h;clear h;have H':=ab.mk H;clear H
 go_enter Tryz.func81,Tryz.ntmps81
 go_wp2_with (first|((with_reducible refine ai (N:=2) rfl ?_);refine di 2 #[.slice bj ag.length aW,.int .i64 ak] 28 ?_;intro bR hg w3 hbox hb;have b2:=am (hbox);have j2:=dh hg;replace HB:=hB HB hb;clear hb hbox hg))
 go_loopg [5,6] k (fun kq v5 v6 w'=>∃(bS:Int) (b1:Int),v5= .int .i64 bS∧v6= .int .i64 b1∧ab (bd.l0 kq a1 bS b1 ag ak=some r)∧ab (kq≤k)∧ab (w'.heap[bR]? =some (.cells #[(.slice bj ag.length aW),.int .i64 ak] 28 (0,0)))∧ab (Below w.heap.size w w'))
 case atStart=>exact⟨(0),(0),oS,oS,H',⟨Nat.le_refl _⟩,⟨oF b2⟩,⟨oB⟩⟩
 case round=>
  clear H';obtain⟨bS,b1,rfl,rfl,HA,bB,b2,HB⟩:=hrel
  cases gk with
  |zero=>exact absurd HA.out (by simp[bd.l0])
  |succ k1=>
   have H:=HA.out;clear HA;simp only[bd.l0]at H;replace H:=iH H;rcases H with⟨bU,H⟩|⟨bU,H⟩;rotate_left
   ·obtain rfl:=Option.some.inj H;obtain⟨⟨_,_⟩,_,_⟩:=z2 b2
    go_wp2
    go_ret
    exact⟨oE,oB⟩
   have H':=ab.mk H;clear H;obtain⟨⟨_,_⟩,_,_⟩:=z2 b2
   go_wp2
   go_loopg [5,7] k1 (fun kq v5 v7 w'=>∃(b4:Int) (b3:Int),v5= .int .i64 b4∧v7= .int .i64 b3∧ab (bd.l1 kq a1 b4 b1 b3 ag ak=some r)∧ab (kq≤k1)∧ab (w'.heap[bR]? =some (.cells #[(.slice bj ag.length aW),.int .i64 ak] 28 (0,0)))∧ab (Below w.heap.size w w'))
   case atStart=>exact⟨(bS),(0),oS,oS,H',⟨Nat.le_refl _⟩,⟨oF b2⟩,⟨oB⟩⟩
   case round=>
    clear H'
    try clear bU
    obtain⟨b4,b3,rfl,rfl,HA,bC,b2,HB⟩:=hrel
    cases gk with
    |zero=>exact absurd HA.out (by simp[bd.l1])
    |succ k2=>
     have H:=HA.out;clear HA;simp only[bd.l1]at H;have dM:=ab.mk H;clear H
     go_upto_region 6 with(fail)
     go_cut [32] (fun gT wc=>∃(kq:Nat) (bT:Bool),gT= .bool bT∧ab (bd.j2 kq a1 b4 b1 b3 bT ag ak=some r)∧ab (kq≤k2)∧ab (wc.heap[bR]? =some (.cells #[(.slice bj ag.length aW),.int .i64 ak] 28 (0,0)))∧ab (Below w.heap.size w wc))
     case first=>
      have H:=dM.out;clear dM;obtain⟨dN,H⟩:=cU H
      (first|rw[dN]|rw[c7b2]|(simp only[fo,gy];rw[dN])|skip)
      obtain⟨j8,H⟩:=cU H;replace H:=iH H;rcases H with⟨gF,H⟩|⟨gF,H⟩;rotate_left
      ·have H':=ab.mk H;clear H;obtain⟨⟨_,_⟩,_,_⟩:=z2 b2;have gG:(0≤(b1:Int))=True:=oT;have gH:(b1<(ag.length:Int))=True:=oT;obtain⟨bY,dO,dP,dQ,dR,dS,dT,bV,bZ,d1,d2,bE,bF,bG,d3,d4,d5,d6,d7,d8⟩:=fc b5 HB b1 oa oa
       cases bV
       go_wp2
       go_meet
       case rel=>exact⟨_,(false),oS,H',⟨by have:=bB.out;have:=bC.out;first|omega|exact Nat.le_refl _⟩,⟨oF b2⟩,⟨oB⟩⟩
      have H':=ab.mk H;clear H;obtain⟨⟨_,_⟩,_,_⟩:=z2 b2;have gG:(0≤(b1:Int))=True:=oT;have gH:(b1<(ag.length:Int))=True:=oT;obtain⟨bY,dO,dP,dQ,dR,dS,dT,bV,bZ,d1,d2,bE,bF,bG,d3,d4,d5,d6,d7,d8⟩:=fc b5 HB b1 oa oa
      cases bV
      have j9:(0≤(b1:Int))=True:=oT;have jA:(b1<(ag.length:Int))=True:=oT;obtain⟨gA,gU,gV,gW,gX,gY,gZ,gI,bH,bI,bJ,b6,b7,b8,bK,bL,bM,bN,bO,bP⟩:=fl b5.out b1 oa oa;obtain rfl:bY=gA:=(by injection gI);replace bH:=cB HB bH;replace bI:=cB HB bI;replace bJ:=cB HB bJ;replace b6:=cB HB b6;replace b7:=cB HB b7;replace b8:=cB HB b8;have gN:=ab.mk bL;have gO:=ab.mk bK;clear bL bK;have gP:=ab.mk bN;have gQ:=ab.mk bM;clear bN bM;have gR:=ab.mk bP;have gS:=ab.mk bO;clear bP bO;have iF:=Option.some.inj (bE.symm.trans b6);injection iF with iF nP nQ;subst iF;subst nQ;clear nP;have iF:=Option.some.inj (bF.symm.trans b7);injection iF with iF nP nQ;subst iF;subst nQ;clear nP;have iF:=Option.some.inj (bG.symm.trans b8);injection iF with iF nP nQ;subst iF;subst nQ;clear nP
      go_wp2
      go_meet
      case rel=>exact⟨_,((((af ag b1).f1)==2)),oS,H',⟨by have:=bB.out;have:=bC.out;first|omega|exact Nat.le_refl _⟩,⟨oF b2⟩,⟨oB⟩⟩
     case rest=>
      clear dM
      try clear bU
      obtain⟨kq,bT,rfl,HA,bQ,b2,HB⟩:=hcut
      cases kq with
      |zero=>exact absurd HA.out (by simp[bd.j2])
      |succ kj5=>
       have H:=HA.out;clear HA;simp only[bd.j2]at H;replace H:=ll H;rcases H with⟨rfl,H⟩|⟨rfl,H⟩;rotate_left
       ·have H':=ab.mk H;clear H
        go_wp2
        go_roundg kj5
        case measure=>have:=bB.out;have:=bC.out;have:=bQ.out;omega
        case rel=>exact⟨(b4),(wrap64 (b1+1)),oS,oS,H',⟨by have:=bB.out;have:=bC.out;have:=bQ.out;omega⟩,⟨oF b2⟩,⟨oB⟩⟩
       obtain⟨j3,H⟩:=cU H;obtain⟨j4,H⟩:=cU H;obtain⟨j5,H⟩:=cU H;obtain⟨j6,H⟩:=cU H
       by_cases bD:((al ((af ag b1).f4) b3).f1)=a1
       rotate_left
       ·rw[if_neg bD]at H;have gB:(((al ((af ag b1).f4) b3).f1)==a1)=false:=beq_eq_false_iff_ne.mpr bD;have gC:(((al ((af ag b1).f4) b3).f1) !=a1)=true:=bne_iff_ne.mpr bD;have H':=ab.mk H;clear H;obtain⟨⟨_,_⟩,_,_⟩:=z2 b2;have gJ:(0≤(b1:Int))=True:=oT;have gK:(b1<(ag.length:Int))=True:=oT;obtain⟨gD,dU,dV,dW,dX,dY,dZ,bW,d9,dA,dB,dC,dD,dE,dF,dG,dH,b9,dI,dJ⟩:=fc b5 HB b1 oa oa
        cases bW
        have gL:(0≤(b3:Int))=True:=oT;have gM:(b3<(((af ag b1).f4).length:Int))=True:=oT;obtain⟨gE,bX,dK,dL⟩:=kp b9 HB b3 oa oa
        cases bX
        go_wp2
        go_roundg kj5
        case measure=>have:=bB.out;have:=bC.out;have:=bQ.out;omega
        case rel=>exact⟨(b4),(wrap64 (b3+1)),oS,oS,H',⟨by have:=bB.out;have:=bC.out;have:=bQ.out;omega⟩,⟨oF b2⟩,⟨oB⟩⟩
       rw[if_pos bD]at H;have gB:(((al ((af ag b1).f4) b3).f1)==a1)=true:=beq_iff_eq.mpr bD;have gC:(((al ((af ag b1).f4) b3).f1) !=a1)=false:=bne_eq_false_iff_eq.mpr bD;clear bD;have H':=ab.mk H;clear H;obtain⟨⟨_,_⟩,_,_⟩:=z2 b2;have gJ:(0≤(b1:Int))=True:=oT;have gK:(b1<(ag.length:Int))=True:=oT;obtain⟨gD,dU,dV,dW,dX,dY,dZ,bW,d9,dA,dB,dC,dD,dE,dF,dG,dH,b9,dI,dJ⟩:=fc b5 HB b1 oa oa
       cases bW
       have gL:(0≤(b3:Int))=True:=oT;have gM:(b3<(((af ag b1).f4).length:Int))=True:=oT;obtain⟨gE,bX,dK,dL⟩:=kp b9 HB b3 oa oa
       cases bX
       go_wp2
       go_roundg kj5
       case measure=>have:=bB.out;have:=bC.out;have:=bQ.out;omega
       case rel=>exact⟨(wrap64 (b4+1)),(wrap64 (b3+1)),oS,oS,H',⟨by have:=bB.out;have:=bC.out;have:=bQ.out;omega⟩,⟨oF b2⟩,⟨oB⟩⟩

mutual
def bz.l0:Nat→Int→Int→List (bh)→Int→Int→Option (Int)
 |0,_,_,_,_,_=>none
 |k+1,x1,x5,b2,b3,b1=>if b1<b3 then(if 0≤b1 then(if b1<(b2.length:Int)then(if((af b2 b1).f1)=2 then(bz.l1 k x1 x5 b2 b3 b1 ((af b2 b1).f4) (((af b2 b1).f4).length:Int) 0)else(bz.l0 k x1 x5 b2 b3 (wrap64 (b1+1))))else(none))else(none))else(some x5)
def bz.l1:Nat→Int→Int→List (bh)→Int→Int→List (eb)→Int→Int→Option (Int)
 |0,_,_,_,_,_,_,_,_=>none
 |k+1,x1,x5,b3,b4,b5,b2,b6,b1=>if b1<b6 then(if 0≤b1 then(if b1<(b2.length:Int)then(if((al b2 b1).f1)=x1 then(bz.l1 k x1 (wrap64 (x5+1)) b3 b4 b5 b2 b6 (wrap64 (b1+1)))else(bz.l1 k x1 x5 b3 b4 b5 b2 b6 (wrap64 (b1+1))))else(none))else(none))else(bz.l0 k x1 x5 b3 b4 (wrap64 (b5+1)))
end
def bz.f (k:Nat) (ag:List (bh)) (ak:Int) (a1:Int):Option (Int):=bz.l0 k a1 0 ag (ag.length:Int) 0
theorem bz.calls (k:Nat) (bj:Option Addr) (aW:Nat) (ag:List (bh)) (ak:Int) (a1:Int) (r:Int) (w:World) (ch:Kd.C fD w bj ag.length ag) (ck:ag.length≤aW) (h:bz.f k ag ak a1=some r):
  Calls Tryz.prog 125 #[.agg #[.slice bj ag.length aW,.int .i64 ak],.int .i64 a1] w fun e w'=>e= .returned (.int .i64 r)∧Below w.heap.size w w':=by
 have gH:=Tryz.underlying28;have gI:=Tryz.underlying58;have gJ:=Tryz.underlying75;have bR:=ab.mk ch;have dR:=ab.mk ck;clear ch ck;have HB:=am (Below.refl w.heap.size w);unfold bz.f at h;have H:=h;clear h;have H':=ab.mk H;clear H
 go_enter Tryz.func125,Tryz.ntmps125
 go_wp2_with (first|((with_reducible refine ai (N:=2) rfl ?_);refine di 2 #[.slice bj ag.length aW,.int .i64 ak] 28 ?_;intro bS hg w3 hbox hb;have b2:=am (hbox);have dS:=dh hg;replace HB:=hB HB hb;clear hb hbox hg;obtain⟨⟨_,_⟩,_,_⟩:=z2 b2))
 go_loopg [5,13] k (fun kq v5 dP w'=>∃(bF:Int) (b1:Int),v5= .int .i64 bF∧dP= .int .i64 b1∧ab (bz.l0 kq a1 bF ag (ag.length:Int) b1=some r)∧ab (kq≤k)∧ab (w'.heap[bS]? =some (.cells #[(.slice bj ag.length aW),.int .i64 ak] 28 (0,0)))∧ab (Below w.heap.size w w'))
 case atStart=>exact⟨(0),(0),oS,oS,H',⟨Nat.le_refl _⟩,⟨oF b2⟩,⟨oB⟩⟩
 case round=>
  clear H';obtain⟨bF,b1,rfl,rfl,HA,bE,b2,HB⟩:=hrel
  cases gk with
  |zero=>exact absurd HA.out (by simp[bz.l0])
  |succ k1=>
   have H:=HA.out;clear HA;simp only[bz.l0]at H;replace H:=iH H;rcases H with⟨d9,H⟩|⟨d9,H⟩;rotate_left
   ·obtain rfl:=Option.some.inj H
    go_wp2
    go_ret
    exact⟨oE,oB⟩
   obtain⟨dH,H⟩:=cU H;obtain⟨dI,H⟩:=cU H
   by_cases c8:((af ag b1).f1)=2
   rotate_left
   ·rw[if_neg c8]at H;have dJ:(((af ag b1).f1)==2)=false:=beq_eq_false_iff_ne.mpr c8;have dK:(((af ag b1).f1) !=2)=true:=bne_iff_ne.mpr c8;have H':=ab.mk H;clear H;have dL:(0≤(b1:Int))=True:=oT;have dM:(b1<(ag.length:Int))=True:=oT;obtain⟨bT,bJ,bK,bL,bM,bN,bO,bP,bV,bW,bX,bY,bZ,d1,d2,d3,d4,bC,d5,d6⟩:=fc bR HB b1 oa oa
    cases bP
    go_wp2_with (first|((with_reducible refine ai (N:=7) rfl ?_);refine di 7 #[.int .i64 0,.int .i64 0,.int .i64 0,.slice none 0 0,.slice none 0 0,.slice none 0 0] 58 ?_;intro bU hg gK hbox hb;have b4:=am (hbox);have dA:=dh hg;have b5:=eJ hg b2;have b6:=eK hg b2;replace b2:=bn b2 hb;replace HB:=hB HB hb;clear hb hbox hg;have dT:=b6.out;have dU:=b5.out;obtain⟨⟨_,_,_,_,_,_⟩,_,_,_,_,_,_⟩:=z6 b4))
    go_roundg k1
    case measure=>have:=bE.out;omega
    case rel=>exact⟨(bF),(wrap64 (b1+1)),oS,oS,H',⟨by have:=bE.out;omega⟩,⟨oF b2⟩,⟨oB⟩⟩
   rw[if_pos c8]at H;have dJ:(((af ag b1).f1)==2)=true:=beq_iff_eq.mpr c8;have dK:(((af ag b1).f1) !=2)=false:=bne_eq_false_iff_eq.mpr c8;clear c8;have H':=ab.mk H;clear H;have dL:(0≤(b1:Int))=True:=oT;have dM:(b1<(ag.length:Int))=True:=oT;obtain⟨bT,bJ,bK,bL,bM,bN,bO,bP,bV,bW,bX,bY,bZ,d1,d2,d3,d4,bC,d5,d6⟩:=fc bR HB b1 oa oa
   cases bP
   go_wp2_with (first|((with_reducible refine ai (N:=7) rfl ?_);refine di 7 #[.int .i64 0,.int .i64 0,.int .i64 0,.slice none 0 0,.slice none 0 0,.slice none 0 0] 58 ?_;intro bU hg w9 hbox hb;have b4:=am (hbox);have dA:=dh hg;have b5:=eJ hg b2;have b6:=eK hg b2;replace b2:=bn b2 hb;replace HB:=hB HB hb;clear hb hbox hg;have dV:=b6.out;have dW:=b5.out;obtain⟨⟨_,_,_,_,_,_⟩,_,_,_,_,_,_⟩:=z6 b4))
   go_loopg [5,23] k1 (fun kq v5 dQ w'=>∃(bD:Int) (b3:Int),v5= .int .i64 bD∧dQ= .int .i64 b3∧ab (bz.l1 kq a1 bD ag (ag.length:Int) b1 ((af ag b1).f4) (((af ag b1).f4).length:Int) b3=some r)∧ab (kq≤k1)∧ab (w'.heap[bS]? =some (.cells #[(.slice (some bT) ag.length aW),.int .i64 ak] 28 (0,0)))∧ab (w'.heap[bU]? =some (.cells #[.int .i64 ((af ag b1).f0),.int .i64 ((af ag b1).f1),.int .i64 ((af ag b1).f2),(.slice bJ ((af ag b1).f3).length bK),(.slice bL ((af ag b1).f4).length bM),(.slice bN ((af ag b1).f5).length bO)] 58 (0,0)))∧ab (Below w.heap.size w w'))
   case atStart=>exact⟨(bF),(0),oS,oS,H',⟨Nat.le_refl _⟩,⟨oF b2⟩,⟨oP b4⟩,⟨oB⟩⟩
   case round=>
    clear H'
    try clear d9
    try clear dH
    try clear dI
    try clear c8
    obtain⟨bD,b3,rfl,rfl,HA,bH,b2,b4,HB⟩:=hrel
    cases gk with
    |zero=>exact absurd HA.out (by simp[bz.l1])
    |succ k2=>
     have H:=HA.out;clear HA;simp only[bz.l1]at H;replace H:=iH H;rcases H with⟨dB,H⟩|⟨dB,H⟩;rotate_left
     ·have H':=ab.mk H;clear H
      go_wp2
      go_roundg k2
      case measure=>have:=bE.out;have:=bH.out;omega
      case rel=>exact⟨(bD),(wrap64 (b1+1)),oS,oS,H',⟨by have:=bE.out;have:=bH.out;omega⟩,⟨oF b2⟩,⟨oB⟩⟩
     obtain⟨dX,H⟩:=cU H;obtain⟨dY,H⟩:=cU H
     by_cases bG:((al ((af ag b1).f4) b3).f1)=a1
     rotate_left
     ·rw[if_neg bG]at H;have dC:(((al ((af ag b1).f4) b3).f1)==a1)=false:=beq_eq_false_iff_ne.mpr bG;have dD:(((al ((af ag b1).f4) b3).f1) !=a1)=true:=bne_iff_ne.mpr bG;have H':=ab.mk H;clear H;have dN:(0≤(b3:Int))=True:=oT;have dO:(b3<(((af ag b1).f4).length:Int))=True:=oT;obtain⟨dE,bQ,d7,d8⟩:=kp bC HB b3 oa oa
      cases bQ
      go_wp2_with (first|((with_reducible refine ai (N:=9) rfl ?_);refine di 9 #[.string (⟨#[]⟩:ByteArray),.int .i64 0] 75 ?_;intro dF hg gL hbox hb;have bI:=am (hbox);have dG:=dh hg;have b7:=eJ hg b2;have b8:=eK hg b2;have b9:=eJ hg b4;have bB:=eK hg b4;replace b2:=bn b2 hb;replace b4:=bn b4 hb;replace HB:=hB HB hb;clear hb hbox hg;have dZ:=b8.out;have gA:=b7.out;have gB:=bB.out;have gC:=b9.out;obtain⟨⟨_,_⟩,_,_⟩:=z2 bI))
      go_roundg k2
      case measure=>have:=bE.out;have:=bH.out;omega
      case rel=>exact⟨(bD),(wrap64 (b3+1)),oS,oS,H',⟨by have:=bE.out;have:=bH.out;omega⟩,⟨oF b2⟩,⟨oF b4⟩,⟨oB⟩⟩
     rw[if_pos bG]at H;have dC:(((al ((af ag b1).f4) b3).f1)==a1)=true:=beq_iff_eq.mpr bG;have dD:(((al ((af ag b1).f4) b3).f1) !=a1)=false:=bne_eq_false_iff_eq.mpr bG;clear bG;have H':=ab.mk H;clear H;have dN:(0≤(b3:Int))=True:=oT;have dO:(b3<(((af ag b1).f4).length:Int))=True:=oT;obtain⟨dE,bQ,d7,d8⟩:=kp bC HB b3 oa oa
     cases bQ
     go_wp2_with (first|((with_reducible refine ai (N:=9) rfl ?_);refine di 9 #[.string (⟨#[]⟩:ByteArray),.int .i64 0] 75 ?_;intro dF hg gM hbox hb;have bI:=am (hbox);have dG:=dh hg;have b7:=eJ hg b2;have b8:=eK hg b2;have b9:=eJ hg b4;have bB:=eK hg b4;replace b2:=bn b2 hb;replace b4:=bn b4 hb;replace HB:=hB HB hb;clear hb hbox hg;have gD:=b8.out;have gE:=b7.out;have gF:=bB.out;have gG:=b9.out;obtain⟨⟨_,_⟩,_,_⟩:=z2 bI))
     go_roundg k2
     case measure=>have:=bE.out;have:=bH.out;omega
     case rel=>exact⟨(wrap64 (bD+1)),(wrap64 (b3+1)),oS,oS,H',⟨by have:=bE.out;have:=bH.out;omega⟩,⟨oF b2⟩,⟨oF b4⟩,⟨oB⟩⟩

/-- copy of elements of several cells. -/
theorem kz {P:Program}(w:World) (dT sT ty elem:TypeId) (b o dLen dCap:Nat) (a:Addr) (sLen sCap n:Nat) (cs:List Value)
  (hu:P.underlying dT=some (.slice elem)) (hs:(P.info? elem).map (·.size)=some 6) (hm:Nat.min sLen dLen=n) (hn:cs.length=n*6)
  (hsrc:∀j v,cs[j]? =some v→w.cell? (a.add j)=some v) (hc:∀j,j<cs.length→(w.cell? ⟨b,o+j,none⟩).isSome=true) (hf:∀j,j<cs.length→w.frozen? ⟨b,o+j,none⟩=false) (h1:∀v∈cs,v.oneCell'=true):
  (Builtin.copy_ #[dT,sT] ty #[.slice (some ⟨b,o,none⟩) dLen dCap,.slice (some a) sLen sCap]).run P w= .ok (goInt n) (w.setCells b o cs):=by
 have hl:=run_loadCells_list (P:=P) w a cs hsrc;have hst:=run_storeCells_cells (P:=P) b o cs 0 w (by simpa using hc) (by simpa using hf) h1
 cases hq:P.info? elem with
 |none=>simp[hq]at hs
 |some i=>
  have hi:i.size=6:=by simpa [hq]using hs
  simp[Builtin.copy_,run_underlying hu,Builtin.lenOf,Builtin.firstCells,sizeOf,typeInfo,hq,hi,hm,←hn,hl,hst]
theorem l_ {P:Program}(w:World) {ops:Array Oper}{rest:List Oper}{o:Oper}{a:Act}{Q:Exit→Act→World→Prop}(hgd:o.guard=none) (d s:Operand) (t t':TypeId)
  (ho:o.op= .call {callee:= .builtin .copy,args:= #[d,s],argTypes:= #[t,t']}) (v u:Value) (hd:a.eval d=v) (hs:a.eval s=u) {v':Value}{w':World}
  (hr:(Builtin.copy_ #[t,t'] o.type #[v,u]).run P w= .ok v' w') (h:wpList P ops Q rest (a.put o.dst v') w'):wpList P ops Q (o::rest) a w:=
 wpList_plain hgd fun K hK=>by
  unfold Oper.wp execOp;simp only[ho,resolve,invoke,builtin,Sem.run_bind,Sem.run_pure,Result.andThen_ok,List.map_toArray,List.map_cons,List.map_nil,hd,hs,hr];exact hK _ _ h
theorem nv {P:Program}{ops:Array Oper}{o:Oper}{a:Act}{w:World}{K:Act→World→Prop}{Q:Exit→Act→World→Prop}{E:Prop}
  (hg:o.guard=none) (d x:Operand) (dT sT:TypeId) (hop:o.op=Op.call {callee:=Callee.builtin Builtin.copy,args:= #[d,x],argTypes:= #[dT,sT]})
  (v u:Value) (hd:a.eval d=v) (hx:a.eval x=u) {v':Value}{w':World}(hr:(Builtin.copy_ #[dT,sT] o.type #[v,u]).run P w= .ok v' w') (hK:K (a.put o.dst v') w'):
  if Region.wanted o (yielded ops a.tmps)=true then Oper.wp P o a w K Q else E:=by
 have hw:Region.wanted o (yielded ops a.tmps)=true:=by simp[Region.wanted,hg]
 rw[if_pos hw];unfold Oper.wp;simp[execOp,hop,resolve,invoke,builtin,hd,hx,hr,Result.andThen];exact hK
theorem rg.calls (g n c i vb:Nat) (cur:Array Value) (inner vs:List Value) (w:World) (hi:i<n) (hroom:n+1≤c) (hc63:c≤9223372036854775807) (hvb:vb≠g)
  (hb:w.heap[g]? =some (.cells cur 58 (0,0))) (hcs:cur.size=c*6) (hin:cur.toList.take (n*6)=inner) (hv:w.heap[vb]? =some (.cells vs.toArray 58 (0,0))) (hvl:vs.length=6)
  (h1c:∀u∈inner,u.oneCell'=true) (h1v:∀u∈vs,u.oneCell'=true):
  Calls Tryz.prog 102 #[.slice (some ⟨g,0,none⟩) n c,.int .i64 i,.slice (some ⟨vb,0,none⟩) 1 1] w fun e w'=>
   e= .returned (.slice (some ⟨g,0,none⟩) (n+1) c)∧w'=(w.drew.setCells g ((i+1)*6) (inner.drop (i*6))).setCells g (i*6) vs:=by
 have hu:=Tryz.underlying26
 have mixed:Tryz.prog.follows .mixedOrders=true:=by kernel_rfl
 have b7:¬((1:Int)=0):=by omega
 have b8:¬((i:Int)=(n:Int)):=by omega
 have hsz:(Tryz.prog.info? 58).map (·.size)=some 6:=by kernel_rfl
 have hil:inner.length=n*6:=by rw[←hin,List.length_take,Array.length_toList];omega
 have hdl:(inner.drop (i*6)).length=(n-i)*6:=by rw[List.length_drop,hil];omega
 have hcur:∀j,w.cell? ⟨g,j,none⟩=cur[j]? :=fun j=>aq hb j
 have hcell:∀j u,inner[j]? =some u→w.cell? ⟨g,j,none⟩=some u:=fun j u hj=>by
  rw[hcur,←hj,←hin,List.getElem?_take];have:j<inner.length:=(List.getElem?_eq_some_iff.1 hj).1;rw[if_pos (by omega),Array.getElem?_toList]
 have hsp:∀j,j<(n+1)*6→(w.cell? ⟨g,j,none⟩).isSome=true:=fun j hj=>by rw[hcur,Array.getElem?_eq_getElem (by omega)];rfl
 have hfz:∀j,w.frozen? ⟨g,j,none⟩=false:=fun j=>aH hb j
 have hvc:∀j u,vs[j]? =some u→w.cell? ⟨vb,j,none⟩=some u:=fun j u hj=>by rw[aq hv j,List.getElem?_toArray,hj]
 have hov:∀lb cb,(callFunc 128 #[.slice (some ⟨vb,0,none⟩) 1 1,.slice (some ⟨g,(i+1)*6,none⟩) lb cb]).run Tryz.prog w= .ok (.value (.bool false)) w:=fun lb cb=>by
  rw[run_callFunc_extern Tryz.func128 (by kernel_rfl) (by kernel_rfl) (by kernel_rfl) (e:=Extern.SlicesOverlaps.overlaps #[26,26] #[4]) (by kernel_rfl),
   Lib.run_overlaps_apart w 26 4 58 Tryz.underlying26 6 Tryz.sizeOf58 ⟨vb,0,none⟩ ⟨g,(i+1)*6,none⟩ 1 1 lb cb hvb 58 58 vs.length cur.size (by simp[World.shape?,hv]) (by simp[World.shape?,hb]) (by omega) (aH hv 0) (aH hv _)]
  rfl
 have b9:IntKind.i64.wrap ((i:Int)+(1:Int))=(i:Int)+(1:Int):=by rw[IntKind.wrap_i64];omega
 have bB:IntKind.i64.wrap ((n:Int)+(1:Int))=(n:Int)+(1:Int):=by rw[IntKind.wrap_i64];omega
 have bC:(0:Int)≤(i:Int)+(1:Int):=by omega
 have hin':i≤n:=by omega
 have htn:((i:Int)+(1:Int)).toNat=i+1:=by omega
 have b6:((n:Int)+(1:Int)).toNat=n+1:=by omega
 have bD:¬(c=i+1):=by omega
 have bE:(i:Int)≤(n:Int)+(1:Int):=by omega
 have bF:¬(c=i):=by omega
 have b2:∀ty dl dc sl sc,dl=n-i→sl=n+1-i→(Builtin.copy_ #[26,26] ty #[.slice (some ⟨g,(i+1)*6,none⟩) dl dc,.slice (some ⟨g,i*6,none⟩) sl sc]).run Tryz.prog w.drew= .ok (goInt ((n-i:Nat):Int)) (w.drew.setCells g ((i+1)*6) (inner.drop (i*6))):=fun ty dl dc sl sc aeo adl=>
  kz w.drew _ _ ty 58 g ((i+1)*6) dl dc ⟨g,i*6,none⟩ sl sc (n-i) (inner.drop (i*6)) Tryz.underlying26 hsz (by simp only[Nat.min_def];split<;>omega) hdl
   (fun j v hj=>by rw[Addr.add_lit];exact hcell (i*6+j) v (by rwa [List.getElem?_drop]at hj))
   (fun j hj=>hsp _ (by omega)) (fun j hj=>hfz _) (fun v hv=>h1c v (List.mem_of_mem_drop hv))
 obtain⟨W1,b1⟩:∃W1,W1=w.drew.setCells g ((i+1)*6) (inner.drop (i*6)):=⟨_,rfl⟩;obtain⟨b3,b4,bG,_⟩:=fe (inner.drop (i*6)) ((i+1)*6) w.drew cur hb (by omega)
 have b5:∀(W:World),W.heap=W1.heap→∀ty dc,(Builtin.copy_ #[26,26] ty #[.slice (some ⟨g,i*6,none⟩) (n+1-i) dc,.slice (some ⟨vb,0,none⟩) 1 1]).run Tryz.prog W= .ok (goInt 1) (W.setCells g (i*6) vs):=fun W hWh ty dc=>
  kz W _ _ ty 58 g (i*6) (n+1-i) dc ⟨vb,0,none⟩ 1 1 1 vs Tryz.underlying26 hsz (by simp only[Nat.min_def];split<;>omega) (by omega)
   (fun j v hj=>by
    rw[Addr.add_lit,Nat.zero_add];rw[show W.cell? ⟨vb,j,none⟩=w.cell? ⟨vb,j,none⟩from by rw[aq (w:=W) (g:=vb) (cs:=vs.toArray) (t:=58) (by rw[hWh,b1,eT _ _ _ hvb];exact hv) j,aq hv j]]
    exact hvc j v hj)
   (fun j hj=>by rw[aq (w:=W) (g:=g) (cs:=b3) (t:=58) (by rw[hWh,b1];exact b4),Array.getElem?_eq_getElem (by omega)];rfl) (fun j hj=>aH (w:=W) (g:=g) (cs:=b3) (t:=58) (by rw[hWh,b1];exact b4) _) h1v
 rw[←b1]at b2
 go_enter Tryz.func102,Tryz.ntmps102
 go_wp2_with (simp only[hov])
 go_region_law_o (refine nv rfl _ _ 26 26 rfl (.slice (some ⟨g,(i+1)*6,none⟩) (n+1-(i+1)) (c-(i+1))) (.slice (some ⟨g,i*6,none⟩) (n+1-i) (c-i)) (by simp[Act.eval,Act.put]) (by simp[Act.eval,Act.put]) (b2 _ _ _ _ _ (by omega) (by omega)) ?_)
 go_wp2_with (at_builtin;refine l_ _ rfl _ _ 26 26 rfl _ _ rfl rfl (b5 _ rfl _ _) ?_)
 go_ret
 first|exact⟨rfl,rfl⟩|exact⟨rfl,by rw[b1]⟩
theorem pS:(Tryz.prog.info? 58).map (fun i=>(i.zero,i.size,i.bytes))=some (some (Value.agg #[.int .i64 0,.int .i64 0,.int .i64 0,.slice none 0 0,.slice none 0 0,.slice none 0 0]),6,96):=by kernel_rfl
theorem aaQ (w:World) (vb:Nat) (vs:List Value) (hv:w.heap[vb]? =some (.cells vs.toArray 58 (0,0))) (hvl:vs.length=6) (h1v:∀u∈vs,u.oneCell'=true):eQ ((Kd.raw 6).K w) 6 w (some ⟨vb,0,none⟩) 1 [vs]:=by
 refine⟨rfl,by decide,fun _=>⟨⟨vb,0,none⟩,rfl,fun j p hj=> ?_⟩⟩
 cases j with
 |zero=>
  obtain rfl:vs=p:=by simpa using hj
  refine⟨vs,hvl,⟨rfl,hvl,h1v⟩,fun i u hu=> ?_⟩;rw[Nat.zero_mul,Nat.zero_add,Addr.add_lit,Nat.zero_add,aq hv i,List.getElem?_toArray,hu]
 |succ j=>simp at hj
theorem sY.calls (A:Option Addr) (n c vb base:Nat) (rows:List (List Value)) (vs:List Value) (w0 w:World) (hn:rows.length=n)
  (hr:(Kd.raw 6).R 58 w base (fun k=>some k=(Value.slice A n c).ownBlock∨w.heap.size≤k) (.slice A n c) rows) (hv:w.heap[vb]? =some (.cells vs.toArray 58 (0,0))) (hvl:vs.length=6) (h1v:∀u∈vs,u.oneCell'=true)
  (hB:Below base w0 w) (hbase:base≤w.heap.size) (hbig:(n+1)*96≤140737488355328):
  Calls Tryz.prog 102 #[.slice A n c,.int .i64 n,.slice (some ⟨vb,0,none⟩) 1 1] w fun e w'=>∃v',e= .returned v'∧(Kd.raw 6).R 58 w' base (fun k=>some k=(Value.slice A n c).ownBlock∨w.heap.size≤k) v' (rows++[vs])∧
   Below base w0 w'∧w.grownBy w' (Value.slice A n c).ownBlock∧(v'.ownBlock=(Value.slice A n c).ownBlock∨∃b,v'.ownBlock=some b∧w.heap.size≤b):=by
 have hu:=Tryz.underlying26
 have b1:¬((1:Int)=0):=by omega
 have ho:=aaQ w vb vs hv hvl h1v;have hr':=hr;obtain⟨hok,inner,hown,hrep⟩:=hr'
 go_enter Tryz.func102,Tryz.ntmps102
 rcases A with _|ad
 ·obtain⟨rfl,rfl⟩:n=0∧c=0:=by
   rcases hown.2 with⟨h1,h2⟩|⟨g',cap',cur,h1,_⟩
   ·injection h1 with _ a b;exact⟨a,b⟩
   ·cases h1
  go_wp2_with (at_builtin;refine Kd.fa (Kd.raw 6) (Rr:=(Kd.raw 6).K w) (w0:=w0) base rfl _ _ 26 58 (Value.agg #[.int .i64 0,.int .i64 0,.int .i64 0,.slice none 0 0,.slice none 0 0,.slice none 0 0]) 96 rfl hu pS rfl (by decide) (by decide) _ rows [vs] (some ⟨vb,0,none⟩) 1 1 _ (fun _=>False) rfl rfl hr ho (fun x cs h=>h) (fun _ h=>h.elim) (fun k hk=> .inr hk) hB hbase (by omega) ?_;intro v1 w1 h1 h2 h3 h4)
  go_ret
  exact⟨_,rfl,h1,h2,h3,h4⟩
 ·obtain⟨g,rfl⟩:=Kd.aaG hr;have hnc:n≤c:=(Kd.bu hr).2.1
  go_wp2_with (at_builtin;refine Kd.fa (Kd.raw 6) (Rr:=(Kd.raw 6).K w) (w0:=w0) base rfl _ _ 26 58 (Value.agg #[.int .i64 0,.int .i64 0,.int .i64 0,.slice none 0 0,.slice none 0 0,.slice none 0 0]) 96 rfl hu pS rfl (by decide) (by decide) _ rows [vs] (some ⟨vb,0,none⟩) 1 1 _ (fun _=>False) rfl rfl hr ho (fun x cs h=>h) (fun _ h=>h.elim) (fun k hk=> .inr hk) hB hbase (by omega) ?_;intro v1 w1 h1 h2 h3 h4)
  all_goals(go_ret;exact⟨_,rfl,h1,h2,h3,h4⟩)
theorem rU.calls (g n c i vb:Nat) (cur:Array Value) (inner vs:List Value) (w:World) (hi:i<n) (hnc:n≤c) (hroom:c<n+1) (hbig:(n+1)*96≤140737488355328)
  (hb:w.heap[g]? =some (.cells cur 58 (0,0))) (hcs:cur.size=c*6) (hin:cur.toList.take (n*6)=inner) (hv:w.heap[vb]? =some (.cells vs.toArray 58 (0,0))) (hvl:vs.length=6)
  (h1c:∀u∈inner,u.oneCell'=true) (h1v:∀u∈vs,u.oneCell'=true):
  Calls Tryz.prog 102 #[.slice (some ⟨g,0,none⟩) n c,.int .i64 i,.slice (some ⟨vb,0,none⟩) 1 1] w fun e w'=>∃(G:Nat) (ROW:Array Value),n+1≤G∧G≤9223372036854775807∧ROW.size=G*6∧ROW.toList.take (i*6)=inner.take (i*6)∧
   e= .returned (.slice (some ⟨w.heap.size,0,none⟩) (n+1) G)∧w'=(((w.alloc (.cells ROW 58)).drew.setCells w.heap.size (i*6) vs).drew).setCells w.heap.size ((i+1)*6) (inner.drop (i*6)):=by
 have hu:=Tryz.underlying26
 have mixed:Tryz.prog.follows .mixedOrders=true:=by kernel_rfl
 obtain⟨i0,b3,b5,hzs,hzb⟩:=info_parts pS
 have hsz:(Tryz.prog.info? 58).map (·.size)=some 6:=by rw[b3];simp[hzs]
 have b7:¬((1:Int)=0):=by omega
 have b8:¬((i:Int)=(n:Int)):=by omega
 have b9:(c:Int)<(n:Int)+(1:Int):=by omega
 have hil:inner.length=n*6:=by rw[←hin,List.length_take,Array.length_toList];omega
 have hdl:(inner.drop (i*6)).length=(n-i)*6:=by rw[List.length_drop,hil];omega
 have hgw:g<w.heap.size:=iA hb;have hvw:vb<w.heap.size:=iA hv
 have hcell:∀j u,inner[j]? =some u→w.cell? ⟨g,j,none⟩=some u:=fun j u hj=>by
  rw[aq hb j,←hj,←hin,List.getElem?_take];have:j<inner.length:=(List.getElem?_eq_some_iff.1 hj).1;rw[if_pos (by omega),Array.getElem?_toList]
 have hvc:∀j u,vs[j]? =some u→w.cell? ⟨vb,j,none⟩=some u:=fun j u hj=>by rw[aq hv j,List.getElem?_toArray,hj]
 have hkk:(n:Int)+(1:Int)-(i:Int)=((n+1-i:Nat):Int):=by omega
 have hik:i+(n+1-i)=n+1:=by omega
 have hold:(Builtin.firstCells i0.size i (.slice (some ⟨g,0,none⟩) i c)).run Tryz.prog w.drew= .ok (inner.take (i*6)).toArray w.drew:=by
  rw[hzs]
  exact run_firstCells_some w.drew 6 i ⟨g,0,none⟩ i c (inner.take (i*6)) (by rw[List.length_take];omega) (fun j v hj=>by
   rw[Addr.add_lit,Nat.zero_add];rw[List.getElem?_take]at hj
   split at hj
   ·exact hcell j v hj
   ·cases hj)
 have hrz:∀ty,(Builtin.append_ #[26,3] ty #[.slice (some ⟨g,0,none⟩) i c,.int .i64 ((n:Int)+(1:Int)-(i:Int))]).run Tryz.prog w=
   .ok (.slice (some ⟨w.heap.size,0,none⟩) (n+1) (grownCap w (n+1) c 58)) (w.drew.alloc (.cells ((inner.take (i*6)).toArray++Builtin.zeroCells (Value.agg #[.int .i64 0,.int .i64 0,.int .i64 0,.slice none 0 0,.slice none 0 0,.slice none 0 0]).cells (n+1-i)++Builtin.zeroCells (Value.agg #[.int .i64 0,.int .i64 0,.int .i64 0,.slice none 0 0,.slice none 0 0,.slice none 0 0]).cells (grownCap w (n+1) c 58-(n+1))) 58)):=fun ty=>by
  have h:=Lib.run_append_grow_zeros w 26 3 ty 58 i0 _ .i64 .i64 hu Tryz.underlying3 b3 b5 (some ⟨g,0,none⟩) i c (inner.take (i*6)) hold (n+1-i) (by omega) (by omega) (by omega) (by omega) (by rw[hzb];omega) (by rw[hzb,hik];exact growslice_fits hroom hbig);rw[hik]at h;rw[hkk];exact h
 obtain⟨G,hG⟩:∃G,G=grownCap w (n+1) c 58:=⟨_,rfl⟩
 have hGn:n+1≤G:=by rw[hG];exact grownCap_ge w _ _ _
 have b4:G≤9223372036854775807:=by
  have:=grownCap_le_maxLen w (n+1) c 58 (by unfold maxLen;omega);rw[←hG]at this;unfold maxLen at this
  omega
 obtain⟨ROW,hROW⟩:∃ROW:Array Value,ROW=(inner.take (i*6)).toArray++Builtin.zeroCells (Value.agg #[.int .i64 0,.int .i64 0,.int .i64 0,.slice none 0 0,.slice none 0 0,.slice none 0 0]).cells (n+1-i)++Builtin.zeroCells (Value.agg #[.int .i64 0,.int .i64 0,.int .i64 0,.slice none 0 0,.slice none 0 0,.slice none 0 0]).cells (G-(n+1)):=⟨_,rfl⟩;rw[←hG]at hrz;rw[←hROW]at hrz;have hzc:(Value.agg #[.int .i64 0,.int .i64 0,.int .i64 0,.slice none 0 0,.slice none 0 0,.slice none 0 0]).cells.size=6:=rfl
 have hRl:ROW.size=G*6:=by
  rw[hROW];simp only[Array.size_append,List.size_toArray,List.length_take,Builtin.zeroCells,Array.size_map,Array.size_range,hzc]
  omega
 have hRt:ROW.toList.take (i*6)=inner.take (i*6):=by
  rw[hROW,Array.toList_append,Array.toList_append,List.append_assoc,List.take_append_of_le_length (by rw[List.length_take];omega),List.take_of_length_le (by rw[List.length_take];omega)]
 have hblk:∀W:World,W.heap=(w.drew.alloc (.cells ROW 58)).heap→W.heap[w.heap.size]? =some (.cells ROW 58 (0,0)):=fun W h=>by rw[h];exact ky w.drew _
 have hcpA:∀(W:World),W.heap=(w.drew.alloc (.cells ROW 58)).heap→∀ty dc,(Builtin.copy_ #[26,26] ty #[.slice (some ⟨w.heap.size,i*6,none⟩) (n+1-i) dc,.slice (some ⟨vb,0,none⟩) 1 1]).run Tryz.prog W= .ok (goInt 1) (W.setCells w.heap.size (i*6) vs):=fun W hWh ty dc=>
  kz W _ _ ty 58 w.heap.size (i*6) (n+1-i) dc ⟨vb,0,none⟩ 1 1 1 vs hu hsz (by simp only[Nat.min_def];split<;>omega) (by omega)
   (fun j v hj=>by
    rw[Addr.add_lit,Nat.zero_add,aq (w:=W) (g:=vb) (cs:=vs.toArray) (t:=58) (by rw[hWh];exact aD (ao hv) _) j,List.getElem?_toArray,hj])
   (fun j hj=>by rw[aq (hblk W hWh),Array.getElem?_eq_getElem (by omega)];rfl) (fun j hj=>aH (hblk W hWh) _) h1v
 obtain⟨b1,b2,b6,_⟩:=fe vs (i*6) (w.drew.alloc (.cells ROW 58)) ROW (ky w.drew _) (by omega)
 have hcpB:∀(W:World),W.heap=((w.drew.alloc (.cells ROW 58)).setCells w.heap.size (i*6) vs).heap→∀ty dl dc sl sc,dl=n-i→sl=n-i→(Builtin.copy_ #[26,26] ty #[.slice (some ⟨w.heap.size,(i+1)*6,none⟩) dl dc,.slice (some ⟨g,i*6,none⟩) sl sc]).run Tryz.prog W= .ok (goInt ((n-i:Nat):Int)) (W.setCells w.heap.size ((i+1)*6) (inner.drop (i*6))):=fun W hWh ty dl dc sl sc aeo adl=>
  kz W _ _ ty 58 w.heap.size ((i+1)*6) dl dc ⟨g,i*6,none⟩ sl sc (n-i) (inner.drop (i*6)) hu hsz (by simp only[Nat.min_def];split<;>omega) hdl
   (fun j v hj=>by
    rw[Addr.add_lit];have h2:=hcell (i*6+j) v (by rwa [List.getElem?_drop]at hj);rw[aq hb]at h2;rw[aq (w:=W) (g:=g) (cs:=cur) (t:=58) (by rw[hWh,eT _ _ _ (by omega)];exact aD (ao hb) _)]
    exact h2)
   (fun j hj=>by rw[aq (w:=W) (g:=w.heap.size) (cs:=b1) (t:=58) (by rw[hWh];exact b2),Array.getElem?_eq_getElem (by omega)];rfl) (fun j hj=>aH (w:=W) (g:=w.heap.size) (cs:=b1) (t:=58) (by rw[hWh];exact b2) _) (fun v hv=>h1c v (List.mem_of_mem_drop hv))
 have hGi:¬(G=i):=by omega
 have hGim:¬(G=i+1):=by omega
 have hci:¬(c=i):=by omega
 have bB:IntKind.i64.wrap ((i:Int)+(1:Int))=(i:Int)+(1:Int):=by rw[IntKind.wrap_i64];omega
 have bC:IntKind.i64.wrap ((n:Int)+(1:Int))=(n:Int)+(1:Int):=by rw[IntKind.wrap_i64];omega
 have bD:IntKind.i64.wrap ((n:Int)+(1:Int)-(i:Int))=(n:Int)+(1:Int)-(i:Int):=by rw[IntKind.wrap_i64];omega
 have bE:(0:Int)≤(i:Int)+(1:Int):=by omega
 have hin':i≤n:=by omega
 have htn:((i:Int)+(1:Int)).toNat=i+1:=by omega
 have bF:(i:Int)≤(n:Int):=by omega
 clear hkk hik hold hROW hG hblk b2 b6
 go_enter Tryz.func102,Tryz.ntmps102
 go_wp2_with (first
  |(at_builtin;refine Lib.wpList_append_run _ rfl _ _ _ _ rfl _ _ rfl rfl _ _ (hrz _) ?_)
  |(refine l_ _ rfl _ _ 26 26 rfl _ _ rfl rfl (hcpA _ rfl _ _) ?_))
 go_region_law_o (refine nv rfl _ _ 26 26 rfl (.slice (some ⟨w.heap.size,(i+1)*6,none⟩) (n+1-(i+1)) (G-(i+1))) (.slice (some ⟨g,i*6,none⟩) (n-i) (c-i)) (by simp[Act.eval,Act.put]) (by simp[Act.eval,Act.put]) (hcpB ((((w.alloc (.cells ROW 58)).drew).setCells w.heap.size (i*6) vs).drew) (by rfl) _ _ _ _ _ (by omega) (by omega)) ?_)
 go_wp2
 go_ret
 exact⟨G,ROW,hGn,b4,hRl,hRt,rfl,rfl⟩
/-- slices.Insert of one element: the row with it. -/
theorem tV.calls (A:Option Addr) (n c i vb base:Nat) (ok:Nat→Prop) (rows:List (List Value)) (vs:List Value) (w0 w:World) (hi:i≤n) (hn:rows.length=n) (hr:(Kd.raw 6).R 58 w base ok (.slice A n c) rows)
  (hv:w.heap[vb]? =some (.cells vs.toArray 58 (0,0))) (hvb:some vb≠(Value.slice A n c).ownBlock) (hvl:vs.length=6) (h1v:∀u∈vs,u.oneCell'=true) (hB:Below base w0 w) (hbase:base≤w.heap.size) (hbig:(n+1)*96≤140737488355328):
  Calls Tryz.prog 102 #[.slice A n c,.int .i64 i,.slice (some ⟨vb,0,none⟩) 1 1] w fun e w'=>∃v',e= .returned v'∧(Kd.raw 6).R 58 w' base (fun k=>some k=(Value.slice A n c).ownBlock∨w.heap.size≤k) v' (rows.take i++[vs]++rows.drop i)∧
   Below base w0 w'∧w.grownBy w' (Value.slice A n c).ownBlock∧(v'.ownBlock=(Value.slice A n c).ownBlock∨∃b,v'.ownBlock=some b∧w.heap.size≤b):=by
 have hr':(Kd.raw 6).R 58 w base (fun k=>some k=(Value.slice A n c).ownBlock∨w.heap.size≤k) (.slice A n c) rows:=⟨fun k hk=> .inl hk.symm,hr.2⟩;rcases Nat.lt_or_ge i n with hlt|hge
 case inr=>
  obtain rfl:i=n:=by omega
  rw[List.take_of_length_le (by omega),List.drop_of_length_le (by omega),List.append_nil];exact sY.calls A i c vb base rows vs w0 w hn hr' hv hvl h1v hB hbase hbig
 case inl=>
 obtain⟨hok,inner,⟨hil,hown⟩,hrep⟩:=hr';rcases hown with⟨he,h0⟩|⟨g,cap,cur,he,hbg,hh,hnc,hcm,hcs,hin⟩
 ·omega
 injection he with ha hnn hcc;subst ha;subst hcc;subst hnn;rw[show(Kd.raw 6).sz=6 from rfl]at hil hcs hin hrep;have b2:∀u∈inner,u.oneCell'=true:=Kd.aaK hrep (by decide) (fun p c h=>h.2.2);have hrI:=aaq (i:=i) hrep (by omega) hvl h1v
 have hgv:vb≠g:=fun he=>hvb (by rw[he];rfl)
 have hpl:i*6≤inner.length:=by rw[hil];omega
 have b1:(rows.take i++[vs]++rows.drop i).length=rows.length+1:=by simp only[List.length_append,List.length_take,List.length_drop,List.length_singleton];omega
 rcases Nat.lt_or_ge c (rows.length+1)with hg|hroom
 ·refine(rU.calls g rows.length c i vb cur inner vs w hlt hnc hg hbig hh hcs hin hv hvl b2 h1v).mono ?_;rintro e w' ⟨G,ROW,hGn,b3,hRl,hRt,rfl,rfl⟩;refine⟨_,rfl,?_,?_,nu w _ _ _ _ _ _,.inr ⟨_,rfl,Nat.le_refl _⟩⟩
  ·obtain⟨c1,k1,k2,k3⟩:=fe (e:=58) vs (i*6) (w.alloc (.cells ROW 58)).drew ROW (ao (ky w _)) (by omega);obtain⟨c2,l1,l2,l3⟩:=fe (inner.drop (i*6)) ((i+1)*6) _ c1 (ao k1) (by rw[List.length_drop,k2,hil,hRl];omega);have hm:G≤maxLen:=b3;rw[b1.symm];refine wk l1 (by rw[l2,k2,hRl]) (by omega) hm (by omega) (.inr (Nat.le_refl _)) rfl ?_;rw[l3];have:=wS ROW.toList inner vs (i*6) 6 hvl hpl hRt c1.toList (by rw[Array.length_toList];omega) k3;rw[show(i+1)*6=i*6+6 by omega,show(rows.take i++[vs]++rows.drop i).length*6=inner.length+6 by rw[b1,hil];omega,this];exact hrI
  ·exact hB.grown (nu w _ _ _ _ _ none) hbase (fun k e=>by cases e)
 ·refine(rg.calls g rows.length c i vb cur inner vs w hlt hroom (by unfold maxLen at hcm;omega) hgv hh hcs hin hv hvl b2 h1v).mono ?_;rintro e w' ⟨rfl,rfl⟩;refine⟨_,rfl,?_,?_,sf w g _ _ _ _,.inl rfl⟩
  ·obtain⟨c1,k1,k2,k3⟩:=fe (inner.drop (i*6)) ((i+1)*6) w.drew cur (ao hh) (by rw[List.length_drop,hil,hcs];omega);obtain⟨c2,l1,l2,l3⟩:=fe vs (i*6) _ c1 k1 (by rw[k2,hcs];omega);rw[b1.symm];refine wk l1 (by rw[l2,k2,hcs]) (by omega) hcm hbg (.inl rfl) rfl ?_;rw[l3];have:=aap cur.toList inner vs (i*6) 6 hvl hpl (by rw[←hin,List.take_take,Nat.min_eq_left (by omega)]) (by rw[Array.length_toList,hcs];omega) c1.toList (by rw[k3,show(i+1)*6=i*6+6 by omega]);rw[show(rows.take i++[vs]++rows.drop i).length*6=inner.length+6 by rw[b1,hil];omega,this];exact hrI
  ·exact hB.grown (sf w g _ _ _ _) hbase (fun k e=>by injection e with e;omega)
def eF.l0:Nat→ByteArray→Int→Int→Int→Int→List Int→List (eb)→List (eh)→Option (Int)
 |0,_,_,_,_,_,_,_,_=>none
 |k+1,x1,x5,b2,b3,b4,b5,b1,b6=>if x5<(b1.length:Int)then(if 0≤x5 then(if((al b1 x5).f0).toList=x1.toList then(some ((al b1 x5).f1))else(eF.l0 k x1 (wrap64 (x5+1)) b2 b3 b4 b5 b1 b6))else(none))else(some 0)
def eF.f (k:Nat) (bp:Int) (ak:Int) (cJ:Int) (cj:List Int) (aK:List (eb)) (cw:List (eh)) (a1:ByteArray):Option (Int):=eF.l0 k a1 0 bp ak cJ cj aK cw
theorem eF.calls (k:Nat) (bp:Int) (ak:Int) (cJ:Int) (fO:Option Addr) (fP:Nat) (cj:List Int) (fE:Option Addr) (fF:Nat) (aK:List (eb)) (fp:Option Addr) (fq:Nat) (cw:List (eh)) (a1:ByteArray) (r:Int) (w:World) (iK:Kd.C (Kd.int .u8) w fO cj.length cj) (iL:cj.length≤fP) (iM:Kd.C iT w fE aK.length aK) (iN:aK.length≤fF) (iO:Kd.C iU w fp cw.length cw) (iP:cw.length≤fq) (h:eF.f k bp ak cJ cj aK cw a1=some r):
  Calls Tryz.prog 98 #[.agg #[.int .i64 bp,.int .i64 ak,.int .i64 cJ,.slice fO cj.length fP,.slice fE aK.length fF,.slice fp cw.length fq],.string a1] w fun e w'=>e= .returned (.int .i64 r)∧Below w.heap.size w w':=by
 have bQ:=Tryz.underlying58;have bK:=ab.mk iK;have bL:=ab.mk iL;clear iK iL;have b5:=ab.mk iM;have bM:=ab.mk iN;clear iM iN;have bN:=ab.mk iO;have bO:=ab.mk iP;clear iO iP;have HB:=am (Below.refl w.heap.size w);unfold eF.f at h;have H:=h;clear h;have H':=ab.mk H;clear H
 go_enter Tryz.func98,Tryz.ntmps98
 go_wp2_with (first|((with_reducible refine ai (N:=2) rfl ?_);refine di 2 #[.int .i64 bp,.int .i64 ak,.int .i64 cJ,.slice fO cj.length fP,.slice fE aK.length fF,.slice fp cw.length fq] 58 ?_;intro bB hg w3 hbox hb;have b2:=am (hbox);have bP:=dh hg;replace HB:=hB HB hb;clear hb hbox hg))
 go_loopg [5] k (fun kq v5 w'=>∃(b1:Int),v5= .int .i64 b1∧ab (eF.l0 kq a1 b1 bp ak cJ cj aK cw=some r)∧ab (kq≤k)∧ab (w'.heap[bB]? =some (.cells #[.int .i64 bp,.int .i64 ak,.int .i64 cJ,(.slice fO cj.length fP),(.slice fE aK.length fF),(.slice fp cw.length fq)] 58 (0,0)))∧ab (Below w.heap.size w w'))
 case atStart=>exact⟨(0),oS,H',⟨Nat.le_refl _⟩,⟨oF b2⟩,⟨oB⟩⟩
 case round=>
  clear H';obtain⟨b1,rfl,HA,bD,b2,HB⟩:=hrel
  cases gk with
  |zero=>exact absurd HA.out (by simp[eF.l0])
  |succ k1=>
   have H:=HA.out;clear HA;simp only[eF.l0]at H;replace H:=iH H;rcases H with⟨bE,H⟩|⟨bE,H⟩;rotate_left
   ·obtain rfl:=Option.some.inj H;obtain⟨⟨_,_,_,_,_,_⟩,_,_,_,_,_,_⟩:=z6 b2
    go_wp2
    go_ret
    exact⟨oE,oB⟩
   obtain⟨bR,H⟩:=cU H
   by_cases c6:((al aK b1).f0).toList=a1.toList
   rotate_left
   ·rw[if_neg c6]at H;have bF:(((al aK b1).f0).toList==a1.toList)=false:=beq_eq_false_iff_ne.mpr c6;have bG:(((al aK b1).f0).toList !=a1.toList)=true:=bne_iff_ne.mpr c6;have H':=ab.mk H;clear H;obtain⟨⟨_,_,_,_,_,_⟩,_,_,_,_,_,_⟩:=z6 b2;have bH:(0≤(b1:Int))=True:=oT;have bI:(b1<(aK.length:Int))=True:=oT;obtain⟨b7,b6,b8,b9⟩:=kp b5 HB b1 oa oa
    cases b6
    go_wp2
    go_roundg k1
    case measure=>have:=bD.out;omega
    case rel=>exact⟨(wrap64 (b1+1)),oS,H',⟨by have:=bD.out;omega⟩,⟨oF b2⟩,⟨oB⟩⟩
   rw[if_pos c6]at H;have bF:(((al aK b1).f0).toList==a1.toList)=true:=beq_iff_eq.mpr c6;have bG:(((al aK b1).f0).toList !=a1.toList)=false:=bne_eq_false_iff_eq.mpr c6;clear c6;obtain rfl:=Option.some.inj H;obtain⟨⟨_,_,_,_,_,_⟩,_,_,_,_,_,_⟩:=z6 b2;have bH:(0≤(b1:Int))=True:=oT;have bI:(b1<(aK.length:Int))=True:=oT;obtain⟨b7,b6,b8,b9⟩:=kp b5 HB b1 oa oa
   cases b6
   have bS:(0≤(b1:Int))=True:=oT;have bT:(b1<(aK.length:Int))=True:=oT;obtain⟨bC,bJ,b3,b4⟩:=cV b5.out b1 oa oa;obtain rfl:b7=bC:=(by injection bJ);replace b3:=cB HB b3;replace b4:=cB HB b4
   go_wp2
   go_ret
   exact⟨oE,oB⟩

def cO.l0:Nat→List Int→List Int→Int→Option (Bool)
 |0,_,_,_=>none
 |k+1,x0,x1,x5=>if x5<(x0.length:Int)then(if 0≤x5 then(if x5<(x1.length:Int)then(if(rd x0 x5)=(rd x1 x5)then(cO.l0 k x0 x1 (wrap64 (x5+1)))else(some false))else(none))else(none))else(some true)
def cO.f (k:Nat) (l0:List Int) (l1:List Int):Option (Bool):=if(l0.length:Int)=(l1.length:Int)then(cO.l0 k l0 l1 0)else(some false)
theorem cO.calls (k:Nat) (A0:Option Addr) (c0:Nat) (l0:List Int) (A1:Option Addr) (c1:Nat) (l1:List Int) (r:Bool) (w:World) (hr0:Kd.C (Kd.int .u8) w A0 l0.length l0) (hc0:l0.length≤c0) (hr1:Kd.C (Kd.int .u8) w A1 l1.length l1) (hc1:l1.length≤c1) (h:cO.f k l0 l1=some r):
  Calls Tryz.prog 26 #[.slice A0 l0.length c0,.slice A1 l1.length c1] w fun e w'=>e= .returned (.bool r)∧eX w w':=by
 have b8:=ab.mk hr0;have bO:=ab.mk hc0;clear hr0 hc0;have b9:=ab.mk hr1;have bP:=ab.mk hc1;clear hr1 hc1;unfold cO.f at h;have H:=h;clear h
 by_cases c3:(l0.length:Int)=(l1.length:Int)
 rotate_left
 ·rw[if_neg c3]at H;have bC:((l0.length:Int)==(l1.length:Int))=false:=beq_eq_false_iff_ne.mpr c3;have bD:((l0.length:Int) !=(l1.length:Int))=true:=bne_iff_ne.mpr c3
  have bE:(l0.length==l1.length)=false:=by first|simpa using c3|(simp at c3⊢;omega)
  obtain rfl:=Option.some.inj H
  go_enter Tryz.func26,Tryz.ntmps26
  go_wp2
  repeat(go_quiet (fail);try go_wp2)
  go_ret
  exact⟨oS,oD⟩
 rw[if_pos c3]at H;have bC:((l0.length:Int)==(l1.length:Int))=true:=beq_iff_eq.mpr c3;have bD:((l0.length:Int) !=(l1.length:Int))=false:=bne_eq_false_iff_eq.mpr c3
 have bE:(l0.length==l1.length)=true:=by first|simpa using c3|(simp at c3⊢;omega)
 clear c3;have H':=ab.mk H;clear H
 go_enter Tryz.func26,Tryz.ntmps26
 go_wp2
 repeat(go_quiet (fail);try go_wp2)
 go_loopg [5] k (fun kq v5 w'=>∃(b1:Int),v5= .int .i64 b1∧ab (cO.l0 kq l0 l1 b1=some r)∧ab (kq≤k)∧eX w w')
 case atStart=>exact⟨(0),oS,H',⟨Nat.le_refl _⟩,oD⟩
 case round=>
  clear H'
  try clear c1
  try clear c3
  obtain⟨b1,rfl,HA,bB,⟨m1,rfl⟩⟩:=hrel
  cases gk with
  |zero=>exact absurd HA.out (by simp[cO.l0])
  |succ k1=>
   have H:=HA.out;clear HA;simp only[cO.l0]at H;replace H:=iH H;rcases H with⟨bF,H⟩|⟨bF,H⟩;rotate_left
   ·obtain rfl:=Option.some.inj H
    go_wp2
    repeat(go_quiet (fail);try go_wp2)
    go_ret
    exact⟨oS,oD⟩
   obtain⟨bM,H⟩:=cU H;obtain⟨bN,H⟩:=cU H
   by_cases c7:(rd l0 b1)=(rd l1 b1)
   rotate_left
   ·rw[if_neg c7]at H;have bG:((rd l0 b1)==(rd l1 b1))=false:=beq_eq_false_iff_ne.mpr c7;have bH:((rd l0 b1) !=(rd l1 b1))=true:=bne_iff_ne.mpr c7;obtain rfl:=Option.some.inj H;have bI:(0≤(b1:Int))=True:=oT;have bJ:(b1<(l0.length:Int))=True:=oT;obtain⟨b6,b2,b4⟩:=Kd.jm b8.out b1 oa oa
    cases b2
    have bK:(0≤(b1:Int))=True:=oT;have bL:(b1<(l1.length:Int))=True:=oT;obtain⟨b7,b3,b5⟩:=Kd.jm b9.out b1 oa oa
    cases b3
    go_wp2
    repeat(go_quiet (fail);try go_wp2)
    go_ret
    exact⟨oS,oD⟩
   rw[if_pos c7]at H;have bG:((rd l0 b1)==(rd l1 b1))=true:=beq_iff_eq.mpr c7;have bH:((rd l0 b1) !=(rd l1 b1))=false:=bne_eq_false_iff_eq.mpr c7;clear c7;have H':=ab.mk H;clear H;have bI:(0≤(b1:Int))=True:=oT;have bJ:(b1<(l0.length:Int))=True:=oT;obtain⟨b6,b2,b4⟩:=Kd.jm b8.out b1 oa oa
   cases b2
   have bK:(0≤(b1:Int))=True:=oT;have bL:(b1<(l1.length:Int))=True:=oT;obtain⟨b7,b3,b5⟩:=Kd.jm b9.out b1 oa oa
   cases b3
   go_wp2
   repeat(go_quiet (fail);try go_wp2)
   go_roundg k1
   case measure=>have:=bB.out;omega
   case rel=>exact⟨(wrap64 (b1+1)),oS,H',⟨by have:=bB.out;omega⟩,oD⟩

def cF.l0:Nat→Int→Int→List (bh)→Int→Option (Int)
 |0,_,_,_,_=>none
 |k+1,x1,x5,b1,b2=>if x5<(b1.length:Int)then(if 0≤x5 then(if((af b1 x5).f0)=x1 then(some x5)else(cF.l0 k x1 (wrap64 (x5+1)) b1 b2))else(none))else(some (-1))
def cF.f (k:Nat) (ag:List (bh)) (ak:Int) (a1:Int):Option (Int):=cF.l0 k a1 0 ag ak
theorem cF.calls (k:Nat) (bj:Option Addr) (aW:Nat) (ag:List (bh)) (ak:Int) (a1:Int) (r:Int) (w:World) (ch:Kd.C fD w bj ag.length ag) (ck:ag.length≤aW) (h:cF.f k ag ak a1=some r):
  Calls Tryz.prog 82 #[.agg #[.slice bj ag.length aW,.int .i64 ak],.int .i64 a1] w fun e w'=>e= .returned (.int .i64 r)∧Below w.heap.size w w':=by
 have bY:=Tryz.underlying28;have b4:=ab.mk ch;have bW:=ab.mk ck;clear ch ck;have HB:=am (Below.refl w.heap.size w);unfold cF.f at h;have H:=h;clear h;have H':=ab.mk H;clear H
 go_enter Tryz.func82,Tryz.ntmps82
 go_wp2_with (first|((with_reducible refine ai (N:=2) rfl ?_);refine di 2 #[.slice bj ag.length aW,.int .i64 ak] 28 ?_;intro bO hg w3 hbox hb;have b2:=am (hbox);have bX:=dh hg;replace HB:=hB HB hb;clear hb hbox hg))
 go_loopg [5] k (fun kq v5 w'=>∃(b1:Int),v5= .int .i64 b1∧ab (cF.l0 kq a1 b1 ag ak=some r)∧ab (kq≤k)∧ab (w'.heap[bO]? =some (.cells #[(.slice bj ag.length aW),.int .i64 ak] 28 (0,0)))∧ab (Below w.heap.size w w'))
 case atStart=>exact⟨(0),oS,H',⟨Nat.le_refl _⟩,⟨oF b2⟩,⟨oB⟩⟩
 case round=>
  clear H';obtain⟨b1,rfl,HA,bQ,b2,HB⟩:=hrel
  cases gk with
  |zero=>exact absurd HA.out (by simp[cF.l0])
  |succ k1=>
   have H:=HA.out;clear HA;simp only[cF.l0]at H;replace H:=iH H;rcases H with⟨bR,H⟩|⟨bR,H⟩;rotate_left
   ·obtain rfl:=Option.some.inj H;obtain⟨⟨_,_⟩,_,_⟩:=z2 b2
    go_wp2
    go_ret
    exact⟨oE,oB⟩
   obtain⟨bZ,H⟩:=cU H
   by_cases c6:((af ag b1).f0)=a1
   ·rw[if_pos c6]at H;have bS:(((af ag b1).f0)==a1)=true:=beq_iff_eq.mpr c6;have bT:(((af ag b1).f0) !=a1)=false:=bne_eq_false_iff_eq.mpr c6;clear c6;obtain rfl:=Option.some.inj H;obtain⟨⟨_,_⟩,_,_⟩:=z2 b2;have bU:(0≤(b1:Int))=True:=oT;have bV:(b1<(ag.length:Int))=True:=oT;obtain⟨bP,bI,bJ,bK,bL,bM,bN,b3,b5,b6,b7,b8,b9,bB,bC,bD,bE,bF,bG,bH⟩:=fc b4 HB b1 oa oa
    cases b3
    go_wp2
    go_ret
    exact⟨oE,oB⟩
   rw[if_neg c6]at H;have bS:(((af ag b1).f0)==a1)=false:=beq_eq_false_iff_ne.mpr c6;have bT:(((af ag b1).f0) !=a1)=true:=bne_iff_ne.mpr c6;have H':=ab.mk H;clear H;obtain⟨⟨_,_⟩,_,_⟩:=z2 b2;have bU:(0≤(b1:Int))=True:=oT;have bV:(b1<(ag.length:Int))=True:=oT;obtain⟨bP,bI,bJ,bK,bL,bM,bN,b3,b5,b6,b7,b8,b9,bB,bC,bD,bE,bF,bG,bH⟩:=fc b4 HB b1 oa oa
   cases b3
   go_wp2
   go_roundg k1
   case measure=>have:=bQ.out;omega
   case rel=>exact⟨(wrap64 (b1+1)),oS,H',⟨by have:=bQ.out;omega⟩,⟨oF b2⟩,⟨oB⟩⟩

def eG.l0:Nat→ByteArray→List (eb)→Int→Int→Option (Int)
 |0,_,_,_,_=>none
 |k+1,x1,x8,x9,b1=>if b1<x9 then(if 0≤b1 then(if b1<(x8.length:Int)then(if((al x8 b1).f0).toList=x1.toList then(some ((al x8 b1).f1))else(eG.l0 k x1 x8 x9 (wrap64 (b1+1))))else(none))else(none))else(some 0)
def eG.f (k:Nat) (bp:Int) (ak:Int) (cJ:Int) (cj:List Int) (aK:List (eb)) (cw:List (eh)) (a1:ByteArray):Option (Int):=eG.l0 k a1 aK (aK.length:Int) 0
theorem eG.calls (k:Nat) (bp:Int) (ak:Int) (cJ:Int) (fO:Option Addr) (fP:Nat) (cj:List Int) (fE:Option Addr) (fF:Nat) (aK:List (eb)) (fp:Option Addr) (fq:Nat) (cw:List (eh)) (a1:ByteArray) (r:Int) (w:World) (iK:Kd.C (Kd.int .u8) w fO cj.length cj) (iL:cj.length≤fP) (iM:Kd.C iT w fE aK.length aK) (iN:aK.length≤fF) (iO:Kd.C iU w fp cw.length cw) (iP:cw.length≤fq) (h:eG.f k bp ak cJ cj aK cw a1=some r):
  Calls Tryz.prog 57 #[.agg #[.int .i64 bp,.int .i64 ak,.int .i64 cJ,.slice fO cj.length fP,.slice fE aK.length fF,.slice fp cw.length fq],.string a1] w fun e w'=>e= .returned (.int .i64 r)∧Below w.heap.size w w':=by
 have bW:=Tryz.underlying58;have bX:=Tryz.underlying75;have bM:=ab.mk iK;have bN:=ab.mk iL;clear iK iL;have b7:=ab.mk iM;have bO:=ab.mk iN;clear iM iN;have bP:=ab.mk iO;have bQ:=ab.mk iP;clear iO iP;have HB:=am (Below.refl w.heap.size w);unfold eG.f at h;have H:=h;clear h;have H':=ab.mk H;clear H
 go_enter Tryz.func57,Tryz.ntmps57
 go_wp2_with (first|((with_reducible refine ai (N:=2) rfl ?_);refine di 2 #[.int .i64 bp,.int .i64 ak,.int .i64 cJ,.slice fO cj.length fP,.slice fE aK.length fF,.slice fp cw.length fq] 58 ?_;intro bB hg w3 hbox hb;have b2:=am (hbox);have bR:=dh hg;replace HB:=hB HB hb;clear hb hbox hg;obtain⟨⟨_,_,_,_,_,_⟩,_,_,_,_,_,_⟩:=z6 b2))
 go_loopg [10] k (fun kq bL w'=>∃(b1:Int),bL= .int .i64 b1∧ab (eG.l0 kq a1 aK (aK.length:Int) b1=some r)∧ab (kq≤k)∧ab (w'.heap[bB]? =some (.cells #[.int .i64 bp,.int .i64 ak,.int .i64 cJ,(.slice fO cj.length fP),(.slice fE aK.length fF),(.slice fp cw.length fq)] 58 (0,0)))∧ab (Below w.heap.size w w'))
 case atStart=>exact⟨(0),oS,H',⟨Nat.le_refl _⟩,⟨oF b2⟩,⟨oB⟩⟩
 case round=>
  clear H';obtain⟨b1,rfl,HA,bF,b2,HB⟩:=hrel
  cases gk with
  |zero=>exact absurd HA.out (by simp[eG.l0])
  |succ k1=>
   have H:=HA.out;clear HA;simp only[eG.l0]at H;replace H:=iH H;rcases H with⟨bG,H⟩|⟨bG,H⟩;rotate_left
   ·obtain rfl:=Option.some.inj H
    go_wp2
    go_ret
    exact⟨oE,oB⟩
   obtain⟨bY,H⟩:=cU H;obtain⟨bZ,H⟩:=cU H
   by_cases c8:((al aK b1).f0).toList=a1.toList
   ·rw[if_pos c8]at H;have bH:(((al aK b1).f0).toList==a1.toList)=true:=beq_iff_eq.mpr c8;have bI:(((al aK b1).f0).toList !=a1.toList)=false:=bne_eq_false_iff_eq.mpr c8;clear c8;obtain rfl:=Option.some.inj H;have bJ:(0≤(b1:Int))=True:=oT;have bK:(b1<(aK.length:Int))=True:=oT;obtain⟨bC,b6,b8,b9⟩:=kp b7 HB b1 oa oa
    cases b6
    go_wp2_with (first|((with_reducible refine ai (N:=6) rfl ?_);refine di 6 #[.string (⟨#[]⟩:ByteArray),.int .i64 0] 75 ?_;intro bD hg w9 hbox hb;have b5:=am (hbox);have bE:=dh hg;have b3:=eJ hg b2;have b4:=eK hg b2;replace b2:=bn b2 hb;replace HB:=hB HB hb;clear hb hbox hg;have bS:=b4.out;have bT:=b3.out;obtain⟨⟨_,_⟩,_,_⟩:=z2 b5))
    go_ret
    exact⟨oE,oB⟩
   rw[if_neg c8]at H;have bH:(((al aK b1).f0).toList==a1.toList)=false:=beq_eq_false_iff_ne.mpr c8;have bI:(((al aK b1).f0).toList !=a1.toList)=true:=bne_iff_ne.mpr c8;have H':=ab.mk H;clear H;have bJ:(0≤(b1:Int))=True:=oT;have bK:(b1<(aK.length:Int))=True:=oT;obtain⟨bC,b6,b8,b9⟩:=kp b7 HB b1 oa oa
   cases b6
   go_wp2_with (first|((with_reducible refine ai (N:=6) rfl ?_);refine di 6 #[.string (⟨#[]⟩:ByteArray),.int .i64 0] 75 ?_;intro bD hg d1 hbox hb;have b5:=am (hbox);have bE:=dh hg;have b3:=eJ hg b2;have b4:=eK hg b2;replace b2:=bn b2 hb;replace HB:=hB HB hb;clear hb hbox hg;have bU:=b4.out;have bV:=b3.out;obtain⟨⟨_,_⟩,_,_⟩:=z2 b5))
   go_roundg k1
   case measure=>have:=bF.out;omega
   case rel=>exact⟨(wrap64 (b1+1)),oS,H',⟨by have:=bF.out;omega⟩,⟨oF b2⟩,⟨oB⟩⟩

def cM.l0:Nat→List Int→List Int→Int→Option (List Int)
 |0,_,_,_=>none
 |k+1,x0,x3,x4=>if x4<(x0.length:Int)then(if 0≤x4 then(if x4<(x3.length:Int)then(cM.l0 k x0 (x3.set (x4:Int).toNat (rd x0 x4)) (wrap64 (x4+1)))else(none))else(none))else(some x3)
def cM.f (k:Nat) (l0:List Int):Option (List Int):=if 0≤(l0.length:Int)then(if((l0.length:Int):Int).toNat≤281474976710656 then(cM.l0 k l0 (List.replicate ((l0.length:Int):Int).toNat 0) 0)else(none))else(none)
theorem cM.calls (k:Nat) (A0:Option Addr) (c0:Nat) (l0:List Int) (r:List Int) (w:World) (hr0:Kd.C (Kd.int .u8) w A0 l0.length l0) (hc0:l0.length≤c0) (h:cM.f k l0=some r):
  Calls Tryz.prog 24 #[.slice A0 l0.length c0] w fun e w'=>∃jd:Value,e= .returned (jd)∧Kd.R (Kd.int .u8) 5 w' w.heap.size (fun _=>True) jd r∧Below w.heap.size w w':=by
 have bO:=ab.mk hr0;have d2:=ab.mk hc0;clear hr0 hc0;have HB:=am (Below.refl w.heap.size w);unfold cM.f at h;have H:=h;clear h
 by_cases c2:0≤(l0.length:Int)
 rotate_left
 ·rw[if_neg c2]at H;exact absurd H (by simp)
 rw[if_pos c2]at H;have bJ:=eq_true c2;have bK:decide (0≤(l0.length:Int))=true:=decide_eq_true c2;clear c2;obtain⟨c3,H⟩:=lH H;have bV:=eq_true c3;have bW:decide (((l0.length:Int):Int).toNat≤281474976710656)=true:=decide_eq_true c3;clear c3;obtain⟨b9,dn⟩:∃y_:List Int,y_=(List.replicate ((l0.length:Int):Int).toNat 0):=⟨_,rfl⟩;replace H:(cM.l0 k l0 b9 0)=some r:=oY;have b8:=ab.mk dn;clear dn;have H':=ab.mk H;clear H
 go_enter Tryz.func24,Tryz.ntmps24
 go_wp2_with (first|((with_reducible refine ai (N:=7) rfl ?_);refine Kd.qS (Kd.int .u8) _ 5 rfl (N:=7) rfl 39 _ _ rfl (l0.length:Int) rfl rfl Tryz.underlying39 (.int .u8 0) 1 info5 rfl (by decide) (by omega) 0 (ok:=fun _=>True) (fm:=fun _=>True) rfl (fun _ hk=>hk) trivial oa (Nat.le_trans (Nat.mul_le_mul_right _ (oa:(l0.length:Int).toNat≤281474976710656)) (by omega)) (Below.refl _ _) (Nat.le_refl _) ?_;intro bL w4 b5 hb kB ep;clear kB ep;(first|rw[←b8.out]at b5|(simp only[Int.reduceToNat]at b5;rw[←b8.out]at b5));have bD:=am (Kd.ay b5 (ah oB));replace HB:=hB HB hb;clear hb b5))
 go_loopg [4] k (fun kq v4 w'=>∃(b2:List Int) (b1:Int),v4= .int .i64 b1∧ab (cM.l0 kq l0 b2 b1=some r)∧ab (kq≤k)∧ab (Kd.R (Kd.int .u8) 5 w' w.heap.size (fun _=>True) bL b2)∧ab (Below w.heap.size w w'))
 case atStart=>exact⟨(b9),(0),oS,H',⟨Nat.le_refl _⟩,⟨oR bD⟩,⟨oB⟩⟩
 case round=>
  clear H'
  try clear c2
  try clear bJ
  try clear bK
  try clear c3
  obtain⟨b2,b1,rfl,HA,bF,b3,HB⟩:=hrel
  cases gk with
  |zero=>exact absurd HA.out (by simp[cM.l0])
  |succ k1=>
   have H:=HA.out;clear HA;simp only[cM.l0]at H;replace H:=iH H;rcases H with⟨bM,H⟩|⟨bM,H⟩;rotate_left
   ·obtain rfl:=Option.some.inj H
    go_wp2
    go_ret
    exact⟨_,oE,oR b3,oB⟩
   obtain⟨bX,H⟩:=cU H;obtain⟨bY,H⟩:=cU H;obtain⟨b6,dn⟩:∃y_:List Int,y_=(b2.set (b1:Int).toNat (rd l0 b1)):=⟨_,rfl⟩;replace H:(cM.l0 k1 l0 b6 (wrap64 (b1+1)))=some r:=oY;have bE:=ab.mk dn;clear dn;have H':=ab.mk H;clear H;have bZ:(0≤(b1:Int))=True:=oT;have d1:(b1<(l0.length:Int))=True:=oT;obtain⟨bS,bN,b4⟩:=Kd.jm bO.out b1 oa oa
   cases bN
   replace b4:=cB HB b4;have p9:0≤(b1:Int):=oa;have q9:(b1:Int)<((b2.length:Int):Int):=oa;obtain⟨bB,bP,bG,bH,bQ,d3,bI⟩:=Kd.lu b3.out (by omega)
   (first|cases bG|(injection bG with iF nP nQ;(first|subst iF|(injection iF with iF;subst iF));subst nQ;clear nP))
   have bR:=ab.mk bH;have d4:=ab.mk bI;clear bH bQ bI;obtain⟨bT,bU⟩:=Kd.ob 0 b3.out (b1:Int) p9 q9;replace p9:=eq_true p9;replace q9:=eq_true q9;have b7:=Kd.qV b3.out (b1:Int) (rd l0 b1)
   go_wp2_with (first|((with_reducible refine fx (t:=5) (p:=20) rfl ?_);refine fk (t:=5) (p:=20) (v:= ?adm) (w1:=(wr.setCell ⟨bB,(b1:Int).toNat,none⟩ (.int .u8 (rd l0 b1)))) ?hg ?ho ?hn ?hr ?_;(case ho=>rfl);(case hg=>rfl);(case hn=>rfl);(case hr=>first|(go_simp;done)|(go_simp;rfl));intro bC hw;have hg:wr.grownBy bC (some bB):=(by rw[hw];exact b7.2);have nR:Kd.R (Kd.int .u8) 5 bC w.heap.size (fun _=>True) (.slice (some ⟨bB,0,none⟩) b2.length bP) b6:=(by rw[hw,bE.out];exact b7.1);clear b7;replace b3:=am (nR);replace HB:=am ((by rw[hw];exact aG (HB.out) bR.out:Below w.heap.size w bC));clear hg hw nR))
   go_roundg k1
   case measure=>have:=bF.out;omega
   case rel=>exact⟨(b6),(wrap64 (b1+1)),oS,H',⟨by have:=bF.out;omega⟩,⟨oR b3⟩,⟨oB⟩⟩
end Go.Proofs.YtlecajlnjmbilaaGreatDoor.P
