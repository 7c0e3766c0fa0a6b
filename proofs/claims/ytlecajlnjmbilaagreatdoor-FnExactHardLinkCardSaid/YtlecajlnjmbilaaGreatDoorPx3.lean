-- Printed walks.
import Derived.Test.YtlecajlnjmbilaaGreatDoorPx2
set_option linter.all false
set_option maxHeartbeats 8000000
set_option maxRecDepth 100000
namespace Go.Proofs.YtlecajlnjmbilaaGreatDoor.P
open Go.RowKit Go.Proofs.ab.ar Go.Proofs.ab.aH Go.Proofs.ab.aN Go.Proofs.Tryz
attribute [local go_sem] ib ic jc jd fU fV ie ig

def bb.f (a0:Int) (a1:Int) (a2:Int):Option (Bool):=if a0≥a1 then(some (decide (a0≤a2)))else(some false)
theorem bb.calls (a0:Int) (a1:Int) (a2:Int) (r:Bool) (w:World) (h:bb.f a0 a1 a2=some r):
  Calls Tryz.prog 60 #[.int .i64 a0,.int .i64 a1,.int .i64 a2] w fun e w'=>e= .returned (.bool r)∧fC w w':=by
 unfold bb.f at h;have H:=h;clear h;replace H:=itH H;rcases H with⟨b1,H⟩|⟨b1,H⟩
 ·obtain rfl:=Option.some.inj H
  go_enter func60,ntmps60
  go_wp2
  go_ret
  exact⟨oS,oD⟩
 obtain rfl:=Option.some.inj H
 go_enter func60,ntmps60
 go_wp2
 go_ret
 exact⟨oS,oD⟩

def bw.f (a0:Int) (a1:Int) (a2:Int):Option (Bool):=if a0≥a1 then(some (decide (a0≤a2)))else(some false)
theorem bw.calls (a0:Int) (a1:Int) (a2:Int) (r:Bool) (w:World) (h:bw.f a0 a1 a2=some r):
  Calls Tryz.prog 61 #[.int .i64 a0,.int .i64 a1,.int .i64 a2] w fun e w'=>e= .returned (.bool r)∧fC w w':=by
 unfold bw.f at h;have H:=h;clear h;replace H:=itH H;rcases H with⟨b1,H⟩|⟨b1,H⟩
 ·obtain rfl:=Option.some.inj H
  go_enter func61,ntmps61
  go_wp2
  go_ret
  exact⟨oS,oD⟩
 obtain rfl:=Option.some.inj H
 go_enter func61,ntmps61
 go_wp2
 go_ret
 exact⟨oS,oD⟩

def ox (l:List Int):List Int:=l.mergeSort fun x y=>decide (x≤y)
theorem mh (l:List Int):(ox l).length=l.length:=List.length_mergeSort ..
/-- slices.Sort of a row of the call's own: it is in order behind it. -/
theorem ab9.calls (A:Option Addr) (c b0:Nat) (ok:Nat→Prop) (l:List Int) (w:World) (ho:Kd.R (Kd.int .i64) 3 w b0 ok (.slice A l.length c) l) (hl:l.length<4611686018427387904):
  Calls Tryz.prog 147 #[.slice A l.length c] w fun e w'=>e= .returned (.tuple #[])∧Kd.R (Kd.int .i64) 3 w' b0 ok (.slice A l.length c) (ox l)∧w.grownBy w' (Value.slice A l.length c).ownBlock:=by
 have ho':=ho;obtain⟨hok,inner,⟨hil,hown⟩,hrep⟩:=ho;rcases hown with⟨he,h0⟩|⟨g,cap,cur,he,hbg,hh,hnc,hcm,hcs,hin⟩
 ·obtain rfl:=List.eq_nil_of_length_eq_zero h0
  refine(Any.slices_Sort_int_none Tryz.lays189 A c w).mono fun e w' ⟨he,hw⟩=>⟨he,?_,?_⟩
  ·subst hw;rw[show ox []=[]from List.eq_nil_of_length_eq_zero (by rw[mh];rfl)];exact ho'
  ·subst hw;exact⟨rfl,rfl,rfl,Nat.le_refl _,fun _ _ _=>rfl⟩
 ·injection he with ha _ hc;subst ha;subst hc;rw[show(Kd.int .i64).sz=1 from rfl]at hil hcs hin hrep;have hen:=Kd.zg (enc:=Value.int .i64) hrep;rw[hen,Nat.mul_one]at hin;have hgw:g<w.heap.size:=fM hh
  refine(Any.slices_Sort_int Tryz.lays189 g 0 c l w (holds_of_blockI hh hin) hgw hl).mono fun e w' ⟨he,n,os,hw⟩=> ?_
  subst hw;refine⟨he,⟨fun k hk=>hok k hk,(ox l).map (Value.int .i64),?_,?_⟩,grownBy_sortedI _⟩
  ·rw[mh];exact ownsRow_sortedI (ss:=l) (mh l) hbg hh hnc hcm hcs
  ·exact Kd.rh (enc:=Value.int .i64) (ox l)
def yL (w:World):Prop:=∃m,w.cell? ⟨Tryz.nU.g 1,0,none⟩=some (.int .i64 m)
theorem gk_ {w W:World}(h:Below w.heap.size w W) (hg:ae (yL w)):yL W:=by
 obtain⟨m,hm⟩:=hg.out;exact⟨m,nG h hm⟩
def strings_Split.f (a0 a1:ByteArray):Option (List ByteArray):=if a0.size<4294967281∧1≤a1.size then some (Lib.splitB a1 0 (Lib.countB a0 a1) a0)else none
theorem strings_Split.calls (a0 a1:ByteArray) (r:List ByteArray) (w:World) (h:strings_Split.f a0 a1=some r) (hG:yL w:=by exact gk_ oB (by first|(with_reducible assumption)|assumption)):
  Calls Tryz.prog 121 #[.string a0,.string a1] w fun e w'=>∃jx:Value,e= .returned (jx)∧Kd.R Kd.string 9 w' w.heap.size (fun _=>True) jx r∧Below w.heap.size w w':=by
 unfold strings_Split.f at h
 split at h
 case isFalse=>cases h
 case isTrue hc=>
 obtain rfl:=Option.some.inj h;obtain⟨m,hm⟩:=hG;have hl:=Lib.splitB_all a1 hc.2 0 _ a0 rfl;have hle:=Lib.countB_le a1 hc.2 a0.size a0 (Nat.le_refl _)
 refine(Any.strings_Split {Tryz.laysM146 with} (by kernel_rfl) a0 a1 m w hc.1 hm hc.2).mono fun e w' ⟨he,hw⟩=> ?_
 subst hw;refine⟨_,he,?_,(Below.refl _ _).alloc (Nat.le_refl _) _⟩;refine Kd.vC (enc:=Value.string) (h1:=fun _=>rfl) ?_ (fun _ _=>trivial);have ho:=World.ownsRow_lit (base:=w.heap.size) (e:=9) (size:=1) w ((Lib.splitB a1 0 (Lib.countB a0 a1) a0).map Value.string).toArray (Lib.countB a0 a1+1) (Nat.le_refl _) (by simp only[maxLen];omega) (by simp[hl]);rw[←hl]at ho;rw[show(Tryz.nU.t 9)=9 from rfl,←hl]
 simpa [encs]using ho
def lI.f (bo:ByteArray) (ak:Int):Option (ByteArray×Int):=some (bo,ak)
theorem lI.calls (bo:ByteArray) (ak:Int) (r1:ByteArray) (r2:Int) (w:World) (h:lI.f bo ak=some (r1,r2)):
  Calls Tryz.prog 135 #[.agg #[.string bo,.int .i64 ak]] w fun e w'=>e= .returned (.agg #[.string r1,.int .i64 r2])∧Below w.heap.size w w':=by
 have bC:=underlying131;have bI:=underlying75;have HB:=am (Below.refl w.heap.size w);unfold lI.f at h;have H:=h;clear h;simp only[Option.some.injEq,Prod.mk.injEq]at H;obtain⟨rfl,rfl⟩:=H
 go_enter func135,ntmps135
 go_wp2_with (first|((with_reducible refine aj (N:=1) rfl ?_);refine cO 1 #[.string bo,.int .i64 ak] 131 ?_;intro bD hg w2 hbox hb;have b1:=am (hbox);have bE:=cN hg;replace HB:=hB HB hb;clear hb hbox hg)|((with_reducible refine aj (N:=2) rfl ?_);refine cO 2 #[.string (⟨#[]⟩:ByteArray),.int .i64 0] 75 ?_;intro b9 hg w3 hbox hb;have b2:=am (hbox);have bF:=cN hg;have b3:=dm hg b1;have b4:=dn hg b1;replace b1:=aJ b1 hb;replace HB:=hB HB hb;clear hb hbox hg)|((with_reducible refine aj (N:=3) rfl ?_);refine cO 3 #[.string (⟨#[]⟩:ByteArray),.int .i64 0] 75 ?_;intro bG hg w4 hbox hb;have bB:=am (hbox);have bH:=cN hg;have b5:=dm hg b1;have b6:=dn hg b1;have b7:=dm hg b2;have b8:=dn hg b2;replace b1:=aJ b1 hb;replace b2:=aJ b2 hb;replace HB:=hB HB hb;clear hb hbox hg;have bJ:=b3.out;have bK:=b4.out;have bL:=b5.out;have bM:=b6.out;obtain⟨⟨_,_⟩,_,_⟩:=z2 b1;have bN:=b8.out;have bO:=b7.out;obtain⟨⟨_,_⟩,_,_⟩:=z2 bB;obtain⟨⟨_,_⟩,_,_⟩:=z2 b2))
 refine bodyPost_ret (results_cell_row rfl _ _ b9 75 #[.string bo,.int .i64 ak] (0,0) _ rfl (oP b2) underlying75 rfl (by kernel_rfl)) rfl ?_;exact⟨oE,oB⟩

def kZ.f (bo:ByteArray) (ak:ByteArray):Option (ByteArray×ByteArray):=some (bo,ak)
theorem kZ.calls (bo:ByteArray) (ak:ByteArray) (r1:ByteArray) (r2:ByteArray) (w:World) (h:kZ.f bo ak=some (r1,r2)):
  Calls Tryz.prog 136 #[.agg #[.string bo,.string ak]] w fun e w'=>e= .returned (.agg #[.string r1,.string r2])∧Below w.heap.size w w':=by
 have bC:=underlying133;have bI:=underlying82;have HB:=am (Below.refl w.heap.size w);unfold kZ.f at h;have H:=h;clear h;simp only[Option.some.injEq,Prod.mk.injEq]at H;obtain⟨rfl,rfl⟩:=H
 go_enter func136,ntmps136
 go_wp2_with (first|((with_reducible refine aj (N:=1) rfl ?_);refine cO 1 #[.string bo,.string ak] 133 ?_;intro bD hg w2 hbox hb;have b1:=am (hbox);have bE:=cN hg;replace HB:=hB HB hb;clear hb hbox hg)|((with_reducible refine aj (N:=2) rfl ?_);refine cO 2 #[.string (⟨#[]⟩:ByteArray),.string (⟨#[]⟩:ByteArray)] 82 ?_;intro b9 hg w3 hbox hb;have b2:=am (hbox);have bF:=cN hg;have b3:=dm hg b1;have b4:=dn hg b1;replace b1:=aJ b1 hb;replace HB:=hB HB hb;clear hb hbox hg)|((with_reducible refine aj (N:=3) rfl ?_);refine cO 3 #[.string (⟨#[]⟩:ByteArray),.string (⟨#[]⟩:ByteArray)] 82 ?_;intro bG hg w4 hbox hb;have bB:=am (hbox);have bH:=cN hg;have b5:=dm hg b1;have b6:=dn hg b1;have b7:=dm hg b2;have b8:=dn hg b2;replace b1:=aJ b1 hb;replace b2:=aJ b2 hb;replace HB:=hB HB hb;clear hb hbox hg;have bJ:=b3.out;have bK:=b4.out;have bL:=b5.out;have bM:=b6.out;obtain⟨⟨_,_⟩,_,_⟩:=z2 b1;have bN:=b8.out;have bO:=b7.out;obtain⟨⟨_,_⟩,_,_⟩:=z2 bB;obtain⟨⟨_,_⟩,_,_⟩:=z2 b2))
 refine bodyPost_ret (results_cell_row rfl _ _ b9 82 #[.string bo,.string ak] (0,0) _ rfl (oP b2) underlying82 rfl (by kernel_rfl)) rfl ?_;exact⟨oE,oB⟩
-- NOT PRINTED: function 156 (slices_IndexFunc_string_string)
-- NOT PRINTED: function 143 (slices_ContainsFunc_string_string)
-- NOT PRINTED: function 100 (slices_IndexFunc_Inode)
-- NOT PRINTED: function 148 (strings_Join)
-- NOT PRINTED: function 128 (impl_Inode_128)
-- NOT PRINTED: function 164 (slices_Reverse_Inode)
-- NOT PRINTED: function 149 (impl_Inode_149)
-- NOT PRINTED: function 129 (impl_Inode_129)
-- NOT PRINTED: function 103 (slices_IndexFunc_Ent)
-- NOT PRINTED: function 130 (impl_Ent_130)
-- NOT PRINTED: function 165 (slices_Reverse_Ent)
-- NOT PRINTED: function 150 (impl_Ent_150)
-- NOT PRINTED: function 131 (impl_Ent_131)

def aW.l0:Nat→List (eu)→Int→Int→Option (Int)
 |0,_,_,_=>none
 |k+1,x0,x1,x5=>if x5<(x0.length:Int)then(if 0≤x5 then((bg.f k x1).bind fun b1=>(if((aw x0 x5).f0).toList=b1.toList then((bg.f k (wrap64 (x1+1))).bind fun b2=>(if((aw x0 x5).f1).toList=b2.toList then(aW.l0 k x0 (wrap64 ((wrap64 (x1+1))+1)) (wrap64 (x5+1)))else(some (-1))))else(some (-1))))else(none))else(some x1)
def aW.f (k:Nat) (l0:List (eu)) (a1:Int):Option (Int):=aW.l0 k l0 a1 0
def aW.T4:Bool×List (List Nat×List Nat):=(true,[([],[]),([],[]),([0,1],[0,1]),([2],[2]),([3],[3]),([],[]),([5],[5]),([4,6],[4,6])])
def aW.B4:List Nat:=[0,0,3,7,15,0,32,127]
theorem aW.xo:ij .any (opsOf Tryz.f77 4)=aW.T4:=by kernel_rfl
theorem aW.sC:fa aW.T4.2 aW.B4=true:=by kernel_rfl
def aW.T7:Bool×List (List Nat×List Nat):=(true,[([],[]),([],[]),([0,1],[0,1]),([2],[2]),([3],[3]),([],[]),([5],[5]),([4,6],[4,6])])
def aW.B7:List Nat:=[0,0,3,7,15,0,32,127]
theorem aW.rM:ij .any (opsOf Tryz.f77 7)=aW.T7:=by kernel_rfl
theorem aW.oy:fa aW.T7.2 aW.B7=true:=by kernel_rfl
theorem aW.calls (k:Nat) (A0:Option Addr) (c0:Nat) (l0:List (eu)) (a1:Int) (r:Int) (w:World) (hr0:Kd.C jl w A0 l0.length l0) (hc0:l0.length≤c0) (h:aW.f k l0 a1=some r):
  Calls Tryz.prog 77 #[.slice A0 l0.length c0,.int .i64 a1] w fun e w'=>e= .returned (.int .i64 r)∧Below w.heap.size w w':=by
 have bF:=ae.mk hr0;have bW:=ae.mk hc0;clear hr0 hc0;have HB:=am (Below.refl w.heap.size w);unfold aW.f at h;have H:=h;clear h;have H':=ae.mk H;clear H
 go_enter func77,ntmps77
 go_wp2
 go_loopg [1,5] k (fun kq v1 v5 w'=>∃(b7:Int) (b1:Int),v1= .int .i64 b7∧v5= .int .i64 b1∧ae (aW.l0 kq l0 b7 b1=some r)∧ae (kq≤k)∧ae (Below w.heap.size w w'))
 case atStart=>exact⟨(a1),(0),oS,oS,H',⟨Nat.le_refl _⟩,⟨oB⟩⟩
 case round=>
  clear H';obtain⟨b7,b1,rfl,rfl,HA,bL,HB⟩:=hrel
  cases gk with
  |zero=>exact absurd HA.out (by simp[aW.l0])
  |succ k1=>
   have H:=HA.out;clear HA;simp only[aW.l0]at H;replace H:=jm H;rcases H with⟨bM,H⟩|⟨bM,H⟩;rotate_left
   ·obtain rfl:=Option.some.inj H
    go_wp2
    go_ret
    exact⟨oE,oB⟩
   obtain⟨bV,H⟩:=cU H;replace H:=bA H;obtain⟨b8,A5,H⟩:=H
   try dsimp only at H
   by_cases c6:((aw l0 b1).f0).toList=b8.toList
   rotate_left
   ·rw[if_neg c6]at H;have bN:(((aw l0 b1).f0).toList==b8.toList)=false:=beq_eq_false_iff_ne.mpr c6;have bO:(((aw l0 b1).f0).toList !=b8.toList)=true:=bne_iff_ne.mpr c6;obtain rfl:=Option.some.inj H
    try go_wp2
    replace HB:=am (av HB.out);have bJ:(0≤(b1:Int))=True:=oT;have bK:(b1<(l0.length:Int))=True:=oT;obtain⟨b4,bB,b2,b3⟩:=ep bF.out b1 oa oa;have bC:=b3;have bD:=b2
    cases bB
    replace b2:=cB HB b2;replace b3:=cB HB b3;refine np 8 (fun w'=>w'.cell? (b4.add ((b1).toNat*2))=some (.string ((aw l0 b1).f0))∧w'.cell? ⟨(b4.add ((b1).toNat*2)).block,(b4.add ((b1).toNat*2)).off+1,none⟩=some (.string ((aw l0 b1).f1))) aW.xo aW.sC oH (fun hHeld ax eN=> ?_);generalize wr.drew=bX at HB b2 b3 hHeld⊢;refine bz 0 12 ax ?_;refine bz 1 13 ax ?_;refine bz 2 14 ax ?_;refine bz 3 15 ax ?_;refine bz 5 17 ax ?_;refine gj 4 16 ax eN hHeld ?_;refine lg 6 18 ax (fun K hK=> ?_);refine lO 18 func115 (bg.calls k1 b7 b8 _ A5.out) ?_;rintro e bY ⟨rfl,hb⟩;refine⟨_,rfl,?_⟩;replace HB:=hB HB hb;refine eW hK 18 oH (fun hHeld=> ?_);clear hK K;refine bz 7 19 ax ?_;refine mo ax ?_
    try go_wp2
    go_ret
    exact⟨oE,oB⟩
   rw[if_pos c6]at H;have bN:(((aw l0 b1).f0).toList==b8.toList)=true:=beq_iff_eq.mpr c6;have bO:(((aw l0 b1).f0).toList !=b8.toList)=false:=bne_eq_false_iff_eq.mpr c6;clear c6;replace H:=bA H;obtain⟨b9,A7,H⟩:=H
   try dsimp only at H
   by_cases c8:((aw l0 b1).f1).toList=b9.toList
   rotate_left
   ·rw[if_neg c8]at H;have bP:(((aw l0 b1).f1).toList==b9.toList)=false:=beq_eq_false_iff_ne.mpr c8;have bQ:(((aw l0 b1).f1).toList !=b9.toList)=true:=bne_iff_ne.mpr c8;obtain rfl:=Option.some.inj H
    try go_wp2
    replace HB:=am (av HB.out);have bJ:(0≤(b1:Int))=True:=oT;have bK:(b1<(l0.length:Int))=True:=oT;obtain⟨b4,bB,b2,b3⟩:=ep bF.out b1 oa oa;have bC:=b3;have bD:=b2
    cases bB
    replace b2:=cB HB b2;replace b3:=cB HB b3;refine np 8 (fun w'=>w'.cell? (b4.add ((b1).toNat*2))=some (.string ((aw l0 b1).f0))∧w'.cell? ⟨(b4.add ((b1).toNat*2)).block,(b4.add ((b1).toNat*2)).off+1,none⟩=some (.string ((aw l0 b1).f1))) aW.xo aW.sC oH (fun hHeld ax eN=> ?_);generalize wr.drew=bZ at HB b2 b3 hHeld⊢;refine bz 0 12 ax ?_;refine bz 1 13 ax ?_;refine bz 2 14 ax ?_;refine bz 3 15 ax ?_;refine bz 5 17 ax ?_;refine gj 4 16 ax eN hHeld ?_;refine lg 6 18 ax (fun K hK=> ?_);refine lO 18 func115 (bg.calls k1 b7 b8 _ A5.out) ?_;rintro e bT ⟨rfl,hb⟩;refine⟨_,rfl,?_⟩;replace HB:=hB HB hb;refine eW hK 18 oH (fun hHeld=> ?_);clear hK K;refine bz 7 19 ax ?_;refine mo ax ?_
    try go_wp2
    replace HB:=am (av HB.out);have bR:(0≤(b1:Int))=True:=oT;have bS:(b1<(l0.length:Int))=True:=oT;obtain⟨bE,bG,b5,b6⟩:=ep bF.out b1 oa oa;have bH:=b6;have bI:=b5;obtain rfl:b4=bE:=(by injection bG);replace b5:=cB HB b5;replace b6:=cB HB b6;refine np 8 (fun w'=>w'.cell? (b4.add ((b1).toNat*2))=some (.string ((aw l0 b1).f0))∧w'.cell? ⟨(b4.add ((b1).toNat*2)).block,(b4.add ((b1).toNat*2)).off+1,none⟩=some (.string ((aw l0 b1).f1))) aW.rM aW.oy oH (fun hHeld ax eN=> ?_);generalize bT.drew=d1 at HB b5 b6 hHeld⊢;refine bz 0 22 ax ?_;refine bz 1 23 ax ?_;refine bz 2 24 ax ?_;refine bz 3 25 ax ?_;refine bz 5 27 ax ?_;refine gj 4 26 ax eN hHeld ?_;refine lg 6 28 ax (fun K hK=> ?_);refine lO 28 func115 (bg.calls k1 (wrap64 (b7+1)) b9 _ A7.out) ?_;rintro e d2 ⟨rfl,hb⟩;refine⟨_,rfl,?_⟩;replace HB:=hB HB hb;refine eW hK 28 oH (fun hHeld=> ?_);clear hK K;refine bz 7 29 ax ?_;refine mo ax ?_
    try go_wp2
    go_ret
    exact⟨oE,oB⟩
   rw[if_pos c8]at H;have bP:(((aw l0 b1).f1).toList==b9.toList)=true:=beq_iff_eq.mpr c8;have bQ:(((aw l0 b1).f1).toList !=b9.toList)=false:=bne_eq_false_iff_eq.mpr c8;clear c8;have H':=ae.mk H;clear H
   try go_wp2
   replace HB:=am (av HB.out);have bJ:(0≤(b1:Int))=True:=oT;have bK:(b1<(l0.length:Int))=True:=oT;obtain⟨b4,bB,b2,b3⟩:=ep bF.out b1 oa oa;have bC:=b3;have bD:=b2
   cases bB
   replace b2:=cB HB b2;replace b3:=cB HB b3;refine np 8 (fun w'=>w'.cell? (b4.add ((b1).toNat*2))=some (.string ((aw l0 b1).f0))∧w'.cell? ⟨(b4.add ((b1).toNat*2)).block,(b4.add ((b1).toNat*2)).off+1,none⟩=some (.string ((aw l0 b1).f1))) aW.xo aW.sC oH (fun hHeld ax eN=> ?_);generalize wr.drew=w9 at HB b2 b3 hHeld⊢;refine bz 0 12 ax ?_;refine bz 1 13 ax ?_;refine bz 2 14 ax ?_;refine bz 3 15 ax ?_;refine bz 5 17 ax ?_;refine gj 4 16 ax eN hHeld ?_;refine lg 6 18 ax (fun K hK=> ?_);refine lO 18 func115 (bg.calls k1 b7 b8 _ A5.out) ?_;rintro e bU ⟨rfl,hb⟩;refine⟨_,rfl,?_⟩;replace HB:=hB HB hb;refine eW hK 18 oH (fun hHeld=> ?_);clear hK K;refine bz 7 19 ax ?_;refine mo ax ?_
   try go_wp2
   replace HB:=am (av HB.out);have bR:(0≤(b1:Int))=True:=oT;have bS:(b1<(l0.length:Int))=True:=oT;obtain⟨bE,bG,b5,b6⟩:=ep bF.out b1 oa oa;have bH:=b6;have bI:=b5;obtain rfl:b4=bE:=(by injection bG);replace b5:=cB HB b5;replace b6:=cB HB b6;refine np 8 (fun w'=>w'.cell? (b4.add ((b1).toNat*2))=some (.string ((aw l0 b1).f0))∧w'.cell? ⟨(b4.add ((b1).toNat*2)).block,(b4.add ((b1).toNat*2)).off+1,none⟩=some (.string ((aw l0 b1).f1))) aW.rM aW.oy oH (fun hHeld ax eN=> ?_);generalize bU.drew=d3 at HB b5 b6 hHeld⊢;refine bz 0 22 ax ?_;refine bz 1 23 ax ?_;refine bz 2 24 ax ?_;refine bz 3 25 ax ?_;refine bz 5 27 ax ?_;refine gj 4 26 ax eN hHeld ?_;refine lg 6 28 ax (fun K hK=> ?_);refine lO 28 func115 (bg.calls k1 (wrap64 (b7+1)) b9 _ A7.out) ?_;rintro e d4 ⟨rfl,hb⟩;refine⟨_,rfl,?_⟩;replace HB:=hB HB hb;refine eW hK 28 oH (fun hHeld=> ?_);clear hK K;refine bz 7 29 ax ?_;refine mo ax ?_
   try go_wp2
   go_roundg k1
   case measure=>have:=bL.out;omega
   case rel=>exact⟨(wrap64 ((wrap64 (b7+1))+1)),(wrap64 (b1+1)),oS,oS,H',⟨by have:=bL.out;omega⟩,⟨oB⟩⟩

def cM.l0:Nat→List ByteArray→Int→Int→List (aX)→Int→Option (Int×Int)
 |0,_,_,_,_,_=>none
 |k+1,x1,x6,x7,b1,b3=>if x7<(x1.length:Int)then((cH.f k b1 b3 x6).bind fun b2=>(if b2<0 then(some (0,2))else(if 0≤b2 then(if b2<(b1.length:Int)then(if((af b1 b2).f1)=2 then(if 0≤x7 then((et.f k ((af b1 b2).f0) ((af b1 b2).f1) ((af b1 b2).f2) ((af b1 b2).f3) ((af b1 b2).f4) ((af b1 b2).f5) (jb ByteArray.empty x1 x7)).bind fun b4=>(if b4=0 then(some (0,2))else(cM.l0 k x1 b4 (wrap64 (x7+1)) b1 b3)))else(none))else(some (0,3)))else(none))else(none))))else(some (x6,0))
def cM.f (k:Nat) (ag:List (aX)) (ak:Int) (l1:List ByteArray):Option (Int×Int):=cM.l0 k l1 1 0 ag ak
def cM.T10:Bool×List (List Nat×List Nat):=(true,[([],[]),([0],[0]),([],[]),([1,2],[1,2]),([3],[3]),([],[]),([],[]),([5,6],[5,6]),([7],[7]),([4,8],[4,8]),([9,9,0,1,2,3,4,5,6,7,8,9],[9])])
def cM.B10:List Nat:=[0,1,0,7,15,0,0,96,224,511,1023]
theorem cM.acy:ij .any (opsOf Tryz.f118 10)=cM.T10:=by kernel_rfl
theorem cM.aaK:fa cM.T10.2 cM.B10=true:=by kernel_rfl
theorem cM.calls (k:Nat) (bh:Option Addr) (aT:Nat) (ag:List (aX)) (ak:Int) (A1:Option Addr) (c1:Nat) (l1:List ByteArray) (r1:Int) (r2:Int) (w:World) (cj:Kd.C gh w bh ag.length ag) (ck:ag.length≤aT) (hr1:Kd.C Kd.string w A1 l1.length l1) (hc1:l1.length≤c1) (h:cM.f k ag ak l1=some (r1,r2)):
  Calls Tryz.prog 118 #[.agg #[.slice bh ag.length aT,.int .i64 ak],.slice A1 l1.length c1] w fun e w'=>e= .returned (.tuple #[.int .i64 r1,.int .i64 r2])∧Below w.heap.size w w':=by
 have gR:=underlying28;have gS:=underlying58;have bD:=ae.mk cj;have bT:=ae.mk ck;clear cj ck;have gD:=ae.mk hr1;have gU:=ae.mk hc1;clear hr1 hc1;have HB:=am (Below.refl w.heap.size w);unfold cM.f at h;have H:=h;clear h;have H':=ae.mk H;clear H
 go_enter func118,ntmps118
 go_wp2_with (first|((with_reducible refine aj (N:=2) rfl ?_);refine cO 2 #[.slice bh ag.length aT,.int .i64 ak] 28 ?_;intro bP hg w3 hbox hb;have b2:=am (hbox);have gO:=cN hg;replace HB:=hB HB hb;clear hb hbox hg))
 go_loopg [6,7] k (fun kq v6 v7 w'=>∃(bO:Int) (bC:Int),v6= .int .i64 bO∧v7= .int .i64 bC∧ae (cM.l0 kq l1 bO bC ag ak=some (r1,r2))∧ae (kq≤k)∧ae (w'.heap[bP]? =some (.cells #[(.slice bh ag.length aT),.int .i64 ak] 28 (0,0)))∧ae (Below w.heap.size w w'))
 case atStart=>exact⟨(1),(0),oS,oS,H',⟨Nat.le_refl _⟩,⟨oF b2⟩,⟨oB⟩⟩
 case round=>
  clear H'
  try clear c1
  obtain⟨bO,bC,rfl,rfl,HA,gE,b2,HB⟩:=hrel
  cases gk with
  |zero=>exact absurd HA.out (by simp[cM.l0])
  |succ k1=>
   have H:=HA.out;clear HA;simp only[cM.l0]at H;replace H:=jm H;rcases H with⟨gG,H⟩|⟨gG,H⟩;rotate_left
   ·simp only[Option.some.injEq,Prod.mk.injEq]at H;obtain⟨rfl,rfl⟩:=H
    go_wp2
    go_ret2
    exact⟨oE,oB⟩
   replace H:=bA H;obtain⟨b1,A5,H⟩:=H
   try dsimp only at H
   replace H:=jm H;rcases H with⟨gH,H⟩|⟨gH,H⟩
   ·simp only[Option.some.injEq,Prod.mk.injEq]at H;obtain⟨rfl,rfl⟩:=H;obtain⟨⟨_,_⟩,_,_⟩:=z2 b2
    go_wp2_with (first|((with_reducible refine ai (f:=82) rfl ?_);refine ej 17 func82 (cH.calls k1 _ _ ag ak bO b1 _ (kC bD) bT.out A5.out) ?_;rintro e w8 ⟨rfl,hb⟩;refine⟨_,rfl,?_⟩;replace b2:=aJ b2 hb;replace HB:=hB HB hb))
    go_ret2
    exact⟨oE,oB⟩
   obtain⟨gT,H⟩:=cU H;obtain⟨gP,H⟩:=cU H
   by_cases bU:((af ag b1).f1)=2
   rotate_left
   ·rw[if_neg bU]at H;have dZ:(((af ag b1).f1)==2)=false:=beq_eq_false_iff_ne.mpr bU;have gA:(((af ag b1).f1) !=2)=true:=bne_iff_ne.mpr bU;simp only[Option.some.injEq,Prod.mk.injEq]at H;obtain⟨rfl,rfl⟩:=H;obtain⟨⟨_,_⟩,_,_⟩:=z2 b2
    go_wp2_with (first|((with_reducible refine ai (f:=82) rfl ?_);refine ej 17 func82 (cH.calls k1 _ _ ag ak bO b1 _ (kC bD) bT.out A5.out) ?_;rintro e gV ⟨rfl,hb⟩;refine⟨_,rfl,?_⟩;replace b2:=aJ b2 hb;replace HB:=hB HB hb;obtain⟨⟨_,_⟩,_,_⟩:=z2 b2;have dX:(0≤(b1:Int))=True:=oT;have dY:(b1<(ag.length:Int))=True:=oT;obtain⟨b3,dI,dJ,dK,dL,dM,dN,bV,d4,d5,d6,d7,d8,d9,dA,dB,dC,dD,dE,dF⟩:=fN bD HB b1 oa oa;cases bV))
    go_ret2
    exact⟨oE,oB⟩
   rw[if_pos bU]at H;have dZ:(((af ag b1).f1)==2)=true:=beq_iff_eq.mpr bU;have gA:(((af ag b1).f1) !=2)=false:=bne_eq_false_iff_eq.mpr bU;clear bU;obtain⟨gQ,H⟩:=cU H;replace H:=bA H;obtain⟨bN,gF,H⟩:=H
   try dsimp only at H
   by_cases bW:bN=0
   ·rw[if_pos bW]at H;have gB:(bN==0)=true:=beq_iff_eq.mpr bW;have gC:(bN !=0)=false:=bne_eq_false_iff_eq.mpr bW;clear bW;simp only[Option.some.injEq,Prod.mk.injEq]at H;obtain⟨rfl,rfl⟩:=H;obtain⟨⟨_,_⟩,_,_⟩:=z2 b2
    try go_wp2_with (first|((with_reducible refine ai (f:=82) rfl ?_);refine ej 17 func82 (cH.calls k1 _ _ ag ak bO b1 _ (kC bD) bT.out A5.out) ?_;rintro e gM ⟨rfl,hb⟩;refine⟨_,rfl,?_⟩;replace b2:=aJ b2 hb;replace HB:=hB HB hb;obtain⟨⟨_,_⟩,_,_⟩:=z2 b2;have dX:(0≤(b1:Int))=True:=oT;have dY:(b1<(ag.length:Int))=True:=oT;obtain⟨b3,dI,dJ,dK,dL,dM,dN,bV,d4,d5,d6,d7,d8,d9,dA,dB,dC,dD,dE,dF⟩:=fN bD HB b1 oa oa;cases bV))
    replace b2:=am (au b2.out);replace HB:=am (av HB.out);have gI:(0≤(b1:Int))=True:=oT;have gJ:(b1<(ag.length:Int))=True:=oT;obtain⟨dG,bX,bY,bZ,d1,d2,d3,dO,b4,b5,b6,b7,b8,b9,bE,bF,bG,bH,bI,bJ⟩:=gi bD.out b1 oa oa;have dQ:=b9;have dR:=b8;have dS:=b7;have dT:=b6;have dU:=b5;have dV:=b4;obtain rfl:b3=dG:=(by injection dO);replace b4:=cB HB b4;replace b5:=cB HB b5;replace b6:=cB HB b6;replace b7:=cB HB b7;replace b8:=cB HB b8;replace b9:=cB HB b9;have bK:=ae.mk bF;have bQ:=ae.mk bE;clear bF bE;have bL:=ae.mk bH;have bR:=ae.mk bG;clear bH bG;have bM:=ae.mk bJ;have bS:=ae.mk bI;clear bJ bI;have gK:(0≤(bC:Int))=True:=oT;have gL:(bC<(l1.length:Int))=True:=oT;obtain⟨dH,dP,bB⟩:=Kd.fb gD.out bC oa oa;have dW:=bB
    cases dP
    replace bB:=cB HB bB;refine np 11 (fun w'=>w'.cell? ⟨bP,0,none⟩=some (.slice (some b3) ag.length aT)∧w'.cell? ⟨bP,1,none⟩=some (.int .i64 ak)∧w'.cell? (b3.add ((b1).toNat*6))=some (.int .i64 ((af ag b1).f0))∧w'.cell? ⟨(b3.add ((b1).toNat*6)).block,(b3.add ((b1).toNat*6)).off+1,none⟩=some (.int .i64 ((af ag b1).f1))∧w'.cell? ⟨(b3.add ((b1).toNat*6)).block,(b3.add ((b1).toNat*6)).off+2,none⟩=some (.int .i64 ((af ag b1).f2))∧w'.cell? ⟨(b3.add ((b1).toNat*6)).block,(b3.add ((b1).toNat*6)).off+3,none⟩=some (.slice bX ((af ag b1).f3).length bY)∧w'.cell? ⟨(b3.add ((b1).toNat*6)).block,(b3.add ((b1).toNat*6)).off+4,none⟩=some (.slice bZ ((af ag b1).f4).length d1)∧w'.cell? ⟨(b3.add ((b1).toNat*6)).block,(b3.add ((b1).toNat*6)).off+5,none⟩=some (.slice d2 ((af ag b1).f5).length d3)∧w'.cell? (dH.add (bC).toNat)=some (.string (jb ByteArray.empty l1 bC))) cM.acy cM.aaK oH (fun hHeld ax eN=> ?_);generalize gM.drew=gW at b2 HB bK bL bM b4 b5 b6 b7 b8 b9 bB hHeld⊢;refine bz 0 27 ax ?_;refine bz 2 29 ax ?_;refine bz 5 32 ax ?_;refine bz 6 33 ax ?_;refine bz 7 34 ax ?_;refine gj 1 28 ax eN hHeld ?_;refine bz 3 30 ax ?_;refine gj 4 31 ax eN hHeld ?_;refine gj 8 35 ax eN hHeld ?_;refine lg 9 36 ax (fun K hK=> ?_);refine lO 36 func98 (et.calls k1 ((af ag b1).f0) ((af ag b1).f1) ((af ag b1).f2) _ _ ((af ag b1).f3) _ _ ((af ag b1).f4) _ _ ((af ag b1).f5) (jb ByteArray.empty l1 bC) bN _ (kC bK) bQ.out (kC bL) bR.out (kC bM) bS.out gF.out) ?_;rintro e gX ⟨rfl,hb⟩;refine⟨_,rfl,?_⟩;replace b2:=aJ b2 hb;replace HB:=hB HB hb;refine eW hK 36 oH (fun hHeld=> ?_);clear hK K;refine bz 10 6 ax ?_;refine mo ax ?_
    try go_wp2
    go_ret2
    exact⟨oE,oB⟩
   rw[if_neg bW]at H;have gB:(bN==0)=false:=beq_eq_false_iff_ne.mpr bW;have gC:(bN !=0)=true:=bne_iff_ne.mpr bW;have H':=ae.mk H;clear H;obtain⟨⟨_,_⟩,_,_⟩:=z2 b2
   try go_wp2_with (first|((with_reducible refine ai (f:=82) rfl ?_);refine ej 17 func82 (cH.calls k1 _ _ ag ak bO b1 _ (kC bD) bT.out A5.out) ?_;rintro e gN ⟨rfl,hb⟩;refine⟨_,rfl,?_⟩;replace b2:=aJ b2 hb;replace HB:=hB HB hb;obtain⟨⟨_,_⟩,_,_⟩:=z2 b2;have dX:(0≤(b1:Int))=True:=oT;have dY:(b1<(ag.length:Int))=True:=oT;obtain⟨b3,dI,dJ,dK,dL,dM,dN,bV,d4,d5,d6,d7,d8,d9,dA,dB,dC,dD,dE,dF⟩:=fN bD HB b1 oa oa;cases bV))
   replace b2:=am (au b2.out);replace HB:=am (av HB.out);have gI:(0≤(b1:Int))=True:=oT;have gJ:(b1<(ag.length:Int))=True:=oT;obtain⟨dG,bX,bY,bZ,d1,d2,d3,dO,b4,b5,b6,b7,b8,b9,bE,bF,bG,bH,bI,bJ⟩:=gi bD.out b1 oa oa;have dQ:=b9;have dR:=b8;have dS:=b7;have dT:=b6;have dU:=b5;have dV:=b4;obtain rfl:b3=dG:=(by injection dO);replace b4:=cB HB b4;replace b5:=cB HB b5;replace b6:=cB HB b6;replace b7:=cB HB b7;replace b8:=cB HB b8;replace b9:=cB HB b9;have bK:=ae.mk bF;have bQ:=ae.mk bE;clear bF bE;have bL:=ae.mk bH;have bR:=ae.mk bG;clear bH bG;have bM:=ae.mk bJ;have bS:=ae.mk bI;clear bJ bI;have gK:(0≤(bC:Int))=True:=oT;have gL:(bC<(l1.length:Int))=True:=oT;obtain⟨dH,dP,bB⟩:=Kd.fb gD.out bC oa oa;have dW:=bB
   cases dP
   replace bB:=cB HB bB;refine np 11 (fun w'=>w'.cell? ⟨bP,0,none⟩=some (.slice (some b3) ag.length aT)∧w'.cell? ⟨bP,1,none⟩=some (.int .i64 ak)∧w'.cell? (b3.add ((b1).toNat*6))=some (.int .i64 ((af ag b1).f0))∧w'.cell? ⟨(b3.add ((b1).toNat*6)).block,(b3.add ((b1).toNat*6)).off+1,none⟩=some (.int .i64 ((af ag b1).f1))∧w'.cell? ⟨(b3.add ((b1).toNat*6)).block,(b3.add ((b1).toNat*6)).off+2,none⟩=some (.int .i64 ((af ag b1).f2))∧w'.cell? ⟨(b3.add ((b1).toNat*6)).block,(b3.add ((b1).toNat*6)).off+3,none⟩=some (.slice bX ((af ag b1).f3).length bY)∧w'.cell? ⟨(b3.add ((b1).toNat*6)).block,(b3.add ((b1).toNat*6)).off+4,none⟩=some (.slice bZ ((af ag b1).f4).length d1)∧w'.cell? ⟨(b3.add ((b1).toNat*6)).block,(b3.add ((b1).toNat*6)).off+5,none⟩=some (.slice d2 ((af ag b1).f5).length d3)∧w'.cell? (dH.add (bC).toNat)=some (.string (jb ByteArray.empty l1 bC))) cM.acy cM.aaK oH (fun hHeld ax eN=> ?_);generalize gN.drew=gY at b2 HB bK bL bM b4 b5 b6 b7 b8 b9 bB hHeld⊢;refine bz 0 27 ax ?_;refine bz 2 29 ax ?_;refine bz 5 32 ax ?_;refine bz 6 33 ax ?_;refine bz 7 34 ax ?_;refine gj 1 28 ax eN hHeld ?_;refine bz 3 30 ax ?_;refine gj 4 31 ax eN hHeld ?_;refine gj 8 35 ax eN hHeld ?_;refine lg 9 36 ax (fun K hK=> ?_);refine lO 36 func98 (et.calls k1 ((af ag b1).f0) ((af ag b1).f1) ((af ag b1).f2) _ _ ((af ag b1).f3) _ _ ((af ag b1).f4) _ _ ((af ag b1).f5) (jb ByteArray.empty l1 bC) bN _ (kC bK) bQ.out (kC bL) bR.out (kC bM) bS.out gF.out) ?_;rintro e gZ ⟨rfl,hb⟩;refine⟨_,rfl,?_⟩;replace b2:=aJ b2 hb;replace HB:=hB HB hb;refine eW hK 36 oH (fun hHeld=> ?_);clear hK K;refine bz 10 6 ax ?_;refine mo ax ?_
   try go_wp2
   go_roundg k1
   case measure=>have:=gE.out;omega
   case rel=>exact⟨(bN),(wrap64 (bC+1)),oS,oS,H',⟨by have:=gE.out;omega⟩,⟨oF b2⟩,⟨oB⟩⟩

def b_.l0:Nat→List (cA)→Int→Int→Option (Int)
 |0,_,_,_=>none
 |k+1,x0,x1,x5=>if x5<(x0.length:Int)then(if 0≤x5 then((bg.f k x1).bind fun b1=>(if((al x0 x5).f0).toList=b1.toList then(if((al x0 x5).f1)=(wrap64 (x1+1))then(b_.l0 k x0 (wrap64 ((wrap64 (x1+1))+1)) (wrap64 (x5+1)))else(some (-1)))else(some (-1))))else(none))else(some x1)
def b_.f (k:Nat) (l0:List (cA)) (a1:Int):Option (Int):=b_.l0 k l0 a1 0
def b_.T4:Bool×List (List Nat×List Nat):=(true,[([],[]),([],[]),([0,1],[0,1]),([2],[2]),([3],[3]),([],[]),([5],[5]),([4,6],[4,6])])
def b_.B4:List Nat:=[0,0,3,7,15,0,32,127]
theorem b_.xo:ij .any (opsOf Tryz.f76 4)=b_.T4:=by kernel_rfl
theorem b_.sC:fa b_.T4.2 b_.B4=true:=by kernel_rfl
theorem b_.calls (k:Nat) (A0:Option Addr) (c0:Nat) (l0:List (cA)) (a1:Int) (r:Int) (w:World) (hr0:Kd.C fI w A0 l0.length l0) (hc0:l0.length≤c0) (h:b_.f k l0 a1=some r):
  Calls Tryz.prog 76 #[.slice A0 l0.length c0,.int .i64 a1] w fun e w'=>e= .returned (.int .i64 r)∧Below w.heap.size w w':=by
 have bE:=ae.mk hr0;have bR:=ae.mk hc0;clear hr0 hc0;have HB:=am (Below.refl w.heap.size w);unfold b_.f at h;have H:=h;clear h;have H':=ae.mk H;clear H
 go_enter func76,ntmps76
 go_wp2
 go_loopg [1,5] k (fun kq v1 v5 w'=>∃(b5:Int) (b1:Int),v1= .int .i64 b5∧v5= .int .i64 b1∧ae (b_.l0 kq l0 b5 b1=some r)∧ae (kq≤k)∧ae (Below w.heap.size w w'))
 case atStart=>exact⟨(a1),(0),oS,oS,H',⟨Nat.le_refl _⟩,⟨oB⟩⟩
 case round=>
  clear H';obtain⟨b5,b1,rfl,rfl,HA,bI,HB⟩:=hrel
  cases gk with
  |zero=>exact absurd HA.out (by simp[b_.l0])
  |succ k1=>
   have H:=HA.out;clear HA;simp only[b_.l0]at H;replace H:=jm H;rcases H with⟨bJ,H⟩|⟨bJ,H⟩;rotate_left
   ·obtain rfl:=Option.some.inj H
    go_wp2
    go_ret
    exact⟨oE,oB⟩
   obtain⟨bQ,H⟩:=cU H;replace H:=bA H;obtain⟨b8,A5,H⟩:=H
   try dsimp only at H
   by_cases c6:((al l0 b1).f0).toList=b8.toList
   rotate_left
   ·rw[if_neg c6]at H;have bK:(((al l0 b1).f0).toList==b8.toList)=false:=beq_eq_false_iff_ne.mpr c6;have bL:(((al l0 b1).f0).toList !=b8.toList)=true:=bne_iff_ne.mpr c6;obtain rfl:=Option.some.inj H
    try go_wp2
    replace HB:=am (av HB.out);have bG:(0≤(b1:Int))=True:=oT;have bH:(b1<(l0.length:Int))=True:=oT;obtain⟨b4,b9,b2,b3⟩:=cV bE.out b1 oa oa;have bB:=b3;have bC:=b2
    cases b9
    replace b2:=cB HB b2;replace b3:=cB HB b3;refine np 8 (fun w'=>w'.cell? (b4.add ((b1).toNat*2))=some (.string ((al l0 b1).f0))∧w'.cell? ⟨(b4.add ((b1).toNat*2)).block,(b4.add ((b1).toNat*2)).off+1,none⟩=some (.int .i64 ((al l0 b1).f1))) b_.xo b_.sC oH (fun hHeld ax eN=> ?_);generalize wr.drew=bS at HB b2 b3 hHeld⊢;refine bz 0 12 ax ?_;refine bz 1 13 ax ?_;refine bz 2 14 ax ?_;refine bz 3 15 ax ?_;refine bz 5 17 ax ?_;refine gj 4 16 ax eN hHeld ?_;refine lg 6 18 ax (fun K hK=> ?_);refine lO 18 func115 (bg.calls k1 b5 b8 _ A5.out) ?_;rintro e bT ⟨rfl,hb⟩;refine⟨_,rfl,?_⟩;replace HB:=hB HB hb;refine eW hK 18 oH (fun hHeld=> ?_);clear hK K;refine bz 7 19 ax ?_;refine mo ax ?_
    try go_wp2
    go_ret
    exact⟨oE,oB⟩
   rw[if_pos c6]at H;have bK:(((al l0 b1).f0).toList==b8.toList)=true:=beq_iff_eq.mpr c6;have bL:(((al l0 b1).f0).toList !=b8.toList)=false:=bne_eq_false_iff_eq.mpr c6;clear c6
   by_cases c7:((al l0 b1).f1)=(wrap64 (b5+1))
   rotate_left
   ·rw[if_neg c7]at H;have bM:(((al l0 b1).f1)==(wrap64 (b5+1)))=false:=beq_eq_false_iff_ne.mpr c7;have bN:(((al l0 b1).f1) !=(wrap64 (b5+1)))=true:=bne_iff_ne.mpr c7;obtain rfl:=Option.some.inj H
    try go_wp2
    replace HB:=am (av HB.out);have bG:(0≤(b1:Int))=True:=oT;have bH:(b1<(l0.length:Int))=True:=oT;obtain⟨b4,b9,b2,b3⟩:=cV bE.out b1 oa oa;have bB:=b3;have bC:=b2
    cases b9
    replace b2:=cB HB b2;replace b3:=cB HB b3;refine np 8 (fun w'=>w'.cell? (b4.add ((b1).toNat*2))=some (.string ((al l0 b1).f0))∧w'.cell? ⟨(b4.add ((b1).toNat*2)).block,(b4.add ((b1).toNat*2)).off+1,none⟩=some (.int .i64 ((al l0 b1).f1))) b_.xo b_.sC oH (fun hHeld ax eN=> ?_);generalize wr.drew=bU at HB b2 b3 hHeld⊢;refine bz 0 12 ax ?_;refine bz 1 13 ax ?_;refine bz 2 14 ax ?_;refine bz 3 15 ax ?_;refine bz 5 17 ax ?_;refine gj 4 16 ax eN hHeld ?_;refine lg 6 18 ax (fun K hK=> ?_);refine lO 18 func115 (bg.calls k1 b5 b8 _ A5.out) ?_;rintro e bV ⟨rfl,hb⟩;refine⟨_,rfl,?_⟩;replace HB:=hB HB hb;refine eW hK 18 oH (fun hHeld=> ?_);clear hK K;refine bz 7 19 ax ?_;refine mo ax ?_;have bO:(0≤(b1:Int))=True:=oT;have bP:(b1<(l0.length:Int))=True:=oT;obtain⟨bD,bF,b6,b7⟩:=cV bE.out b1 oa oa;obtain rfl:b4=bD:=(by injection bF);replace b6:=cB HB b6;replace b7:=cB HB b7
    try go_wp2
    go_ret
    exact⟨oE,oB⟩
   rw[if_pos c7]at H;have bM:(((al l0 b1).f1)==(wrap64 (b5+1)))=true:=beq_iff_eq.mpr c7;have bN:(((al l0 b1).f1) !=(wrap64 (b5+1)))=false:=bne_eq_false_iff_eq.mpr c7;clear c7;have H':=ae.mk H;clear H
   try go_wp2
   replace HB:=am (av HB.out);have bG:(0≤(b1:Int))=True:=oT;have bH:(b1<(l0.length:Int))=True:=oT;obtain⟨b4,b9,b2,b3⟩:=cV bE.out b1 oa oa;have bB:=b3;have bC:=b2
   cases b9
   replace b2:=cB HB b2;replace b3:=cB HB b3;refine np 8 (fun w'=>w'.cell? (b4.add ((b1).toNat*2))=some (.string ((al l0 b1).f0))∧w'.cell? ⟨(b4.add ((b1).toNat*2)).block,(b4.add ((b1).toNat*2)).off+1,none⟩=some (.int .i64 ((al l0 b1).f1))) b_.xo b_.sC oH (fun hHeld ax eN=> ?_);generalize wr.drew=w8 at HB b2 b3 hHeld⊢;refine bz 0 12 ax ?_;refine bz 1 13 ax ?_;refine bz 2 14 ax ?_;refine bz 3 15 ax ?_;refine bz 5 17 ax ?_;refine gj 4 16 ax eN hHeld ?_;refine lg 6 18 ax (fun K hK=> ?_);refine lO 18 func115 (bg.calls k1 b5 b8 _ A5.out) ?_;rintro e w9 ⟨rfl,hb⟩;refine⟨_,rfl,?_⟩;replace HB:=hB HB hb;refine eW hK 18 oH (fun hHeld=> ?_);clear hK K;refine bz 7 19 ax ?_;refine mo ax ?_;have bO:(0≤(b1:Int))=True:=oT;have bP:(b1<(l0.length:Int))=True:=oT;obtain⟨bD,bF,b6,b7⟩:=cV bE.out b1 oa oa;obtain rfl:b4=bD:=(by injection bF);replace b6:=cB HB b6;replace b7:=cB HB b7
   try go_wp2
   go_roundg k1
   case measure=>have:=bI.out;omega
   case rel=>exact⟨(wrap64 ((wrap64 (b5+1))+1)),(wrap64 (b1+1)),oS,oS,H',⟨by have:=bI.out;omega⟩,⟨oB⟩⟩

def cF.l0:Nat→List (cA)→List (cA)→Int→Option (Bool)
 |0,_,_,_=>none
 |k+1,x0,x1,x5=>if x5<(x0.length:Int)then(if 0≤x5 then(if x5<(x1.length:Int)then((kW.f ((al x0 x5).f0) ((al x0 x5).f1) ((al x1 x5).f0) ((al x1 x5).f1)).bind fun b1=>(if b1=true then(cF.l0 k x0 x1 (wrap64 (x5+1)))else(some false)))else(none))else(none))else(some true)
def cF.f (k:Nat) (l0:List (cA)) (l1:List (cA)):Option (Bool):=if(l0.length:Int)=(l1.length:Int)then(cF.l0 k l0 l1 0)else(some false)
def cF.T6:Bool×List (List Nat×List Nat):=(true,[([],[]),([],[]),([0,1],[0,1]),([2],[2]),([],[]),([],[]),([4,5],[4,5]),([6],[6]),([3,7],[3,7]),([8],[8])])
def cF.B6:List Nat:=[0,0,3,7,0,0,48,112,255,511]
theorem cF.tab6:ij .any (opsOf Tryz.f113 6)=cF.T6:=by kernel_rfl
theorem cF.nv:fa cF.T6.2 cF.B6=true:=by kernel_rfl
theorem cF.calls (k:Nat) (A0:Option Addr) (c0:Nat) (l0:List (cA)) (A1:Option Addr) (c1:Nat) (l1:List (cA)) (r:Bool) (w:World) (hr0:Kd.C fI w A0 l0.length l0) (hc0:l0.length≤c0) (hr1:Kd.C fI w A1 l1.length l1) (hc1:l1.length≤c1) (h:cF.f k l0 l1=some r):
  Calls Tryz.prog 113 #[.slice A0 l0.length c0,.slice A1 l1.length c1] w fun e w'=>e= .returned (.bool r)∧Below w.heap.size w w':=by
 have bQ:=underlying75;have bF:=ae.mk hr0;have bU:=ae.mk hc0;clear hr0 hc0;have bG:=ae.mk hr1;have bV:=ae.mk hc1;clear hr1 hc1;have HB:=am (Below.refl w.heap.size w);unfold cF.f at h;have H:=h;clear h
 by_cases c3:(l0.length:Int)=(l1.length:Int)
 rotate_left
 ·rw[if_neg c3]at H;have bI:((l0.length:Int)==(l1.length:Int))=false:=beq_eq_false_iff_ne.mpr c3;have bJ:((l0.length:Int) !=(l1.length:Int))=true:=bne_iff_ne.mpr c3
  have bK:(l0.length==l1.length)=false:=by first|simpa using c3|(simp at c3⊢;omega)
  obtain rfl:=Option.some.inj H
  go_enter func113,ntmps113
  go_wp2
  go_ret
  exact⟨oE,oB⟩
 rw[if_pos c3]at H;have bI:((l0.length:Int)==(l1.length:Int))=true:=beq_iff_eq.mpr c3;have bJ:((l0.length:Int) !=(l1.length:Int))=false:=bne_eq_false_iff_eq.mpr c3
 have bK:(l0.length==l1.length)=true:=by first|simpa using c3|(simp at c3⊢;omega)
 clear c3;have H':=ae.mk H;clear H
 go_enter func113,ntmps113
 go_wp2
 go_loopg [5] k (fun kq v5 w'=>∃(b1:Int),v5= .int .i64 b1∧ae (cF.l0 kq l0 l1 b1=some r)∧ae (kq≤k)∧ae (Below w.heap.size w w'))
 case atStart=>exact⟨(0),oS,H',⟨Nat.le_refl _⟩,⟨oB⟩⟩
 case round=>
  clear H'
  try clear c1
  try clear c3
  obtain⟨b1,rfl,HA,bH,HB⟩:=hrel
  cases gk with
  |zero=>exact absurd HA.out (by simp[cF.l0])
  |succ k1=>
   have H:=HA.out;clear HA;simp only[cF.l0]at H;replace H:=jm H;rcases H with⟨bL,H⟩|⟨bL,H⟩;rotate_left
   ·obtain rfl:=Option.some.inj H
    go_wp2
    go_ret
    exact⟨oE,oB⟩
   obtain⟨bR,H⟩:=cU H;obtain⟨bS,H⟩:=cU H;replace H:=bA H;obtain⟨bT,A7,H⟩:=H
   try dsimp only at H
   replace H:=lr H;rcases H with⟨rfl,H⟩|⟨rfl,H⟩;rotate_left
   ·obtain rfl:=Option.some.inj H
    try go_wp2
    replace HB:=am (av HB.out);have bM:(0≤(b1:Int))=True:=oT;have bN:(b1<(l0.length:Int))=True:=oT;obtain⟨b6,b8,b2,b3⟩:=cV bF.out b1 oa oa;have bB:=b3;have bC:=b2
    cases b8
    replace b2:=cB HB b2;replace b3:=cB HB b3;have bO:(0≤(b1:Int))=True:=oT;have bP:(b1<(l1.length:Int))=True:=oT;obtain⟨b7,b9,b4,b5⟩:=cV bG.out b1 oa oa;have bD:=b5;have bE:=b4
    cases b9
    replace b4:=cB HB b4;replace b5:=cB HB b5;refine np 10 (fun w'=>w'.cell? (b6.add ((b1).toNat*2))=some (.string ((al l0 b1).f0))∧w'.cell? ⟨(b6.add ((b1).toNat*2)).block,(b6.add ((b1).toNat*2)).off+1,none⟩=some (.int .i64 ((al l0 b1).f1))∧w'.cell? (b7.add ((b1).toNat*2))=some (.string ((al l1 b1).f0))∧w'.cell? ⟨(b7.add ((b1).toNat*2)).block,(b7.add ((b1).toNat*2)).off+1,none⟩=some (.int .i64 ((al l1 b1).f1))) cF.tab6 cF.nv oH (fun hHeld ax eN=> ?_);generalize wr.drew=bW at HB b2 b3 b4 b5 hHeld⊢;refine bz 0 17 ax ?_;refine bz 1 18 ax ?_;refine bz 2 19 ax ?_;refine bz 4 21 ax ?_;refine bz 5 22 ax ?_;refine bz 6 23 ax ?_;refine gj 3 20 ax eN hHeld ?_;refine gj 7 24 ax eN hHeld ?_;refine lg 8 25 ax (fun K hK=> ?_);refine lO 25 func137 (kW.calls ((al l0 b1).f0) ((al l0 b1).f1) ((al l1 b1).f0) ((al l1 b1).f1) false _ A7.out) ?_;rintro e bX ⟨rfl,hb⟩;refine⟨_,rfl,?_⟩;replace HB:=hB HB hb;refine eW hK 25 oH (fun hHeld=> ?_);clear hK K;refine bz 9 26 ax ?_;refine mo ax ?_
    try go_wp2
    go_ret
    exact⟨oE,oB⟩
   have H':=ae.mk H;clear H
   try go_wp2
   replace HB:=am (av HB.out);have bM:(0≤(b1:Int))=True:=oT;have bN:(b1<(l0.length:Int))=True:=oT;obtain⟨b6,b8,b2,b3⟩:=cV bF.out b1 oa oa;have bB:=b3;have bC:=b2
   cases b8
   replace b2:=cB HB b2;replace b3:=cB HB b3;have bO:(0≤(b1:Int))=True:=oT;have bP:(b1<(l1.length:Int))=True:=oT;obtain⟨b7,b9,b4,b5⟩:=cV bG.out b1 oa oa;have bD:=b5;have bE:=b4
   cases b9
   replace b4:=cB HB b4;replace b5:=cB HB b5;refine np 10 (fun w'=>w'.cell? (b6.add ((b1).toNat*2))=some (.string ((al l0 b1).f0))∧w'.cell? ⟨(b6.add ((b1).toNat*2)).block,(b6.add ((b1).toNat*2)).off+1,none⟩=some (.int .i64 ((al l0 b1).f1))∧w'.cell? (b7.add ((b1).toNat*2))=some (.string ((al l1 b1).f0))∧w'.cell? ⟨(b7.add ((b1).toNat*2)).block,(b7.add ((b1).toNat*2)).off+1,none⟩=some (.int .i64 ((al l1 b1).f1))) cF.tab6 cF.nv oH (fun hHeld ax eN=> ?_);generalize wr.drew=w9 at HB b2 b3 b4 b5 hHeld⊢;refine bz 0 17 ax ?_;refine bz 1 18 ax ?_;refine bz 2 19 ax ?_;refine bz 4 21 ax ?_;refine bz 5 22 ax ?_;refine bz 6 23 ax ?_;refine gj 3 20 ax eN hHeld ?_;refine gj 7 24 ax eN hHeld ?_;refine lg 8 25 ax (fun K hK=> ?_);refine lO 25 func137 (kW.calls ((al l0 b1).f0) ((al l0 b1).f1) ((al l1 b1).f0) ((al l1 b1).f1) true _ A7.out) ?_;rintro e bY ⟨rfl,hb⟩;refine⟨_,rfl,?_⟩;replace HB:=hB HB hb;refine eW hK 25 oH (fun hHeld=> ?_);clear hK K;refine bz 9 26 ax ?_;refine mo ax ?_
   try go_wp2
   go_roundg k1
   case measure=>have:=bH.out;omega
   case rel=>exact⟨(wrap64 (b1+1)),oS,H',⟨by have:=bH.out;omega⟩,⟨oB⟩⟩
end Go.Proofs.YtlecajlnjmbilaaGreatDoor.P
