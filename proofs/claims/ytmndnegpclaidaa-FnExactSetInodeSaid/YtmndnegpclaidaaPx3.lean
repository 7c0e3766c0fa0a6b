-- By this session's own program (wip/myprint.py) out of the translation; Lean checks it.
import Derived.Test.YtmndnegpclaidaaPx0
import Derived.Test.YtmndnegpclaidaaPx2
namespace Go.Proofs.Ytmndnegpclaidaa.P
open Go.RowKit Go.Proofs.YtmndnegpclaidaaW.PrintWords Go.Proofs.YtmndnegpclaidaaW.PrintLast Go.Proofs.YtmndnegpclaidaaW.PrintMore
attribute [local go_sem] max2_int min2_int max_two min_two max_three min_three max_four min_four   -- for this text's walks alone
set_option linter.unusedVariables false
set_option linter.unusedSimpArgs false

/-! ### laws_toAttr: function 76 -/
def laws_toAttr.f (a0_0 : ByteArray) (a0_1 : ByteArray) : Option (ByteArray × ByteArray) := some (a0_0, a0_1)
set_option maxHeartbeats 8000000 in
set_option maxRecDepth 100000 in
theorem laws_toAttr.calls (a0_0 : ByteArray) (a0_1 : ByteArray) (r1 : ByteArray) (r2 : ByteArray) (w : World) (h : laws_toAttr.f a0_0 a0_1 = some (r1, r2)) :
  Calls Try.prog 76 #[.agg #[.string a0_0, .string a0_1]] w fun e w' => e = .returned (.agg #[.string r1, .string r2]) ∧ Below w.heap.size w w' := by
 have hu95 := Try.underlying95
 have hu90 := Try.underlying90
 have HB := Aside0.mk (Below.refl w.heap.size w)
 unfold laws_toAttr.f at h
 have H := h
 clear h
 simp only [Option.some.injEq, Prod.mk.injEq] at H
 obtain ⟨rfl, rfl⟩ := H
 go_enter Try.func76, Try.ntmps76
 go_wp2_with (first | ((with_reducible refine gate_dst (N := 1) rfl ?_); refine bx_ 1 #[.string a0_0, .string a0_1] 95 ?_; intro gb263 hg w2 hbox hb; have BK263 := Aside0.mk (hbox); have GW263 := gs_ hg; have GE263 := gs_ hg; replace HB := Aside0.mk (below_step oB hb); clear hb hbox hg) | ((with_reducible refine gate_dst (N := 2) rfl ?_); refine bx_ 2 #[.string (⟨#[]⟩ : ByteArray), .string (⟨#[]⟩ : ByteArray)] 90 ?_; intro gb264 hg w3 hbox hb; have BK264 := Aside0.mk (hbox); have GW264 := gs_ hg; have GE264 := gs_ hg; have NB263_264 := nl_ hg BK263; have NB264_263 := nr_ hg BK263; replace BK263 := kb_ BK263 hb; replace HB := Aside0.mk (below_step oB hb); clear hb hbox hg) | ((with_reducible refine gate_dst (N := 3) rfl ?_); refine bx_ 3 #[.string (⟨#[]⟩ : ByteArray), .string (⟨#[]⟩ : ByteArray)] 90 ?_; intro gb265 hg w4 hbox hb; have BK265 := Aside0.mk (hbox); have GW265 := gs_ hg; have GE265 := gs_ hg; have NB263_265 := nl_ hg BK263; have NB265_263 := nr_ hg BK263; have NB264_265 := nl_ hg BK264; have NB265_264 := nr_ hg BK264; replace BK263 := kb_ BK263 hb; replace BK264 := kb_ BK264 hb; replace HB := Aside0.mk (below_step oB hb); clear hb hbox hg; have hnb5 := NB263_264.out; have hnc5 := NB264_263.out; have hnb6 := NB263_265.out; have hnc6 := NB265_263.out; obtain ⟨⟨_, _⟩, _, _⟩ := z2 BK263; have hnb8 := NB265_264.out; have hnc8 := NB264_265.out; obtain ⟨⟨_, _⟩, _, _⟩ := z2 BK265; obtain ⟨⟨_, _⟩, _, _⟩ := z2 BK264))
 refine bodyPost_ret (results_cell_row rfl _ _ gb264 90 #[.string a0_0, .string a0_1] (0, 0) _ rfl (by (with_reducible repeat (first | refine blk_drewN ?_ _ | refine blk_drew ?_ | refine blk_alloc ?_ _)); refine blk_put (cs := #[.string a0_0, .string (⟨#[]⟩ : ByteArray)]) ?_ 1 _ rfl; (with_reducible repeat (first | refine blk_drewN ?_ _ | refine blk_drew ?_ | refine blk_alloc ?_ _)); refine blk_put (cs := #[.string (⟨#[]⟩ : ByteArray), .string (⟨#[]⟩ : ByteArray)]) ?_ 0 _ rfl; (with_reducible repeat (first | refine blk_drewN ?_ _ | refine blk_drew ?_ | refine blk_alloc ?_ _)); refine blk_far ?_ NB264_265.out _; (with_reducible repeat (first | refine blk_drewN ?_ _ | refine blk_drew ?_ | refine blk_alloc ?_ _)); refine blk_far ?_ NB264_265.out _; (with_reducible repeat (first | refine blk_drewN ?_ _ | refine blk_drew ?_ | refine blk_alloc ?_ _)); exact BK264.out) Try.underlying90 rfl (by kernel_rfl)) rfl ?_
 exact ⟨oE, oB⟩

/-! ### laws_toAttrS: function 41 -/
def laws_toAttrS.l0 : Nat → List (S95) → List (S90) → Int → Option ((List (S90)))
 | 0, _, _, _ => none
 | k + 1, x0, x3, x4 => if x4 < (x0.length : Int) then (if 0 ≤ x4 then ((laws_toAttr.f ((rd_T95 x0 x4).f0) ((rd_T95 x0 x4).f1)).bind fun bt270 => (if x4 < (x3.length : Int) then (laws_toAttrS.l0 k x0 (x3.set (x4 : Int).toNat (⟨bt270.1, bt270.2⟩ : S90)) (wrap64 (x4 + 1))) else (none))) else (none)) else (some x3)
def laws_toAttrS.f (k : Nat) (l0 : List (S95)) : Option ((List (S90))) := if 0 ≤ (l0.length : Int) then (if ((l0.length : Int) : Int).toNat ≤ 8796093022208 then (laws_toAttrS.l0 k l0 (List.replicate ((l0.length : Int) : Int).toNat z90) 0) else (none)) else (none)
set_option maxHeartbeats 8000000 in
set_option maxRecDepth 100000 in
theorem laws_toAttrS.calls (k : Nat) (A0 : Option Addr) (c0 : Nat) (l0 : List (S95)) (r : List (S90)) (w : World) (hr0 : Kd.C k95 w A0 l0.length l0) (hc0 : l0.length ≤ c0) (h : laws_toAttrS.f k l0 = some r) :
  Calls Try.prog 41 #[.slice A0 l0.length c0] w fun e w' => ∃ v0_ : Value, e = .returned (v0_) ∧ Kd.R k90 90 w' w.heap.size (fun _ => True) v0_ r ∧ Below w.heap.size w w' := by
 have hu95 := Try.underlying95
 have hu90 := Try.underlying90
 have HR0 := Aside0.mk hr0
 have HC0 := Aside0.mk hc0
 clear hr0 hc0
 have HB := Aside0.mk (Below.refl w.heap.size w)
 unfold laws_toAttrS.f at h
 have H := h
 clear h
 by_cases c2 : 0 ≤ (l0.length : Int)
 ·rw [if_pos c2] at H
  have c2b0 := eq_true c2
  have c2b1 : decide (0 ≤ (l0.length : Int)) = true := decide_eq_true c2
  clear c2
  by_cases c3 : ((l0.length : Int) : Int).toNat ≤ 8796093022208
  ·rw [if_pos c3] at H
   have c3b0 := eq_true c3
   have c3b1 : decide (((l0.length : Int) : Int).toNat ≤ 8796093022208) = true := decide_eq_true c3
   clear c3
   obtain ⟨y266, hy266⟩ : ∃ y_ : List (S90), y_ = (List.replicate ((l0.length : Int) : Int).toNat z90) := ⟨_, rfl⟩
   replace H : (laws_toAttrS.l0 k l0 y266 0) = some r := by first | (rw [hy266]; with_reducible exact H) | (have H2_ := (Option.bind_some _ _).symm.trans H; rw [hy266]; with_reducible exact H2_) | (have H2_ := (Option.bind_some _ _).symm.trans H; with_reducible exact H2_) | with_reducible exact H | (rw [hy266]; exact H) | exact H
   have Ny266 := Aside0.mk hy266
   clear hy266
   have H' := Aside0.mk H
   clear H
   go_enter Try.func41, Try.ntmps41
   go_wp2_with (first | ((with_reducible refine gate_dst (N := 7) rfl ?_); refine Kd.R_make k90 _ 90 rfl (N := 7) rfl 38 _ _ rfl (l0.length : Int) rfl rfl Try.underlying38 (.agg #[(.string ⟨#[]⟩), (.string ⟨#[]⟩)]) 32 info90 rfl (by decide) (by omega) z90 (ok := fun _ => True) (okp := fun _ => True) (k90_mkM _ _ _ z90 ) (fun _ hk => hk) trivial oa (Nat.le_trans (Nat.mul_le_mul_right _ (oa : (l0.length : Int).toNat ≤ 8796093022208)) (by omega)) (Below.refl _ _) (Nat.le_refl _) ?_; intro v267 w4 ho5 hb hg_ hnew_; clear hg_ hnew_; (first | rw [← Ny266.out] at ho5 | (simp only [Int.reduceToNat] at ho5; rw [← Ny266.out] at ho5)); have HO268 := Aside0.mk (Kd.R_lower ho5 (below_size oB)); replace HB := Aside0.mk (below_step oB hb); clear hb ho5))
   go_loopg [4] k (fun kq v4 w' => ∃ (x3_1 : List (S90)) (x4_1 : Int), v4 = .int .i64 x4_1 ∧ Aside0 (laws_toAttrS.l0 kq l0 x3_1 x4_1 = some r) ∧ Aside0 (kq ≤ k) ∧ Aside0 (Kd.R k90 90 w' w.heap.size (fun _ => True) v267 x3_1) ∧ Aside0 (Below w.heap.size w w'))
   case atStart => exact ⟨(y266), (0), oS, H', ⟨Nat.le_refl _⟩, ⟨oR HO268⟩, ⟨oB⟩⟩
   case round =>
    clear H'
    try clear c2
    try clear c2b0
    try clear c2b1
    try clear c3
    obtain ⟨x3_1, x4_1, rfl, HA, HK1, HO_3, HB⟩ := hrel
    cases gk with
    | zero => exact absurd HA.out (by simp [laws_toAttrS.l0])
    | succ k1 =>
     have H := HA.out
     clear HA
     simp only [laws_toAttrS.l0] at H
     replace H := itD H
     rcases H with ⟨c6b0, H⟩ | ⟨c6b0, H⟩
     ·replace H := itD H
      rcases H with ⟨c7b0, H⟩ | ⟨c7b0, H⟩
      ·replace H := bA H
       obtain ⟨⟨t270, t271⟩, A8, H⟩ := H
       try dsimp only at H
       replace H := itD H
       rcases H with ⟨c9b0, H⟩ | ⟨c9b0, H⟩
       ·obtain ⟨y272, hy272⟩ : ∃ y_ : List (S90), y_ = (x3_1.set (x4_1 : Int).toNat (⟨t270, t271⟩ : S90)) := ⟨_, rfl⟩
        replace H : (laws_toAttrS.l0 k1 l0 y272 (wrap64 (x4_1 + 1))) = some r := by first | (rw [hy272]; with_reducible exact H) | (have H2_ := (Option.bind_some _ _).symm.trans H; rw [hy272]; with_reducible exact H2_) | (have H2_ := (Option.bind_some _ _).symm.trans H; with_reducible exact H2_) | with_reducible exact H | (rw [hy272]; exact H) | exact H
        have Ny272 := Aside0.mk hy272
        clear hy272
        have H' := Aside0.mk H
        clear H
        have p269 : (0 ≤ (x4_1 : Int)) = True := oT
        have q269 : (x4_1 < (l0.length : Int)) = True := oT
        obtain ⟨ad269, e269, hx269_0, hx269_1⟩ := at_T95 HR0.out x4_1 oa oa
        cases e269
        replace hx269_0 := cB HB hx269_0
        replace hx269_1 := cB HB hx269_1
        go_wp2_with (first | ((with_reducible refine gate_callee (f := 76) rfl ?_); refine gl_ 20 Try.func76 (laws_toAttr.calls ((rd_T95 l0 x4_1).f0) ((rd_T95 l0 x4_1).f1) t270 t271 _ A8.out) ?_; rintro e w11 ⟨rfl, hb⟩; refine ⟨_, rfl, ?_⟩; replace HO_3 := kr_ HO_3 hb; replace HB := Aside0.mk (below_step oB hb); (try clear hk); have p10 : 0 ≤ (x4_1 : Int) := oa; have q10 : (x4_1 : Int) < ((x3_1.length : Int) : Int) := oa; obtain ⟨go10, co10, eo10, gb10, gl10, cl10, HG10⟩ := Kd.R_form HO_3.out (by omega); (first | cases eo10 | (injection eo10 with ea_ en_ ec_; (first | subst ea_ | (injection ea_ with ea_; subst ea_)); subst ec_; clear en_)); have GB10 := Aside0.mk gb10; have GG10 := Aside0.mk HG10; clear gb10 gl10 HG10; obtain ⟨ce10, hcl10, hM10, hcc10, hfr10⟩ := Kd.R_elem HO_3.out z90 (x4_1 : Int) p10 q10; obtain rfl := k90_openM hM10; have hx10_0 : w11.cell? ⟨go10, (x4_1 : Int).toNat * 2, none⟩ = some (.string ((rd_T90 x3_1 x4_1).f0)) := hcc10 0 _ rfl; have hx10_1 : w11.cell? ⟨go10, (x4_1 : Int).toNat * 2 + 1, none⟩ = some (.string ((rd_T90 x3_1 x4_1).f1)) := hcc10 1 _ rfl; have hf10_0 : w11.frozen? ⟨go10, (x4_1 : Int).toNat * 2, none⟩ = false := hfr10 0; have hf10_1 : w11.frozen? ⟨go10, (x4_1 : Int).toNat * 2 + 1, none⟩ = false := hfr10 1; clear hcl10 hcc10 hfr10 hM10; replace p10 := eq_true p10; replace q10 := eq_true q10; have HX12 := Aside0.mk (show Kd.R k90 90 w11 w.heap.size (fun _ => True) (.slice (some ⟨go10, 0, none⟩) x3_1.length co10) x3_1 from (oR HO_3)); obtain ⟨ce12, hcl12, hM12, hcc12, hfr12⟩ := Kd.R_elem HX12.out z90 (x4_1 : Int) oa (by have h_ : (x4_1 : Int) < ((x3_1.length : Int) : Int) := oa; first | exact h_ | (have e_ := (Kd.R_reads' HO_3.out).1; omega) | simpa using h_); obtain rfl := k90_openM hM12; have HP12 := Kd.R_seg HX12.out (x4_1 : Int) oa (by have h_ : (x4_1 : Int) < ((x3_1.length : Int) : Int) := oa; first | exact h_ | (have e_ := (Kd.R_reads' HO_3.out).1; omega) | simpa using h_) (seg := [.string t270, .string t271]) (j := 0) hcl12 hcc12 (show 2 ≤ 2 from by decide) (x' := (⟨t270, t271⟩ : S90)) (k90_mkM _ _ _ (⟨t270, t271⟩ : S90) ) (fun _ hk => hk); have hx12_0 := hcc12 0 _ rfl; (try simp only [show (k90).sz = 2 from rfl, Nat.mul_one, Nat.add_zero] at hx12_0); have hf12_0 := hfr12 0; (try simp only [show (k90).sz = 2 from rfl, Nat.mul_one, Nat.add_zero] at hf12_0); have hx12_1 := hcc12 1 _ rfl; (try simp only [show (k90).sz = 2 from rfl, Nat.mul_one, Nat.add_zero] at hx12_1); have hf12_1 := hfr12 1; (try simp only [show (k90).sz = 2 from rfl, Nat.mul_one, Nat.add_zero] at hf12_1); clear hcl12 hcc12 hfr12 hM12) | ((with_reducible refine gate_store (t := 90) (p := 21) rfl ?_); refine store_event (t := 90) (p := 21) (v := ?vo_w13) (w1 := ((w11.setCell ⟨go10, (x4_1 : Int).toNat * 2, none⟩ (.string t270)).setCell ⟨go10, (x4_1 : Int).toNat * 2 + 1, none⟩ (.string t271))) ?hg ?ho ?hn ?hr ?_; (case ho => rfl); (case hg => rfl); (case hn => rfl); (case hr => first | (go_simp; done) | (go_simp; rfl)); intro w13 hw; have hg : w11.grownBy w13 (some go10) := (by rw [hw]; exact HP12.2); have hp_ : Kd.R k90 90 w13 w.heap.size (fun _ => True) (.slice (some ⟨go10, 0, none⟩) x3_1.length co10) y272 := (by rw [hw, Ny272.out]; exact HP12.1); clear HP12; replace HO_3 := Aside0.mk (hp_); replace HB := Aside0.mk ((by rw [hw]; exact below_set (below_set (HB.out) GB10.out) GB10.out : Below w.heap.size w w13)); clear hg hw hp_))
        go_roundg k1
        case measure => have := HK1.out; omega
        case rel => exact ⟨(y272), (wrap64 (x4_1 + 1)), oS, H', ⟨by have := HK1.out; omega⟩, ⟨oR HO_3⟩, ⟨oB⟩⟩
       ·cases H
      ·cases H
     ·obtain rfl := Option.some.inj H
      go_wp2
      go_ret
      exact ⟨_, oE, oR HO_3, oB⟩
  ·rw [if_neg c3] at H
   exact absurd H (by simp)
 ·rw [if_neg c2] at H
  exact absurd H (by simp)

/-! ### laws_toInode: function 11 -/
def laws_toInode.f (k : Nat) (a0_0 : Int) (a0_1 : Int) (a0_2 : Int) (l0_3 : List Int) (l0_4 : List (S93)) (l0_5 : List (S95)) : Option (Int × Int × Int × List Int × (List (S82)) × (List (S90))) := (laws_toByteS.f k l0_3).bind fun t276 => ((laws_toEntS.f k l0_4).bind fun t279 => ((laws_toAttrS.f k l0_5).bind fun t282 => (some (a0_0, a0_1, a0_2, t276, t279, t282))))
set_option maxHeartbeats 8000000 in
set_option maxRecDepth 100000 in
theorem laws_toInode.calls (k : Nat) (a0_0 : Int) (a0_1 : Int) (a0_2 : Int) (A0_3 : Option Addr) (c0_3 : Nat) (l0_3 : List Int) (A0_4 : Option Addr) (c0_4 : Nat) (l0_4 : List (S93)) (A0_5 : Option Addr) (c0_5 : Nat) (l0_5 : List (S95)) (r1 : Int) (r2 : Int) (r3 : Int) (r4 : List Int) (r5 : List (S82)) (r6 : List (S90)) (w : World) (hr0_3 : Kd.C (Kd.int .u8) w A0_3 l0_3.length l0_3) (hc0_3 : l0_3.length ≤ c0_3) (hr0_4 : Kd.C k93 w A0_4 l0_4.length l0_4) (hc0_4 : l0_4.length ≤ c0_4) (hr0_5 : Kd.C k95 w A0_5 l0_5.length l0_5) (hc0_5 : l0_5.length ≤ c0_5) (h : laws_toInode.f k a0_0 a0_1 a0_2 l0_3 l0_4 l0_5 = some (r1, r2, r3, r4, r5, r6)) :
  Calls Try.prog 11 #[.agg #[.int .i64 a0_0, .int .i64 a0_1, .int .i64 a0_2, .slice A0_3 l0_3.length c0_3, .slice A0_4 l0_4.length c0_4, .slice A0_5 l0_5.length c0_5]] w fun e w' => ∃ v3_ v4_ v5_ : Value, e = .returned (.agg #[.int .i64 r1, .int .i64 r2, .int .i64 r3, v3_, v4_, v5_]) ∧ Kd.R (Kd.int .u8) 5 w' w.heap.size (fun _ => True) v3_ r4 ∧ Kd.R k82 82 w' w.heap.size (fun _ => True) v4_ r5 ∧ Kd.R k90 90 w' w.heap.size (fun _ => True) v5_ r6 ∧ Below w.heap.size w w' := by
 have hu29 := Try.underlying29
 have hu40 := Try.underlying40
 have HR0_3 := Aside0.mk hr0_3
 have HC0_3 := Aside0.mk hc0_3
 clear hr0_3 hc0_3
 have HR0_4 := Aside0.mk hr0_4
 have HC0_4 := Aside0.mk hc0_4
 clear hr0_4 hc0_4
 have HR0_5 := Aside0.mk hr0_5
 have HC0_5 := Aside0.mk hc0_5
 clear hr0_5 hc0_5
 have HB := Aside0.mk (Below.refl w.heap.size w)
 unfold laws_toInode.f at h
 have H := h
 clear h
 replace H := bA H
 obtain ⟨t276, A2, H⟩ := H
 try dsimp only at H
 replace H := bA H
 obtain ⟨t279, A3, H⟩ := H
 try dsimp only at H
 replace H := bA H
 obtain ⟨t282, A4, H⟩ := H
 try dsimp only at H
 simp only [Option.some.injEq, Prod.mk.injEq] at H
 obtain ⟨rfl, rfl, rfl, rfl, rfl, rfl⟩ := H
 go_enter Try.func11, Try.ntmps11
 go_wp2_with (first | ((with_reducible refine gate_dst (N := 1) rfl ?_); refine bx_ 1 #[.int .i64 a0_0, .int .i64 a0_1, .int .i64 a0_2, .slice A0_3 l0_3.length c0_3, .slice A0_4 l0_4.length c0_4, .slice A0_5 l0_5.length c0_5] 29 ?_; intro gb273 hg w5 hbox hb; have BK273 := Aside0.mk (hbox); have GW273 := gs_ hg; have GE273 := gs_ hg; replace HB := Aside0.mk (below_step oB hb); clear hb hbox hg) | ((with_reducible refine gate_dst (N := 2) rfl ?_); refine bx_ 2 #[.int .i64 0, .int .i64 0, .int .i64 0, .slice none 0 0, .slice none 0 0, .slice none 0 0] 40 ?_; intro gb274 hg w6 hbox hb; have BK274 := Aside0.mk (hbox); have GW274 := gs_ hg; have GE274 := gs_ hg; have NB273_274 := nl_ hg BK273; have NB274_273 := nr_ hg BK273; replace BK273 := kb_ BK273 hb; replace HB := Aside0.mk (below_step oB hb); clear hb hbox hg) | ((with_reducible refine gate_dst (N := 3) rfl ?_); refine bx_ 3 #[.int .i64 0, .int .i64 0, .int .i64 0, .slice none 0 0, .slice none 0 0, .slice none 0 0] 40 ?_; intro gb275 hg w7 hbox hb; have BK275 := Aside0.mk (hbox); have GW275 := gs_ hg; have GE275 := gs_ hg; have NB273_275 := nl_ hg BK273; have NB275_273 := nr_ hg BK273; have NB274_275 := nl_ hg BK274; have NB275_274 := nr_ hg BK274; replace BK273 := kb_ BK273 hb; replace BK274 := kb_ BK274 hb; replace HB := Aside0.mk (below_step oB hb); clear hb hbox hg; have hnb8 := NB273_274.out; have hnc8 := NB274_273.out; have hnb9 := NB273_275.out; have hnc9 := NB275_273.out; obtain ⟨⟨_, _, _, _, _, _⟩, _, _, _, _, _, _⟩ := z6 BK273; have hnb11 := NB275_274.out; have hnc11 := NB274_275.out; obtain ⟨⟨_, _, _, _, _, _⟩, _, _, _, _, _, _⟩ := z6 BK275) | ((with_reducible refine gate_callee (f := 39) rfl ?_); refine gl_ 15 Try.func39 (laws_toByteS.calls k _ _ l0_3 t276 _ ?side1 HC0_3.out A2.out) ?_; (case side1 => exact Kd.C_below HR0_3.out oB); rintro e w13 ⟨v277, rfl, ho0, hb⟩; refine ⟨_, rfl, ?_⟩; have HO278 := Aside0.mk (Kd.R_lower ho0 (below_size oB)); replace BK273 := Aside0.mk (blk_below (g := gb273) (o := .cells #[.int .i64 a0_0, .int .i64 a0_1, .int .i64 a0_2, .slice A0_3 l0_3.length c0_3, .slice A0_4 l0_4.length c0_4, .slice A0_5 l0_5.length c0_5] 29 (0, 0)) (by (with_reducible repeat (first | refine blk_drewN ?_ _ | refine blk_drew ?_ | refine blk_alloc ?_ _)); refine blk_far ?_ NB273_275.out _; (with_reducible repeat (first | refine blk_drewN ?_ _ | refine blk_drew ?_ | refine blk_alloc ?_ _)); refine blk_far ?_ NB273_275.out _; (with_reducible repeat (first | refine blk_drewN ?_ _ | refine blk_drew ?_ | refine blk_alloc ?_ _)); refine blk_far ?_ NB273_275.out _; (with_reducible repeat (first | refine blk_drewN ?_ _ | refine blk_drew ?_ | refine blk_alloc ?_ _)); exact BK273.out) hb); replace BK274 := Aside0.mk (blk_below (g := gb274) (o := .cells #[.int .i64 0, .int .i64 0, .int .i64 0, .slice none 0 0, .slice none 0 0, .slice none 0 0] 40 (0, 0)) (by (with_reducible repeat (first | refine blk_drewN ?_ _ | refine blk_drew ?_ | refine blk_alloc ?_ _)); refine blk_far ?_ NB274_275.out _; (with_reducible repeat (first | refine blk_drewN ?_ _ | refine blk_drew ?_ | refine blk_alloc ?_ _)); refine blk_far ?_ NB274_275.out _; (with_reducible repeat (first | refine blk_drewN ?_ _ | refine blk_drew ?_ | refine blk_alloc ?_ _)); refine blk_far ?_ NB274_275.out _; (with_reducible repeat (first | refine blk_drewN ?_ _ | refine blk_drew ?_ | refine blk_alloc ?_ _)); exact BK274.out) hb); replace BK275 := Aside0.mk (blk_below (g := gb275) (o := .cells #[.int .i64 a0_0, .int .i64 a0_1, .int .i64 a0_2, .slice none 0 0, .slice none 0 0, .slice none 0 0] 40 (0, 0)) (by (with_reducible repeat (first | refine blk_drewN ?_ _ | refine blk_drew ?_ | refine blk_alloc ?_ _)); refine blk_put (cs := #[.int .i64 a0_0, .int .i64 a0_1, .int .i64 0, .slice none 0 0, .slice none 0 0, .slice none 0 0]) ?_ 2 _ rfl; (with_reducible repeat (first | refine blk_drewN ?_ _ | refine blk_drew ?_ | refine blk_alloc ?_ _)); refine blk_put (cs := #[.int .i64 a0_0, .int .i64 0, .int .i64 0, .slice none 0 0, .slice none 0 0, .slice none 0 0]) ?_ 1 _ rfl; (with_reducible repeat (first | refine blk_drewN ?_ _ | refine blk_drew ?_ | refine blk_alloc ?_ _)); refine blk_put (cs := #[.int .i64 0, .int .i64 0, .int .i64 0, .slice none 0 0, .slice none 0 0, .slice none 0 0]) ?_ 0 _ rfl; (with_reducible repeat (first | refine blk_drewN ?_ _ | refine blk_drew ?_ | refine blk_alloc ?_ _)); exact BK275.out) hb); replace HB := Aside0.mk (below_step oB hb); obtain ⟨Ao14, co14, eo14⟩ := Kd.R_slice HO278.out; subst eo14; obtain ⟨⟨_, _, _, _, _, _⟩, _, _, _, _, _, _⟩ := z6 BK275; obtain ⟨⟨_, _, _, _, _, _⟩, _, _, _, _, _, _⟩ := z6 BK273) | ((with_reducible refine gate_callee (f := 40) rfl ?_); refine gl_ 19 Try.func40 (laws_toEntS.calls k _ _ l0_4 t279 _ ?side1 HC0_4.out A3.out) ?_; (case side1 => exact Kd.C_below HR0_4.out oB); rintro e w17 ⟨v280, rfl, ho0, hb⟩; refine ⟨_, rfl, ?_⟩; have HO281 := Aside0.mk (Kd.R_lower ho0 (below_size oB)); replace HO278 := Aside0.mk (Kd.R_below (by (with_reducible repeat (first | apply Kd.R_alloc | apply Kd.R_drewN | apply Kd.R_drew)); exact (Kd.R_mono (Kd.R_far (p := ⟨gb275, 3, none⟩) (Kd.R_types HO278.out BK275.out (by decide)) (fun _ hk => hk.2) (.slice Ao14 t276.length co14)) (fun _ h_ => h_.1))) hb); replace BK273 := Aside0.mk (blk_below (g := gb273) (o := .cells #[.int .i64 a0_0, .int .i64 a0_1, .int .i64 a0_2, .slice A0_3 l0_3.length c0_3, .slice A0_4 l0_4.length c0_4, .slice A0_5 l0_5.length c0_5] 29 (0, 0)) (by (with_reducible repeat (first | refine blk_drewN ?_ _ | refine blk_drew ?_ | refine blk_alloc ?_ _)); refine blk_far ?_ NB273_275.out _; (with_reducible repeat (first | refine blk_drewN ?_ _ | refine blk_drew ?_ | refine blk_alloc ?_ _)); exact BK273.out) hb); replace BK274 := Aside0.mk (blk_below (g := gb274) (o := .cells #[.int .i64 0, .int .i64 0, .int .i64 0, .slice none 0 0, .slice none 0 0, .slice none 0 0] 40 (0, 0)) (by (with_reducible repeat (first | refine blk_drewN ?_ _ | refine blk_drew ?_ | refine blk_alloc ?_ _)); refine blk_far ?_ NB274_275.out _; (with_reducible repeat (first | refine blk_drewN ?_ _ | refine blk_drew ?_ | refine blk_alloc ?_ _)); exact BK274.out) hb); replace BK275 := Aside0.mk (blk_below (g := gb275) (o := .cells #[.int .i64 a0_0, .int .i64 a0_1, .int .i64 a0_2, .slice Ao14 t276.length co14, .slice none 0 0, .slice none 0 0] 40 (0, 0)) (by (with_reducible repeat (first | refine blk_drewN ?_ _ | refine blk_drew ?_ | refine blk_alloc ?_ _)); refine blk_put (cs := #[.int .i64 a0_0, .int .i64 a0_1, .int .i64 a0_2, .slice none 0 0, .slice none 0 0, .slice none 0 0]) ?_ 3 _ rfl; (with_reducible repeat (first | refine blk_drewN ?_ _ | refine blk_drew ?_ | refine blk_alloc ?_ _)); exact BK275.out) hb); replace HB := Aside0.mk (below_step oB hb); (try clear hk); obtain ⟨Ao18, co18, eo18⟩ := Kd.R_slice HO281.out; subst eo18; obtain ⟨⟨_, _, _, _, _, _⟩, _, _, _, _, _, _⟩ := z6 BK275; obtain ⟨⟨_, _, _, _, _, _⟩, _, _, _, _, _, _⟩ := z6 BK273) | ((with_reducible refine gate_callee (f := 41) rfl ?_); refine gl_ 23 Try.func41 (laws_toAttrS.calls k _ _ l0_5 t282 _ ?side1 HC0_5.out A4.out) ?_; (case side1 => exact Kd.C_below HR0_5.out oB); rintro e w21 ⟨v283, rfl, ho0, hb⟩; refine ⟨_, rfl, ?_⟩; have HO284 := Aside0.mk (Kd.R_lower ho0 (below_size oB)); replace HO278 := Aside0.mk (Kd.R_below (by (with_reducible repeat (first | apply Kd.R_alloc | apply Kd.R_drewN | apply Kd.R_drew)); exact (Kd.R_mono (Kd.R_far (p := ⟨gb275, 4, none⟩) (Kd.R_types HO278.out BK275.out (by decide)) (fun _ hk => hk.2) (.slice Ao18 t279.length co18)) (fun _ h_ => h_.1))) hb); replace HO281 := Aside0.mk (Kd.R_below (by (with_reducible repeat (first | apply Kd.R_alloc | apply Kd.R_drewN | apply Kd.R_drew)); exact (Kd.R_mono (Kd.R_far (p := ⟨gb275, 4, none⟩) (Kd.R_types HO281.out BK275.out (by decide)) (fun _ hk => hk.2) (.slice Ao18 t279.length co18)) (fun _ h_ => h_.1))) hb); replace BK273 := Aside0.mk (blk_below (g := gb273) (o := .cells #[.int .i64 a0_0, .int .i64 a0_1, .int .i64 a0_2, .slice A0_3 l0_3.length c0_3, .slice A0_4 l0_4.length c0_4, .slice A0_5 l0_5.length c0_5] 29 (0, 0)) (by (with_reducible repeat (first | refine blk_drewN ?_ _ | refine blk_drew ?_ | refine blk_alloc ?_ _)); refine blk_far ?_ NB273_275.out _; (with_reducible repeat (first | refine blk_drewN ?_ _ | refine blk_drew ?_ | refine blk_alloc ?_ _)); exact BK273.out) hb); replace BK274 := Aside0.mk (blk_below (g := gb274) (o := .cells #[.int .i64 0, .int .i64 0, .int .i64 0, .slice none 0 0, .slice none 0 0, .slice none 0 0] 40 (0, 0)) (by (with_reducible repeat (first | refine blk_drewN ?_ _ | refine blk_drew ?_ | refine blk_alloc ?_ _)); refine blk_far ?_ NB274_275.out _; (with_reducible repeat (first | refine blk_drewN ?_ _ | refine blk_drew ?_ | refine blk_alloc ?_ _)); exact BK274.out) hb); replace BK275 := Aside0.mk (blk_below (g := gb275) (o := .cells #[.int .i64 a0_0, .int .i64 a0_1, .int .i64 a0_2, .slice Ao14 t276.length co14, .slice Ao18 t279.length co18, .slice none 0 0] 40 (0, 0)) (by (with_reducible repeat (first | refine blk_drewN ?_ _ | refine blk_drew ?_ | refine blk_alloc ?_ _)); refine blk_put (cs := #[.int .i64 a0_0, .int .i64 a0_1, .int .i64 a0_2, .slice Ao14 t276.length co14, .slice none 0 0, .slice none 0 0]) ?_ 4 _ rfl; (with_reducible repeat (first | refine blk_drewN ?_ _ | refine blk_drew ?_ | refine blk_alloc ?_ _)); exact BK275.out) hb); replace HB := Aside0.mk (below_step oB hb); (try clear hk); obtain ⟨Ao22, co22, eo22⟩ := Kd.R_slice HO284.out; subst eo22; obtain ⟨⟨_, _, _, _, _, _⟩, _, _, _, _, _, _⟩ := z6 BK275; obtain ⟨⟨_, _, _, _, _, _⟩, _, _, _, _, _, _⟩ := z6 BK274))
 refine bodyPost_ret (results_cell_row rfl _ _ gb274 40 #[.int .i64 a0_0, .int .i64 a0_1, .int .i64 a0_2, .slice Ao14 t276.length co14, .slice Ao18 t279.length co18, .slice Ao22 t282.length co22] (0, 0) _ rfl (by (with_reducible repeat (first | refine blk_drewN ?_ _ | refine blk_drew ?_ | refine blk_alloc ?_ _)); refine blk_put (cs := #[.int .i64 a0_0, .int .i64 a0_1, .int .i64 a0_2, .slice Ao14 t276.length co14, .slice Ao18 t279.length co18, .slice none 0 0]) ?_ 5 _ rfl; (with_reducible repeat (first | refine blk_drewN ?_ _ | refine blk_drew ?_ | refine blk_alloc ?_ _)); refine blk_put (cs := #[.int .i64 a0_0, .int .i64 a0_1, .int .i64 a0_2, .slice Ao14 t276.length co14, .slice none 0 0, .slice none 0 0]) ?_ 4 _ rfl; (with_reducible repeat (first | refine blk_drewN ?_ _ | refine blk_drew ?_ | refine blk_alloc ?_ _)); refine blk_put (cs := #[.int .i64 a0_0, .int .i64 a0_1, .int .i64 a0_2, .slice none 0 0, .slice none 0 0, .slice none 0 0]) ?_ 3 _ rfl; (with_reducible repeat (first | refine blk_drewN ?_ _ | refine blk_drew ?_ | refine blk_alloc ?_ _)); refine blk_put (cs := #[.int .i64 a0_0, .int .i64 a0_1, .int .i64 0, .slice none 0 0, .slice none 0 0, .slice none 0 0]) ?_ 2 _ rfl; (with_reducible repeat (first | refine blk_drewN ?_ _ | refine blk_drew ?_ | refine blk_alloc ?_ _)); refine blk_put (cs := #[.int .i64 a0_0, .int .i64 0, .int .i64 0, .slice none 0 0, .slice none 0 0, .slice none 0 0]) ?_ 1 _ rfl; (with_reducible repeat (first | refine blk_drewN ?_ _ | refine blk_drew ?_ | refine blk_alloc ?_ _)); refine blk_put (cs := #[.int .i64 0, .int .i64 0, .int .i64 0, .slice none 0 0, .slice none 0 0, .slice none 0 0]) ?_ 0 _ rfl; (with_reducible repeat (first | refine blk_drewN ?_ _ | refine blk_drew ?_ | refine blk_alloc ?_ _)); refine blk_far ?_ NB274_275.out _; (with_reducible repeat (first | refine blk_drewN ?_ _ | refine blk_drew ?_ | refine blk_alloc ?_ _)); exact BK274.out) Try.underlying40 rfl (by kernel_rfl)) rfl ?_
 exact ⟨_, _, _, oE, by (with_reducible repeat (first | apply Kd.R_alloc | apply Kd.R_drewN | apply Kd.R_drew)); exact Kd.R_mono (Kd.R_far (p := ⟨gb274, 5, none⟩) (Kd.R_far (p := ⟨gb274, 4, none⟩) (Kd.R_far (p := ⟨gb274, 3, none⟩) (Kd.R_far (p := ⟨gb274, 2, none⟩) (Kd.R_far (p := ⟨gb274, 1, none⟩) (Kd.R_far (p := ⟨gb274, 0, none⟩) (Kd.R_far (p := ⟨gb275, 5, none⟩) (Kd.R_types (Kd.R_types HO278.out BK275.out (by decide)) BK274.out (by decide)) (fun _ hk => hk.1.2) (.slice Ao22 t282.length co22)) (fun _ hk => hk.2) (.int .i64 a0_0)) (fun _ hk => hk.2) (.int .i64 a0_1)) (fun _ hk => hk.2) (.int .i64 a0_2)) (fun _ hk => hk.2) (.slice Ao14 t276.length co14)) (fun _ hk => hk.2) (.slice Ao18 t279.length co18)) (fun _ hk => hk.2) (.slice Ao22 t282.length co22)) (fun _ hk => trivial), by (with_reducible repeat (first | apply Kd.R_alloc | apply Kd.R_drewN | apply Kd.R_drew)); exact Kd.R_mono (Kd.R_far (p := ⟨gb274, 5, none⟩) (Kd.R_far (p := ⟨gb274, 4, none⟩) (Kd.R_far (p := ⟨gb274, 3, none⟩) (Kd.R_far (p := ⟨gb274, 2, none⟩) (Kd.R_far (p := ⟨gb274, 1, none⟩) (Kd.R_far (p := ⟨gb274, 0, none⟩) (Kd.R_far (p := ⟨gb275, 5, none⟩) (Kd.R_types (Kd.R_types HO281.out BK275.out (by decide)) BK274.out (by decide)) (fun _ hk => hk.1.2) (.slice Ao22 t282.length co22)) (fun _ hk => hk.2) (.int .i64 a0_0)) (fun _ hk => hk.2) (.int .i64 a0_1)) (fun _ hk => hk.2) (.int .i64 a0_2)) (fun _ hk => hk.2) (.slice Ao14 t276.length co14)) (fun _ hk => hk.2) (.slice Ao18 t279.length co18)) (fun _ hk => hk.2) (.slice Ao22 t282.length co22)) (fun _ hk => trivial), by (with_reducible repeat (first | apply Kd.R_alloc | apply Kd.R_drewN | apply Kd.R_drew)); exact Kd.R_mono (Kd.R_far (p := ⟨gb274, 5, none⟩) (Kd.R_far (p := ⟨gb274, 4, none⟩) (Kd.R_far (p := ⟨gb274, 3, none⟩) (Kd.R_far (p := ⟨gb274, 2, none⟩) (Kd.R_far (p := ⟨gb274, 1, none⟩) (Kd.R_far (p := ⟨gb274, 0, none⟩) (Kd.R_far (p := ⟨gb275, 5, none⟩) (Kd.R_types (Kd.R_types HO284.out BK275.out (by decide)) BK274.out (by decide)) (fun _ hk => hk.1.2) (.slice Ao22 t282.length co22)) (fun _ hk => hk.2) (.int .i64 a0_0)) (fun _ hk => hk.2) (.int .i64 a0_1)) (fun _ hk => hk.2) (.int .i64 a0_2)) (fun _ hk => hk.2) (.slice Ao14 t276.length co14)) (fun _ hk => hk.2) (.slice Ao18 t279.length co18)) (fun _ hk => hk.2) (.slice Ao22 t282.length co22)) (fun _ hk => trivial), oB⟩

/-! ### laws_toInodeS: function 38 -/
def laws_toInodeS.l0 : Nat → List (S29) → List (S40) → Int → Option ((List (S40)))
 | 0, _, _, _ => none
 | k + 1, x0, x3, x4 => if x4 < (x0.length : Int) then (if 0 ≤ x4 then ((laws_toInode.f k ((rd_T29 x0 x4).f0) ((rd_T29 x0 x4).f1) ((rd_T29 x0 x4).f2) ((rd_T29 x0 x4).f3) ((rd_T29 x0 x4).f4) ((rd_T29 x0 x4).f5)).bind fun bt289 => (if x4 < (x3.length : Int) then (laws_toInodeS.l0 k x0 (x3.set (x4 : Int).toNat (⟨bt289.1, bt289.2.1, bt289.2.2.1, bt289.2.2.2.1, bt289.2.2.2.2.1, bt289.2.2.2.2.2⟩ : S40)) (wrap64 (x4 + 1))) else (none))) else (none)) else (some x3)
def laws_toInodeS.f (k : Nat) (l0 : List (S29)) : Option ((List (S40))) := if 0 ≤ (l0.length : Int) then (if ((l0.length : Int) : Int).toNat ≤ 2932031007402 then (laws_toInodeS.l0 k l0 (List.replicate ((l0.length : Int) : Int).toNat z40) 0) else (none)) else (none)
set_option maxHeartbeats 8000000 in
set_option maxRecDepth 100000 in
theorem laws_toInodeS.calls (k : Nat) (A0 : Option Addr) (c0 : Nat) (l0 : List (S29)) (r : List (S40)) (w : World) (hr0 : Kd.C k29 w A0 l0.length l0) (hc0 : l0.length ≤ c0) (h : laws_toInodeS.f k l0 = some r) :
  Calls Try.prog 38 #[.slice A0 l0.length c0] w fun e w' => ∃ v0_ : Value, e = .returned (v0_) ∧ Kd.S k40 40 w' w.heap.size (fun _ => True) v0_ r ∧ Below w.heap.size w w' := by
 have hu29 := Try.underlying29
 have hu40 := Try.underlying40
 have HR0 := Aside0.mk hr0
 have HC0 := Aside0.mk hc0
 clear hr0 hc0
 have HB := Aside0.mk (Below.refl w.heap.size w)
 unfold laws_toInodeS.f at h
 have H := h
 clear h
 by_cases c2 : 0 ≤ (l0.length : Int)
 ·rw [if_pos c2] at H
  have c2b0 := eq_true c2
  have c2b1 : decide (0 ≤ (l0.length : Int)) = true := decide_eq_true c2
  clear c2
  by_cases c3 : ((l0.length : Int) : Int).toNat ≤ 2932031007402
  ·rw [if_pos c3] at H
   have c3b0 := eq_true c3
   have c3b1 : decide (((l0.length : Int) : Int).toNat ≤ 2932031007402) = true := decide_eq_true c3
   clear c3
   obtain ⟨y285, hy285⟩ : ∃ y_ : List (S40), y_ = (List.replicate ((l0.length : Int) : Int).toNat z40) := ⟨_, rfl⟩
   replace H : (laws_toInodeS.l0 k l0 y285 0) = some r := by first | (rw [hy285]; with_reducible exact H) | (have H2_ := (Option.bind_some _ _).symm.trans H; rw [hy285]; with_reducible exact H2_) | (have H2_ := (Option.bind_some _ _).symm.trans H; with_reducible exact H2_) | with_reducible exact H | (rw [hy285]; exact H) | exact H
   have Ny285 := Aside0.mk hy285
   clear hy285
   have H' := Aside0.mk H
   clear H
   go_enter Try.func38, Try.ntmps38
   go_wp2_with (first | ((with_reducible refine gate_dst (N := 7) rfl ?_); refine Kd.S_make k40 _ 40 rfl (N := 7) rfl 32 _ _ rfl (l0.length : Int) rfl rfl Try.underlying32 (.agg #[(.int .i64 0), (.int .i64 0), (.int .i64 0), (.slice none 0 0), (.slice none 0 0), (.slice none 0 0)]) 96 info40 rfl (by decide) (by omega) z40 (ok := fun _ => True) (okp := fun _ => True) (k40_mkM _ _ _ z40 (Kd.R_nil _ _ _ _ _) (Kd.R_nil _ _ _ _ _) (Kd.R_nil _ _ _ _ _)) (fun _ hk => hk) trivial oa (Nat.le_trans (Nat.mul_le_mul_right _ (oa : (l0.length : Int).toNat ≤ 2932031007402)) (by omega)) (Below.refl _ _) (Nat.le_refl _) ?_; intro v286 w4 ho5 hb hg_ hnew_; clear hg_ hnew_; (first | rw [← Ny285.out] at ho5 | (simp only [Int.reduceToNat] at ho5; rw [← Ny285.out] at ho5)); have HO287 := Aside0.mk (Kd.S_lower ho5 (below_size oB)); replace HB := Aside0.mk (below_step oB hb); clear hb ho5))
   go_loopg [4] k (fun kq v4 w' => ∃ (x3_1 : List (S40)) (x4_1 : Int), v4 = .int .i64 x4_1 ∧ Aside0 (laws_toInodeS.l0 kq l0 x3_1 x4_1 = some r) ∧ Aside0 (kq ≤ k) ∧ Aside0 (Kd.S k40 40 w' w.heap.size (fun _ => True) v286 x3_1) ∧ Aside0 (Below w.heap.size w w'))
   case atStart => exact ⟨(y285), (0), oS, H', ⟨Nat.le_refl _⟩, ⟨by (with_reducible repeat (first | apply Kd.S_alloc | apply Kd.S_drewN | apply Kd.S_drew)); exact HO287.out⟩, ⟨oB⟩⟩
   case round =>
    clear H'
    try clear c2
    try clear c2b0
    try clear c2b1
    try clear c3
    obtain ⟨x3_1, x4_1, rfl, HA, HK1, HO_3, HB⟩ := hrel
    cases gk with
    | zero => exact absurd HA.out (by simp [laws_toInodeS.l0])
    | succ k1 =>
     have H := HA.out
     clear HA
     simp only [laws_toInodeS.l0] at H
     replace H := itD H
     rcases H with ⟨c6b0, H⟩ | ⟨c6b0, H⟩
     ·replace H := itD H
      rcases H with ⟨c7b0, H⟩ | ⟨c7b0, H⟩
      ·replace H := bA H
       obtain ⟨⟨t289, t290, t291, t292, t295, t298⟩, A8, H⟩ := H
       try dsimp only at H
       replace H := itD H
       rcases H with ⟨c9b0, H⟩ | ⟨c9b0, H⟩
       ·obtain ⟨y301, hy301⟩ : ∃ y_ : List (S40), y_ = (x3_1.set (x4_1 : Int).toNat (⟨t289, t290, t291, t292, t295, t298⟩ : S40)) := ⟨_, rfl⟩
        replace H : (laws_toInodeS.l0 k1 l0 y301 (wrap64 (x4_1 + 1))) = some r := by first | (rw [hy301]; with_reducible exact H) | (have H2_ := (Option.bind_some _ _).symm.trans H; rw [hy301]; with_reducible exact H2_) | (have H2_ := (Option.bind_some _ _).symm.trans H; with_reducible exact H2_) | with_reducible exact H | (rw [hy301]; exact H) | exact H
        have Ny301 := Aside0.mk hy301
        clear hy301
        have H' := Aside0.mk H
        clear H
        have p288 : (0 ≤ (x4_1 : Int)) = True := oT
        have q288 : (x4_1 < (l0.length : Int)) = True := oT
        obtain ⟨ad288, A288_3, c288_3, A288_4, c288_4, A288_5, c288_5, e288, hx288_0, hx288_1, hx288_2, hx288_3, hx288_4, hx288_5, hl288_3, hi288_3, hl288_4, hi288_4, hl288_5, hi288_5⟩ := at_T29 HR0.out x4_1 oa oa
        cases e288
        replace hx288_0 := cB HB hx288_0
        replace hx288_1 := cB HB hx288_1
        replace hx288_2 := cB HB hx288_2
        replace hx288_3 := cB HB hx288_3
        replace hx288_4 := cB HB hx288_4
        replace hx288_5 := cB HB hx288_5
        have HR288_3 := Aside0.mk hi288_3
        have HC288_3 := Aside0.mk hl288_3
        clear hi288_3 hl288_3
        have HR288_4 := Aside0.mk hi288_4
        have HC288_4 := Aside0.mk hl288_4
        clear hi288_4 hl288_4
        have HR288_5 := Aside0.mk hi288_5
        have HC288_5 := Aside0.mk hl288_5
        clear hi288_5 hl288_5
        go_wp2_with (first | ((with_reducible refine gate_callee (f := 11) rfl ?_); refine gl_ 20 Try.func11 (laws_toInode.calls k1 ((rd_T29 l0 x4_1).f0) ((rd_T29 l0 x4_1).f1) ((rd_T29 l0 x4_1).f2) _ _ ((rd_T29 l0 x4_1).f3) _ _ ((rd_T29 l0 x4_1).f4) _ _ ((rd_T29 l0 x4_1).f5) t289 t290 t291 t292 t295 t298 _ (kC HR288_3) HC288_3.out (kC HR288_4) HC288_4.out (kC HR288_5) HC288_5.out A8.out) ?_; rintro e w11 ⟨v293, v296, v299, rfl, ho0, ho1, ho2, hb⟩; refine ⟨_, rfl, ?_⟩; have HO294 := Aside0.mk (Kd.R_lower ho0 (below_size oB)); have HO297 := Aside0.mk (Kd.R_lower ho1 (below_size oB)); have HO300 := Aside0.mk (Kd.R_lower ho2 (below_size oB)); replace HO_3 := Aside0.mk (Kd.S_mono (Kd.S_told (Kd.S_told (Kd.S_told (Kd.S_old (by (with_reducible repeat (first | apply Kd.S_alloc | apply Kd.S_drewN | apply Kd.S_drew)); exact HO_3.out) hb) (Kd.R_base ho0)) (Kd.R_base ho1)) (Kd.R_base ho2)) (fun _ h_ => h_.1)); replace HB := Aside0.mk (below_step oB hb); (try clear hk); (try clear ho1); (try clear ho2); have p10 : 0 ≤ (x4_1 : Int) := oa; have q10 : (x4_1 : Int) < ((x3_1.length : Int) : Int) := oa; obtain ⟨go10, co10, eo10, gb10, gl10, cl10, HG10⟩ := Kd.S_form HO_3.out (by omega); (first | cases eo10 | (injection eo10 with ea_ en_ ec_; (first | subst ea_ | (injection ea_ with ea_; subst ea_)); subst ec_; clear en_)); have GB10 := Aside0.mk gb10; have GG10 := Aside0.mk HG10; clear gb10 gl10 HG10; obtain ⟨_, ce10, hcl10, hM10, hcc10, hfr10, _, _⟩ := Kd.S_elem HO_3.out z40 (x4_1 : Int) p10 q10; obtain ⟨ve10_3, ve10_4, ve10_5, rfl, ge10_3, ge10_4, ge10_5⟩ := k40_openM hM10; have hx10_0 : w11.cell? ⟨go10, (x4_1 : Int).toNat * 6, none⟩ = some (.int .i64 ((rd_T40 x3_1 x4_1).f0)) := hcc10 0 _ rfl; have hx10_1 : w11.cell? ⟨go10, (x4_1 : Int).toNat * 6 + 1, none⟩ = some (.int .i64 ((rd_T40 x3_1 x4_1).f1)) := hcc10 1 _ rfl; have hx10_2 : w11.cell? ⟨go10, (x4_1 : Int).toNat * 6 + 2, none⟩ = some (.int .i64 ((rd_T40 x3_1 x4_1).f2)) := hcc10 2 _ rfl; have hx10_3 : w11.cell? ⟨go10, (x4_1 : Int).toNat * 6 + 3, none⟩ = some (ve10_3) := hcc10 3 _ rfl; have hx10_4 : w11.cell? ⟨go10, (x4_1 : Int).toNat * 6 + 4, none⟩ = some (ve10_4) := hcc10 4 _ rfl; have hx10_5 : w11.cell? ⟨go10, (x4_1 : Int).toNat * 6 + 5, none⟩ = some (ve10_5) := hcc10 5 _ rfl; have hf10_0 : w11.frozen? ⟨go10, (x4_1 : Int).toNat * 6, none⟩ = false := hfr10 0; have hf10_1 : w11.frozen? ⟨go10, (x4_1 : Int).toNat * 6 + 1, none⟩ = false := hfr10 1; have hf10_2 : w11.frozen? ⟨go10, (x4_1 : Int).toNat * 6 + 2, none⟩ = false := hfr10 2; have hf10_3 : w11.frozen? ⟨go10, (x4_1 : Int).toNat * 6 + 3, none⟩ = false := hfr10 3; have hf10_4 : w11.frozen? ⟨go10, (x4_1 : Int).toNat * 6 + 4, none⟩ = false := hfr10 4; have hf10_5 : w11.frozen? ⟨go10, (x4_1 : Int).toNat * 6 + 5, none⟩ = false := hfr10 5; clear hcl10 hcc10 hfr10 hM10; replace p10 := eq_true p10; replace q10 := eq_true q10; have n_ := Aside0.mk (Kd.S_mono (ok' := (fun k_ => some k_ ≠ (v293 : Value).ownBlock ∧ some k_ ≠ (v296 : Value).ownBlock ∧ some k_ ≠ (v299 : Value).ownBlock)) HO_3.out (fun k_ hk => ⟨hk.1.1.2, ⟨hk.1.2, hk.2⟩⟩)); clear HO_3; have HO_3 := n_; clear n_; have HX12 := Aside0.mk (show Kd.S k40 40 w11 w.heap.size (fun k_ => ((fun _ => True)) k_ ∧ ¬ ((fun k_ => some k_ = (v293 : Value).ownBlock ∨ some k_ = (v296 : Value).ownBlock ∨ some k_ = (v299 : Value).ownBlock)) k_) (.slice (some ⟨go10, 0, none⟩) x3_1.length co10) x3_1 from (by (with_reducible repeat (first | apply Kd.S_alloc | apply Kd.S_drewN | apply Kd.S_drew)); exact Kd.S_mono HO_3.out (fun k_ hk => ⟨trivial, fun e_ => e_.elim (fun h_ => hk.1 h_) (fun h_ => h_.elim (fun h_ => hk.2.1 h_) (fun h_ => hk.2.2 h_))⟩))); obtain ⟨oki12, ce12, hcl12, hM12, hcc12, hfr12, hoki12, hH12⟩ := Kd.S_elem HX12.out z40 (x4_1 : Int) oa (by have h_ : (x4_1 : Int) < ((x3_1.length : Int) : Int) := oa; first | exact h_ | (have e_ := (Kd.S_reads' HO_3.out).1; omega) | simpa using h_); obtain ⟨ve12_3, ve12_4, ve12_5, rfl, ge12_3, ge12_4, ge12_5⟩ := k40_openM hM12; have HP12 := Kd.S_seg hH12 oa (by have h_ : (x4_1 : Int) < ((x3_1.length : Int) : Int) := oa; first | exact h_ | (have e_ := (Kd.S_reads' HO_3.out).1; omega) | simpa using h_) (seg := [.int .i64 t289, .int .i64 t290, .int .i64 t291, v293, v296, v299]) (j := 0) (show 6 ≤ 6 from by decide) (x' := (⟨t289, t290, t291, t292, t295, t298⟩ : S40)) (k40_mkM _ _ _ (⟨t289, t290, t291, t292, t295, t298⟩ : S40) (Kd.R_mono (Kd.R_tight rfl (Kd.R_mono (ok' := fun k_ => ((fun _ => True)) k_ ∧ k_ ≠ go10) (Kd.R_apart' (HO294.out) (Kd.S_typed HO_3.out) (by decide)) (fun k_ hk => ⟨trivial, fun e_ => (hk.2) (by rw [e_]; rfl)⟩))) (fun _ h_ => Or.inr (Or.inl h_))) (Kd.R_mono (Kd.R_tight rfl (Kd.R_mono (ok' := fun k_ => ((fun _ => True)) k_ ∧ k_ ≠ go10) (Kd.R_apart' (HO297.out) (Kd.S_typed HO_3.out) (by decide)) (fun k_ hk => ⟨trivial, fun e_ => (hk.2) (by rw [e_]; rfl)⟩))) (fun _ h_ => Or.inr (Or.inr (Or.inl h_)))) (Kd.R_mono (Kd.R_tight rfl (Kd.R_mono (ok' := fun k_ => ((fun _ => True)) k_ ∧ k_ ≠ go10) (Kd.R_apart' (HO300.out) (Kd.S_typed HO_3.out) (by decide)) (fun k_ hk => ⟨trivial, fun e_ => (hk.2) (by rw [e_]; rfl)⟩))) (fun _ h_ => Or.inr (Or.inr (Or.inr (h_)))))) (fun _ hk => hk) (fun k_ hk_ => hk_.elim (fun h_ => ((Kd.R_mono (ok' := fun k_ => ((fun _ => True)) k_ ∧ k_ ≠ go10) (Kd.R_apart' (HO294.out) (Kd.S_typed HO_3.out) (by decide)) (fun k_ hk => ⟨trivial, fun e_ => (hk.2) (by rw [e_]; rfl)⟩))).1 k_ h_.symm) (fun h_ => h_.elim (fun h_ => ((Kd.R_mono (ok' := fun k_ => ((fun _ => True)) k_ ∧ k_ ≠ go10) (Kd.R_apart' (HO297.out) (Kd.S_typed HO_3.out) (by decide)) (fun k_ hk => ⟨trivial, fun e_ => (hk.2) (by rw [e_]; rfl)⟩))).1 k_ h_.symm) (fun h_ => ((Kd.R_mono (ok' := fun k_ => ((fun _ => True)) k_ ∧ k_ ≠ go10) (Kd.R_apart' (HO300.out) (Kd.S_typed HO_3.out) (by decide)) (fun k_ hk => ⟨trivial, fun e_ => (hk.2) (by rw [e_]; rfl)⟩))).1 k_ h_.symm))); have hx12_0 := hcc12 0 _ rfl; (try simp only [show (k40).sz = 6 from rfl, Nat.mul_one, Nat.add_zero] at hx12_0); have hf12_0 := hfr12 0; (try simp only [show (k40).sz = 6 from rfl, Nat.mul_one, Nat.add_zero] at hf12_0); have hx12_1 := hcc12 1 _ rfl; (try simp only [show (k40).sz = 6 from rfl, Nat.mul_one, Nat.add_zero] at hx12_1); have hf12_1 := hfr12 1; (try simp only [show (k40).sz = 6 from rfl, Nat.mul_one, Nat.add_zero] at hf12_1); have hx12_2 := hcc12 2 _ rfl; (try simp only [show (k40).sz = 6 from rfl, Nat.mul_one, Nat.add_zero] at hx12_2); have hf12_2 := hfr12 2; (try simp only [show (k40).sz = 6 from rfl, Nat.mul_one, Nat.add_zero] at hf12_2); have hx12_3 := hcc12 3 _ rfl; (try simp only [show (k40).sz = 6 from rfl, Nat.mul_one, Nat.add_zero] at hx12_3); have hf12_3 := hfr12 3; (try simp only [show (k40).sz = 6 from rfl, Nat.mul_one, Nat.add_zero] at hf12_3); have hx12_4 := hcc12 4 _ rfl; (try simp only [show (k40).sz = 6 from rfl, Nat.mul_one, Nat.add_zero] at hx12_4); have hf12_4 := hfr12 4; (try simp only [show (k40).sz = 6 from rfl, Nat.mul_one, Nat.add_zero] at hf12_4); have hx12_5 := hcc12 5 _ rfl; (try simp only [show (k40).sz = 6 from rfl, Nat.mul_one, Nat.add_zero] at hx12_5); have hf12_5 := hfr12 5; (try simp only [show (k40).sz = 6 from rfl, Nat.mul_one, Nat.add_zero] at hf12_5); clear hcl12 hcc12 hfr12 hM12 hoki12 hH12) | ((with_reducible refine gate_store (t := 40) (p := 21) rfl ?_); refine store_event (t := 40) (p := 21) (v := ?vo_w13) (w1 := ((((((w11.setCell ⟨go10, (x4_1 : Int).toNat * 6, none⟩ (.int .i64 t289)).setCell ⟨go10, (x4_1 : Int).toNat * 6 + 1, none⟩ (.int .i64 t290)).setCell ⟨go10, (x4_1 : Int).toNat * 6 + 2, none⟩ (.int .i64 t291)).setCell ⟨go10, (x4_1 : Int).toNat * 6 + 3, none⟩ (v293)).setCell ⟨go10, (x4_1 : Int).toNat * 6 + 4, none⟩ (v296)).setCell ⟨go10, (x4_1 : Int).toNat * 6 + 5, none⟩ (v299))) ?hg ?ho ?hn ?hr ?_; (case ho => rfl); (case hg => rfl); (case hn => rfl); (case hr => have hs_v293 := fun (a_ : Addr) (m_ : Go.Mode) (W_ : World) => run_store Try.prog W_ a_ v293 m_ (by obtain ⟨A_, c_, e_⟩ := Kd.R_slice HO294.out; rw [e_]; rfl); have hs_v296 := fun (a_ : Addr) (m_ : Go.Mode) (W_ : World) => run_store Try.prog W_ a_ v296 m_ (by obtain ⟨A_, c_, e_⟩ := Kd.R_slice HO297.out; rw [e_]; rfl); have hs_v299 := fun (a_ : Addr) (m_ : Go.Mode) (W_ : World) => run_store Try.prog W_ a_ v299 m_ (by obtain ⟨A_, c_, e_⟩ := Kd.R_slice HO300.out; rw [e_]; rfl); first | (go_simp; done) | (go_simp; rfl)); intro w13 hw; have hg : w11.grownBy w13 (some go10) := (by rw [hw]; exact HP12.2); have hp_ : Kd.S k40 40 w13 w.heap.size (fun _ => True) (.slice (some ⟨go10, 0, none⟩) x3_1.length co10) y301 := (by rw [hw, Ny301.out]; exact HP12.1); clear HP12; replace HO_3 := Aside0.mk (hp_); replace HB := Aside0.mk ((by rw [hw]; exact below_set (below_set (below_set (below_set (below_set (below_set (HB.out) GB10.out) GB10.out) GB10.out) GB10.out) GB10.out) GB10.out : Below w.heap.size w w13)); clear HO294; clear HO297; clear HO300; clear hg hw hp_))
        go_roundg k1
        case measure => have := HK1.out; omega
        case rel => exact ⟨(y301), (wrap64 (x4_1 + 1)), oS, H', ⟨by have := HK1.out; omega⟩, ⟨by (with_reducible repeat (first | apply Kd.S_alloc | apply Kd.S_drewN | apply Kd.S_drew)); exact HO_3.out⟩, ⟨oB⟩⟩
       ·cases H
      ·cases H
     ·obtain rfl := Option.some.inj H
      go_wp2
      go_ret
      exact ⟨_, oE, by (with_reducible repeat (first | apply Kd.S_alloc | apply Kd.S_drewN | apply Kd.S_drew)); exact HO_3.out, oB⟩
  ·rw [if_neg c3] at H
   exact absurd H (by simp)
 ·rw [if_neg c2] at H
  exact absurd H (by simp)

/-! ### laws_toTab: function 10 -/
def laws_toTab.f (k : Nat) (l0_0 : List (S29)) (a0_1 : Int) : Option ((List (S40)) × Int) := (laws_toInodeS.f k l0_0).bind fun t305 => (some (t305, a0_1))
set_option maxHeartbeats 8000000 in
set_option maxRecDepth 100000 in
theorem laws_toTab.calls (k : Nat) (A0_0 : Option Addr) (c0_0 : Nat) (l0_0 : List (S29)) (a0_1 : Int) (r1 : List (S40)) (r2 : Int) (w : World) (hr0_0 : Kd.C k29 w A0_0 l0_0.length l0_0) (hc0_0 : l0_0.length ≤ c0_0) (h : laws_toTab.f k l0_0 a0_1 = some (r1, r2)) :
  Calls Try.prog 10 #[.agg #[.slice A0_0 l0_0.length c0_0, .int .i64 a0_1]] w fun e w' => ∃ v0_ : Value, e = .returned (.agg #[v0_, .int .i64 r2]) ∧ Kd.S k40 40 w' w.heap.size (fun _ => True) v0_ r1 ∧ Below w.heap.size w w' := by
 have hu24 := Try.underlying24
 have hu34 := Try.underlying34
 have HR0_0 := Aside0.mk hr0_0
 have HC0_0 := Aside0.mk hc0_0
 clear hr0_0 hc0_0
 have HB := Aside0.mk (Below.refl w.heap.size w)
 unfold laws_toTab.f at h
 have H := h
 clear h
 replace H := bA H
 obtain ⟨t305, A2, H⟩ := H
 try dsimp only at H
 simp only [Option.some.injEq, Prod.mk.injEq] at H
 obtain ⟨rfl, rfl⟩ := H
 go_enter Try.func10, Try.ntmps10
 go_wp2_with (first | ((with_reducible refine gate_dst (N := 1) rfl ?_); refine bx_ 1 #[.slice A0_0 l0_0.length c0_0, .int .i64 a0_1] 24 ?_; intro gb302 hg w3 hbox hb; have BK302 := Aside0.mk (hbox); have GW302 := gs_ hg; have GE302 := gs_ hg; replace HB := Aside0.mk (below_step oB hb); clear hb hbox hg) | ((with_reducible refine gate_dst (N := 2) rfl ?_); refine bx_ 2 #[.slice none 0 0, .int .i64 0] 34 ?_; intro gb303 hg w4 hbox hb; have BK303 := Aside0.mk (hbox); have GW303 := gs_ hg; have GE303 := gs_ hg; have NB302_303 := nl_ hg BK302; have NB303_302 := nr_ hg BK302; replace BK302 := kb_ BK302 hb; replace HB := Aside0.mk (below_step oB hb); clear hb hbox hg) | ((with_reducible refine gate_dst (N := 3) rfl ?_); refine bx_ 3 #[.slice none 0 0, .int .i64 0] 34 ?_; intro gb304 hg w5 hbox hb; have BK304 := Aside0.mk (hbox); have GW304 := gs_ hg; have GE304 := gs_ hg; have NB302_304 := nl_ hg BK302; have NB304_302 := nr_ hg BK302; have NB303_304 := nl_ hg BK303; have NB304_303 := nr_ hg BK303; replace BK302 := kb_ BK302 hb; replace BK303 := kb_ BK303 hb; replace HB := Aside0.mk (below_step oB hb); clear hb hbox hg; have hnb6 := NB302_303.out; have hnc6 := NB303_302.out; have hnb7 := NB302_304.out; have hnc7 := NB304_302.out; obtain ⟨⟨_, _⟩, _, _⟩ := z2 BK302) | ((with_reducible refine gate_callee (f := 38) rfl ?_); refine gl_ 6 Try.func38 (laws_toInodeS.calls k _ _ l0_0 t305 _ (kC HR0_0) HC0_0.out A2.out) ?_; rintro e w9 ⟨v306, rfl, ho0, hb⟩; refine ⟨_, rfl, ?_⟩; have HO307 := Aside0.mk (Kd.S_lower ho0 (below_size oB)); replace BK302 := kb_ BK302 hb; replace BK303 := kb_ BK303 hb; replace BK304 := kb_ BK304 hb; replace HB := Aside0.mk (below_step oB hb); obtain ⟨Ao10, co10, eo10⟩ := Kd.S_slice HO307.out; subst eo10; have hnb11 := NB304_303.out; have hnc11 := NB303_304.out; obtain ⟨⟨_, _⟩, _, _⟩ := z2 BK304; obtain ⟨⟨_, _⟩, _, _⟩ := z2 BK302; obtain ⟨⟨_, _⟩, _, _⟩ := z2 BK303))
 refine bodyPost_ret (results_cell_row rfl _ _ gb303 34 #[.slice Ao10 t305.length co10, .int .i64 a0_1] (0, 0) _ rfl (by (with_reducible repeat (first | refine blk_drewN ?_ _ | refine blk_drew ?_ | refine blk_alloc ?_ _)); refine blk_put (cs := #[.slice Ao10 t305.length co10, .int .i64 0]) ?_ 1 _ rfl; (with_reducible repeat (first | refine blk_drewN ?_ _ | refine blk_drew ?_ | refine blk_alloc ?_ _)); refine blk_put (cs := #[.slice none 0 0, .int .i64 0]) ?_ 0 _ rfl; (with_reducible repeat (first | refine blk_drewN ?_ _ | refine blk_drew ?_ | refine blk_alloc ?_ _)); refine blk_far ?_ NB303_304.out _; (with_reducible repeat (first | refine blk_drewN ?_ _ | refine blk_drew ?_ | refine blk_alloc ?_ _)); refine blk_far ?_ NB303_304.out _; (with_reducible repeat (first | refine blk_drewN ?_ _ | refine blk_drew ?_ | refine blk_alloc ?_ _)); exact BK303.out) Try.underlying34 rfl (by kernel_rfl)) rfl ?_
 exact ⟨_, oE, by (with_reducible repeat (first | apply Kd.S_alloc | apply Kd.S_drewN | apply Kd.S_drew)); exact Kd.S_mono (Kd.S_far (p := ⟨gb303, 1, none⟩) (Kd.S_far (p := ⟨gb303, 0, none⟩) (Kd.S_far (p := ⟨gb304, 1, none⟩) (Kd.S_far (p := ⟨gb304, 0, none⟩) (Kd.S_types (Kd.S_types HO307.out BK304.out (by decide)) BK303.out (by decide)) (fun _ hk => hk.1.2) (.slice Ao10 t305.length co10)) (fun _ hk => hk.1.2) (.int .i64 a0_1)) (fun _ hk => hk.2) (.slice Ao10 t305.length co10)) (fun _ hk => hk.2) (.int .i64 a0_1)) (fun _ hk => trivial), oB⟩

/-! ### slices_Clone_byte_byte: function 77 -/
def slices_Clone_byte_byte.f (l0 : List Int) : Option (List Int) := (some (([] : List Int) : List Int)).bind fun y308 => (if y308.length + l0.length < 140737488355328 then (some (y308 ++ l0)) else (none))
set_option maxHeartbeats 8000000 in
set_option maxRecDepth 100000 in
theorem slices_Clone_byte_byte.calls_some (a0_ : Addr) (c0 : Nat) (l0 : List Int) (r : List Int) (w : World) (hr0 : Kd.C (Kd.int .u8) w (some a0_) l0.length l0) (hc0 : l0.length ≤ c0) (h : slices_Clone_byte_byte.f l0 = some r) :
  Calls Try.prog 77 #[.slice (some a0_) l0.length c0] w fun e w' => ∃ v0_ : Value, e = .returned (v0_) ∧ Kd.R (Kd.int .u8) 5 w' w.heap.size (fun _ => True) v0_ r ∧ Below w.heap.size w w' := by
 have HR0 := Aside0.mk hr0
 have HC0 := Aside0.mk hc0
 clear hr0 hc0
 have HB := Aside0.mk (Below.refl w.heap.size w)
 unfold slices_Clone_byte_byte.f at h
 have H := h
 clear h
 obtain ⟨y308, hy308⟩ : ∃ y_ : List Int, y_ = (([] : List Int)) := ⟨_, rfl⟩
 replace H : (if y308.length + l0.length < 140737488355328 then (some (y308 ++ l0)) else (none)) = some r := by first | (rw [hy308]; with_reducible exact H) | (have H2_ := (Option.bind_some _ _).symm.trans H; rw [hy308]; with_reducible exact H2_) | (have H2_ := (Option.bind_some _ _).symm.trans H; with_reducible exact H2_) | with_reducible exact H | (rw [hy308]; exact H) | exact H
 have Ny308 := Aside0.mk hy308
 clear hy308
 by_cases c2 : y308.length + l0.length < 140737488355328
 ·rw [if_pos c2] at H
  have LMc2 := Aside0.mk c2
  clear c2
  obtain ⟨y311, hy311⟩ : ∃ y_ : List Int, y_ = (y308 ++ l0) := ⟨_, rfl⟩
  replace H : (some y311) = some r := by first | (rw [hy311]; with_reducible exact H) | (have H2_ := (Option.bind_some _ _).symm.trans H; rw [hy311]; with_reducible exact H2_) | (have H2_ := (Option.bind_some _ _).symm.trans H; with_reducible exact H2_) | with_reducible exact H | (rw [hy311]; exact H) | exact H
  have Ny311 := Aside0.mk hy311
  clear hy311
  obtain rfl := Option.some.inj H
  have hq_ := Lib.run_eql_slice_nil (P := Try.prog) w 25 5 (some a0_) l0.length c0 0 0 (by kernel_rfl)
  go_enter Try.func77, Try.ntmps77
  go_wp2_with (first | ((with_reducible refine gate_dst (N := 5) rfl ?_); refine Kd.R_lit (Kd.int .u8) _ 5 ?hg (N := 5) ?hd (xs := ([] : List Int)) (inner := []) (ok := fun _ => True) (okp := fun _ => True) ?hr ?hp (fun _ hk => hk) trivial (Below.refl _ _) (Nat.le_refl _) (by simp) ?_; (case hd => rfl); (case hg => rfl); (case hr => first | (go_simp; done) | (go_simp; rfl)); (case hp => exact (Reps.none _ _)); intro v309 w3 ho4 hb hg_ hnew_; clear hg_ hnew_; (first | rw [← Ny308.out] at ho4 | (simp only [Int.reduceToNat] at ho4; rw [← Ny308.out] at ho4)); have HO310 := Aside0.mk (Kd.R_lower ho4 (below_size oB)); replace HB := Aside0.mk (below_step oB hb); clear hb ho4) | ((with_reducible refine gate_builtin (b := .append) (xs := #[.tmp 5, .tmp 6]) rfl ?_); at_builtin; refine Kd.R_append_rows (Kd.int .u8) (w0 := w) w.heap.size rfl (.tmp 5) (.tmp 6) 25 5 (.int .u8 0) 1 rfl Try.underlying25 info5 rfl (by decide) (by omega) v309 y308 l0 _ _ _ (fun _ => True) (fun _ => False) rfl rfl ?aO ?aR (fun _ _ h => h) (fun _ h => h.elim) ?aF ?aB ?aS ?aL ?_; (case aR => repeat (first | exact (Kd.C_below HR0.out HB.out) | (with_reducible refine Kd.C_alloc ?_ _) | (with_reducible refine Kd.C_drewN ?_ _) | (with_reducible refine Kd.C_drew ?_))); (case aB => exact oB); (case aF => exact (fun _ _ => trivial)); (case aO => exact (oR HO310)); (case aS => exact (below_size oB)); (case aL => have := LMc2.out; omega); intro v312 w5 ho hb hg hat; rw [← Ny311.out] at ho; have HO313 := Aside0.mk (ho); replace HB := Aside0.mk (hb); clear HO310; clear ho hb hg hat))
  go_ret
  exact ⟨_, oE, oR HO313, oB⟩
 ·rw [if_neg c2] at H
  exact absurd H (by simp)

set_option maxHeartbeats 8000000 in
set_option maxRecDepth 100000 in
theorem slices_Clone_byte_byte.calls (A0 : Option Addr) (c0 : Nat) (l0 : List Int) (r : List Int) (w : World) (hr0 : Kd.C (Kd.int .u8) w A0 l0.length l0) (hc0 : l0.length ≤ c0) (h : slices_Clone_byte_byte.f l0 = some r) :
  Calls Try.prog 77 #[.slice A0 l0.length c0] w fun e w' => ∃ v0_ : Value, e = .returned (v0_) ∧ Kd.R (Kd.int .u8) 5 w' w.heap.size (fun _ => True) v0_ r ∧ Below w.heap.size w w' := by
 rcases A0 with _ | a0_
 ·have hl_ : l0 = [] := by
   rcases Nat.eq_zero_or_pos l0.length with hz_ | hz_
   ·exact List.eq_nil_of_length_eq_zero hz_
   ·obtain ⟨ad_, he_, _⟩ := hr0.2.2 hz_
    cases he_
  subst hl_
  obtain rfl : r = [] := by
   simp [slices_Clone_byte_byte.f] at h
   exact h
  have hq_ := Lib.run_eql_slice_nil (P := Try.prog) w 25 5 none 0 c0 0 0 (by kernel_rfl)
  go_enter Try.func77, Try.ntmps77
  go_wp2
  go_ret
  exact ⟨_, rfl, Kd.R_nil _ _ _ _ _, Below.refl _ _⟩
 ·exact slices_Clone_byte_byte.calls_some a0_ c0 l0 r w hr0 hc0 h

/-! ### slices_Clone_Ent: function 78 -/
def slices_Clone_Ent.f (l0 : List (S82)) : Option ((List (S82))) := (some (([] : List (S82)) : List (S82))).bind fun y314 => (if y314.length + l0.length < 5864062014805 then (some (y314 ++ l0)) else (none))
set_option maxHeartbeats 8000000 in
set_option maxRecDepth 100000 in
theorem slices_Clone_Ent.calls_some (a0_ : Addr) (c0 : Nat) (l0 : List (S82)) (r : List (S82)) (w : World) (hr0 : Kd.C k82 w (some a0_) l0.length l0) (hc0 : l0.length ≤ c0) (h : slices_Clone_Ent.f l0 = some r) :
  Calls Try.prog 78 #[.slice (some a0_) l0.length c0] w fun e w' => ∃ v0_ : Value, e = .returned (v0_) ∧ Kd.R k82 82 w' w.heap.size (fun _ => True) v0_ r ∧ Below w.heap.size w w' := by
 have HR0 := Aside0.mk hr0
 have HC0 := Aside0.mk hc0
 clear hr0 hc0
 have HB := Aside0.mk (Below.refl w.heap.size w)
 unfold slices_Clone_Ent.f at h
 have H := h
 clear h
 obtain ⟨y314, hy314⟩ : ∃ y_ : List (S82), y_ = (([] : List (S82))) := ⟨_, rfl⟩
 replace H : (if y314.length + l0.length < 5864062014805 then (some (y314 ++ l0)) else (none)) = some r := by first | (rw [hy314]; with_reducible exact H) | (have H2_ := (Option.bind_some _ _).symm.trans H; rw [hy314]; with_reducible exact H2_) | (have H2_ := (Option.bind_some _ _).symm.trans H; with_reducible exact H2_) | with_reducible exact H | (rw [hy314]; exact H) | exact H
 have Ny314 := Aside0.mk hy314
 clear hy314
 by_cases c2 : y314.length + l0.length < 5864062014805
 ·rw [if_pos c2] at H
  have LMc2 := Aside0.mk c2
  clear c2
  obtain ⟨y317, hy317⟩ : ∃ y_ : List (S82), y_ = (y314 ++ l0) := ⟨_, rfl⟩
  replace H : (some y317) = some r := by first | (rw [hy317]; with_reducible exact H) | (have H2_ := (Option.bind_some _ _).symm.trans H; rw [hy317]; with_reducible exact H2_) | (have H2_ := (Option.bind_some _ _).symm.trans H; with_reducible exact H2_) | with_reducible exact H | (rw [hy317]; exact H) | exact H
  have Ny317 := Aside0.mk hy317
  clear hy317
  obtain rfl := Option.some.inj H
  have hq_ := Lib.run_eql_slice_nil (P := Try.prog) w 37 82 (some a0_) l0.length c0 0 0 (by kernel_rfl)
  go_enter Try.func78, Try.ntmps78
  go_wp2_with (first | ((with_reducible refine gate_dst (N := 5) rfl ?_); refine Kd.R_lit k82 _ 82 ?hg (N := 5) ?hd (xs := ([] : List (S82))) (inner := []) (ok := fun _ => True) (okp := fun _ => True) ?hr ?hp (fun _ hk => hk) trivial (Below.refl _ _) (Nat.le_refl _) (by simp) ?_; (case hd => rfl); (case hg => rfl); (case hr => first | (go_simp; done) | (go_simp; rfl)); (case hp => exact (Reps.none _ _)); intro v315 w3 ho4 hb hg_ hnew_; clear hg_ hnew_; (first | rw [← Ny314.out] at ho4 | (simp only [Int.reduceToNat] at ho4; rw [← Ny314.out] at ho4)); have HO316 := Aside0.mk (Kd.R_lower ho4 (below_size oB)); replace HB := Aside0.mk (below_step oB hb); clear hb ho4) | ((with_reducible refine gate_builtin (b := .append) (xs := #[.tmp 5, .tmp 6]) rfl ?_); at_builtin; refine Kd.R_append_rows k82 (w0 := w) w.heap.size rfl (.tmp 5) (.tmp 6) 37 82 (.agg #[(.string ⟨#[]⟩), (.int .i64 0)]) 24 rfl Try.underlying37 info82 rfl (by decide) (by omega) v315 y314 l0 _ _ _ (fun _ => True) (fun _ => False) rfl rfl ?aO ?aR (fun _ _ h => h) (fun _ h => h.elim) ?aF ?aB ?aS ?aL ?_; (case aR => repeat (first | exact (Kd.C_below HR0.out HB.out) | (with_reducible refine Kd.C_alloc ?_ _) | (with_reducible refine Kd.C_drewN ?_ _) | (with_reducible refine Kd.C_drew ?_))); (case aB => exact oB); (case aF => exact (fun _ _ => trivial)); (case aO => exact (oR HO316)); (case aS => exact (below_size oB)); (case aL => have := LMc2.out; omega); intro v318 w5 ho hb hg hat; rw [← Ny317.out] at ho; have HO319 := Aside0.mk (ho); replace HB := Aside0.mk (hb); clear HO316; clear ho hb hg hat))
  go_ret
  exact ⟨_, oE, oR HO319, oB⟩
 ·rw [if_neg c2] at H
  exact absurd H (by simp)

set_option maxHeartbeats 8000000 in
set_option maxRecDepth 100000 in
theorem slices_Clone_Ent.calls (A0 : Option Addr) (c0 : Nat) (l0 : List (S82)) (r : List (S82)) (w : World) (hr0 : Kd.C k82 w A0 l0.length l0) (hc0 : l0.length ≤ c0) (h : slices_Clone_Ent.f l0 = some r) :
  Calls Try.prog 78 #[.slice A0 l0.length c0] w fun e w' => ∃ v0_ : Value, e = .returned (v0_) ∧ Kd.R k82 82 w' w.heap.size (fun _ => True) v0_ r ∧ Below w.heap.size w w' := by
 rcases A0 with _ | a0_
 ·have hl_ : l0 = [] := by
   rcases Nat.eq_zero_or_pos l0.length with hz_ | hz_
   ·exact List.eq_nil_of_length_eq_zero hz_
   ·obtain ⟨ad_, he_, _⟩ := hr0.2.2 hz_
    cases he_
  subst hl_
  obtain rfl : r = [] := by
   simp [slices_Clone_Ent.f] at h
   exact h
  have hq_ := Lib.run_eql_slice_nil (P := Try.prog) w 37 82 none 0 c0 0 0 (by kernel_rfl)
  go_enter Try.func78, Try.ntmps78
  go_wp2
  go_ret
  exact ⟨_, rfl, Kd.R_nil _ _ _ _ _, Below.refl _ _⟩
 ·exact slices_Clone_Ent.calls_some a0_ c0 l0 r w hr0 hc0 h

/-! ### slices_Clone_Attr: function 79 -/
def slices_Clone_Attr.f (l0 : List (S90)) : Option ((List (S90))) := (some (([] : List (S90)) : List (S90))).bind fun y320 => (if y320.length + l0.length < 4398046511104 then (some (y320 ++ l0)) else (none))
set_option maxHeartbeats 8000000 in
set_option maxRecDepth 100000 in
theorem slices_Clone_Attr.calls_some (a0_ : Addr) (c0 : Nat) (l0 : List (S90)) (r : List (S90)) (w : World) (hr0 : Kd.C k90 w (some a0_) l0.length l0) (hc0 : l0.length ≤ c0) (h : slices_Clone_Attr.f l0 = some r) :
  Calls Try.prog 79 #[.slice (some a0_) l0.length c0] w fun e w' => ∃ v0_ : Value, e = .returned (v0_) ∧ Kd.R k90 90 w' w.heap.size (fun _ => True) v0_ r ∧ Below w.heap.size w w' := by
 have HR0 := Aside0.mk hr0
 have HC0 := Aside0.mk hc0
 clear hr0 hc0
 have HB := Aside0.mk (Below.refl w.heap.size w)
 unfold slices_Clone_Attr.f at h
 have H := h
 clear h
 obtain ⟨y320, hy320⟩ : ∃ y_ : List (S90), y_ = (([] : List (S90))) := ⟨_, rfl⟩
 replace H : (if y320.length + l0.length < 4398046511104 then (some (y320 ++ l0)) else (none)) = some r := by first | (rw [hy320]; with_reducible exact H) | (have H2_ := (Option.bind_some _ _).symm.trans H; rw [hy320]; with_reducible exact H2_) | (have H2_ := (Option.bind_some _ _).symm.trans H; with_reducible exact H2_) | with_reducible exact H | (rw [hy320]; exact H) | exact H
 have Ny320 := Aside0.mk hy320
 clear hy320
 by_cases c2 : y320.length + l0.length < 4398046511104
 ·rw [if_pos c2] at H
  have LMc2 := Aside0.mk c2
  clear c2
  obtain ⟨y323, hy323⟩ : ∃ y_ : List (S90), y_ = (y320 ++ l0) := ⟨_, rfl⟩
  replace H : (some y323) = some r := by first | (rw [hy323]; with_reducible exact H) | (have H2_ := (Option.bind_some _ _).symm.trans H; rw [hy323]; with_reducible exact H2_) | (have H2_ := (Option.bind_some _ _).symm.trans H; with_reducible exact H2_) | with_reducible exact H | (rw [hy323]; exact H) | exact H
  have Ny323 := Aside0.mk hy323
  clear hy323
  obtain rfl := Option.some.inj H
  have hq_ := Lib.run_eql_slice_nil (P := Try.prog) w 38 90 (some a0_) l0.length c0 0 0 (by kernel_rfl)
  go_enter Try.func79, Try.ntmps79
  go_wp2_with (first | ((with_reducible refine gate_dst (N := 5) rfl ?_); refine Kd.R_lit k90 _ 90 ?hg (N := 5) ?hd (xs := ([] : List (S90))) (inner := []) (ok := fun _ => True) (okp := fun _ => True) ?hr ?hp (fun _ hk => hk) trivial (Below.refl _ _) (Nat.le_refl _) (by simp) ?_; (case hd => rfl); (case hg => rfl); (case hr => first | (go_simp; done) | (go_simp; rfl)); (case hp => exact (Reps.none _ _)); intro v321 w3 ho4 hb hg_ hnew_; clear hg_ hnew_; (first | rw [← Ny320.out] at ho4 | (simp only [Int.reduceToNat] at ho4; rw [← Ny320.out] at ho4)); have HO322 := Aside0.mk (Kd.R_lower ho4 (below_size oB)); replace HB := Aside0.mk (below_step oB hb); clear hb ho4) | ((with_reducible refine gate_builtin (b := .append) (xs := #[.tmp 5, .tmp 6]) rfl ?_); at_builtin; refine Kd.R_append_rows k90 (w0 := w) w.heap.size rfl (.tmp 5) (.tmp 6) 38 90 (.agg #[(.string ⟨#[]⟩), (.string ⟨#[]⟩)]) 32 rfl Try.underlying38 info90 rfl (by decide) (by omega) v321 y320 l0 _ _ _ (fun _ => True) (fun _ => False) rfl rfl ?aO ?aR (fun _ _ h => h) (fun _ h => h.elim) ?aF ?aB ?aS ?aL ?_; (case aR => repeat (first | exact (Kd.C_below HR0.out HB.out) | (with_reducible refine Kd.C_alloc ?_ _) | (with_reducible refine Kd.C_drewN ?_ _) | (with_reducible refine Kd.C_drew ?_))); (case aB => exact oB); (case aF => exact (fun _ _ => trivial)); (case aO => exact (oR HO322)); (case aS => exact (below_size oB)); (case aL => have := LMc2.out; omega); intro v324 w5 ho hb hg hat; rw [← Ny323.out] at ho; have HO325 := Aside0.mk (ho); replace HB := Aside0.mk (hb); clear HO322; clear ho hb hg hat))
  go_ret
  exact ⟨_, oE, oR HO325, oB⟩
 ·rw [if_neg c2] at H
  exact absurd H (by simp)

set_option maxHeartbeats 8000000 in
set_option maxRecDepth 100000 in
theorem slices_Clone_Attr.calls (A0 : Option Addr) (c0 : Nat) (l0 : List (S90)) (r : List (S90)) (w : World) (hr0 : Kd.C k90 w A0 l0.length l0) (hc0 : l0.length ≤ c0) (h : slices_Clone_Attr.f l0 = some r) :
  Calls Try.prog 79 #[.slice A0 l0.length c0] w fun e w' => ∃ v0_ : Value, e = .returned (v0_) ∧ Kd.R k90 90 w' w.heap.size (fun _ => True) v0_ r ∧ Below w.heap.size w w' := by
 rcases A0 with _ | a0_
 ·have hl_ : l0 = [] := by
   rcases Nat.eq_zero_or_pos l0.length with hz_ | hz_
   ·exact List.eq_nil_of_length_eq_zero hz_
   ·obtain ⟨ad_, he_, _⟩ := hr0.2.2 hz_
    cases he_
  subst hl_
  obtain rfl : r = [] := by
   simp [slices_Clone_Attr.f] at h
   exact h
  have hq_ := Lib.run_eql_slice_nil (P := Try.prog) w 38 90 none 0 c0 0 0 (by kernel_rfl)
  go_enter Try.func79, Try.ntmps79
  go_wp2
  go_ret
  exact ⟨_, rfl, Kd.R_nil _ _ _ _ _, Below.refl _ _⟩
 ·exact slices_Clone_Attr.calls_some a0_ c0 l0 r w hr0 hc0 h

/-! ### impl_copyInode: function 43 -/
def impl_copyInode.f (a0_0 : Int) (a0_1 : Int) (a0_2 : Int) (l0_3 : List Int) (l0_4 : List (S82)) (l0_5 : List (S90)) : Option (Int × Int × Int × List Int × (List (S82)) × (List (S90))) := (slices_Clone_byte_byte.f l0_3).bind fun t328 => ((slices_Clone_Ent.f l0_4).bind fun t331 => ((slices_Clone_Attr.f l0_5).bind fun t334 => (some (a0_0, a0_1, a0_2, t328, t331, t334))))
set_option maxHeartbeats 8000000 in
set_option maxRecDepth 100000 in
theorem impl_copyInode.calls (a0_0 : Int) (a0_1 : Int) (a0_2 : Int) (A0_3 : Option Addr) (c0_3 : Nat) (l0_3 : List Int) (A0_4 : Option Addr) (c0_4 : Nat) (l0_4 : List (S82)) (A0_5 : Option Addr) (c0_5 : Nat) (l0_5 : List (S90)) (r1 : Int) (r2 : Int) (r3 : Int) (r4 : List Int) (r5 : List (S82)) (r6 : List (S90)) (w : World) (hr0_3 : Kd.C (Kd.int .u8) w A0_3 l0_3.length l0_3) (hc0_3 : l0_3.length ≤ c0_3) (hr0_4 : Kd.C k82 w A0_4 l0_4.length l0_4) (hc0_4 : l0_4.length ≤ c0_4) (hr0_5 : Kd.C k90 w A0_5 l0_5.length l0_5) (hc0_5 : l0_5.length ≤ c0_5) (h : impl_copyInode.f a0_0 a0_1 a0_2 l0_3 l0_4 l0_5 = some (r1, r2, r3, r4, r5, r6)) :
  Calls Try.prog 43 #[.agg #[.int .i64 a0_0, .int .i64 a0_1, .int .i64 a0_2, .slice A0_3 l0_3.length c0_3, .slice A0_4 l0_4.length c0_4, .slice A0_5 l0_5.length c0_5]] w fun e w' => ∃ v3_ v4_ v5_ : Value, e = .returned (.agg #[.int .i64 r1, .int .i64 r2, .int .i64 r3, v3_, v4_, v5_]) ∧ Kd.R (Kd.int .u8) 5 w' w.heap.size (fun _ => True) v3_ r4 ∧ Kd.R k82 82 w' w.heap.size (fun _ => True) v4_ r5 ∧ Kd.R k90 90 w' w.heap.size (fun _ => True) v5_ r6 ∧ Below w.heap.size w w' := by
 have hu40 := Try.underlying40
 have HR0_3 := Aside0.mk hr0_3
 have HC0_3 := Aside0.mk hc0_3
 clear hr0_3 hc0_3
 have HR0_4 := Aside0.mk hr0_4
 have HC0_4 := Aside0.mk hc0_4
 clear hr0_4 hc0_4
 have HR0_5 := Aside0.mk hr0_5
 have HC0_5 := Aside0.mk hc0_5
 clear hr0_5 hc0_5
 have HB := Aside0.mk (Below.refl w.heap.size w)
 unfold impl_copyInode.f at h
 have H := h
 clear h
 replace H := bA H
 obtain ⟨t328, A2, H⟩ := H
 try dsimp only at H
 replace H := bA H
 obtain ⟨t331, A3, H⟩ := H
 try dsimp only at H
 replace H := bA H
 obtain ⟨t334, A4, H⟩ := H
 try dsimp only at H
 simp only [Option.some.injEq, Prod.mk.injEq] at H
 obtain ⟨rfl, rfl, rfl, rfl, rfl, rfl⟩ := H
 go_enter Try.func43, Try.ntmps43
 go_wp2_with (first | ((with_reducible refine gate_dst (N := 1) rfl ?_); refine bx_ 1 #[.int .i64 a0_0, .int .i64 a0_1, .int .i64 a0_2, .slice A0_3 l0_3.length c0_3, .slice A0_4 l0_4.length c0_4, .slice A0_5 l0_5.length c0_5] 40 ?_; intro gb326 hg w5 hbox hb; have BK326 := Aside0.mk (hbox); have GW326 := gs_ hg; have GE326 := gs_ hg; replace HB := Aside0.mk (below_step oB hb); clear hb hbox hg) | ((with_reducible refine gate_dst (N := 2) rfl ?_); refine bx_ 2 #[.int .i64 0, .int .i64 0, .int .i64 0, .slice none 0 0, .slice none 0 0, .slice none 0 0] 40 ?_; intro gb327 hg w6 hbox hb; have BK327 := Aside0.mk (hbox); have GW327 := gs_ hg; have GE327 := gs_ hg; have NB326_327 := nl_ hg BK326; have NB327_326 := nr_ hg BK326; replace BK326 := kb_ BK326 hb; replace HB := Aside0.mk (below_step oB hb); clear hb hbox hg; have hnb7 := NB326_327.out; have hnc7 := NB327_326.out; obtain ⟨⟨_, _, _, _, _, _⟩, _, _, _, _, _, _⟩ := z6 BK326) | ((with_reducible refine gate_callee (f := 77) rfl ?_); refine gl_ 5 Try.func77 (slices_Clone_byte_byte.calls _ _ l0_3 t328 _ (kC HR0_3) HC0_3.out A2.out) ?_; rintro e w9 ⟨v329, rfl, ho0, hb⟩; refine ⟨_, rfl, ?_⟩; have HO330 := Aside0.mk (Kd.R_lower ho0 (below_size oB)); replace BK326 := kb_ BK326 hb; replace BK327 := kb_ BK327 hb; replace HB := Aside0.mk (below_step oB hb); obtain ⟨Ao10, co10, eo10⟩ := Kd.R_slice HO330.out; subst eo10; obtain ⟨⟨_, _, _, _, _, _⟩, _, _, _, _, _, _⟩ := z6 BK326) | ((with_reducible refine gate_callee (f := 78) rfl ?_); refine gl_ 9 Try.func78 (slices_Clone_Ent.calls _ _ l0_4 t331 _ ?side1 HC0_4.out A3.out) ?_; (case side1 => exact Kd.C_below HR0_4.out oB); rintro e w12 ⟨v332, rfl, ho0, hb⟩; refine ⟨_, rfl, ?_⟩; have HO333 := Aside0.mk (Kd.R_lower ho0 (below_size oB)); replace HO330 := Aside0.mk (Kd.R_below (by (with_reducible repeat (first | apply Kd.R_alloc | apply Kd.R_drewN | apply Kd.R_drew)); exact (Kd.R_mono (Kd.R_far (p := ⟨gb326, 3, none⟩) (Kd.R_types HO330.out BK326.out (by decide)) (fun _ hk => hk.2) (.slice Ao10 t328.length co10)) (fun _ h_ => h_.1))) hb); replace BK326 := Aside0.mk (blk_below (g := gb326) (o := .cells #[.int .i64 a0_0, .int .i64 a0_1, .int .i64 a0_2, .slice Ao10 t328.length co10, .slice A0_4 l0_4.length c0_4, .slice A0_5 l0_5.length c0_5] 40 (0, 0)) (by (with_reducible repeat (first | refine blk_drewN ?_ _ | refine blk_drew ?_ | refine blk_alloc ?_ _)); refine blk_put (cs := #[.int .i64 a0_0, .int .i64 a0_1, .int .i64 a0_2, .slice A0_3 l0_3.length c0_3, .slice A0_4 l0_4.length c0_4, .slice A0_5 l0_5.length c0_5]) ?_ 3 _ rfl; (with_reducible repeat (first | refine blk_drewN ?_ _ | refine blk_drew ?_ | refine blk_alloc ?_ _)); exact BK326.out) hb); replace BK327 := Aside0.mk (blk_below (g := gb327) (o := .cells #[.int .i64 0, .int .i64 0, .int .i64 0, .slice none 0 0, .slice none 0 0, .slice none 0 0] 40 (0, 0)) (by (with_reducible repeat (first | refine blk_drewN ?_ _ | refine blk_drew ?_ | refine blk_alloc ?_ _)); refine blk_far ?_ NB327_326.out _; (with_reducible repeat (first | refine blk_drewN ?_ _ | refine blk_drew ?_ | refine blk_alloc ?_ _)); exact BK327.out) hb); replace HB := Aside0.mk (below_step oB hb); (try clear hk); obtain ⟨Ao13, co13, eo13⟩ := Kd.R_slice HO333.out; subst eo13; obtain ⟨⟨_, _, _, _, _, _⟩, _, _, _, _, _, _⟩ := z6 BK326) | ((with_reducible refine gate_callee (f := 79) rfl ?_); refine gl_ 13 Try.func79 (slices_Clone_Attr.calls _ _ l0_5 t334 _ ?side1 HC0_5.out A4.out) ?_; (case side1 => exact Kd.C_below HR0_5.out oB); rintro e w15 ⟨v335, rfl, ho0, hb⟩; refine ⟨_, rfl, ?_⟩; have HO336 := Aside0.mk (Kd.R_lower ho0 (below_size oB)); replace HO330 := Aside0.mk (Kd.R_below (by (with_reducible repeat (first | apply Kd.R_alloc | apply Kd.R_drewN | apply Kd.R_drew)); exact (Kd.R_mono (Kd.R_far (p := ⟨gb326, 4, none⟩) (Kd.R_types HO330.out BK326.out (by decide)) (fun _ hk => hk.2) (.slice Ao13 t331.length co13)) (fun _ h_ => h_.1))) hb); replace HO333 := Aside0.mk (Kd.R_below (by (with_reducible repeat (first | apply Kd.R_alloc | apply Kd.R_drewN | apply Kd.R_drew)); exact (Kd.R_mono (Kd.R_far (p := ⟨gb326, 4, none⟩) (Kd.R_types HO333.out BK326.out (by decide)) (fun _ hk => hk.2) (.slice Ao13 t331.length co13)) (fun _ h_ => h_.1))) hb); replace BK326 := Aside0.mk (blk_below (g := gb326) (o := .cells #[.int .i64 a0_0, .int .i64 a0_1, .int .i64 a0_2, .slice Ao10 t328.length co10, .slice Ao13 t331.length co13, .slice A0_5 l0_5.length c0_5] 40 (0, 0)) (by (with_reducible repeat (first | refine blk_drewN ?_ _ | refine blk_drew ?_ | refine blk_alloc ?_ _)); refine blk_put (cs := #[.int .i64 a0_0, .int .i64 a0_1, .int .i64 a0_2, .slice Ao10 t328.length co10, .slice A0_4 l0_4.length c0_4, .slice A0_5 l0_5.length c0_5]) ?_ 4 _ rfl; (with_reducible repeat (first | refine blk_drewN ?_ _ | refine blk_drew ?_ | refine blk_alloc ?_ _)); exact BK326.out) hb); replace BK327 := Aside0.mk (blk_below (g := gb327) (o := .cells #[.int .i64 0, .int .i64 0, .int .i64 0, .slice none 0 0, .slice none 0 0, .slice none 0 0] 40 (0, 0)) (by (with_reducible repeat (first | refine blk_drewN ?_ _ | refine blk_drew ?_ | refine blk_alloc ?_ _)); refine blk_far ?_ NB327_326.out _; (with_reducible repeat (first | refine blk_drewN ?_ _ | refine blk_drew ?_ | refine blk_alloc ?_ _)); exact BK327.out) hb); replace HB := Aside0.mk (below_step oB hb); (try clear hk); obtain ⟨Ao16, co16, eo16⟩ := Kd.R_slice HO336.out; subst eo16; obtain ⟨⟨_, _, _, _, _, _⟩, _, _, _, _, _, _⟩ := z6 BK326; obtain ⟨⟨_, _, _, _, _, _⟩, _, _, _, _, _, _⟩ := z6 BK327))
 refine bodyPost_ret (results_cell_row rfl _ _ gb327 40 #[.int .i64 a0_0, .int .i64 a0_1, .int .i64 a0_2, .slice Ao10 t328.length co10, .slice Ao13 t331.length co13, .slice Ao16 t334.length co16] (0, 0) _ rfl (by (with_reducible repeat (first | refine blk_drewN ?_ _ | refine blk_drew ?_ | refine blk_alloc ?_ _)); refine blk_put (cs := #[.int .i64 a0_0, .int .i64 a0_1, .int .i64 a0_2, .slice Ao10 t328.length co10, .slice Ao13 t331.length co13, .slice none 0 0]) ?_ 5 _ rfl; (with_reducible repeat (first | refine blk_drewN ?_ _ | refine blk_drew ?_ | refine blk_alloc ?_ _)); refine blk_put (cs := #[.int .i64 a0_0, .int .i64 a0_1, .int .i64 a0_2, .slice Ao10 t328.length co10, .slice none 0 0, .slice none 0 0]) ?_ 4 _ rfl; (with_reducible repeat (first | refine blk_drewN ?_ _ | refine blk_drew ?_ | refine blk_alloc ?_ _)); refine blk_put (cs := #[.int .i64 a0_0, .int .i64 a0_1, .int .i64 a0_2, .slice none 0 0, .slice none 0 0, .slice none 0 0]) ?_ 3 _ rfl; (with_reducible repeat (first | refine blk_drewN ?_ _ | refine blk_drew ?_ | refine blk_alloc ?_ _)); refine blk_put (cs := #[.int .i64 a0_0, .int .i64 a0_1, .int .i64 0, .slice none 0 0, .slice none 0 0, .slice none 0 0]) ?_ 2 _ rfl; (with_reducible repeat (first | refine blk_drewN ?_ _ | refine blk_drew ?_ | refine blk_alloc ?_ _)); refine blk_put (cs := #[.int .i64 a0_0, .int .i64 0, .int .i64 0, .slice none 0 0, .slice none 0 0, .slice none 0 0]) ?_ 1 _ rfl; (with_reducible repeat (first | refine blk_drewN ?_ _ | refine blk_drew ?_ | refine blk_alloc ?_ _)); refine blk_put (cs := #[.int .i64 0, .int .i64 0, .int .i64 0, .slice none 0 0, .slice none 0 0, .slice none 0 0]) ?_ 0 _ rfl; (with_reducible repeat (first | refine blk_drewN ?_ _ | refine blk_drew ?_ | refine blk_alloc ?_ _)); refine blk_far ?_ NB327_326.out _; (with_reducible repeat (first | refine blk_drewN ?_ _ | refine blk_drew ?_ | refine blk_alloc ?_ _)); exact BK327.out) Try.underlying40 rfl (by kernel_rfl)) rfl ?_
 exact ⟨_, _, _, oE, by (with_reducible repeat (first | apply Kd.R_alloc | apply Kd.R_drewN | apply Kd.R_drew)); exact Kd.R_mono (Kd.R_far (p := ⟨gb327, 5, none⟩) (Kd.R_far (p := ⟨gb327, 4, none⟩) (Kd.R_far (p := ⟨gb327, 3, none⟩) (Kd.R_far (p := ⟨gb327, 2, none⟩) (Kd.R_far (p := ⟨gb327, 1, none⟩) (Kd.R_far (p := ⟨gb327, 0, none⟩) (Kd.R_far (p := ⟨gb326, 5, none⟩) (Kd.R_types (Kd.R_types HO330.out BK326.out (by decide)) BK327.out (by decide)) (fun _ hk => hk.1.2) (.slice Ao16 t334.length co16)) (fun _ hk => hk.2) (.int .i64 a0_0)) (fun _ hk => hk.2) (.int .i64 a0_1)) (fun _ hk => hk.2) (.int .i64 a0_2)) (fun _ hk => hk.2) (.slice Ao10 t328.length co10)) (fun _ hk => hk.2) (.slice Ao13 t331.length co13)) (fun _ hk => hk.2) (.slice Ao16 t334.length co16)) (fun _ hk => trivial), by (with_reducible repeat (first | apply Kd.R_alloc | apply Kd.R_drewN | apply Kd.R_drew)); exact Kd.R_mono (Kd.R_far (p := ⟨gb327, 5, none⟩) (Kd.R_far (p := ⟨gb327, 4, none⟩) (Kd.R_far (p := ⟨gb327, 3, none⟩) (Kd.R_far (p := ⟨gb327, 2, none⟩) (Kd.R_far (p := ⟨gb327, 1, none⟩) (Kd.R_far (p := ⟨gb327, 0, none⟩) (Kd.R_far (p := ⟨gb326, 5, none⟩) (Kd.R_types (Kd.R_types HO333.out BK326.out (by decide)) BK327.out (by decide)) (fun _ hk => hk.1.2) (.slice Ao16 t334.length co16)) (fun _ hk => hk.2) (.int .i64 a0_0)) (fun _ hk => hk.2) (.int .i64 a0_1)) (fun _ hk => hk.2) (.int .i64 a0_2)) (fun _ hk => hk.2) (.slice Ao10 t328.length co10)) (fun _ hk => hk.2) (.slice Ao13 t331.length co13)) (fun _ hk => hk.2) (.slice Ao16 t334.length co16)) (fun _ hk => trivial), by (with_reducible repeat (first | apply Kd.R_alloc | apply Kd.R_drewN | apply Kd.R_drew)); exact Kd.R_mono (Kd.R_far (p := ⟨gb327, 5, none⟩) (Kd.R_far (p := ⟨gb327, 4, none⟩) (Kd.R_far (p := ⟨gb327, 3, none⟩) (Kd.R_far (p := ⟨gb327, 2, none⟩) (Kd.R_far (p := ⟨gb327, 1, none⟩) (Kd.R_far (p := ⟨gb327, 0, none⟩) (Kd.R_far (p := ⟨gb326, 5, none⟩) (Kd.R_types (Kd.R_types HO336.out BK326.out (by decide)) BK327.out (by decide)) (fun _ hk => hk.1.2) (.slice Ao16 t334.length co16)) (fun _ hk => hk.2) (.int .i64 a0_0)) (fun _ hk => hk.2) (.int .i64 a0_1)) (fun _ hk => hk.2) (.int .i64 a0_2)) (fun _ hk => hk.2) (.slice Ao10 t328.length co10)) (fun _ hk => hk.2) (.slice Ao13 t331.length co13)) (fun _ hk => hk.2) (.slice Ao16 t334.length co16)) (fun _ hk => trivial), oB⟩

/-! ### impl_copyTab: function 42 -/
def impl_copyTab.l0 : Nat → List (S40) → Int → Int → List (S40) → Int → Option ((List (S40)) × Int)
 | 0, _, _, _, _, _ => none
 | k + 1, x10, x11, x12, x340000, x340001 => if x12 < x11 then (if 0 ≤ x12 then (if x12 < (x10.length : Int) then ((impl_copyInode.f ((rd_T40 x10 x12).f0) ((rd_T40 x10 x12).f1) ((rd_T40 x10 x12).f2) ((rd_T40 x10 x12).f3) ((rd_T40 x10 x12).f4) ((rd_T40 x10 x12).f5)).bind fun bt342 => (if x340000.length < 1466015503701 then (impl_copyTab.l0 k x10 x11 (wrap64 (x12 + 1)) (x340000 ++ [(⟨bt342.1, bt342.2.1, bt342.2.2.1, bt342.2.2.2.1, bt342.2.2.2.2.1, bt342.2.2.2.2.2⟩ : S40)]) x340001) else (none))) else (none)) else (none)) else (some (x340000, x340001))
def impl_copyTab.f (k : Nat) (l0_0 : List (S40)) (a0_1 : Int) : Option ((List (S40)) × Int) := impl_copyTab.l0 k l0_0 (l0_0.length : Int) 0 ([] : List (S40)) a0_1
def impl_copyTab.T5 : Bool × List (List Nat × List Nat) := (true, [([], []), ([0], [0]), ([], []), ([2], [2]), ([3], [3]), ([1, 4, 3], [1, 4]), ([0, 1, 2, 3, 4, 5], []), ([6, 5, 5, 0, 1, 2, 3, 4, 5], [5, 6])])
def impl_copyTab.B5 : List Nat := [0, 1, 0, 4, 12, 31, 63, 127]
theorem impl_copyTab.tab5 : rtab .any (opsOf Try.f42 5) = impl_copyTab.T5 := by kernel_rfl
theorem impl_copyTab.bits5 : waitsOk impl_copyTab.T5.2 impl_copyTab.B5 = true := by kernel_rfl
set_option maxHeartbeats 8000000 in
set_option maxRecDepth 100000 in
theorem impl_copyTab.calls (k : Nat) (A0_0 : Option Addr) (c0_0 : Nat) (l0_0 : List (S40)) (a0_1 : Int) (r1 : List (S40)) (r2 : Int) (w : World) (hr0_0 : Kd.C k40 w A0_0 l0_0.length l0_0) (hc0_0 : l0_0.length ≤ c0_0) (h : impl_copyTab.f k l0_0 a0_1 = some (r1, r2)) :
  Calls Try.prog 42 #[.agg #[.slice A0_0 l0_0.length c0_0, .int .i64 a0_1]] w fun e w' => ∃ v0_ : Value, e = .returned (.agg #[v0_, .int .i64 r2]) ∧ Kd.S k40 40 w' w.heap.size (fun _ => True) v0_ r1 ∧ Below w.heap.size w w' := by
 have hu34 := Try.underlying34
 have hu40 := Try.underlying40
 have HR0_0 := Aside0.mk hr0_0
 have HC0_0 := Aside0.mk hc0_0
 clear hr0_0 hc0_0
 have HB := Aside0.mk (Below.refl w.heap.size w)
 unfold impl_copyTab.f at h
 have H := h
 clear h
 have H' := Aside0.mk H
 clear H
 go_enter Try.func42, Try.ntmps42
 go_wp2_with (first | ((with_reducible refine gate_dst (N := 1) rfl ?_); refine bx_ 1 #[.slice A0_0 l0_0.length c0_0, .int .i64 a0_1] 34 ?_; intro gb337 hg w2 hbox hb; have BK337 := Aside0.mk (hbox); have GW337 := gs_ hg; have GE337 := gs_ hg; replace HB := Aside0.mk (below_step oB hb); clear hb hbox hg) | ((with_reducible refine gate_dst (N := 2) rfl ?_); refine bx_ 2 #[.slice none 0 0, .int .i64 0] 34 ?_; intro gb338 hg w3 hbox hb; have BK338 := Aside0.mk (hbox); have GW338 := gs_ hg; have GE338 := gs_ hg; have NB337_338 := nl_ hg BK337; have NB338_337 := nr_ hg BK337; replace BK337 := kb_ BK337 hb; replace HB := Aside0.mk (below_step oB hb); clear hb hbox hg; have hnb4 := NB337_338.out; have hnc4 := NB338_337.out; obtain ⟨⟨_, _⟩, _, _⟩ := z2 BK337) | ((with_reducible refine gate_dst (N := 3) rfl ?_); refine bx_ 3 #[.slice none 0 0, .int .i64 0] 34 ?_; intro gb339 hg w6 hbox hb; have BK339 := Aside0.mk (hbox); have GW339 := gs_ hg; have GE339 := gs_ hg; have NB337_339 := nl_ hg BK337; have NB339_337 := nr_ hg BK337; have NB338_339 := nl_ hg BK338; have NB339_338 := nr_ hg BK338; replace BK337 := kb_ BK337 hb; replace BK338 := kb_ BK338 hb; replace HB := Aside0.mk (below_step oB hb); clear hb hbox hg; have hnb7 := NB339_337.out; have hnc7 := NB337_339.out; have hnb8 := NB339_338.out; have hnc8 := NB338_339.out; obtain ⟨⟨_, _⟩, _, _⟩ := z2 BK339; obtain ⟨⟨_, _⟩, _, _⟩ := z2 BK337))
 go_loopg [12] k (fun kq v12 w' => ∃ (x12_1 : Int) (x340000_1 : List (S40)) (u340000 : Value), v12 = .int .i64 x12_1 ∧ Aside0 (impl_copyTab.l0 kq l0_0 (l0_0.length : Int) x12_1 x340000_1 a0_1 = some (r1, r2)) ∧ Aside0 (kq ≤ k) ∧ Aside0 (Kd.S k40 40 w' w.heap.size (fun _ => True) u340000 x340000_1) ∧ Aside0 (w'.heap[gb337]? = some (.cells #[(.slice A0_0 l0_0.length c0_0), .int .i64 a0_1] 34 (0, 0))) ∧ Aside0 (w'.heap[gb338]? = some (.cells #[(.slice none 0 0), .int .i64 0] 34 (0, 0))) ∧ Aside0 (w'.heap[gb339]? = some (.cells #[u340000, .int .i64 a0_1] 34 (0, 0))) ∧ Aside0 (Below w.heap.size w w'))
 case atStart => exact ⟨(0), (([] : List (S40))), (.slice none 0 0), oS, H', ⟨Nat.le_refl _⟩, ⟨by first | exact Kd.S_nil _ _ _ _ _ | exact Kd.N_nil _ _ _ _ _ | exact Kd.V_nil _ _ _ _ _ | exact Kd.Q_nil _ _ _ _ _ | exact Kd.R_nil _ _ _ _ _⟩, ⟨by (with_reducible repeat (first | refine blk_drewN ?_ _ | refine blk_drew ?_ | refine blk_alloc ?_ _)); refine blk_far ?_ NB337_339.out _; (with_reducible repeat (first | refine blk_drewN ?_ _ | refine blk_drew ?_ | refine blk_alloc ?_ _)); refine blk_far ?_ NB337_339.out _; (with_reducible repeat (first | refine blk_drewN ?_ _ | refine blk_drew ?_ | refine blk_alloc ?_ _)); exact BK337.out⟩, ⟨by (with_reducible repeat (first | refine blk_drewN ?_ _ | refine blk_drew ?_ | refine blk_alloc ?_ _)); refine blk_far ?_ NB338_339.out _; (with_reducible repeat (first | refine blk_drewN ?_ _ | refine blk_drew ?_ | refine blk_alloc ?_ _)); refine blk_far ?_ NB338_339.out _; (with_reducible repeat (first | refine blk_drewN ?_ _ | refine blk_drew ?_ | refine blk_alloc ?_ _)); exact BK338.out⟩, ⟨by (with_reducible repeat (first | refine blk_drewN ?_ _ | refine blk_drew ?_ | refine blk_alloc ?_ _)); refine blk_put (cs := #[.slice none 0 0, .int .i64 0]) ?_ 1 _ rfl; (with_reducible repeat (first | refine blk_drewN ?_ _ | refine blk_drew ?_ | refine blk_alloc ?_ _)); refine blk_put (cs := #[.slice none 0 0, .int .i64 0]) ?_ 0 _ rfl; (with_reducible repeat (first | refine blk_drewN ?_ _ | refine blk_drew ?_ | refine blk_alloc ?_ _)); exact BK339.out⟩, ⟨oB⟩⟩
 case round =>
  clear H'
  obtain ⟨x12_1, x340000_1, u340000, rfl, HA, HK1, HO_340000, BK337, BK338, BK339, HB⟩ := hrel
  cases gk with
  | zero => exact absurd HA.out (by simp [impl_copyTab.l0])
  | succ k1 =>
   have H := HA.out
   clear HA
   simp only [impl_copyTab.l0] at H
   replace H := itD H
   rcases H with ⟨c11b0, H⟩ | ⟨c11b0, H⟩
   ·replace H := itD H
    rcases H with ⟨c12b0, H⟩ | ⟨c12b0, H⟩
    ·replace H := itD H
     rcases H with ⟨c13b0, H⟩ | ⟨c13b0, H⟩
     ·replace H := bA H
      obtain ⟨⟨t342, t343, t344, t345, t348, t351⟩, A14, H⟩ := H
      try dsimp only at H
      by_cases c15 : x340000_1.length < 1466015503701
      ·rw [if_pos c15] at H
       have LMc15 := Aside0.mk c15
       clear c15
       obtain ⟨y354, hy354⟩ : ∃ y_ : List (S40), y_ = (x340000_1 ++ [(⟨t342, t343, t344, t345, t348, t351⟩ : S40)]) := ⟨_, rfl⟩
       replace H : (impl_copyTab.l0 k1 l0_0 (l0_0.length : Int) (wrap64 (x12_1 + 1)) y354 a0_1) = some (r1, r2) := by first | (rw [hy354]; with_reducible exact H) | (have H2_ := (Option.bind_some _ _).symm.trans H; rw [hy354]; with_reducible exact H2_) | (have H2_ := (Option.bind_some _ _).symm.trans H; with_reducible exact H2_) | with_reducible exact H | (rw [hy354]; exact H) | exact H
       have Ny354 := Aside0.mk hy354
       clear hy354
       have H' := Aside0.mk H
       clear H
       have p340 : (0 ≤ (x12_1 : Int)) = True := oT
       have q340 : (x12_1 < (l0_0.length : Int)) = True := oT
       obtain ⟨ad340, A340_3, c340_3, A340_4, c340_4, A340_5, c340_5, e340, hx340_0, hx340_1, hx340_2, hx340_3, hx340_4, hx340_5, hl340_3, hi340_3, hl340_4, hi340_4, hl340_5, hi340_5⟩ := at_T40 HR0_0.out x12_1 oa oa
       cases e340
       replace hx340_0 := cB HB hx340_0
       replace hx340_1 := cB HB hx340_1
       replace hx340_2 := cB HB hx340_2
       replace hx340_3 := cB HB hx340_3
       replace hx340_4 := cB HB hx340_4
       replace hx340_5 := cB HB hx340_5
       have HR340_3 := Aside0.mk hi340_3
       have HC340_3 := Aside0.mk hl340_3
       clear hi340_3 hl340_3
       have HR340_4 := Aside0.mk hi340_4
       have HC340_4 := Aside0.mk hl340_4
       clear hi340_4 hl340_4
       have HR340_5 := Aside0.mk hi340_5
       have HC340_5 := Aside0.mk hl340_5
       clear hi340_5 hl340_5
       try go_wp2_with (first | ((with_reducible refine gate_dst (N := 5) rfl ?_); refine bx_ 5 #[.int .i64 0, .int .i64 0, .int .i64 0, .slice none 0 0, .slice none 0 0, .slice none 0 0] 40 ?_; intro gb341 hg w16 hbox hb; have BK341 := Aside0.mk (hbox); have GW341 := gs_ hg; have GE341 := gs_ hg; have NB337_341 := nl_ hg BK337; have NB341_337 := nr_ hg BK337; have NB338_341 := nl_ hg BK338; have NB341_338 := nr_ hg BK338; have NB339_341 := nl_ hg BK339; have NB341_339 := nr_ hg BK339; replace HO_340000 := Aside0.mk (Kd.S_below (Kd.S_elderB (by (with_reducible repeat (first | apply Kd.S_alloc | apply Kd.S_drewN | apply Kd.S_drew)); exact HO_340000.out) gb341 (Nat.le_of_eq hg.symm)) hb); replace BK337 := kb_ BK337 hb; replace BK338 := kb_ BK338 hb; replace BK339 := kb_ BK339 hb; replace HB := Aside0.mk (below_step oB hb); clear hb hbox hg; have hnb17 := NB341_337.out; have hnc17 := NB337_341.out; have hnb18 := NB341_338.out; have hnc18 := NB338_341.out; have hnb19 := NB341_339.out; have hnc19 := NB339_341.out; obtain ⟨⟨_, _, _, _, _, _⟩, _, _, _, _, _, _⟩ := z6 BK341))
       have n0_ : Aside0 (Kd.S k40 40 ((((((w16.setCell ⟨gb341, 0, none⟩ (.int .i64 ((rd_T40 l0_0 x12_1).f0))).setCell ⟨gb341, 1, none⟩ (.int .i64 ((rd_T40 l0_0 x12_1).f1))).setCell ⟨gb341, 2, none⟩ (.int .i64 ((rd_T40 l0_0 x12_1).f2))).setCell ⟨gb341, 3, none⟩ (.slice A340_3 ((rd_T40 l0_0 x12_1).f3).length c340_3)).setCell ⟨gb341, 4, none⟩ (.slice A340_4 ((rd_T40 l0_0 x12_1).f4).length c340_4)).setCell ⟨gb341, 5, none⟩ (.slice A340_5 ((rd_T40 l0_0 x12_1).f5).length c340_5)) w.heap.size (fun k_ => k_ ≠ gb341) u340000 x340000_1) := ⟨by (with_reducible repeat (first | apply Kd.S_alloc | apply Kd.S_drewN | apply Kd.S_drew)); exact Kd.S_mono (Kd.S_far (p := ⟨gb341, 5, none⟩) (Kd.S_far (p := ⟨gb341, 4, none⟩) (Kd.S_far (p := ⟨gb341, 3, none⟩) (Kd.S_far (p := ⟨gb341, 2, none⟩) (Kd.S_far (p := ⟨gb341, 1, none⟩) (Kd.S_far (p := ⟨gb341, 0, none⟩) (Kd.S_mono HO_340000.out (fun k_ hk => (⟨hk, hk.2⟩ : _ ∧ k_ ≠ gb341))) (fun _ hk => hk.2) (.int .i64 ((rd_T40 l0_0 x12_1).f0))) (fun _ hk => hk.2) (.int .i64 ((rd_T40 l0_0 x12_1).f1))) (fun _ hk => hk.2) (.int .i64 ((rd_T40 l0_0 x12_1).f2))) (fun _ hk => hk.2) (.slice A340_3 ((rd_T40 l0_0 x12_1).f3).length c340_3)) (fun _ hk => hk.2) (.slice A340_4 ((rd_T40 l0_0 x12_1).f4).length c340_4)) (fun _ hk => hk.2) (.slice A340_5 ((rd_T40 l0_0 x12_1).f5).length c340_5)) (fun _ hk => hk.1.2)⟩
       have n1_ : Aside0 (((((((w16.setCell ⟨gb341, 0, none⟩ (.int .i64 ((rd_T40 l0_0 x12_1).f0))).setCell ⟨gb341, 1, none⟩ (.int .i64 ((rd_T40 l0_0 x12_1).f1))).setCell ⟨gb341, 2, none⟩ (.int .i64 ((rd_T40 l0_0 x12_1).f2))).setCell ⟨gb341, 3, none⟩ (.slice A340_3 ((rd_T40 l0_0 x12_1).f3).length c340_3)).setCell ⟨gb341, 4, none⟩ (.slice A340_4 ((rd_T40 l0_0 x12_1).f4).length c340_4)).setCell ⟨gb341, 5, none⟩ (.slice A340_5 ((rd_T40 l0_0 x12_1).f5).length c340_5)).heap[gb337]? = some (.cells #[.slice (some ad340) l0_0.length c0_0, .int .i64 a0_1] 34 (0, 0))) := ⟨by (with_reducible repeat (first | refine blk_drewN ?_ _ | refine blk_drew ?_ | refine blk_alloc ?_ _)); refine blk_far ?_ NB337_341.out _; (with_reducible repeat (first | refine blk_drewN ?_ _ | refine blk_drew ?_ | refine blk_alloc ?_ _)); refine blk_far ?_ NB337_341.out _; (with_reducible repeat (first | refine blk_drewN ?_ _ | refine blk_drew ?_ | refine blk_alloc ?_ _)); refine blk_far ?_ NB337_341.out _; (with_reducible repeat (first | refine blk_drewN ?_ _ | refine blk_drew ?_ | refine blk_alloc ?_ _)); refine blk_far ?_ NB337_341.out _; (with_reducible repeat (first | refine blk_drewN ?_ _ | refine blk_drew ?_ | refine blk_alloc ?_ _)); refine blk_far ?_ NB337_341.out _; (with_reducible repeat (first | refine blk_drewN ?_ _ | refine blk_drew ?_ | refine blk_alloc ?_ _)); refine blk_far ?_ NB337_341.out _; (with_reducible repeat (first | refine blk_drewN ?_ _ | refine blk_drew ?_ | refine blk_alloc ?_ _)); exact BK337.out⟩
       have n2_ : Aside0 (((((((w16.setCell ⟨gb341, 0, none⟩ (.int .i64 ((rd_T40 l0_0 x12_1).f0))).setCell ⟨gb341, 1, none⟩ (.int .i64 ((rd_T40 l0_0 x12_1).f1))).setCell ⟨gb341, 2, none⟩ (.int .i64 ((rd_T40 l0_0 x12_1).f2))).setCell ⟨gb341, 3, none⟩ (.slice A340_3 ((rd_T40 l0_0 x12_1).f3).length c340_3)).setCell ⟨gb341, 4, none⟩ (.slice A340_4 ((rd_T40 l0_0 x12_1).f4).length c340_4)).setCell ⟨gb341, 5, none⟩ (.slice A340_5 ((rd_T40 l0_0 x12_1).f5).length c340_5)).heap[gb338]? = some (.cells #[.slice none 0 0, .int .i64 0] 34 (0, 0))) := ⟨by (with_reducible repeat (first | refine blk_drewN ?_ _ | refine blk_drew ?_ | refine blk_alloc ?_ _)); refine blk_far ?_ NB338_341.out _; (with_reducible repeat (first | refine blk_drewN ?_ _ | refine blk_drew ?_ | refine blk_alloc ?_ _)); refine blk_far ?_ NB338_341.out _; (with_reducible repeat (first | refine blk_drewN ?_ _ | refine blk_drew ?_ | refine blk_alloc ?_ _)); refine blk_far ?_ NB338_341.out _; (with_reducible repeat (first | refine blk_drewN ?_ _ | refine blk_drew ?_ | refine blk_alloc ?_ _)); refine blk_far ?_ NB338_341.out _; (with_reducible repeat (first | refine blk_drewN ?_ _ | refine blk_drew ?_ | refine blk_alloc ?_ _)); refine blk_far ?_ NB338_341.out _; (with_reducible repeat (first | refine blk_drewN ?_ _ | refine blk_drew ?_ | refine blk_alloc ?_ _)); refine blk_far ?_ NB338_341.out _; (with_reducible repeat (first | refine blk_drewN ?_ _ | refine blk_drew ?_ | refine blk_alloc ?_ _)); exact BK338.out⟩
       have n3_ : Aside0 (((((((w16.setCell ⟨gb341, 0, none⟩ (.int .i64 ((rd_T40 l0_0 x12_1).f0))).setCell ⟨gb341, 1, none⟩ (.int .i64 ((rd_T40 l0_0 x12_1).f1))).setCell ⟨gb341, 2, none⟩ (.int .i64 ((rd_T40 l0_0 x12_1).f2))).setCell ⟨gb341, 3, none⟩ (.slice A340_3 ((rd_T40 l0_0 x12_1).f3).length c340_3)).setCell ⟨gb341, 4, none⟩ (.slice A340_4 ((rd_T40 l0_0 x12_1).f4).length c340_4)).setCell ⟨gb341, 5, none⟩ (.slice A340_5 ((rd_T40 l0_0 x12_1).f5).length c340_5)).heap[gb339]? = some (.cells #[u340000, .int .i64 a0_1] 34 (0, 0))) := ⟨by (with_reducible repeat (first | refine blk_drewN ?_ _ | refine blk_drew ?_ | refine blk_alloc ?_ _)); refine blk_far ?_ NB339_341.out _; (with_reducible repeat (first | refine blk_drewN ?_ _ | refine blk_drew ?_ | refine blk_alloc ?_ _)); refine blk_far ?_ NB339_341.out _; (with_reducible repeat (first | refine blk_drewN ?_ _ | refine blk_drew ?_ | refine blk_alloc ?_ _)); refine blk_far ?_ NB339_341.out _; (with_reducible repeat (first | refine blk_drewN ?_ _ | refine blk_drew ?_ | refine blk_alloc ?_ _)); refine blk_far ?_ NB339_341.out _; (with_reducible repeat (first | refine blk_drewN ?_ _ | refine blk_drew ?_ | refine blk_alloc ?_ _)); refine blk_far ?_ NB339_341.out _; (with_reducible repeat (first | refine blk_drewN ?_ _ | refine blk_drew ?_ | refine blk_alloc ?_ _)); refine blk_far ?_ NB339_341.out _; (with_reducible repeat (first | refine blk_drewN ?_ _ | refine blk_drew ?_ | refine blk_alloc ?_ _)); exact BK339.out⟩
       have n4_ : Aside0 (((((((w16.setCell ⟨gb341, 0, none⟩ (.int .i64 ((rd_T40 l0_0 x12_1).f0))).setCell ⟨gb341, 1, none⟩ (.int .i64 ((rd_T40 l0_0 x12_1).f1))).setCell ⟨gb341, 2, none⟩ (.int .i64 ((rd_T40 l0_0 x12_1).f2))).setCell ⟨gb341, 3, none⟩ (.slice A340_3 ((rd_T40 l0_0 x12_1).f3).length c340_3)).setCell ⟨gb341, 4, none⟩ (.slice A340_4 ((rd_T40 l0_0 x12_1).f4).length c340_4)).setCell ⟨gb341, 5, none⟩ (.slice A340_5 ((rd_T40 l0_0 x12_1).f5).length c340_5)).heap[gb341]? = some (.cells #[.int .i64 ((rd_T40 l0_0 x12_1).f0), .int .i64 ((rd_T40 l0_0 x12_1).f1), .int .i64 ((rd_T40 l0_0 x12_1).f2), .slice A340_3 ((rd_T40 l0_0 x12_1).f3).length c340_3, .slice A340_4 ((rd_T40 l0_0 x12_1).f4).length c340_4, .slice A340_5 ((rd_T40 l0_0 x12_1).f5).length c340_5] 40 (0, 0))) := ⟨by (with_reducible repeat (first | refine blk_drewN ?_ _ | refine blk_drew ?_ | refine blk_alloc ?_ _)); refine blk_put (cs := #[.int .i64 ((rd_T40 l0_0 x12_1).f0), .int .i64 ((rd_T40 l0_0 x12_1).f1), .int .i64 ((rd_T40 l0_0 x12_1).f2), .slice A340_3 ((rd_T40 l0_0 x12_1).f3).length c340_3, .slice A340_4 ((rd_T40 l0_0 x12_1).f4).length c340_4, .slice none 0 0]) ?_ 5 _ rfl; (with_reducible repeat (first | refine blk_drewN ?_ _ | refine blk_drew ?_ | refine blk_alloc ?_ _)); refine blk_put (cs := #[.int .i64 ((rd_T40 l0_0 x12_1).f0), .int .i64 ((rd_T40 l0_0 x12_1).f1), .int .i64 ((rd_T40 l0_0 x12_1).f2), .slice A340_3 ((rd_T40 l0_0 x12_1).f3).length c340_3, .slice none 0 0, .slice none 0 0]) ?_ 4 _ rfl; (with_reducible repeat (first | refine blk_drewN ?_ _ | refine blk_drew ?_ | refine blk_alloc ?_ _)); refine blk_put (cs := #[.int .i64 ((rd_T40 l0_0 x12_1).f0), .int .i64 ((rd_T40 l0_0 x12_1).f1), .int .i64 ((rd_T40 l0_0 x12_1).f2), .slice none 0 0, .slice none 0 0, .slice none 0 0]) ?_ 3 _ rfl; (with_reducible repeat (first | refine blk_drewN ?_ _ | refine blk_drew ?_ | refine blk_alloc ?_ _)); refine blk_put (cs := #[.int .i64 ((rd_T40 l0_0 x12_1).f0), .int .i64 ((rd_T40 l0_0 x12_1).f1), .int .i64 0, .slice none 0 0, .slice none 0 0, .slice none 0 0]) ?_ 2 _ rfl; (with_reducible repeat (first | refine blk_drewN ?_ _ | refine blk_drew ?_ | refine blk_alloc ?_ _)); refine blk_put (cs := #[.int .i64 ((rd_T40 l0_0 x12_1).f0), .int .i64 0, .int .i64 0, .slice none 0 0, .slice none 0 0, .slice none 0 0]) ?_ 1 _ rfl; (with_reducible repeat (first | refine blk_drewN ?_ _ | refine blk_drew ?_ | refine blk_alloc ?_ _)); refine blk_put (cs := #[.int .i64 0, .int .i64 0, .int .i64 0, .slice none 0 0, .slice none 0 0, .slice none 0 0]) ?_ 0 _ rfl; (with_reducible repeat (first | refine blk_drewN ?_ _ | refine blk_drew ?_ | refine blk_alloc ?_ _)); exact BK341.out⟩
       have n5_ : Aside0 (Below w.heap.size w ((((((w16.setCell ⟨gb341, 0, none⟩ (.int .i64 ((rd_T40 l0_0 x12_1).f0))).setCell ⟨gb341, 1, none⟩ (.int .i64 ((rd_T40 l0_0 x12_1).f1))).setCell ⟨gb341, 2, none⟩ (.int .i64 ((rd_T40 l0_0 x12_1).f2))).setCell ⟨gb341, 3, none⟩ (.slice A340_3 ((rd_T40 l0_0 x12_1).f3).length c340_3)).setCell ⟨gb341, 4, none⟩ (.slice A340_4 ((rd_T40 l0_0 x12_1).f4).length c340_4)).setCell ⟨gb341, 5, none⟩ (.slice A340_5 ((rd_T40 l0_0 x12_1).f5).length c340_5))) := ⟨oB⟩
       (try clear HO_340000)
       (try clear BK337)
       (try clear BK338)
       (try clear BK339)
       (try clear BK341)
       (try clear HB)
       generalize ((((((w16.setCell ⟨gb341, 0, none⟩ (.int .i64 ((rd_T40 l0_0 x12_1).f0))).setCell ⟨gb341, 1, none⟩ (.int .i64 ((rd_T40 l0_0 x12_1).f1))).setCell ⟨gb341, 2, none⟩ (.int .i64 ((rd_T40 l0_0 x12_1).f2))).setCell ⟨gb341, 3, none⟩ (.slice A340_3 ((rd_T40 l0_0 x12_1).f3).length c340_3)).setCell ⟨gb341, 4, none⟩ (.slice A340_4 ((rd_T40 l0_0 x12_1).f4).length c340_4)).setCell ⟨gb341, 5, none⟩ (.slice A340_5 ((rd_T40 l0_0 x12_1).f5).length c340_5)) = w21 at n0_ n1_ n2_ n3_ n4_ n5_ ⊢
       have HO_340000 := n0_
       have BK337 := n1_
       have BK338 := n2_
       have BK339 := n3_
       have BK341 := n4_
       have HB := n5_
       clear n0_ n1_ n2_ n3_ n4_ n5_
       replace HO_340000 := Aside0.mk (Kd.S_drew HO_340000.out)
       replace BK337 := Aside0.mk (blk_drew BK337.out)
       replace BK338 := Aside0.mk (blk_drew BK338.out)
       replace BK339 := Aside0.mk (blk_drew BK339.out)
       replace BK341 := Aside0.mk (blk_drew BK341.out)
       replace HB := Aside0.mk (below_drew1 HB.out)
       refine start_ (n := 8) (S := fun w' => w'.cell? ⟨gb339, 0, none⟩ = some (u340000) ∧ w'.cell? ⟨gb339, 1, none⟩ = some (.int .i64 a0_1) ∧ w'.cell? ⟨gb341, 0, none⟩ = some (.int .i64 ((rd_T40 l0_0 x12_1).f0)) ∧ w'.cell? ⟨gb341, 1, none⟩ = some (.int .i64 ((rd_T40 l0_0 x12_1).f1)) ∧ w'.cell? ⟨gb341, 2, none⟩ = some (.int .i64 ((rd_T40 l0_0 x12_1).f2)) ∧ w'.cell? ⟨gb341, 3, none⟩ = some (.slice A340_3 ((rd_T40 l0_0 x12_1).f3).length c340_3) ∧ w'.cell? ⟨gb341, 4, none⟩ = some (.slice A340_4 ((rd_T40 l0_0 x12_1).f4).length c340_4) ∧ w'.cell? ⟨gb341, 5, none⟩ = some (.slice A340_5 ((rd_T40 l0_0 x12_1).f5).length c340_5)) (ds := [7]) #[false, false, false, false, false, false, false, false] (by kernel_rfl) rfl rfl oH (fun hHeld => ?_); refine with_tabW impl_copyTab.tab5 impl_copyTab.bits5 (fun HT_ HW_ => ?_)
       generalize w21.drew = w22 at HO_340000 BK337 BK338 BK339 BK341 HB hHeld ⊢
       refine pure_ (i := 0) (N := some 16) (v := ?_) (a' := ?_) #[true, false, false, false, false, false, false, false] rfl rfl (any_of HT_.out (by kernel_rfl)) (fun _ _ _ h => h) (Or.inl ⟨by rfl, ?_⟩) ?_ ?_
       rotate_left
       ·intro w'
        go_simp
        with_reducible rfl
       rotate_left
       ·simp only [Act.put, List.setIfInBounds_toArray, List.set_cons_zero, List.set_cons_succ, i64_w, i32_w]
        rfl
       refine take_ (i := 1) (N := some 17) (v := ?_) (a' := ?_) #[true, true, false, false, false, false, false, false] rfl rfl (take_ofW HT_.out HW_.out (by kernel_rfl)) (fun _ _ _ h => h) (Or.inl ⟨by rfl, ?_⟩) hHeld ?_ ?_
       rotate_left
       ·rintro w' ⟨s0, s1, s2, s3, s4, s5, s6, s7⟩
        go_simp
        with_reducible rfl
       rotate_left
       ·simp only [Act.put, List.setIfInBounds_toArray, List.set_cons_zero, List.set_cons_succ, i64_w, i32_w]
        rfl
       refine take_ (i := 2) (N := some 18) (v := ?_) (a' := ?_) #[true, true, true, false, false, false, false, false] rfl rfl (take_ofW HT_.out HW_.out (by kernel_rfl)) (fun _ _ _ h => h) (Or.inl ⟨by rfl, ?_⟩) hHeld ?_ ?_
       rotate_left
       ·rintro w' ⟨s0, s1, s2, s3, s4, s5, s6, s7⟩
        go_simp
        with_reducible rfl
       rotate_left
       ·simp only [Act.put, List.setIfInBounds_toArray, List.set_cons_zero, List.set_cons_succ, i64_w, i32_w]
        rfl
       refine one_ (i := 3) (N := some 19) #[true, true, true, true, false, false, false, false] rfl rfl (one_of HT_.out (by kernel_rfl)) (by decide) (fun K hK => ?_)
       refine gr_ 19 Try.func43 (impl_copyInode.calls ((rd_T40 l0_0 x12_1).f0) ((rd_T40 l0_0 x12_1).f1) ((rd_T40 l0_0 x12_1).f2) _ _ ((rd_T40 l0_0 x12_1).f3) _ _ ((rd_T40 l0_0 x12_1).f4) _ _ ((rd_T40 l0_0 x12_1).f5) t342 t343 t344 t345 t348 t351 _ (kC HR340_3) HC340_3.out (kC HR340_4) HC340_4.out (kC HR340_5) HC340_5.out A14.out) ?_
       rintro e w23 ⟨v346, v349, v352, rfl, ho0, ho1, ho2, hb⟩
       refine ⟨_, rfl, ?_⟩
       have HO347 := Aside0.mk (Kd.R_lower ho0 (below_size oB))
       have HO350 := Aside0.mk (Kd.R_lower ho1 (below_size oB))
       have HO353 := Aside0.mk (Kd.R_lower ho2 (below_size oB))
       replace HO_340000 := Aside0.mk (Kd.S_mono (Kd.S_told (Kd.S_told (Kd.S_told (Kd.S_old (by (with_reducible repeat (first | apply Kd.S_alloc | apply Kd.S_drewN | apply Kd.S_drew)); exact HO_340000.out) hb) (Kd.R_base ho0)) (Kd.R_base ho1)) (Kd.R_base ho2)) (fun _ h_ => h_.1))
       replace BK337 := kb_ BK337 hb
       replace BK338 := kb_ BK338 hb
       replace BK339 := kb_ BK339 hb
       replace BK341 := kb_ BK341 hb
       replace HB := Aside0.mk (below_step oB hb)
       (try clear ho1)
       (try clear ho2)
       obtain ⟨Ao25, co25, eo25⟩ := Kd.R_slice HO347.out
       (first | subst eo25 | (injection eo25 with f1_ f2_ f3_; have f4_ := f1_.symm; have f5_ := f3_.symm; clear f1_ f2_ f3_; subst f4_; subst f5_))
       obtain ⟨Ao26, co26, eo26⟩ := Kd.R_slice HO350.out
       (first | subst eo26 | (injection eo26 with f1_ f2_ f3_; have f4_ := f1_.symm; have f5_ := f3_.symm; clear f1_ f2_ f3_; subst f4_; subst f5_))
       obtain ⟨Ao27, co27, eo27⟩ := Kd.R_slice HO353.out
       (first | subst eo27 | (injection eo27 with f1_ f2_ f3_; have f4_ := f1_.symm; have f5_ := f3_.symm; clear f1_ f2_ f3_; subst f4_; subst f5_))
       refine hK.out _ _ oH (fun hHeld => ?_)
       clear hK K
       refine norm_ (a' := ?_) ?_ ?_
       rotate_left
       ·show Act.put _ (some 19) _ = _
        simp only [Act.put, List.setIfInBounds_toArray, List.set_cons_zero, List.set_cons_succ, i64_w, i32_w]
        rfl
       refine one_ (i := 4) (N := some 20) #[true, true, true, true, true, false, false, false] rfl rfl (one_of HT_.out (by kernel_rfl)) (by decide) (fun K hK => ?_)
       refine value_ (w1 := ?_) (v := ?_) (by rfl) rfl ?_ ?_
       rotate_left 2
       ·go_simp
        constructor
        ·rfl
        ·rfl
       refine hK.out _ _ ⟨(blk_cell (blk_alloc BK339.out _) 0).trans rfl, (blk_cell (blk_alloc BK339.out _) 1).trans rfl, (blk_cell (blk_alloc BK341.out _) 0).trans rfl, (blk_cell (blk_alloc BK341.out _) 1).trans rfl, (blk_cell (blk_alloc BK341.out _) 2).trans rfl, (blk_cell (blk_alloc BK341.out _) 3).trans rfl, (blk_cell (blk_alloc BK341.out _) 4).trans rfl, (blk_cell (blk_alloc BK341.out _) 5).trans rfl⟩ (fun hHeld => ?_)
       clear hK K
       refine norm_ (a' := ?_) ?_ ?_
       rotate_left
       ·show Act.put _ (some 20) _ = _
        simp only [Act.put, List.setIfInBounds_toArray, List.set_cons_zero, List.set_cons_succ, i64_w, i32_w]
        rfl
       refine one_ (i := 5) (N := some 21) #[true, true, true, true, true, true, false, false] rfl rfl (one_of HT_.out (by kernel_rfl)) (by decide) (fun K hK => ?_)
       refine Kd.S_append_step k40 (w0 := w) w.heap.size (by rfl) (.tmp 17) (.tmp 20) 32 40 (.agg #[(.int .i64 0), (.int .i64 0), (.int .i64 0), (.slice none 0 0), (.slice none 0 0), (.slice none 0 0)]) 96 rfl Try.underlying32 info40 rfl (by decide) (by omega) u340000 x340000_1 (⟨t342, t343, t344, t345, t348, t351⟩ : S40) [.int .i64 t342, .int .i64 t343, .int .i64 t344, .slice Ao25 t345.length co25, .slice Ao26 t348.length co26, .slice Ao27 t351.length co27] (fun k_ => k_ ≠ gb341) (fun k_ => some k_ = (.slice Ao25 t345.length co25 : Value).ownBlock ∨ some k_ = (.slice Ao26 t348.length co26 : Value).ownBlock ∨ some k_ = (.slice Ao27 t351.length co27 : Value).ownBlock) rfl rfl ?aP (fun k_ hk_ => hk_.elim (fun h_ => ((Kd.R_mono (ok' := fun k_ => ((fun k_ => k_ ≠ gb341)) k_ ∧ some k_ ≠ (u340000 : Value).ownBlock) (Kd.R_types (Kd.R_apart' (HO347.out) (Kd.S_typed HO_340000.out) (by decide)) BK341.out (by decide)) (fun k_ hk => ⟨hk.2, hk.1.2⟩))).1 k_ h_.symm) (fun h_ => h_.elim (fun h_ => ((Kd.R_mono (ok' := fun k_ => ((fun k_ => k_ ≠ gb341)) k_ ∧ some k_ ≠ (u340000 : Value).ownBlock) (Kd.R_types (Kd.R_apart' (HO350.out) (Kd.S_typed HO_340000.out) (by decide)) BK341.out (by decide)) (fun k_ hk => ⟨hk.2, hk.1.2⟩))).1 k_ h_.symm) (fun h_ => ((Kd.R_mono (ok' := fun k_ => ((fun k_ => k_ ≠ gb341)) k_ ∧ some k_ ≠ (u340000 : Value).ownBlock) (Kd.R_types (Kd.R_apart' (HO353.out) (Kd.S_typed HO_340000.out) (by decide)) BK341.out (by decide)) (fun k_ hk => ⟨hk.2, hk.1.2⟩))).1 k_ h_.symm))) ?aF ?aO ?aB ?aS ?aL ?_
       (case aP => exact k40_mkM _ _ _ (⟨t342, t343, t344, t345, t348, t351⟩ : S40) (Kd.R_mono (Kd.R_tight rfl (Kd.R_mono (ok' := fun k_ => ((fun k_ => k_ ≠ gb341)) k_ ∧ some k_ ≠ (u340000 : Value).ownBlock) (Kd.R_types (Kd.R_apart' (HO347.out) (Kd.S_typed HO_340000.out) (by decide)) BK341.out (by decide)) (fun k_ hk => ⟨hk.2, hk.1.2⟩))) (fun _ h_ => Or.inl h_)) (Kd.R_mono (Kd.R_tight rfl (Kd.R_mono (ok' := fun k_ => ((fun k_ => k_ ≠ gb341)) k_ ∧ some k_ ≠ (u340000 : Value).ownBlock) (Kd.R_types (Kd.R_apart' (HO350.out) (Kd.S_typed HO_340000.out) (by decide)) BK341.out (by decide)) (fun k_ hk => ⟨hk.2, hk.1.2⟩))) (fun _ h_ => Or.inr (Or.inl h_))) (Kd.R_mono (Kd.R_tight rfl (Kd.R_mono (ok' := fun k_ => ((fun k_ => k_ ≠ gb341)) k_ ∧ some k_ ≠ (u340000 : Value).ownBlock) (Kd.R_types (Kd.R_apart' (HO353.out) (Kd.S_typed HO_340000.out) (by decide)) BK341.out (by decide)) (fun k_ hk => ⟨hk.2, hk.1.2⟩))) (fun _ h_ => Or.inr (Or.inr (h_)))))
       (case aB => exact oB)
       (case aF => exact (fun k_ hk => Kd.freshB (g := gb341) (o := .cells #[.int .i64 ((rd_T40 l0_0 x12_1).f0), .int .i64 ((rd_T40 l0_0 x12_1).f1), .int .i64 ((rd_T40 l0_0 x12_1).f2), .slice A340_3 ((rd_T40 l0_0 x12_1).f3).length c340_3, .slice A340_4 ((rd_T40 l0_0 x12_1).f4).length c340_4, .slice A340_5 ((rd_T40 l0_0 x12_1).f5).length c340_5] 40 (0, 0)) (oF BK341) k_ hk))
       (case aO => exact (by (with_reducible repeat (first | apply Kd.S_alloc | apply Kd.S_drewN | apply Kd.S_drew)); exact Kd.S_mono HO_340000.out (fun k_ hk => ⟨hk.1.1.1, fun e_ => e_.elim (fun h_ => hk.1.1.2 h_) (fun h_ => h_.elim (fun h_ => hk.1.2 h_) (fun h_ => hk.2 h_))⟩)))
       (case aS => exact (below_size oB))
       (case aL => have := LMc15.out; omega)
       intro v355 w24 ho hb hg hat
       rw [← Ny354.out] at ho
       have HO356 := Aside0.mk (ho)
       replace BK337 := Aside0.mk (blk_grown (g := gb337) (o := .cells #[.slice (some ad340) l0_0.length c0_0, .int .i64 a0_1] 34 (0, 0)) (oF BK337) hg (Kd.S_ne HO_340000.out BK337.out (by decide)))
       replace BK338 := Aside0.mk (blk_grown (g := gb338) (o := .cells #[.slice none 0 0, .int .i64 0] 34 (0, 0)) (oF BK338) hg (Kd.S_ne HO_340000.out BK338.out (by decide)))
       replace BK339 := Aside0.mk (blk_grown (g := gb339) (o := .cells #[u340000, .int .i64 a0_1] 34 (0, 0)) (oF BK339) hg (Kd.S_ne HO_340000.out BK339.out (by decide)))
       replace BK341 := Aside0.mk (blk_grown (g := gb341) (o := .cells #[.int .i64 ((rd_T40 l0_0 x12_1).f0), .int .i64 ((rd_T40 l0_0 x12_1).f1), .int .i64 ((rd_T40 l0_0 x12_1).f2), .slice A340_3 ((rd_T40 l0_0 x12_1).f3).length c340_3, .slice A340_4 ((rd_T40 l0_0 x12_1).f4).length c340_4, .slice A340_5 ((rd_T40 l0_0 x12_1).f5).length c340_5] 40 (0, 0)) (oF BK341) hg (Kd.S_away HO_340000.out (fun _ hk => hk.1.1.1)))
       replace HB := Aside0.mk (hb)
       clear HO_340000
       clear HO347
       clear HO350
       clear HO353
       clear ho hb hg hat
       obtain ⟨Ao28, co28, eo28⟩ := Kd.S_slice HO356.out
       (first | subst eo28 | (injection eo28 with f1_ f2_ f3_; have f4_ := f1_.symm; have f5_ := f3_.symm; clear f1_ f2_ f3_; subst f4_; subst f5_))
       refine hK.out _ _ oH (fun hHeld => ?_)
       clear hK K
       refine norm_ (a' := ?_) ?_ ?_
       rotate_left
       ·show Act.put _ (some 21) _ = _
        simp only [Act.put, List.setIfInBounds_toArray, List.set_cons_zero, List.set_cons_succ, i64_w, i32_w]
        rfl
       refine pure_ (i := 6) (N := some 22) (v := ?_) (a' := ?_) #[true, true, true, true, true, true, true, false] rfl rfl (any_of HT_.out (by kernel_rfl)) (fun _ _ _ h => h) (Or.inl ⟨by rfl, ?_⟩) ?_ ?_
       rotate_left
       ·intro w'
        go_simp
        with_reducible rfl
       rotate_left
       ·simp only [Act.put, List.setIfInBounds_toArray, List.set_cons_zero, List.set_cons_succ, i64_w, i32_w]
        rfl
       refine last_ (i := 7) (N := none) #[true, true, true, true, true, true, true, true] rfl rfl (one_of HT_.out (by kernel_rfl)) (by decide) (fun K hK => ?_)
       have hs29 : w24.cell? ⟨gb339, 0, none⟩ = some (u340000) := (blk_cell BK339.out 0).trans rfl
       have hfs29 := blk_frozen BK339.out 0
       have hns29_0 := NB337_339.out
       have hns29_1 := NB338_339.out
       have hns29_3 := NB341_339.out
       have hms29_0 := NB339_337.out
       have hms29_1 := NB339_338.out
       have hms29_3 := NB339_341.out
       refine skip_ (w1 := ?_) (by rfl) rfl ?_ ?_
       rotate_left
       ·go_simp
        rfl
       refine hK.out _ _ ?_
       clear hK K
       refine done_ (done_of HT_.out (by kernel_rfl)) ?_
       try go_wp2
       go_roundg k1
       case measure => have := HK1.out; omega
       case rel => exact ⟨(wrap64 (x12_1 + 1)), (y354), (.slice Ao28 y354.length co28), oS, H', ⟨by have := HK1.out; omega⟩, ⟨by (with_reducible repeat (first | apply Kd.S_alloc | apply Kd.S_drewN | apply Kd.S_drew)); exact Kd.S_mono (Kd.S_far (p := ⟨gb339, 0, none⟩) (Kd.S_types HO356.out BK339.out (by decide)) (fun _ hk => hk.2) (.slice Ao28 y354.length co28)) (fun _ hk => trivial)⟩, ⟨by (with_reducible repeat (first | refine blk_drewN ?_ _ | refine blk_drew ?_ | refine blk_alloc ?_ _)); refine blk_far ?_ NB337_339.out _; (with_reducible repeat (first | refine blk_drewN ?_ _ | refine blk_drew ?_ | refine blk_alloc ?_ _)); exact BK337.out⟩, ⟨by (with_reducible repeat (first | refine blk_drewN ?_ _ | refine blk_drew ?_ | refine blk_alloc ?_ _)); refine blk_far ?_ NB338_339.out _; (with_reducible repeat (first | refine blk_drewN ?_ _ | refine blk_drew ?_ | refine blk_alloc ?_ _)); exact BK338.out⟩, ⟨by (with_reducible repeat (first | refine blk_drewN ?_ _ | refine blk_drew ?_ | refine blk_alloc ?_ _)); refine blk_put (cs := #[u340000, .int .i64 a0_1]) ?_ 0 _ rfl; (with_reducible repeat (first | refine blk_drewN ?_ _ | refine blk_drew ?_ | refine blk_alloc ?_ _)); exact BK339.out⟩, ⟨oB⟩⟩
      ·rw [if_neg c15] at H
       exact absurd H (by simp)
     ·cases H
    ·cases H
   ·simp only [Option.some.injEq, Prod.mk.injEq] at H
    obtain ⟨rfl, rfl⟩ := H
    have hnb30 := NB339_337.out
    have hnc30 := NB337_339.out
    have hnb31 := NB339_338.out
    have hnc31 := NB338_339.out
    obtain ⟨⟨_, _⟩, _, _⟩ := z2 BK339
    obtain ⟨Ao33, co33, eo33⟩ := Kd.S_slice HO_340000.out
    subst eo33
    have hnb34 := NB338_337.out
    have hnc34 := NB337_338.out
    obtain ⟨⟨_, _⟩, _, _⟩ := z2 BK338
    go_wp2
    refine bodyPost_ret (results_cell_row rfl _ _ gb338 34 #[.slice Ao33 x340000_1.length co33, .int .i64 a0_1] (0, 0) _ rfl (by (with_reducible repeat (first | refine blk_drewN ?_ _ | refine blk_drew ?_ | refine blk_alloc ?_ _)); refine blk_put (cs := #[.slice Ao33 x340000_1.length co33, .int .i64 0]) ?_ 1 _ rfl; (with_reducible repeat (first | refine blk_drewN ?_ _ | refine blk_drew ?_ | refine blk_alloc ?_ _)); refine blk_put (cs := #[.slice none 0 0, .int .i64 0]) ?_ 0 _ rfl; (with_reducible repeat (first | refine blk_drewN ?_ _ | refine blk_drew ?_ | refine blk_alloc ?_ _)); exact BK338.out) Try.underlying34 rfl (by kernel_rfl)) rfl ?_
    exact ⟨_, oE, by (with_reducible repeat (first | apply Kd.S_alloc | apply Kd.S_drewN | apply Kd.S_drew)); exact Kd.S_mono (Kd.S_far (p := ⟨gb338, 1, none⟩) (Kd.S_far (p := ⟨gb338, 0, none⟩) (Kd.S_types HO_340000.out BK338.out (by decide)) (fun _ hk => hk.2) (.slice Ao33 x340000_1.length co33)) (fun _ hk => hk.2) (.int .i64 a0_1)) (fun _ hk => trivial), oB⟩

-- NOT PRINTED: function 45 (slices_IndexFunc_Inode)

/-! ### impl_placeOf: function 44 -/
def placeR (ino : Int) : List S40 → Nat → Int
 | [], _ => -1
 | x :: l, i => if x.f0 = ino then (i : Int) else placeR ino l (i + 1)
theorem placeOf1.calls (ino a b c : Int) (A3 A4 A5 : Option Addr) (n3 c3 n4 c4 n5 c5 : Nat) (B : Nat) (W : World) (hB : B < W.heap.size) (hc : W.cell? ⟨B, 0, none⟩ = some (.int .i64 ino)) :
  Calls Try.prog 80 #[.agg #[.int .i64 a, .int .i64 b, .int .i64 c, .slice A3 n3 c3, .slice A4 n4 c4, .slice A5 n5 c5], .pointer (some ⟨B, 0, none⟩)] W fun e w' => e = .returned (.bool (a == ino)) ∧ Below W.heap.size W w' := by
 have hne : B ≠ W.heap.size := by omega
 go_enter Try.func80, Try.ntmps80
 go_wp2
 all_goals (go_ret; exact ⟨by simp_all, (Below.refl _ W).alloc (Nat.le_refl _) _⟩)
theorem placeR_none (ino : Int) (l : List S40) (i : Nat) (h : ∀ x ∈ l, x.f0 ≠ ino) : placeR ino l i = -1 := by
 induction l generalizing i with
 | nil => rfl
 | cons x l ih => rw [placeR, if_neg (h x (List.mem_cons_self ..))]; exact ih (i + 1) (fun y hy => h y (List.mem_cons_of_mem _ hy))
theorem rd40_at (l : List S40) (k : Nat) (h : k < l.length) : rd_T40 l (k : Int) = l[k] := by
 simp [rd_T40, List.getD_eq_getElem?_getD, List.getElem?_eq_getElem h]
theorem placeR_hit (ino : Int) (l : List S40) (k j : Nat) (h : k < l.length) (hit : (rd_T40 l (k : Int)).f0 = ino) : placeR ino (l.drop k) j = (j : Int) := by
 rw [List.drop_eq_getElem_cons h, placeR, if_pos (by rw [← rd40_at l k h]; exact hit)]
theorem placeR_miss (ino : Int) (l : List S40) (k j : Nat) (h : k < l.length) (hit : (rd_T40 l (k : Int)).f0 ≠ ino) : placeR ino (l.drop k) j = placeR ino (l.drop (k + 1)) (j + 1) := by
 rw [List.drop_eq_getElem_cons h, placeR, if_neg (by rw [← rd40_at l k h]; exact hit)]
set_option maxHeartbeats 400000 in
set_option maxRecDepth 100000 in
theorem placeOf2.calls (ino : Int) (A0 : Option Addr) (c0 : Nat) (l : List S40) (B : Nat) (w : World) (hr : k40.C w A0 l.length l) (hB : B < w.heap.size) (hc : w.cell? ⟨B, 0, none⟩ = some (.int .i64 ino)) (hl : l.length ≤ 9223372036854775807) :
  Calls Try.prog 45 #[.slice A0 l.length c0, .func (.func 80) #[] #[.pointer (some ⟨B, 0, none⟩)]] w fun e w' => e = .returned (.int .i64 (placeR ino l 0)) ∧ Below w.heap.size w w' := by
 go_enter Try.func45, Try.ntmps45
 go_wp2
 go_loopg [5, 8] l.length (fun gg _ s8 wr => ∃ kk : Nat, kk ≤ l.length ∧ l.length - kk ≤ gg ∧ s8 = .int .i64 kk ∧ Aside0 (Below w.heap.size w wr) ∧ Aside0 (placeR ino l 0 = placeR ino (l.drop kk) kk))
 case atStart => exact ⟨0, Nat.zero_le _, by omega, rfl, ⟨Below.refl _ w⟩, ⟨rfl⟩⟩
 case round =>
  obtain ⟨kk, hkk, hg, rfl, BW, A⟩ := hrel
  by_cases hlt : kk < l.length
  ·have hltz : (kk : Int) < (l.length : Int) := by omega
   obtain ⟨ad, A3, c3, A4, c4, A5, c5, e0, h0, h1, h2, h3, h4, h5, _⟩ := at_T40 (Kd.C_below hr BW.out) (kk : Int) (by omega) hltz
   cases e0
   rw [Int.toNat_natCast] at h0 h1 h2 h3 h4 h5
   have hBw : B < wr.heap.size := Nat.lt_of_lt_of_le hB BW.out.size
   have hcw : wr.cell? ⟨B, 0, none⟩ = some (.int .i64 ino) := (BW.out.cell (p := ⟨B, 0, none⟩) hB).trans hc
   by_cases hit : (rd_T40 l (kk : Int)).f0 = ino
   ·have hq : ((rd_T40 l (kk : Int)).f0 == ino) = true := by simpa using hit
    go_wp2_with (go_at_call 80; refine (placeOf1.calls ino _ _ _ _ _ _ _ _ _ _ _ _ B wr hBw hcw).mono ?_; rintro e w' ⟨rfl, hb'⟩)
    go_ret
    exact ⟨by rw [A.out, placeR_hit ino l kk kk hlt hit]; rfl, below_then BW.out BW.out.size hb'⟩
   ·have hq : ((rd_T40 l (kk : Int)).f0 == ino) = false := by simpa using hit
    go_wp2_with (go_at_call 80; refine (placeOf1.calls ino _ _ _ _ _ _ _ _ _ _ _ _ B wr hBw hcw).mono ?_; rintro e w' ⟨rfl, hb'⟩)
    go_roundg (l.length - (kk + 1))
    case measure => omega
    case rel => exact ⟨kk + 1, by omega, by omega, by go_num, ⟨below_then BW.out BW.out.size hb'⟩, ⟨by rw [A.out, placeR_miss ino l kk kk hlt hit]⟩⟩
  ·have hltz : ¬ (kk : Int) < (l.length : Int) := by omega
   obtain rfl : kk = l.length := by omega
   go_wp2
   go_ret
   exact ⟨by rw [A.out, List.drop_length]; rfl, BW.out⟩
def impl_placeOf.f (k : Nat) (l0_0 : List S40) (a0_1 a1 : Int) : Option Int := if (l0_0.length : Int) ≤ 9223372036854775807 then some (placeR a1 l0_0 0) else none
set_option maxHeartbeats 400000 in
theorem impl_placeOf.calls (k : Nat) (A0_0 : Option Addr) (c0_0 : Nat) (l0_0 : List S40) (a0_1 a1 : Int) (r : Int) (w : World) (hr0_0 : Kd.C k40 w A0_0 l0_0.length l0_0) (hc0_0 : l0_0.length ≤ c0_0) (h : impl_placeOf.f k l0_0 a0_1 a1 = some r) :
  Calls Try.prog 44 #[.agg #[.slice A0_0 l0_0.length c0_0, .int .i64 a0_1], .int .i64 a1] w fun e w' => e = .returned (.int .i64 r) ∧ Below w.heap.size w w' := by
 unfold impl_placeOf.f at h
 split at h
 case isFalse => cases h
 case isTrue hl =>
 obtain rfl := Option.some.inj h
 clear h
 have hw1 : Below w.heap.size w (w.alloc (.cells #[.slice A0_0 l0_0.length c0_0, .int .i64 a0_1] 34)) := (Below.refl _ w).alloc (Nat.le_refl _) _
 have hw2 : Below w.heap.size w ((w.alloc (.cells #[.slice A0_0 l0_0.length c0_0, .int .i64 a0_1] 34)).alloc (.cells #[.int .i64 a1] 3)) := hw1.alloc (by simp) _
 have hcon := placeOf2.calls a1 A0_0 c0_0 l0_0 (w.heap.size + 1) ((w.alloc (.cells #[.slice A0_0 l0_0.length c0_0, .int .i64 a0_1] 34)).alloc (.cells #[.int .i64 a1] 3)) (Kd.C_below hr0_0 hw2) (by simp) (by simp) (by omega)
 clear hr0_0 hw1
 go_enter Try.func44, Try.ntmps44
 go_wp2_with (go_at_call 45; refine hcon.mono ?_; rintro e w' ⟨rfl, hb'⟩)
 go_ret
 exact ⟨rfl, below_then hw2 (by simp only [World.size_alloc]; omega) hb'⟩
-- NOT PRINTED: function 81 (impl_Inode_81)

-- NOT PRINTED: function 125 (slices_Reverse_Inode)

-- NOT PRINTED: function 103 (impl_Inode_103)

-- NOT PRINTED: function 82 (impl_Inode_82)

/-! ### slices_Insert_Inode: function 47 -/
/-- copy of elements of several cells. -/
theorem run_copyZInode {P : Program} (w : World) (dT sT ty elem : TypeId) (b o dLen dCap : Nat) (a : Addr) (sLen sCap n : Nat) (cs : List Value)
  (hu : P.underlying dT = some (.slice elem)) (hs : (P.info? elem).map (·.size) = some 6) (hm : Nat.min sLen dLen = n) (hn : cs.length = n * 6)
  (hsrc : ∀ j v, cs[j]? = some v → w.cell? (a.add j) = some v) (hc : ∀ j, j < cs.length → (w.cell? ⟨b, o + j, none⟩).isSome = true) (hf : ∀ j, j < cs.length → w.frozen? ⟨b, o + j, none⟩ = false) (h1 : ∀ v ∈ cs, v.oneCell' = true) :
  (Builtin.copy_ #[dT, sT] ty #[.slice (some ⟨b, o, none⟩) dLen dCap, .slice (some a) sLen sCap]).run P w = .ok (goInt n) (w.setCells b o cs) := by
 have hl := run_loadCells_list (P := P) w a cs hsrc
 have hst := run_storeCells_cells (P := P) b o cs 0 w (by simpa using hc) (by simpa using hf) h1
 cases hq : P.info? elem with
 | none => simp [hq] at hs
 | some i =>
  have hi : i.size = 6 := by simpa [hq] using hs
  simp [Builtin.copy_, run_underlying hu, Builtin.lenOf, Builtin.firstCells, sizeOf, typeInfo, hq, hi, hm, ← hn, hl, hst]
theorem wpList_copyZInode {P : Program} (w : World) {ops : Array Oper} {rest : List Oper} {o : Oper} {a : Act} {Q : Exit → Act → World → Prop} (hgd : o.guard = none) (d s : Operand) (t t' : TypeId)
  (ho : o.op = .call { callee := .builtin .copy, args := #[d, s], argTypes := #[t, t'] }) (v u : Value) (hd : a.eval d = v) (hs : a.eval s = u) {v' : Value} {w' : World}
  (hr : (Builtin.copy_ #[t, t'] o.type #[v, u]).run P w = .ok v' w') (h : wpList P ops Q rest (a.put o.dst v') w') : wpList P ops Q (o :: rest) a w :=
 wpList_plain hgd fun K hK => by
  unfold Oper.wp execOp
  simp only [ho, resolve, invoke, builtin, Sem.run_bind, Sem.run_pure, Result.andThen_ok, List.map_toArray, List.map_cons, List.map_nil, hd, hs, hr]
  exact hK _ _ h
theorem step_copyZInode {P : Program} {ops : Array Oper} {o : Oper} {a : Act} {w : World} {K : Act → World → Prop} {Q : Exit → Act → World → Prop} {E : Prop}
  (hg : o.guard = none) (d x : Operand) (dT sT : TypeId) (hop : o.op = Op.call { callee := Callee.builtin Builtin.copy, args := #[d, x], argTypes := #[dT, sT] })
  (v u : Value) (hd : a.eval d = v) (hx : a.eval x = u) {v' : Value} {w' : World} (hr : (Builtin.copy_ #[dT, sT] o.type #[v, u]).run P w = .ok v' w') (hK : K (a.put o.dst v') w') :
  if Region.wanted o (yielded ops a.tmps) = true then Oper.wp P o a w K Q else E := by
 have hw : Region.wanted o (yielded ops a.tmps) = true := by simp [Region.wanted, hg]
 rw [if_pos hw]
 unfold Oper.wp
 simp [execOp, hop, resolve, invoke, builtin, hd, hx, hr, Result.andThen]
 exact hK
set_option maxHeartbeats 4000000 in
set_option maxRecDepth 100000 in
theorem insInode_shift.calls (g n c i vb : Nat) (cur : Array Value) (inner vs : List Value) (w : World) (hi : i < n) (hroom : n + 1 ≤ c) (hc63 : c ≤ 9223372036854775807) (hvb : vb ≠ g)
  (hb : w.heap[g]? = some (.cells cur 40 (0, 0))) (hcs : cur.size = c * 6) (hin : cur.toList.take (n * 6) = inner) (hv : w.heap[vb]? = some (.cells vs.toArray 40 (0, 0))) (hvl : vs.length = 6)
  (h1c : ∀ u ∈ inner, u.oneCell' = true) (h1v : ∀ u ∈ vs, u.oneCell' = true) :
  Calls Try.prog 47 #[.slice (some ⟨g, 0, none⟩) n c, .int .i64 i, .slice (some ⟨vb, 0, none⟩) 1 1] w fun e w' =>
   e = .returned (.slice (some ⟨g, 0, none⟩) (n + 1) c) ∧ w' = (w.drew.setCells g ((i + 1) * 6) (inner.drop (i * 6))).setCells g (i * 6) vs := by
 have hu := Try.underlying32
 have mixed : Try.prog.follows .mixedOrders = true := by kernel_rfl
 have hz1 : ¬ ((1 : Int) = 0) := by omega
 have hz2 : ¬ ((i : Int) = (n : Int)) := by omega
 have hsz : (Try.prog.info? 40).map (·.size) = some 6 := by kernel_rfl
 have hil : inner.length = n * 6 := by rw [← hin, List.length_take, Array.length_toList]; omega
 have hdl : (inner.drop (i * 6)).length = (n - i) * 6 := by rw [List.length_drop, hil]; omega
 have hcur : ∀ j, w.cell? ⟨g, j, none⟩ = cur[j]? := fun j => blk_cell hb j
 have hcell : ∀ j u, inner[j]? = some u → w.cell? ⟨g, j, none⟩ = some u := fun j u hj => by
  rw [hcur, ← hj, ← hin, List.getElem?_take]
  have : j < inner.length := (List.getElem?_eq_some_iff.1 hj).1
  rw [if_pos (by omega), Array.getElem?_toList]
 have hsp : ∀ j, j < (n + 1) * 6 → (w.cell? ⟨g, j, none⟩).isSome = true := fun j hj => by rw [hcur, Array.getElem?_eq_getElem (by omega)]; rfl
 have hfz : ∀ j, w.frozen? ⟨g, j, none⟩ = false := fun j => blk_frozen hb j
 have hvc : ∀ j u, vs[j]? = some u → w.cell? ⟨vb, j, none⟩ = some u := fun j u hj => by rw [blk_cell hv j, List.getElem?_toArray, hj]
 have hov : ∀ lb cb, (callFunc 81 #[.slice (some ⟨vb, 0, none⟩) 1 1, .slice (some ⟨g, (i + 1) * 6, none⟩) lb cb]).run Try.prog w = .ok (.value (.bool false)) w := fun lb cb => by
  rw [run_callFunc_extern Try.func81 (by kernel_rfl) (by kernel_rfl) (by kernel_rfl) (e := Extern.SlicesOverlaps.overlaps #[32, 32] #[4]) (by kernel_rfl),
   Lib.run_overlaps_apart w 32 4 40 Try.underlying32 6 Try.sizeOf40 ⟨vb, 0, none⟩ ⟨g, (i + 1) * 6, none⟩ 1 1 lb cb hvb 40 40 vs.length cur.size (by simp [World.shape?, hv]) (by simp [World.shape?, hb]) (by omega) (blk_frozen hv 0) (blk_frozen hv _)]
  rfl
 have hw1 : IntKind.i64.wrap ((i : Int) + (1 : Int)) = (i : Int) + (1 : Int) := by rw [IntKind.wrap_i64]; omega
 have hw2 : IntKind.i64.wrap ((n : Int) + (1 : Int)) = (n : Int) + (1 : Int) := by rw [IntKind.wrap_i64]; omega
 have hb1 : (0 : Int) ≤ (i : Int) + (1 : Int) := by omega
 have hin' : i ≤ n := by omega
 have htn : ((i : Int) + (1 : Int)).toNat = i + 1 := by omega
 have htn2 : ((n : Int) + (1 : Int)).toNat = n + 1 := by omega
 have hb2 : ¬ (c = i + 1) := by omega
 have hb3 : (i : Int) ≤ (n : Int) + (1 : Int) := by omega
 have hb4 : ¬ (c = i) := by omega
 have hcp1 : ∀ ty dl dc sl sc, dl = n - i → sl = n + 1 - i → (Builtin.copy_ #[32, 32] ty #[.slice (some ⟨g, (i + 1) * 6, none⟩) dl dc, .slice (some ⟨g, i * 6, none⟩) sl sc]).run Try.prog w.drew = .ok (goInt ((n - i : Nat) : Int)) (w.drew.setCells g ((i + 1) * 6) (inner.drop (i * 6))) := fun ty dl dc sl sc hdl_ hsl_ =>
  run_copyZInode w.drew _ _ ty 40 g ((i + 1) * 6) dl dc ⟨g, i * 6, none⟩ sl sc (n - i) (inner.drop (i * 6)) Try.underlying32 hsz (by simp only [Nat.min_def]; split <;> omega) hdl
   (fun j v hj => by rw [Addr.add_lit]; exact hcell (i * 6 + j) v (by rwa [List.getElem?_drop] at hj))
   (fun j hj => hsp _ (by omega)) (fun j hj => hfz _) (fun v hv => h1c v (List.mem_of_mem_drop hv))
 obtain ⟨W1, hW1⟩ : ∃ W1, W1 = w.drew.setCells g ((i + 1) * 6) (inner.drop (i * 6)) := ⟨_, rfl⟩
 obtain ⟨cur1, hh1, hs1, _⟩ := setCells_row (inner.drop (i * 6)) ((i + 1) * 6) w.drew cur hb (by omega)
 have hcp2 : ∀ (W : World), W.heap = W1.heap → ∀ ty dc, (Builtin.copy_ #[32, 32] ty #[.slice (some ⟨g, i * 6, none⟩) (n + 1 - i) dc, .slice (some ⟨vb, 0, none⟩) 1 1]).run Try.prog W = .ok (goInt 1) (W.setCells g (i * 6) vs) := fun W hWh ty dc =>
  run_copyZInode W _ _ ty 40 g (i * 6) (n + 1 - i) dc ⟨vb, 0, none⟩ 1 1 1 vs Try.underlying32 hsz (by simp only [Nat.min_def]; split <;> omega) (by omega)
   (fun j v hj => by
    rw [Addr.add_lit, Nat.zero_add]
    rw [show W.cell? ⟨vb, j, none⟩ = w.cell? ⟨vb, j, none⟩ from by rw [blk_cell (w := W) (g := vb) (cs := vs.toArray) (t := 40) (by rw [hWh, hW1, setCells_far _ _ _ hvb]; exact hv) j, blk_cell hv j]]
    exact hvc j v hj)
   (fun j hj => by rw [blk_cell (w := W) (g := g) (cs := cur1) (t := 40) (by rw [hWh, hW1]; exact hh1), Array.getElem?_eq_getElem (by omega)]; rfl) (fun j hj => blk_frozen (w := W) (g := g) (cs := cur1) (t := 40) (by rw [hWh, hW1]; exact hh1) _) h1v
 rw [← hW1] at hcp1
 go_enter Try.func47, Try.ntmps47
 go_wp2_with (simp only [hov])
 go_region_law_o (refine step_copyZInode rfl _ _ 32 32 rfl (.slice (some ⟨g, (i + 1) * 6, none⟩) (n + 1 - (i + 1)) (c - (i + 1))) (.slice (some ⟨g, i * 6, none⟩) (n + 1 - i) (c - i)) (by simp [Act.eval, Act.put]) (by simp [Act.eval, Act.put]) (hcp1 _ _ _ _ _ (by omega) (by omega)) ?_)
 go_wp2_with (at_builtin; refine wpList_copyZInode _ rfl _ _ 32 32 rfl _ _ rfl rfl (hcp2 _ rfl _ _) ?_)
 go_ret
 first | exact ⟨rfl, rfl⟩ | exact ⟨rfl, by rw [hW1]⟩
theorem infoInode : (Try.prog.info? 40).map (fun i => (i.zero, i.size, i.bytes)) = some (some (Value.agg #[.int .i64 0, .int .i64 0, .int .i64 0, .slice none 0 0, .slice none 0 0, .slice none 0 0]), 6, 96) := by kernel_rfl
theorem oneInode (w : World) (vb : Nat) (vs : List Value) (hv : w.heap[vb]? = some (.cells vs.toArray 40 (0, 0))) (hvl : vs.length = 6) (h1v : ∀ u ∈ vs, u.oneCell' = true) : ReadsRow ((Kd.raw 6).K w) 6 w (some ⟨vb, 0, none⟩) 1 [vs] := by
 refine ⟨rfl, by decide, fun _ => ⟨⟨vb, 0, none⟩, rfl, fun j p hj => ?_⟩⟩
 cases j with
 | zero =>
  obtain rfl : vs = p := by simpa using hj
  refine ⟨vs, hvl, ⟨rfl, hvl, h1v⟩, fun i u hu => ?_⟩
  rw [Nat.zero_mul, Nat.zero_add, Addr.add_lit, Nat.zero_add, blk_cell hv i, List.getElem?_toArray, hu]
 | succ j => simp at hj
set_option maxHeartbeats 4000000 in
set_option maxRecDepth 100000 in
theorem insInode_end.calls (A : Option Addr) (n c vb base : Nat) (rows : List (List Value)) (vs : List Value) (w0 w : World) (hn : rows.length = n)
  (hr : (Kd.raw 6).R 40 w base (fun k => some k = (Value.slice A n c).ownBlock ∨ w.heap.size ≤ k) (.slice A n c) rows) (hv : w.heap[vb]? = some (.cells vs.toArray 40 (0, 0))) (hvl : vs.length = 6) (h1v : ∀ u ∈ vs, u.oneCell' = true)
  (hB : Below base w0 w) (hbase : base ≤ w.heap.size) (hbig : (n + 1) * 96 ≤ 140737488355328) :
  Calls Try.prog 47 #[.slice A n c, .int .i64 n, .slice (some ⟨vb, 0, none⟩) 1 1] w fun e w' => ∃ v', e = .returned v' ∧ (Kd.raw 6).R 40 w' base (fun k => some k = (Value.slice A n c).ownBlock ∨ w.heap.size ≤ k) v' (rows ++ [vs]) ∧
   Below base w0 w' ∧ w.grownBy w' (Value.slice A n c).ownBlock ∧ (v'.ownBlock = (Value.slice A n c).ownBlock ∨ ∃ b, v'.ownBlock = some b ∧ w.heap.size ≤ b) := by
 have hu := Try.underlying32
 have hz1 : ¬ ((1 : Int) = 0) := by omega
 have ho := oneInode w vb vs hv hvl h1v
 have hr' := hr
 obtain ⟨hok, inner, hown, hrep⟩ := hr'
 go_enter Try.func47, Try.ntmps47
 rcases A with _ | ad
 ·obtain ⟨rfl, rfl⟩ : n = 0 ∧ c = 0 := by
   rcases hown.2 with ⟨h1, h2⟩ | ⟨g', cap', cur, h1, _⟩
   ·injection h1 with _ a b; exact ⟨a, b⟩
   ·cases h1
  go_wp2_with (at_builtin; refine Kd.R_append_rows (Kd.raw 6) (Rr := (Kd.raw 6).K w) (w0 := w0) base rfl _ _ 32 40 (Value.agg #[.int .i64 0, .int .i64 0, .int .i64 0, .slice none 0 0, .slice none 0 0, .slice none 0 0]) 96 rfl hu infoInode rfl (by decide) (by decide) _ rows [vs] (some ⟨vb, 0, none⟩) 1 1 _ (fun _ => False) rfl rfl hr ho (fun x cs h => h) (fun _ h => h.elim) (fun k hk => .inr hk) hB hbase (by omega) ?_; intro v1 w1 h1 h2 h3 h4)
  go_ret
  exact ⟨_, rfl, h1, h2, h3, h4⟩
 ·obtain ⟨g, rfl⟩ := Kd.R_head hr
  have hnc : n ≤ c := (Kd.R_reads' hr).2.1
  go_wp2_with (at_builtin; refine Kd.R_append_rows (Kd.raw 6) (Rr := (Kd.raw 6).K w) (w0 := w0) base rfl _ _ 32 40 (Value.agg #[.int .i64 0, .int .i64 0, .int .i64 0, .slice none 0 0, .slice none 0 0, .slice none 0 0]) 96 rfl hu infoInode rfl (by decide) (by decide) _ rows [vs] (some ⟨vb, 0, none⟩) 1 1 _ (fun _ => False) rfl rfl hr ho (fun x cs h => h) (fun _ h => h.elim) (fun k hk => .inr hk) hB hbase (by omega) ?_; intro v1 w1 h1 h2 h3 h4)
  all_goals (go_ret; exact ⟨_, rfl, h1, h2, h3, h4⟩)
set_option maxHeartbeats 4000000 in
set_option maxRecDepth 100000 in
theorem insInode_grow.calls (g n c i vb : Nat) (cur : Array Value) (inner vs : List Value) (w : World) (hi : i < n) (hnc : n ≤ c) (hroom : c < n + 1) (hbig : (n + 1) * 96 ≤ 140737488355328)
  (hb : w.heap[g]? = some (.cells cur 40 (0, 0))) (hcs : cur.size = c * 6) (hin : cur.toList.take (n * 6) = inner) (hv : w.heap[vb]? = some (.cells vs.toArray 40 (0, 0))) (hvl : vs.length = 6)
  (h1c : ∀ u ∈ inner, u.oneCell' = true) (h1v : ∀ u ∈ vs, u.oneCell' = true) :
  Calls Try.prog 47 #[.slice (some ⟨g, 0, none⟩) n c, .int .i64 i, .slice (some ⟨vb, 0, none⟩) 1 1] w fun e w' => ∃ (G : Nat) (ROW : Array Value), n + 1 ≤ G ∧ G ≤ 9223372036854775807 ∧ ROW.size = G * 6 ∧ ROW.toList.take (i * 6) = inner.take (i * 6) ∧
   e = .returned (.slice (some ⟨w.heap.size, 0, none⟩) (n + 1) G) ∧ w' = (((w.alloc (.cells ROW 40)).drew.setCells w.heap.size (i * 6) vs).drew).setCells w.heap.size ((i + 1) * 6) (inner.drop (i * 6)) := by
 have hu := Try.underlying32
 have mixed : Try.prog.follows .mixedOrders = true := by kernel_rfl
 obtain ⟨i0, hi0, hz0, hzs, hzb⟩ := info_parts infoInode
 have hsz : (Try.prog.info? 40).map (·.size) = some 6 := by rw [hi0]; simp [hzs]
 have hz1 : ¬ ((1 : Int) = 0) := by omega
 have hz2 : ¬ ((i : Int) = (n : Int)) := by omega
 have hz3 : (c : Int) < (n : Int) + (1 : Int) := by omega
 have hil : inner.length = n * 6 := by rw [← hin, List.length_take, Array.length_toList]; omega
 have hdl : (inner.drop (i * 6)).length = (n - i) * 6 := by rw [List.length_drop, hil]; omega
 have hgw : g < w.heap.size := blk_lt hb
 have hvw : vb < w.heap.size := blk_lt hv
 have hcell : ∀ j u, inner[j]? = some u → w.cell? ⟨g, j, none⟩ = some u := fun j u hj => by
  rw [blk_cell hb j, ← hj, ← hin, List.getElem?_take]
  have : j < inner.length := (List.getElem?_eq_some_iff.1 hj).1
  rw [if_pos (by omega), Array.getElem?_toList]
 have hvc : ∀ j u, vs[j]? = some u → w.cell? ⟨vb, j, none⟩ = some u := fun j u hj => by rw [blk_cell hv j, List.getElem?_toArray, hj]
 have hkk : (n : Int) + (1 : Int) - (i : Int) = ((n + 1 - i : Nat) : Int) := by omega
 have hik : i + (n + 1 - i) = n + 1 := by omega
 have hold : (Builtin.firstCells i0.size i (.slice (some ⟨g, 0, none⟩) i c)).run Try.prog w.drew = .ok (inner.take (i * 6)).toArray w.drew := by
  rw [hzs]
  exact run_firstCells_some w.drew 6 i ⟨g, 0, none⟩ i c (inner.take (i * 6)) (by rw [List.length_take]; omega) (fun j v hj => by
   rw [Addr.add_lit, Nat.zero_add]
   rw [List.getElem?_take] at hj
   split at hj
   ·exact hcell j v hj
   ·cases hj)
 have hrz : ∀ ty, (Builtin.append_ #[32, 3] ty #[.slice (some ⟨g, 0, none⟩) i c, .int .i64 ((n : Int) + (1 : Int) - (i : Int))]).run Try.prog w =
   .ok (.slice (some ⟨w.heap.size, 0, none⟩) (n + 1) (grownCap w (n + 1) c 40)) (w.drew.alloc (.cells ((inner.take (i * 6)).toArray ++ Builtin.zeroCells (Value.agg #[.int .i64 0, .int .i64 0, .int .i64 0, .slice none 0 0, .slice none 0 0, .slice none 0 0]).cells (n + 1 - i) ++ Builtin.zeroCells (Value.agg #[.int .i64 0, .int .i64 0, .int .i64 0, .slice none 0 0, .slice none 0 0, .slice none 0 0]).cells (grownCap w (n + 1) c 40 - (n + 1))) 40)) := fun ty => by
  have h := Lib.run_append_grow_zeros w 32 3 ty 40 i0 _ .i64 .i64 hu Try.underlying3 hi0 hz0 (some ⟨g, 0, none⟩) i c (inner.take (i * 6)) hold (n + 1 - i) (by omega) (by omega) (by omega) (by omega) (by rw [hzb]; omega) (by rw [hzb, hik]; exact growslice_fits hroom hbig)
  rw [hik] at h
  rw [hkk]
  exact h
 obtain ⟨G, hG⟩ : ∃ G, G = grownCap w (n + 1) c 40 := ⟨_, rfl⟩
 have hGn : n + 1 ≤ G := by rw [hG]; exact grownCap_ge w _ _ _
 have hG63 : G ≤ 9223372036854775807 := by
  have := grownCap_le_maxLen w (n + 1) c 40 (by unfold maxLen; omega)
  rw [← hG] at this
  unfold maxLen at this
  omega
 obtain ⟨ROW, hROW⟩ : ∃ ROW : Array Value, ROW = (inner.take (i * 6)).toArray ++ Builtin.zeroCells (Value.agg #[.int .i64 0, .int .i64 0, .int .i64 0, .slice none 0 0, .slice none 0 0, .slice none 0 0]).cells (n + 1 - i) ++ Builtin.zeroCells (Value.agg #[.int .i64 0, .int .i64 0, .int .i64 0, .slice none 0 0, .slice none 0 0, .slice none 0 0]).cells (G - (n + 1)) := ⟨_, rfl⟩
 rw [← hG] at hrz
 rw [← hROW] at hrz
 have hzc : (Value.agg #[.int .i64 0, .int .i64 0, .int .i64 0, .slice none 0 0, .slice none 0 0, .slice none 0 0]).cells.size = 6 := rfl
 have hRl : ROW.size = G * 6 := by
  rw [hROW]
  simp only [Array.size_append, List.size_toArray, List.length_take, Builtin.zeroCells, Array.size_map, Array.size_range, hzc]
  omega
 have hRt : ROW.toList.take (i * 6) = inner.take (i * 6) := by
  rw [hROW, Array.toList_append, Array.toList_append, List.append_assoc, List.take_append_of_le_length (by rw [List.length_take]; omega), List.take_of_length_le (by rw [List.length_take]; omega)]
 have hblk : ∀ W : World, W.heap = (w.drew.alloc (.cells ROW 40)).heap → W.heap[w.heap.size]? = some (.cells ROW 40 (0, 0)) := fun W h => by rw [h]; exact blk_new w.drew _
 have hcpA : ∀ (W : World), W.heap = (w.drew.alloc (.cells ROW 40)).heap → ∀ ty dc, (Builtin.copy_ #[32, 32] ty #[.slice (some ⟨w.heap.size, i * 6, none⟩) (n + 1 - i) dc, .slice (some ⟨vb, 0, none⟩) 1 1]).run Try.prog W = .ok (goInt 1) (W.setCells w.heap.size (i * 6) vs) := fun W hWh ty dc =>
  run_copyZInode W _ _ ty 40 w.heap.size (i * 6) (n + 1 - i) dc ⟨vb, 0, none⟩ 1 1 1 vs hu hsz (by simp only [Nat.min_def]; split <;> omega) (by omega)
   (fun j v hj => by
    rw [Addr.add_lit, Nat.zero_add, blk_cell (w := W) (g := vb) (cs := vs.toArray) (t := 40) (by rw [hWh]; exact blk_alloc (blk_drew hv) _) j, List.getElem?_toArray, hj])
   (fun j hj => by rw [blk_cell (hblk W hWh), Array.getElem?_eq_getElem (by omega)]; rfl) (fun j hj => blk_frozen (hblk W hWh) _) h1v
 obtain ⟨cur1, hh1, hs1, _⟩ := setCells_row vs (i * 6) (w.drew.alloc (.cells ROW 40)) ROW (blk_new w.drew _) (by omega)
 have hcpB : ∀ (W : World), W.heap = ((w.drew.alloc (.cells ROW 40)).setCells w.heap.size (i * 6) vs).heap → ∀ ty dl dc sl sc, dl = n - i → sl = n - i → (Builtin.copy_ #[32, 32] ty #[.slice (some ⟨w.heap.size, (i + 1) * 6, none⟩) dl dc, .slice (some ⟨g, i * 6, none⟩) sl sc]).run Try.prog W = .ok (goInt ((n - i : Nat) : Int)) (W.setCells w.heap.size ((i + 1) * 6) (inner.drop (i * 6))) := fun W hWh ty dl dc sl sc hdl_ hsl_ =>
  run_copyZInode W _ _ ty 40 w.heap.size ((i + 1) * 6) dl dc ⟨g, i * 6, none⟩ sl sc (n - i) (inner.drop (i * 6)) hu hsz (by simp only [Nat.min_def]; split <;> omega) hdl
   (fun j v hj => by
    rw [Addr.add_lit]
    have h2 := hcell (i * 6 + j) v (by rwa [List.getElem?_drop] at hj)
    rw [blk_cell hb] at h2
    rw [blk_cell (w := W) (g := g) (cs := cur) (t := 40) (by rw [hWh, setCells_far _ _ _ (by omega)]; exact blk_alloc (blk_drew hb) _)]
    exact h2)
   (fun j hj => by rw [blk_cell (w := W) (g := w.heap.size) (cs := cur1) (t := 40) (by rw [hWh]; exact hh1), Array.getElem?_eq_getElem (by omega)]; rfl) (fun j hj => blk_frozen (w := W) (g := w.heap.size) (cs := cur1) (t := 40) (by rw [hWh]; exact hh1) _) (fun v hv => h1c v (List.mem_of_mem_drop hv))
 have hGi : ¬ (G = i) := by omega
 have hGim : ¬ (G = i + 1) := by omega
 have hci : ¬ (c = i) := by omega
 have hw1 : IntKind.i64.wrap ((i : Int) + (1 : Int)) = (i : Int) + (1 : Int) := by rw [IntKind.wrap_i64]; omega
 have hw2 : IntKind.i64.wrap ((n : Int) + (1 : Int)) = (n : Int) + (1 : Int) := by rw [IntKind.wrap_i64]; omega
 have hw3 : IntKind.i64.wrap ((n : Int) + (1 : Int) - (i : Int)) = (n : Int) + (1 : Int) - (i : Int) := by rw [IntKind.wrap_i64]; omega
 have hb1 : (0 : Int) ≤ (i : Int) + (1 : Int) := by omega
 have hin' : i ≤ n := by omega
 have htn : ((i : Int) + (1 : Int)).toNat = i + 1 := by omega
 have hb3 : (i : Int) ≤ (n : Int) := by omega
 clear hkk hik hold hROW hG hblk hh1 hs1
 go_enter Try.func47, Try.ntmps47
 go_wp2_with (first
  | (at_builtin; refine Lib.wpList_append_run _ rfl _ _ _ _ rfl _ _ rfl rfl _ _ (hrz _) ?_)
  | (refine wpList_copyZInode _ rfl _ _ 32 32 rfl _ _ rfl rfl (hcpA _ rfl _ _) ?_))
 go_region_law_o (refine step_copyZInode rfl _ _ 32 32 rfl (.slice (some ⟨w.heap.size, (i + 1) * 6, none⟩) (n + 1 - (i + 1)) (G - (i + 1))) (.slice (some ⟨g, i * 6, none⟩) (n - i) (c - i)) (by simp [Act.eval, Act.put]) (by simp [Act.eval, Act.put]) (hcpB ((((w.alloc (.cells ROW 40)).drew).setCells w.heap.size (i * 6) vs).drew) (by rfl) _ _ _ _ _ (by omega) (by omega)) ?_)
 go_wp2
 go_ret
 exact ⟨G, ROW, hGn, hG63, hRl, hRt, rfl, rfl⟩
/-- slices.Insert of one element: the row with it. -/
theorem insInode.calls (A : Option Addr) (n c i vb base : Nat) (ok : Nat → Prop) (rows : List (List Value)) (vs : List Value) (w0 w : World) (hi : i ≤ n) (hn : rows.length = n) (hr : (Kd.raw 6).R 40 w base ok (.slice A n c) rows)
  (hv : w.heap[vb]? = some (.cells vs.toArray 40 (0, 0))) (hvb : some vb ≠ (Value.slice A n c).ownBlock) (hvl : vs.length = 6) (h1v : ∀ u ∈ vs, u.oneCell' = true) (hB : Below base w0 w) (hbase : base ≤ w.heap.size) (hbig : (n + 1) * 96 ≤ 140737488355328) :
  Calls Try.prog 47 #[.slice A n c, .int .i64 i, .slice (some ⟨vb, 0, none⟩) 1 1] w fun e w' => ∃ v', e = .returned v' ∧ (Kd.raw 6).R 40 w' base (fun k => some k = (Value.slice A n c).ownBlock ∨ w.heap.size ≤ k) v' (rows.take i ++ [vs] ++ rows.drop i) ∧
   Below base w0 w' ∧ w.grownBy w' (Value.slice A n c).ownBlock ∧ (v'.ownBlock = (Value.slice A n c).ownBlock ∨ ∃ b, v'.ownBlock = some b ∧ w.heap.size ≤ b) := by
 have hr' : (Kd.raw 6).R 40 w base (fun k => some k = (Value.slice A n c).ownBlock ∨ w.heap.size ≤ k) (.slice A n c) rows := ⟨fun k hk => .inl hk.symm, hr.2⟩
 rcases Nat.lt_or_ge i n with hlt | hge
 case inr =>
  obtain rfl : i = n := by omega
  rw [List.take_of_length_le (by omega), List.drop_of_length_le (by omega), List.append_nil]
  exact insInode_end.calls A i c vb base rows vs w0 w hn hr' hv hvl h1v hB hbase hbig
 case inl =>
 obtain ⟨hok, inner, ⟨hil, hown⟩, hrep⟩ := hr'
 rcases hown with ⟨he, h0⟩ | ⟨g, cap, cur, he, hbg, hh, hnc, hcm, hcs, hin⟩
 ·omega
 injection he with ha hnn hcc
 subst ha; subst hcc; subst hnn
 rw [show (Kd.raw 6).sz = 6 from rfl] at hil hcs hin hrep
 have h1c : ∀ u ∈ inner, u.oneCell' = true := Kd.reps_one hrep (by decide) (fun p c h => h.2.2)
 have hrI := reps_ins (i := i) hrep (by omega) hvl h1v
 have hgv : vb ≠ g := fun he => hvb (by rw [he]; rfl)
 have hpl : i * 6 ≤ inner.length := by rw [hil]; omega
 have hlen3 : (rows.take i ++ [vs] ++ rows.drop i).length = rows.length + 1 := by simp only [List.length_append, List.length_take, List.length_drop, List.length_singleton]; omega
 rcases Nat.lt_or_ge c (rows.length + 1) with hg | hroom
 ·refine (insInode_grow.calls g rows.length c i vb cur inner vs w hlt hnc hg hbig hh hcs hin hv hvl h1c h1v).mono ?_
  rintro e w' ⟨G, ROW, hGn, hG63, hRl, hRt, rfl, rfl⟩
  refine ⟨_, rfl, ?_, ?_, grown_alloc_two w _ _ _ _ _ _, .inr ⟨_, rfl, Nat.le_refl _⟩⟩
  ·obtain ⟨c1, k1, k2, k3⟩ := setCells_row (e := 40) vs (i * 6) (w.alloc (.cells ROW 40)).drew ROW (blk_drew (blk_new w _)) (by omega)
   obtain ⟨c2, l1, l2, l3⟩ := setCells_row (inner.drop (i * 6)) ((i + 1) * 6) _ c1 (blk_drew k1) (by rw [List.length_drop, k2, hil, hRl]; omega)
   have hm : G ≤ maxLen := hG63
   rw [hlen3.symm]
   refine rawR_of l1 (by rw [l2, k2, hRl]) (by omega) hm (by omega) (.inr (Nat.le_refl _)) rfl ?_
   rw [l3]
   have := ins_list2 ROW.toList inner vs (i * 6) 6 hvl hpl hRt c1.toList (by rw [Array.length_toList]; omega) k3
   rw [show (i + 1) * 6 = i * 6 + 6 by omega, show (rows.take i ++ [vs] ++ rows.drop i).length * 6 = inner.length + 6 by rw [hlen3, hil]; omega, this]
   exact hrI
  ·exact hB.grown (grown_alloc_two w _ _ _ _ _ none) hbase (fun k e => by cases e)
 ·refine (insInode_shift.calls g rows.length c i vb cur inner vs w hlt hroom (by unfold maxLen at hcm; omega) hgv hh hcs hin hv hvl h1c h1v).mono ?_
  rintro e w' ⟨rfl, rfl⟩
  refine ⟨_, rfl, ?_, ?_, grown_two w g _ _ _ _, .inl rfl⟩
  ·obtain ⟨c1, k1, k2, k3⟩ := setCells_row (inner.drop (i * 6)) ((i + 1) * 6) w.drew cur (blk_drew hh) (by rw [List.length_drop, hil, hcs]; omega)
   obtain ⟨c2, l1, l2, l3⟩ := setCells_row vs (i * 6) _ c1 k1 (by rw [k2, hcs]; omega)
   rw [hlen3.symm]
   refine rawR_of l1 (by rw [l2, k2, hcs]) (by omega) hcm hbg (.inl rfl) rfl ?_
   rw [l3]
   have := ins_list cur.toList inner vs (i * 6) 6 hvl hpl (by rw [← hin, List.take_take, Nat.min_eq_left (by omega)]) (by rw [Array.length_toList, hcs]; omega) c1.toList (by rw [k3, show (i + 1) * 6 = i * 6 + 6 by omega])
   rw [show (rows.take i ++ [vs] ++ rows.drop i).length * 6 = inner.length + 6 by rw [hlen3, hil]; omega, this]
   exact hrI
  ·exact hB.grown (grown_two w g _ _ _ _) hbase (fun k e => by injection e with e; omega)
/-! ### impl_SetInode: function 12 -/
theorem sOpenV {α : Type} {d : Kd α} {e : Nat} {W : World} {base : Nat} {ok : Nat → Prop} {v : Value} {xs : List α} (h : Kd.S d e W base ok v xs) :
  ∃ (rows : List (List Value)) (f : Nat → Nat), rows.length = xs.length ∧ (Kd.raw d.sz).R e W base (fun k => v.ownBlock = some k) v rows ∧ (∀ k, v.ownBlock = some k → ok k) ∧
   ∀ (q : Nat) (x : α), xs[q]? = some x → d.M W base (fun k => (ok k ∧ some k ≠ v.ownBlock) ∧ f k = q) x (rows.getD q []) := by
 obtain ⟨f, hok0, inner, ho, hr⟩ := h
 have hlen : inner.length = xs.length * d.sz := by have := hr.1; rw [List.length_zipIdx] at this; exact this
 have hM : ∀ (q : Nat) (x : α), xs[q]? = some x → d.M W base (fun k => (ok k ∧ some k ≠ v.ownBlock) ∧ f k = q) x ((inner.drop (q * d.sz)).take d.sz) := fun q x hx => hr.2 q (x, q) (Kd.zip_at hx)
 have hrow : ∀ q, q < xs.length → ((List.range xs.length).map fun j => (inner.drop (j * d.sz)).take d.sz)[q]? = some ((inner.drop (q * d.sz)).take d.sz) := fun q hq => by
  rw [List.getElem?_map, List.getElem?_range hq]; rfl
 refine ⟨(List.range xs.length).map fun j => (inner.drop (j * d.sz)).take d.sz, f, by rw [List.length_map, List.length_range], ⟨fun k hk => hk, inner, ?_, ?_, fun j p hj => ?_⟩, hok0, fun q x hx => ?_⟩
 ·rw [List.length_map, List.length_range]; rw [List.length_zipIdx] at ho; exact ho
 ·rw [List.length_map, List.length_range]; exact hlen
 ·rw [List.getElem?_map] at hj
  obtain ⟨j', hj', rfl⟩ := Option.map_eq_some_iff.1 hj
  obtain ⟨hl, he⟩ := List.getElem?_eq_some_iff.1 hj'
  rw [List.getElem_range] at he
  subst he
  rw [List.length_range] at hl
  have hm := d.K_of_M (hM j _ (List.getElem?_eq_getElem hl))
  exact ⟨rfl, d.K_len hm, d.K_one hm⟩
 ·have hq : q < xs.length := (List.getElem?_eq_some_iff.1 hx).1
  rw [List.getD_eq_getElem?_getD, hrow q hq]
  exact hM q x hx
theorem sCloseV {α : Type} {d : Kd α} {e : Nat} {W : World} {base : Nat} {ok okr : Nat → Prop} {v : Value} {xs : List α} {rows : List (List Value)} (f : Nat → Nat)
  (hraw : (Kd.raw d.sz).R e W base okr v rows) (hlen : rows.length = xs.length) (hok : ∀ k, v.ownBlock = some k → ok k)
  (hM : ∀ (q : Nat) (x : α), xs[q]? = some x → d.M W base (fun k => (ok k ∧ some k ≠ v.ownBlock) ∧ f k = q) x (rows.getD q [])) : Kd.S d e W base ok v xs := by
 obtain ⟨_, inner, ho, hr⟩ := hraw
 refine ⟨f, hok, inner, ?_, ?_, fun j p hj => ?_⟩
 ·rw [List.length_zipIdx, ← hlen]; exact ho
 ·rw [List.length_zipIdx, ← hlen]; exact hr.1
 ·rw [List.getElem?_zipIdx, Nat.zero_add] at hj
  obtain ⟨y, hy, rfl⟩ := Option.map_eq_some_iff.1 hj
  have hjl : j < rows.length := by rw [hlen]; exact (List.getElem?_eq_some_iff.1 hy).1
  have hrw := (hr.2 j _ (List.getElem?_eq_getElem hjl)).1
  show d.M W base _ y ((inner.drop (j * d.sz)).take d.sz)
  rw [show (inner.drop (j * d.sz)).take d.sz = rows[j] from hrw]
  have := hM j y hy
  rw [List.getD_eq_getElem?_getD, List.getElem?_eq_getElem hjl] at this
  exact this
theorem ins_at {α : Type} (l : List α) (x : α) (j q : Nat) (hj : j ≤ l.length) : (l.take j ++ [x] ++ l.drop j)[q]? = if q < j then l[q]? else if q = j then some x else l[q - 1]? := by
 have ht : (l.take j).length = j := by rw [List.length_take]; omega
 rw [List.append_assoc]
 by_cases h1 : q < j
 ·rw [if_pos h1, List.getElem?_append_left (by omega), List.getElem?_take, if_pos h1]
 ·rw [if_neg h1, List.getElem?_append_right (by omega), ht]
  by_cases h2 : q = j
  ·subst h2; rw [if_pos rfl, Nat.sub_self]; rfl
  ·rw [if_neg h2, show q - j = (q - j - 1) + 1 by omega]
   simp only [List.singleton_append, List.getElem?_cons_succ, List.getElem?_drop]
   rw [show j + (q - j - 1) = q - 1 by omega]
/-- A row of structs whose element i is written over with a new one (made from N on): a row again. -/
theorem s_set {α : Type} {d : Kd α} {e : Nat} {W W1 : World} {base N : Nat} {ok okx okr okf : Nat → Prop} {v : Value} {xs : List α} {rows : List (List Value)} {f : Nat → Nat} {i : Nat} {x : α} {vs : List Value}
  (hraw : (Kd.raw d.sz).R e W1 base okr v (rows.set i vs)) (hlen : rows.length = xs.length) (hi : i < xs.length)
  (hM : ∀ (q : Nat) (x : α), xs[q]? = some x → d.M W base (fun k => (ok k ∧ some k ≠ v.ownBlock) ∧ f k = q) x (rows.getD q [])) (hx : d.M W base okx x vs)
  (hv : ∀ k, v.ownBlock = some k → ok k) (hN : ∀ k, ok k → k < N) (hxN : ∀ k, okx k → N ≤ k) (hof : ∀ k, ok k ∨ okx k → okf k)
  (hmove : ∀ k, some k ≠ v.ownBlock → k < W.heap.size → W1.heap[k]? = W.heap[k]?) : Kd.S d e W1 base okf v (xs.set i x) := by
 refine sCloseV (fun k => if k < N then f k else i) hraw (by rw [List.length_set, List.length_set, hlen]) (fun k hk => hof k (.inl (hv k hk))) (fun q y hy => ?_)
 by_cases hq : q = i
 ·subst hq
  rw [List.getElem?_set_self hi] at hy
  injection hy with hy
  subst hy
  rw [List.getD_eq_getElem?_getD, List.getElem?_set_self (by omega)]
  have hne : ∀ k, okx k → some k ≠ v.ownBlock := fun k hk he => by have := hN k (hv k he.symm); have := hxN k hk; omega
  exact d.M_mono (fun k hk => ⟨⟨hof k (.inr hk), hne k hk⟩, by rw [if_neg (by have := hxN k hk; omega)]⟩) (Kd.M_step hx (fun k hk hlt => hmove k (hne k hk) hlt))
 ·rw [List.getElem?_set_ne (fun e => hq e.symm)] at hy
  rw [List.getD_eq_getElem?_getD, List.getElem?_set_ne (fun e => hq e.symm), ← List.getD_eq_getElem?_getD]
  exact d.M_mono (fun k hk => ⟨⟨hof k (.inl hk.1.1), hk.1.2⟩, by rw [if_pos (hN k hk.1.1)]; exact hk.2⟩) (Kd.M_step (hM q y hy) (fun k hk hlt => hmove k hk.1.2 hlt))
/-- The same where a new one is set in between. -/
theorem s_ins {α : Type} {d : Kd α} {e : Nat} {W W1 : World} {base N N2 : Nat} {ok okx okr okf : Nat → Prop} {v v1 : Value} {xs : List α} {rows : List (List Value)} {f : Nat → Nat} {i : Nat} {x : α} {vs : List Value}
  (hraw : (Kd.raw d.sz).R e W1 base okr v1 (rows.take i ++ [vs] ++ rows.drop i)) (hlen : rows.length = xs.length) (hi : i ≤ xs.length)
  (hM : ∀ (q : Nat) (x : α), xs[q]? = some x → d.M W base (fun k => (ok k ∧ some k ≠ v.ownBlock) ∧ f k = q) x (rows.getD q [])) (hx : d.M W base okx x vs)
  (hv : ∀ k, v.ownBlock = some k → ok k) (hv1 : v1.ownBlock = v.ownBlock ∨ ∃ b, v1.ownBlock = some b ∧ N2 ≤ b) (hN : ∀ k, ok k → k < N) (hxN : ∀ k, okx k → N ≤ k ∧ k < N2) (hNN : N ≤ N2) (hof : ∀ k, ok k ∨ okx k ∨ N2 ≤ k → okf k)
  (hmove : ∀ k, some k ≠ v.ownBlock → k < W.heap.size → W1.heap[k]? = W.heap[k]?) : Kd.S d e W1 base okf v1 (xs.take i ++ [x] ++ xs.drop i) := by
 have hl1 : (rows.take i ++ [vs] ++ rows.drop i).length = (xs.take i ++ [x] ++ xs.drop i).length := by simp only [List.length_append, List.length_take, List.length_drop, List.length_singleton, hlen]
 have hvx : ∀ k, okx k → some k ≠ v.ownBlock := fun k hk he => by have := hN k (hv k he.symm); have := (hxN k hk).1; omega
 have hvx1 : ∀ k, okx k → some k ≠ v1.ownBlock := fun k hk he => by
  rcases hv1 with h | ⟨b, h, hb⟩
  ·exact hvx k hk (he.trans h)
  ·rw [h] at he; injection he with he; have := (hxN k hk).2; omega
 have hvo1 : ∀ k, ok k → some k ≠ v.ownBlock → some k ≠ v1.ownBlock := fun k hk hne he => by
  rcases hv1 with h | ⟨b, h, hb⟩
  ·exact hne (he.trans h)
  ·rw [h] at he; injection he with he; have := hN k hk; omega
 refine sCloseV (fun k => if k < N then (if f k < i then f k else f k + 1) else i) hraw hl1 (fun k hk => ?_) (fun q y hy => ?_)
 ·rcases hv1 with h | ⟨b, h, hb⟩
  ·exact hof k (.inl (hv k (h ▸ hk)))
  ·rw [h] at hk; injection hk with hk; exact hof k (.inr (.inr (hk ▸ hb)))
 ·rw [ins_at xs x i q hi] at hy
  rw [List.getD_eq_getElem?_getD, ins_at rows vs i q (by omega)]
  by_cases h1 : q < i
  ·rw [if_pos h1] at hy ⊢
   rw [← List.getD_eq_getElem?_getD]
   exact d.M_mono (fun k hk => ⟨⟨hof k (.inl hk.1.1), hvo1 k hk.1.1 hk.1.2⟩, by rw [if_pos (hN k hk.1.1), hk.2, if_pos h1]⟩) (Kd.M_step (hM q y hy) (fun k hk hlt => hmove k hk.1.2 hlt))
  ·rw [if_neg h1] at hy ⊢
   by_cases h2 : q = i
   ·rw [if_pos h2] at hy ⊢
    injection hy with hy
    subst hy
    exact d.M_mono (fun k hk => ⟨⟨hof k (.inr (.inl hk)), hvx1 k hk⟩, by rw [if_neg (by have := (hxN k hk).1; omega), h2]⟩) (Kd.M_step hx (fun k hk hlt => hmove k (hvx k hk) hlt))
   ·rw [if_neg h2] at hy ⊢
    rw [← List.getD_eq_getElem?_getD]
    exact d.M_mono (fun k hk => ⟨⟨hof k (.inl hk.1.1), hvo1 k hk.1.1 hk.1.2⟩, by rw [if_pos (hN k hk.1.1), hk.2, if_neg (by omega)]; omega⟩) (Kd.M_step (hM (q - 1) y hy) (fun k hk hlt => hmove k hk.1.2 hlt))
def gtR (ino : Int) : List S40 → Nat → Int
 | [], _ => -1
 | x :: l, i => if ino < x.f0 then (i : Int) else gtR ino l (i + 1)
theorem setOf1.calls (ino a b c : Int) (A3 A4 A5 : Option Addr) (n3 c3 n4 c4 n5 c5 : Nat) (B : Nat) (W : World) (hB : B < W.heap.size) (hc : W.cell? ⟨B, 0, none⟩ = some (.int .i64 ino)) :
  Calls Try.prog 46 #[.agg #[.int .i64 a, .int .i64 b, .int .i64 c, .slice A3 n3 c3, .slice A4 n4 c4, .slice A5 n5 c5], .pointer (some ⟨B, 0, none⟩)] W fun e w' => e = .returned (.bool (decide (ino < a))) ∧ Below W.heap.size W w' := by
 have hne : B ≠ W.heap.size := by omega
 go_enter Try.func46, Try.ntmps46
 go_wp2
 all_goals (go_ret; exact ⟨by simp_all, (Below.refl _ W).alloc (Nat.le_refl _) _⟩)
theorem srd_at (l : List S40) (k : Nat) (h : k < l.length) : rd_T40 l (k : Int) = l[k] := by
 simp [rd_T40, List.getD_eq_getElem?_getD, List.getElem?_eq_getElem h]
theorem gtR_hit (ino : Int) (l : List S40) (k j : Nat) (h : k < l.length) (hit : ino < (rd_T40 l (k : Int)).f0) : gtR ino (l.drop k) j = (j : Int) := by
 rw [List.drop_eq_getElem_cons h, gtR, if_pos (by rw [← srd_at l k h]; exact hit)]
theorem gtR_miss (ino : Int) (l : List S40) (k j : Nat) (h : k < l.length) (hit : ¬ ino < (rd_T40 l (k : Int)).f0) : gtR ino (l.drop k) j = gtR ino (l.drop (k + 1)) (j + 1) := by
 rw [List.drop_eq_getElem_cons h, gtR, if_neg (by rw [← srd_at l k h]; exact hit)]
set_option maxHeartbeats 400000 in
set_option maxRecDepth 100000 in
theorem setOf2.calls (ino : Int) (A0 : Option Addr) (c0 : Nat) (l : List S40) (B : Nat) (w : World) (hr : k40.C w A0 l.length l) (hB : B < w.heap.size) (hc : w.cell? ⟨B, 0, none⟩ = some (.int .i64 ino)) (hl : l.length ≤ 9223372036854775807) :
  Calls Try.prog 45 #[.slice A0 l.length c0, .func (.func 46) #[] #[.pointer (some ⟨B, 0, none⟩)]] w fun e w' => e = .returned (.int .i64 (gtR ino l 0)) ∧ Below w.heap.size w w' := by
 go_enter Try.func45, Try.ntmps45
 go_wp2
 go_loopg [5, 8] l.length (fun gg _ s8 wr => ∃ kk : Nat, kk ≤ l.length ∧ l.length - kk ≤ gg ∧ s8 = .int .i64 kk ∧ Aside0 (Below w.heap.size w wr) ∧ Aside0 (gtR ino l 0 = gtR ino (l.drop kk) kk))
 case atStart => exact ⟨0, Nat.zero_le _, by omega, rfl, ⟨Below.refl _ w⟩, ⟨rfl⟩⟩
 case round =>
  obtain ⟨kk, hkk, hg, rfl, BW, A⟩ := hrel
  by_cases hlt : kk < l.length
  ·have hltz : (kk : Int) < (l.length : Int) := by omega
   obtain ⟨ad, A3, c3, A4, c4, A5, c5, e0, h0, h1, h2, h3, h4, h5, _⟩ := at_T40 (Kd.C_below hr BW.out) (kk : Int) (by omega) hltz
   cases e0
   rw [Int.toNat_natCast] at h0 h1 h2 h3 h4 h5
   have hBw : B < wr.heap.size := Nat.lt_of_lt_of_le hB BW.out.size
   have hcw : wr.cell? ⟨B, 0, none⟩ = some (.int .i64 ino) := (BW.out.cell (p := ⟨B, 0, none⟩) hB).trans hc
   by_cases hit : ino < (rd_T40 l (kk : Int)).f0
   ·have hq : decide (ino < (rd_T40 l (kk : Int)).f0) = true := by simpa using hit
    go_wp2_with (go_at_call 46; refine (setOf1.calls ino _ _ _ _ _ _ _ _ _ _ _ _ B wr hBw hcw).mono ?_; rintro e w' ⟨rfl, hb'⟩; rw [hq])
    go_ret
    exact ⟨by rw [A.out, gtR_hit ino l kk kk hlt (by omega)]; rfl, below_then BW.out BW.out.size hb'⟩
   ·have hq : decide (ino < (rd_T40 l (kk : Int)).f0) = false := by simpa using hit
    go_wp2_with (go_at_call 46; refine (setOf1.calls ino _ _ _ _ _ _ _ _ _ _ _ _ B wr hBw hcw).mono ?_; rintro e w' ⟨rfl, hb'⟩; rw [hq])
    go_roundg (l.length - (kk + 1))
    case measure => omega
    case rel => exact ⟨kk + 1, by omega, by omega, by go_num, ⟨below_then BW.out BW.out.size hb'⟩, ⟨by rw [A.out, gtR_miss ino l kk kk hlt (by omega)]⟩⟩
  ·have hltz : ¬ (kk : Int) < (l.length : Int) := by omega
   obtain rfl : kk = l.length := by omega
   go_wp2
   go_ret
   exact ⟨by rw [A.out, List.drop_length]; rfl, BW.out⟩
theorem gtR_spec (ino : Int) (l : List S40) : ∀ j : Nat, gtR ino l j = -1 ∨ ∃ i : Nat, gtR ino l j = ((j + i : Nat) : Int) ∧ i < l.length := by
 induction l with
 | nil => intro j; exact .inl rfl
 | cons x l ih =>
  intro j
  rw [gtR]
  by_cases c : ino < x.f0
  ·rw [if_pos c]; exact .inr ⟨0, by simp, by simp⟩
  ·rw [if_neg c]
   rcases ih (j + 1) with h1 | ⟨i, h1, h2⟩
   ·exact .inl h1
   ·exact .inr ⟨i + 1, by rw [h1]; congr 1; omega, by simpa using h2⟩
theorem placeR_spec (ino : Int) (l : List S40) : ∀ j : Nat, placeR ino l j = -1 ∨ ∃ i : Nat, placeR ino l j = ((j + i : Nat) : Int) ∧ i < l.length := by
 induction l with
 | nil => intro j; exact .inl rfl
 | cons x l ih =>
  intro j
  rw [placeR]
  by_cases c : x.f0 = ino
  ·rw [if_pos c]; exact .inr ⟨0, by simp, by simp⟩
  ·rw [if_neg c]
   rcases ih (j + 1) with h1 | ⟨i, h1, h2⟩
   ·exact .inl h1
   ·exact .inr ⟨i + 1, by rw [h1]; congr 1; omega, by simpa using h2⟩
def gtP (ino : Int) (l : List S40) : Nat := if gtR ino l 0 < 0 then l.length else (gtR ino l 0).toNat
def setP (x : S40) (l : List S40) : List S40 := if 0 ≤ placeR x.f0 l 0 then l.set (placeR x.f0 l 0).toNat x else l.take (gtP x.f0 l) ++ [x] ++ l.drop (gtP x.f0 l)
theorem bgrownV {W W1 : World} {g : Nat} {o : Obj} {v : Value} (h : Aside0 (W.heap[g]? = some o)) (hg : W.grownBy W1 v.ownBlock) (hn : some g ≠ v.ownBlock) : Aside0 (W1.heap[g]? = some o) := ⟨blk_grown h.out hg hn⟩
theorem raw_wholeS {w : World} {base sz : Nat} {ok : Nat → Prop} {c' seg : List Value} (hc : c'.length = sz) (hs : seg.length = sz) (h1 : ∀ v ∈ seg, v.oneCell' = true) : (Kd.raw sz).M w base ok seg (c'.take 0 ++ seg ++ c'.drop (0 + seg.length)) := by
 have e : c'.take 0 ++ seg ++ c'.drop (0 + seg.length) = seg := by rw [Nat.zero_add, hs, ← hc, List.drop_length]; simp
 exact ⟨e, by rw [e]; exact hs, by rw [e]; exact h1⟩
theorem bgrown {W W1 : World} {g g' : Nat} {o : Obj} (h : Aside0 (W.heap[g]? = some o)) (hg : W.grownBy W1 (some g')) (hn : ¬ (g = g')) : Aside0 (W1.heap[g]? = some o) := ⟨blk_grown h.out hg (by intro he; injection he with he; exact hn he)⟩
theorem put6 {W : World} {g : Nat} {t : TypeId} {a0 a1 a2 a3 a4 a5 : Value} (h : W.heap[g]? = some (.cells #[a0, a1, a2, a3, a4, a5] t (0, 0))) (v0 v1 v2 v3 v4 v5 : Value) :
  ((((((W.setCell ⟨g, 0, none⟩ v0).setCell ⟨g, 1, none⟩ v1).setCell ⟨g, 2, none⟩ v2).setCell ⟨g, 3, none⟩ v3).setCell ⟨g, 4, none⟩ v4).setCell ⟨g, 5, none⟩ v5).heap[g]? = some (.cells #[v0, v1, v2, v3, v4, v5] t (0, 0)) ∧
   (∀ k, k ≠ g → ((((((W.setCell ⟨g, 0, none⟩ v0).setCell ⟨g, 1, none⟩ v1).setCell ⟨g, 2, none⟩ v2).setCell ⟨g, 3, none⟩ v3).setCell ⟨g, 4, none⟩ v4).setCell ⟨g, 5, none⟩ v5).heap[k]? = W.heap[k]?) ∧
   ((((((W.setCell ⟨g, 0, none⟩ v0).setCell ⟨g, 1, none⟩ v1).setCell ⟨g, 2, none⟩ v2).setCell ⟨g, 3, none⟩ v3).setCell ⟨g, 4, none⟩ v4).setCell ⟨g, 5, none⟩ v5).heap.size = W.heap.size :=
 ⟨by
  refine blk_put (cs := #[v0, v1, v2, v3, v4, a5]) ?_ 5 _ rfl
  refine blk_put (cs := #[v0, v1, v2, v3, a4, a5]) ?_ 4 _ rfl
  refine blk_put (cs := #[v0, v1, v2, a3, a4, a5]) ?_ 3 _ rfl
  refine blk_put (cs := #[v0, v1, a2, a3, a4, a5]) ?_ 2 _ rfl
  refine blk_put (cs := #[v0, a1, a2, a3, a4, a5]) ?_ 1 _ rfl
  exact blk_put h 0 _ rfl,
 fun k hk => by rw [Below.heap_setCell _ _ _ _ hk, Below.heap_setCell _ _ _ _ hk, Below.heap_setCell _ _ _ _ hk, Below.heap_setCell _ _ _ _ hk, Below.heap_setCell _ _ _ _ hk, Below.heap_setCell _ _ _ _ hk], by simp [World.setCell]⟩
def impl_SetInode.f (k : Nat) (l0_0 : List S40) (a0_1 b0 b1 b2 : Int) (m3 : List Int) (m4 : List S82) (m5 : List S90) : Option (List S40 × Int) := (impl_copyTab.f k l0_0 a0_1).bind fun t => (impl_copyInode.f b0 b1 b2 m3 m4 m5).bind fun y => if t.1.length ≤ 1466015503700 then some (setP ⟨y.1, y.2.1, y.2.2.1, y.2.2.2.1, y.2.2.2.2.1, y.2.2.2.2.2⟩ t.1, t.2) else none
set_option maxHeartbeats 2000000 in
set_option maxRecDepth 100000 in
theorem impl_SetInode.calls (k : Nat) (A0_0 : Option Addr) (c0_0 : Nat) (l0_0 : List S40) (a0_1 b0 b1 b2 : Int) (A1_3 : Option Addr) (c1_3 : Nat) (m3 : List Int) (A1_4 : Option Addr) (c1_4 : Nat) (m4 : List S82) (A1_5 : Option Addr) (c1_5 : Nat) (m5 : List S90) (r1 : List S40) (r2 : Int) (w : World)
  (hr0_0 : Kd.C k40 w A0_0 l0_0.length l0_0) (hc0_0 : l0_0.length ≤ c0_0) (hr1_3 : Kd.C (Kd.int .u8) w A1_3 m3.length m3) (hc1_3 : m3.length ≤ c1_3) (hr1_4 : Kd.C k82 w A1_4 m4.length m4) (hc1_4 : m4.length ≤ c1_4) (hr1_5 : Kd.C k90 w A1_5 m5.length m5) (hc1_5 : m5.length ≤ c1_5) (h : impl_SetInode.f k l0_0 a0_1 b0 b1 b2 m3 m4 m5 = some (r1, r2)) :
  Calls Try.prog 12 #[.agg #[.slice A0_0 l0_0.length c0_0, .int .i64 a0_1], .agg #[.int .i64 b0, .int .i64 b1, .int .i64 b2, .slice A1_3 m3.length c1_3, .slice A1_4 m4.length c1_4, .slice A1_5 m5.length c1_5]] w fun e w' => ∃ v0_ : Value, e = .returned (.agg #[v0_, .int .i64 r2]) ∧ Kd.S k40 40 w' w.heap.size (fun _ => True) v0_ r1 ∧ Below w.heap.size w w' := by
 unfold impl_SetInode.f at h
 replace h := bA h
 obtain ⟨⟨t1, t2⟩, H1, h⟩ := h
 replace h := bA h
 obtain ⟨⟨y0, y1, y2, y3, y4, y5⟩, H2, h⟩ := h
 split at h
 case isFalse => cases h
 case isTrue hl =>
 simp only [Option.some.injEq, Prod.mk.injEq] at h
 obtain ⟨hR1, rfl⟩ := h
 have hl' : t1.length ≤ 1466015503700 := hl
 clear hl
 have HL := Aside0.mk hl'
 have HR1 := Aside0.mk hR1
 clear hl' hR1
 have HR0 := Aside0.mk hr0_0
 have HC0 := Aside0.mk hc0_0
 have HR3 := Aside0.mk hr1_3
 have HC3 := Aside0.mk hc1_3
 have HR4 := Aside0.mk hr1_4
 have HC4 := Aside0.mk hc1_4
 have HR5 := Aside0.mk hr1_5
 have HC5 := Aside0.mk hc1_5
 clear hr0_0 hc0_0 hr1_3 hc1_3 hr1_4 hc1_4 hr1_5 hc1_5
 have HB := Aside0.mk (Below.refl w.heap.size w)
 go_enter Try.func12, Try.ntmps12
 go_wp2_with fail
 refine (impl_copyTab.calls k _ _ l0_0 a0_1 t1 t2 _ (kC HR0) HC0.out H1.out).mono ?_
 rintro e w2 ⟨v0, rfl, hs, hb⟩
 obtain ⟨A, c, rfl⟩ := Kd.S_slice hs
 have KT := Aside0.mk (blk_below (blk_alloc (blk_alloc (blk_new _ _) _) _) hb)
 have KI := Aside0.mk (blk_below (blk_alloc (blk_new _ _) _) hb)
 have KR := Aside0.mk (blk_below (blk_new _ _) hb)
 simp only [World.size_alloc] at KI KR
 have S1 := siv' hs (w.heap.size + 3) w.heap.size (by simp) (by simp only [World.size_alloc]; omega)
 have n1 : w.heap.size + 3 ≤ w2.heap.size := by have := hb.size; simpa using this
 replace HB := Aside0.mk (below_step (below_alloc (below_alloc (below_alloc (Below.refl _ _) _) _) _) hb)
 clear hs hb
 have zt := z2 KT
 have zi := z6 KI
 have zr := z2 KR
 have KT3 := Aside0.mk (show ((w2.setCell ⟨w.heap.size, 0, none⟩ (.slice A t1.length c)).setCell ⟨w.heap.size, 1, none⟩ (.int .i64 t2)).heap[w.heap.size]? = some (.cells #[.slice A t1.length c, .int .i64 t2] 34 (0, 0)) by simpa using blk_set (blk_set KT.out 0 (.slice A t1.length c)) 1 (.int .i64 t2))
 have KI3 := Aside0.mk (show ((w2.setCell ⟨w.heap.size, 0, none⟩ (.slice A t1.length c)).setCell ⟨w.heap.size, 1, none⟩ (.int .i64 t2)).heap[w.heap.size + 1]? = some (.cells #[.int .i64 b0, .int .i64 b1, .int .i64 b2, .slice A1_3 m3.length c1_3, .slice A1_4 m4.length c1_4, .slice A1_5 m5.length c1_5] 40 (0, 0)) by rw [Below.heap_setCell _ _ _ _ (by simp), Below.heap_setCell _ _ _ _ (by simp)]; exact KI.out)
 have KR3 := Aside0.mk (show ((w2.setCell ⟨w.heap.size, 0, none⟩ (.slice A t1.length c)).setCell ⟨w.heap.size, 1, none⟩ (.int .i64 t2)).heap[w.heap.size + 1 + 1]? = some (.cells #[.slice none 0 0, .int .i64 0] 34 (0, 0)) by rw [Below.heap_setCell _ _ _ _ (by simp; omega), Below.heap_setCell _ _ _ _ (by simp; omega)]; exact KR.out)
 have HB3 := Aside0.mk ((HB.out.setCell (p := ⟨w.heap.size, 0, none⟩) (Nat.le_refl _) (.slice A t1.length c)).setCell (p := ⟨w.heap.size, 1, none⟩) (Nat.le_refl _) (.int .i64 t2))
 have S3 := Aside0.mk (Kd.S_far (p := ⟨w.heap.size, 1, none⟩) (Kd.S_far (p := ⟨w.heap.size, 0, none⟩) S1.out (fun k hk => by have := hk.1; dsimp only; omega) (.slice A t1.length c)) (fun k hk => by have := hk.1; dsimp only; omega) (.int .i64 t2))
 go_wp2_with fail
 have hsz3 : ((w2.setCell ⟨w.heap.size, 0, none⟩ (.slice A t1.length c)).setCell ⟨w.heap.size, 1, none⟩ (.int .i64 t2)).heap.size = w2.heap.size := by simp [World.setCell]
 generalize hW3 : ((w2.setCell ⟨w.heap.size, 0, none⟩ (.slice A t1.length c)).setCell ⟨w.heap.size, 1, none⟩ (.int .i64 t2)) = W3 at KT3 KI3 KR3 HB3 S3 hsz3 ⊢
 clear hW3 zt zi zr KT KI KR S1 HB
 refine (impl_copyInode.calls b0 b1 b2 _ _ m3 _ _ m4 _ _ m5 y0 y1 y2 y3 y4 y5 W3 (Kd.C_below HR3.out HB3.out) HC3.out (Kd.C_below HR4.out HB3.out) HC4.out (Kd.C_below HR5.out HB3.out) HC5.out H2.out).mono ?_
 rintro e w4 ⟨v3, v4, v5, rfl, g3, g4, g5, hb⟩
 have KT := Aside0.mk (blk_below KT3.out hb)
 have KI := Aside0.mk (blk_below KI3.out hb)
 have KR := Aside0.mk (blk_below KR3.out hb)
 have HB := Aside0.mk (below_step HB3.out hb)
 have S4 := Aside0.mk (Kd.S_below S3.out hb)
 have n4 : w2.heap.size ≤ w4.heap.size := by have := hb.size; omega
 have G3 := riv' g3 w2.heap.size w.heap.size (by omega) (by omega)
 have G4 := riv' g4 w2.heap.size w.heap.size (by omega) (by omega)
 have G5 := riv' g5 w2.heap.size w.heap.size (by omega) (by omega)
 clear hb KT3 KI3 KR3 HB3 S3 g3 g4 g5 hsz3
 obtain ⟨A3, c3, rfl⟩ := Kd.R_slice G3.out
 obtain ⟨A4, c4, rfl⟩ := Kd.R_slice G4.out
 obtain ⟨A5, c5, rfl⟩ := Kd.R_slice G5.out
 have zt := z2 KT
 have zi := z6 KI
 have d01 : ¬ (w.heap.size = w.heap.size + 1) := by omega
 have d10 : ¬ (w.heap.size + 1 = w.heap.size) := by omega
 go_wp2_with fail
 obtain ⟨p1, p2, p3⟩ := put6 KI.out (.int .i64 y0) (.int .i64 y1) (.int .i64 y2) (.slice A3 y3.length c3) (.slice A4 y4.length c4) (.slice A5 y5.length c5)
 have HB5 := Aside0.mk ((((((HB.out.setCell (p := ⟨w.heap.size + 1, 0, none⟩) (by dsimp only; omega) (.int .i64 y0)).setCell (p := ⟨w.heap.size + 1, 1, none⟩) (by dsimp only; omega) (.int .i64 y1)).setCell (p := ⟨w.heap.size + 1, 2, none⟩) (by dsimp only; omega) (.int .i64 y2)).setCell (p := ⟨w.heap.size + 1, 3, none⟩) (by dsimp only; omega) (.slice A3 y3.length c3)).setCell (p := ⟨w.heap.size + 1, 4, none⟩) (by dsimp only; omega) (.slice A4 y4.length c4)).setCell (p := ⟨w.heap.size + 1, 5, none⟩) (by dsimp only; omega) (.slice A5 y5.length c5))
 generalize hW5 : ((((((w4.setCell ⟨w.heap.size + 1, 0, none⟩ (.int .i64 y0)).setCell ⟨w.heap.size + 1, 1, none⟩ (.int .i64 y1)).setCell ⟨w.heap.size + 1, 2, none⟩ (.int .i64 y2)).setCell ⟨w.heap.size + 1, 3, none⟩ (.slice A3 y3.length c3)).setCell ⟨w.heap.size + 1, 4, none⟩ (.slice A4 y4.length c4)).setCell ⟨w.heap.size + 1, 5, none⟩ (.slice A5 y5.length c5)) = W5 at p1 p2 p3 HB5 ⊢
 have KT5 := Aside0.mk ((p2 w.heap.size (by omega)).trans KT.out)
 have KR5 := Aside0.mk ((p2 (w.heap.size + 1 + 1) (by omega)).trans KR.out)
 have KI5 := Aside0.mk p1
 have S5 := Aside0.mk (Kd.S_step S4.out (fun k hk _ => p2 k (by have := hk.1; omega)))
 replace G3 := Aside0.mk (Kd.R_step G3.out (fun k hk _ => p2 k (by have := hk.1; omega)))
 replace G4 := Aside0.mk (Kd.R_step G4.out (fun k hk _ => p2 k (by have := hk.1; omega)))
 replace G5 := Aside0.mk (Kd.R_step G5.out (fun k hk _ => p2 k (by have := hk.1; omega)))
 clear hW5 p1 p2 KT KI KR HB S4 zt zi
 have hplace : impl_placeOf.f k t1 t2 y0 = some (placeR y0 t1 0) := by unfold impl_placeOf.f; rw [if_pos (by have := HL.out; omega)]
 refine (impl_placeOf.calls k _ _ t1 t2 y0 _ W5 (Kd.S_reads' S5.out).2.2 (rl S5) hplace).mono ?_
 rintro e w6 ⟨rfl, hb⟩
 replace n4 : w2.heap.size ≤ w6.heap.size ∧ w4.heap.size ≤ w6.heap.size := by have := hb.size; omega
 have KT := Aside0.mk (blk_below KT5.out hb)
 have KI := Aside0.mk (blk_below KI5.out hb)
 have KR := Aside0.mk (blk_below KR5.out hb)
 have HB := Aside0.mk (below_step HB5.out hb)
 have S6 := Aside0.mk (Kd.S_below S5.out hb)
 replace G3 := Aside0.mk (Kd.R_below G3.out hb)
 replace G4 := Aside0.mk (Kd.R_below G4.out hb)
 replace G5 := Aside0.mk (Kd.R_below G5.out hb)
 clear hb KT5 KI5 KR5 HB5 S5 hplace p3
 have zt := z2 KT
 have zi := z6 KI
 have zr := z2 KR
 obtain ⟨rows, f, hrl, hraw, hPg, hM⟩ := sOpenV S6.out
 have HX := Aside0.mk (k40_mkM w6 w.heap.size (fun k => w2.heap.size ≤ k ∧ k < w4.heap.size) (⟨y0, y1, y2, y3, y4, y5⟩ : S40) G3.out G4.out G5.out)
 have HRAW := Aside0.mk hraw
 have HM := Aside0.mk hM
 have HP := Aside0.mk hPg
 have HRL := Aside0.mk hrl
 clear G3 G4 G5 hraw hM hPg hrl
 rcases placeR_spec y0 t1 0 with hp | ⟨i, hp, hit⟩
 case inr =>
  rw [Nat.zero_add] at hp
  rw [hp]
  obtain ⟨g, cap, ev, gb, _, _⟩ := Kd.S_form S6.out (by omega)
  injection ev with ea en ec
  subst ea
  clear en ec
  have hltz : (i : Int) < (t1.length : Int) := by omega
  have hi0 : (0 : Int) ≤ (i : Int) := by omega
  have hg3 := HP.out g rfl
  have dg0 : ¬ (w.heap.size = g) := by omega
  have dg1 : ¬ (w.heap.size + 1 = g) := by omega
  have dg2 : ¬ (w.heap.size + 1 + 1 = g) := by omega
  have HONE := Aside0.mk (k40.K_one (k40.K_of_M HX.out))
  obtain ⟨c', hcl', hcm', hcc', _⟩ := Kd.R_elem HRAW.out [] (i : Int) hi0 hltz
  have HCC := Aside0.mk hcc'
  have HCL := Aside0.mk hcl'
  clear hcc' hcm' hcl'
  go_wp2_with ((with_reducible refine gate_store (t := 40) (p := 21) rfl ?_); refine Kd.R_store (Kd.raw k40.sz) w.heap.size rfl rfl 40 (.tmp 21) (.tmp 20) rfl 40 (i : Int) 0 rows [.int .i64 y0, .int .i64 y1, .int .i64 y2, .slice A3 y3.length c3, .slice A4 y4.length c4, .slice A5 y5.length c5] (.agg [.int .i64 y0, .int .i64 y1, .int .i64 y2, .slice A3 y3.length c3, .slice A4 y4.length c4, .slice A5 y5.length c5].toArray) [.int .i64 y0, .int .i64 y1, .int .i64 y2, .slice A3 y3.length c3, .slice A4 y4.length c4, .slice A5 y5.length c5] c' _ (fun _ => False) rfl (by simp; rfl) rfl rfl (by kernel_rfl) HONE.out HRAW.out hi0 hltz HCL.out HCC.out (Nat.le_refl _) (raw_wholeS HCL.out rfl HONE.out) (fun _ hk => hk.elim) HB.out ?_; intro w7 hr7 hb7 hg7; have HR7 := Aside0.mk hr7; have HB7 := Aside0.mk hb7; have HG7 := Aside0.mk hg7; have KT7 := bgrown KT hg7 dg0; have KR7 := bgrown KR hg7 dg2; replace zt := z2 KT7; replace zr := z2 KR7; clear hr7 hb7 hg7)
  have hr7 := HR7.out
  rw [Int.toNat_natCast] at hr7
  have hs7 := s_set (okf := fun k => w.heap.size + 3 ≤ k) (N := w2.heap.size) hr7 HRL.out hit HM.out HX.out HP.out (fun k hk => hk.2) (fun k hk => hk.1) (fun k hk => by rcases hk with h | h; exact h.1; have := h.1; omega) (fun k hne hlt => HG7.out.block k hlt hne)
  have hres : setP (⟨y0, y1, y2, y3, y4, y5⟩ : S40) t1 = t1.set i ⟨y0, y1, y2, y3, y4, y5⟩ := by
   unfold setP
   dsimp only
   rw [hp, if_pos (by omega), Int.toNat_natCast]
  rw [HR1.out] at hres
  rw [← hres] at hs7
  have HS7 := Aside0.mk hs7
  clear hs7 hr7 hres
  try simp only [Exit.inBlock, Exit.then]
  refine bodyPost_ret (results_cell_row rfl _ _ (w.heap.size + 1 + 1) 34 #[.slice (some ⟨g, 0, none⟩) t1.length c, .int .i64 t2] (0, 0) _ rfl (by refine blk_put (cs := #[.slice (some ⟨g, 0, none⟩) t1.length c, .int .i64 0]) ?_ 1 _ rfl; refine blk_put (cs := #[.slice none 0 0, .int .i64 0]) ?_ 0 _ rfl; exact KR7.out) Try.underlying34 rfl (by kernel_rfl)) rfl ?_
  refine ⟨_, rfl, ?_, ?_⟩
  ·exact Kd.S_mono (Kd.S_far (Kd.S_far HS7.out (fun k hk => by dsimp only; omega) _) (fun k hk => by dsimp only; omega) _) (fun _ _ => trivial)
  ·exact (HB7.out.setCell (by dsimp only; omega) _).setCell (by dsimp only; omega) _
 case inl =>
  rw [hp]
  go_wp2_with fail
  refine (setOf2.calls y0 A c t1 (w.heap.size + 1) w6 (Kd.S_reads' S6.out).2.2 (blk_lt KI.out) zi.1.1 (by have := HL.out; omega)).mono ?_
  rintro e w7 ⟨rfl, hb⟩
  have N67 := Aside0.mk hb.size
  have HW67 := Aside0.mk hb
  replace KT := Aside0.mk (blk_below KT.out hb)
  replace KI := Aside0.mk (blk_below KI.out hb)
  replace KR := Aside0.mk (blk_below KR.out hb)
  replace HB := Aside0.mk (below_step HB.out hb)
  replace HRAW := Aside0.mk (Kd.R_below HRAW.out hb)
  have HONE := Aside0.mk (k40.K_one (k40.K_of_M HX.out))
  have HVB := Aside0.mk (show some w7.heap.size ≠ (Value.slice A t1.length c).ownBlock from fun he => by have := Kd.R_lt HRAW.out _ he.symm; omega)
  have HWB := Aside0.mk (show w.heap.size ≤ (w7.alloc (.cells #[.int .i64 y0, .int .i64 y1, .int .i64 y2, .slice A3 y3.length c3, .slice A4 y4.length c4, .slice A5 y5.length c5] 40)).heap.size by have := N67.out; rw [World.size_alloc]; omega)
  have HLB := Aside0.mk (show (t1.length + 1) * 96 ≤ 140737488355328 by have := HL.out; omega)
  have NT := Aside0.mk (show some w.heap.size ≠ (Value.slice A t1.length c).ownBlock from fun he => by have := (HP.out _ he.symm).1; omega)
  have NR := Aside0.mk (show some (w.heap.size + 1 + 1) ≠ (Value.slice A t1.length c).ownBlock from fun he => by have := (HP.out _ he.symm).1; omega)
  clear hb S6
  have KT0 := KT
  replace KT := Aside0.mk (blk_alloc KT.out (.cells #[.int .i64 y0, .int .i64 y1, .int .i64 y2, .slice A3 y3.length c3, .slice A4 y4.length c4, .slice A5 y5.length c5] 40))
  replace KR := Aside0.mk (blk_alloc KR.out (.cells #[.int .i64 y0, .int .i64 y1, .int .i64 y2, .slice A3 y3.length c3, .slice A4 y4.length c4, .slice A5 y5.length c5] 40))
  have zt' := z2 KT
  have zi := z6 KI
  have zt := z2 KT0
  rcases gtR_spec y0 t1 0 with hgt | ⟨j, hgt, hjt⟩
  case inl =>
   rw [hgt]
   have HJ := Aside0.mk (Nat.le_refl t1.length)
   go_wp2_with (go_at_call 47; refine (insInode.calls A t1.length c t1.length w7.heap.size w.heap.size (fun k => (Value.slice A t1.length c).ownBlock = some k) rows [.int .i64 y0, .int .i64 y1, .int .i64 y2, .slice A3 y3.length c3, .slice A4 y4.length c4, .slice A5 y5.length c5] w _ HJ.out HRL.out (Kd.R_below HRAW.out (below_alloc (Below.refl _ _) _)) (blk_new w7 _) HVB.out rfl HONE.out (below_alloc HB.out _) HWB.out HLB.out).mono ?_; rintro e w8 ⟨v', rfl, hr8, hb8, hg8, hat8⟩; have HR8 := Aside0.mk hr8; have HB8 := Aside0.mk hb8; have HG8 := Aside0.mk hg8; have HA8 := Aside0.mk hat8; have KT8 := bgrownV KT hg8 NT.out; have KR8 := bgrownV KR hg8 NR.out; replace zt := z2 KT8; replace zr := z2 KR8; obtain ⟨A', n', c', rfl⟩ : ∃ A' n' c', v' = Value.slice A' n' c' := (by obtain ⟨A', c', hs⟩ := Kd.R_slice hr8; exact ⟨_, _, _, hs⟩); clear hr8 hb8 hg8 hat8)
   have hs8 := s_ins (okf := fun k => w.heap.size + 3 ≤ k) (N := w2.heap.size) (N2 := w6.heap.size) HR8.out HRL.out HJ.out HM.out HX.out HP.out (by rcases HA8.out with h | ⟨b, h, hb⟩; exact .inl h; exact .inr ⟨b, h, by have := N67.out; rw [World.size_alloc] at hb; omega⟩) (fun k hk => hk.2) (fun k hk => ⟨hk.1, by have := hk.2; omega⟩) (by omega) (fun k hk => by rcases hk with h | h | h; exact h.1; have := h.1; omega; omega) (fun k hne hlt => by rw [HG8.out.block k (by have := N67.out; rw [World.size_alloc]; omega) hne, Below.heap_alloc _ _ _ (by have := N67.out; omega)]; exact HW67.out.block k hlt)
   have hres : setP (⟨y0, y1, y2, y3, y4, y5⟩ : S40) t1 = t1.take t1.length ++ [⟨y0, y1, y2, y3, y4, y5⟩] ++ t1.drop t1.length := by
    unfold setP gtP
    dsimp only
    rw [hp, if_neg (by omega)]
    rw [if_pos (by rw [hgt]; omega)]
   rw [HR1.out] at hres
   rw [← hres] at hs8
   have HS8 := Aside0.mk hs8
   clear hs8 hres
   try simp only [Exit.inBlock, Exit.then]
   refine bodyPost_ret (results_cell_row rfl _ _ (w.heap.size + 1 + 1) 34 #[.slice A' n' c', .int .i64 t2] (0, 0) _ rfl (by refine blk_put (cs := #[.slice A' n' c', .int .i64 0]) ?_ 1 _ rfl; refine blk_put (cs := #[.slice none 0 0, .int .i64 0]) ?_ 0 _ rfl; rw [Below.heap_setCell _ _ _ _ (by simp; omega)]; exact KR8.out) Try.underlying34 rfl (by kernel_rfl)) rfl ?_
   refine ⟨_, rfl, ?_, ?_⟩
   ·exact Kd.S_mono (Kd.S_far (Kd.S_far (Kd.S_far HS8.out (fun k hk => by dsimp only; omega) _) (fun k hk => by dsimp only; omega) _) (fun k hk => by dsimp only; omega) _) (fun _ _ => trivial)
   ·exact ((HB8.out.setCell (by dsimp only; omega) _).setCell (by dsimp only; omega) _).setCell (by dsimp only; omega) _
  case inr =>
   rw [Nat.zero_add] at hgt
   rw [hgt]
   have HJ := Aside0.mk (Nat.le_of_lt hjt)
   go_wp2_with (go_at_call 47; refine (insInode.calls A t1.length c j w7.heap.size w.heap.size (fun k => (Value.slice A t1.length c).ownBlock = some k) rows [.int .i64 y0, .int .i64 y1, .int .i64 y2, .slice A3 y3.length c3, .slice A4 y4.length c4, .slice A5 y5.length c5] w _ HJ.out HRL.out (Kd.R_below HRAW.out (below_alloc (Below.refl _ _) _)) (blk_new w7 _) HVB.out rfl HONE.out (below_alloc HB.out _) HWB.out HLB.out).mono ?_; rintro e w8 ⟨v', rfl, hr8, hb8, hg8, hat8⟩; have HR8 := Aside0.mk hr8; have HB8 := Aside0.mk hb8; have HG8 := Aside0.mk hg8; have HA8 := Aside0.mk hat8; have KT8 := bgrownV KT hg8 NT.out; have KR8 := bgrownV KR hg8 NR.out; replace zt := z2 KT8; replace zr := z2 KR8; obtain ⟨A', n', c', rfl⟩ : ∃ A' n' c', v' = Value.slice A' n' c' := (by obtain ⟨A', c', hs⟩ := Kd.R_slice hr8; exact ⟨_, _, _, hs⟩); clear hr8 hb8 hg8 hat8)
   have hs8 := s_ins (okf := fun k => w.heap.size + 3 ≤ k) (N := w2.heap.size) (N2 := w6.heap.size) HR8.out HRL.out HJ.out HM.out HX.out HP.out (by rcases HA8.out with h | ⟨b, h, hb⟩; exact .inl h; exact .inr ⟨b, h, by have := N67.out; rw [World.size_alloc] at hb; omega⟩) (fun k hk => hk.2) (fun k hk => ⟨hk.1, by have := hk.2; omega⟩) (by omega) (fun k hk => by rcases hk with h | h | h; exact h.1; have := h.1; omega; omega) (fun k hne hlt => by rw [HG8.out.block k (by have := N67.out; rw [World.size_alloc]; omega) hne, Below.heap_alloc _ _ _ (by have := N67.out; omega)]; exact HW67.out.block k hlt)
   have hres : setP (⟨y0, y1, y2, y3, y4, y5⟩ : S40) t1 = t1.take j ++ [⟨y0, y1, y2, y3, y4, y5⟩] ++ t1.drop j := by
    unfold setP gtP
    dsimp only
    rw [hp, if_neg (by omega)]
    rw [if_neg (by rw [hgt]; omega), hgt, Int.toNat_natCast]
   rw [HR1.out] at hres
   rw [← hres] at hs8
   have HS8 := Aside0.mk hs8
   clear hs8 hres
   try simp only [Exit.inBlock, Exit.then]
   refine bodyPost_ret (results_cell_row rfl _ _ (w.heap.size + 1 + 1) 34 #[.slice A' n' c', .int .i64 t2] (0, 0) _ rfl (by refine blk_put (cs := #[.slice A' n' c', .int .i64 0]) ?_ 1 _ rfl; refine blk_put (cs := #[.slice none 0 0, .int .i64 0]) ?_ 0 _ rfl; rw [Below.heap_setCell _ _ _ _ (by simp; omega)]; exact KR8.out) Try.underlying34 rfl (by kernel_rfl)) rfl ?_
   refine ⟨_, rfl, ?_, ?_⟩
   ·exact Kd.S_mono (Kd.S_far (Kd.S_far (Kd.S_far HS8.out (fun k hk => by dsimp only; omega) _) (fun k hk => by dsimp only; omega) _) (fun k hk => by dsimp only; omega) _) (fun _ _ => trivial)
   ·exact ((HB8.out.setCell (by dsimp only; omega) _).setCell (by dsimp only; omega) _).setCell (by dsimp only; omega) _
/-! ### laws_eqByteS: function 49 -/
def laws_eqByteS.l0 : Nat → List Int → List Int → Int → Option (Bool)
 | 0, _, _, _ => none
 | k + 1, x0, x1, x5 => if x5 < (x0.length : Int) then (if 0 ≤ x5 then (if x5 < (x1.length : Int) then (if (rd x0 x5) = (rd x1 x5) then (laws_eqByteS.l0 k x0 x1 (wrap64 (x5 + 1))) else (some false)) else (none)) else (none)) else (some true)
def laws_eqByteS.f (k : Nat) (l0 : List Int) (l1 : List Int) : Option (Bool) := if (l0.length : Int) = (l1.length : Int) then (laws_eqByteS.l0 k l0 l1 0) else (some false)
set_option maxHeartbeats 8000000 in
set_option maxRecDepth 100000 in
theorem laws_eqByteS.calls (k : Nat) (A0 : Option Addr) (c0 : Nat) (l0 : List Int) (A1 : Option Addr) (c1 : Nat) (l1 : List Int) (r : Bool) (w : World) (hr0 : Kd.C (Kd.int .u8) w A0 l0.length l0) (hc0 : l0.length ≤ c0) (hr1 : Kd.C (Kd.int .u8) w A1 l1.length l1) (hc1 : l1.length ≤ c1) (h : laws_eqByteS.f k l0 l1 = some r) :
  Calls Try.prog 49 #[.slice A0 l0.length c0, .slice A1 l1.length c1] w fun e w' => e = .returned (.bool r) ∧ Drawn0 w w' := by
 have HR0 := Aside0.mk hr0
 have HC0 := Aside0.mk hc0
 clear hr0 hc0
 have HR1 := Aside0.mk hr1
 have HC1 := Aside0.mk hc1
 clear hr1 hc1
 unfold laws_eqByteS.f at h
 have H := h
 clear h
 by_cases c3 : (l0.length : Int) = (l1.length : Int)
 ·rw [if_pos c3] at H
  have c3b0 : ((l0.length : Int) == (l1.length : Int)) = true := beq_iff_eq.mpr c3
  have c3b1 : ((l0.length : Int) != (l1.length : Int)) = false := bne_eq_false_iff_eq.mpr c3
  have c3b2 : (l0.length == l1.length) = true := by first | simpa using c3 | (simp at c3 ⊢; omega)
  clear c3
  have H' := Aside0.mk H
  clear H
  go_enter Try.func49, Try.ntmps49
  go_wp2
  repeat (go_quiet (fail); try go_wp2)
  go_loopg [5] k (fun kq v5 w' => ∃ (x5_1 : Int), v5 = .int .i64 x5_1 ∧ Aside0 (laws_eqByteS.l0 kq l0 l1 x5_1 = some r) ∧ Aside0 (kq ≤ k) ∧ Drawn0 w w')
  case atStart => exact ⟨(0), oS, H', ⟨Nat.le_refl _⟩, oD⟩
  case round =>
   clear H'
   try clear c1
   try clear c3
   obtain ⟨x5_1, rfl, HA, HK1, ⟨m1, rfl⟩⟩ := hrel
   cases gk with
   | zero => exact absurd HA.out (by simp [laws_eqByteS.l0])
   | succ k1 =>
    have H := HA.out
    clear HA
    simp only [laws_eqByteS.l0] at H
    replace H := itD H
    rcases H with ⟨c4b0, H⟩ | ⟨c4b0, H⟩
    ·replace H := itD H
     rcases H with ⟨c5b0, H⟩ | ⟨c5b0, H⟩
     ·replace H := itD H
      rcases H with ⟨c6b0, H⟩ | ⟨c6b0, H⟩
      ·by_cases c7 : (rd l0 x5_1) = (rd l1 x5_1)
       ·rw [if_pos c7] at H
        have c7b0 : ((rd l0 x5_1) == (rd l1 x5_1)) = true := beq_iff_eq.mpr c7
        have c7b1 : ((rd l0 x5_1) != (rd l1 x5_1)) = false := bne_eq_false_iff_eq.mpr c7
        clear c7
        have H' := Aside0.mk H
        clear H
        have p363 : (0 ≤ (x5_1 : Int)) = True := oT
        have q363 : (x5_1 < (l0.length : Int)) = True := oT
        obtain ⟨ad363, e363, hx363_0⟩ := Kd.at_int HR0.out x5_1 oa oa
        cases e363
        have p364 : (0 ≤ (x5_1 : Int)) = True := oT
        have q364 : (x5_1 < (l1.length : Int)) = True := oT
        obtain ⟨ad364, e364, hx364_0⟩ := Kd.at_int HR1.out x5_1 oa oa
        cases e364
        go_wp2
        repeat (go_quiet (fail); try go_wp2)
        go_roundg k1
        case measure => have := HK1.out; omega
        case rel => exact ⟨(wrap64 (x5_1 + 1)), oS, H', ⟨by have := HK1.out; omega⟩, oD⟩
       ·rw [if_neg c7] at H
        have c7b0 : ((rd l0 x5_1) == (rd l1 x5_1)) = false := beq_eq_false_iff_ne.mpr c7
        have c7b1 : ((rd l0 x5_1) != (rd l1 x5_1)) = true := bne_iff_ne.mpr c7
        obtain rfl := Option.some.inj H
        have p363 : (0 ≤ (x5_1 : Int)) = True := oT
        have q363 : (x5_1 < (l0.length : Int)) = True := oT
        obtain ⟨ad363, e363, hx363_0⟩ := Kd.at_int HR0.out x5_1 oa oa
        cases e363
        have p364 : (0 ≤ (x5_1 : Int)) = True := oT
        have q364 : (x5_1 < (l1.length : Int)) = True := oT
        obtain ⟨ad364, e364, hx364_0⟩ := Kd.at_int HR1.out x5_1 oa oa
        cases e364
        go_wp2
        repeat (go_quiet (fail); try go_wp2)
        go_ret
        exact ⟨oS, oD⟩
      ·cases H
     ·cases H
    ·obtain rfl := Option.some.inj H
     go_wp2
     repeat (go_quiet (fail); try go_wp2)
     go_ret
     exact ⟨oS, oD⟩
 ·rw [if_neg c3] at H
  have c3b0 : ((l0.length : Int) == (l1.length : Int)) = false := beq_eq_false_iff_ne.mpr c3
  have c3b1 : ((l0.length : Int) != (l1.length : Int)) = true := bne_iff_ne.mpr c3
  have c3b2 : (l0.length == l1.length) = false := by first | simpa using c3 | (simp at c3 ⊢; omega)
  obtain rfl := Option.some.inj H
  go_enter Try.func49, Try.ntmps49
  go_wp2
  repeat (go_quiet (fail); try go_wp2)
  go_ret
  exact ⟨oS, oD⟩

/-! ### laws_eqEnt: function 83 -/
def laws_eqEnt.f (a0_0 : ByteArray) (a0_1 : Int) (a1_0 : ByteArray) (a1_1 : Int) : Option (Bool) := if a0_0.toList = a1_0.toList then (if a0_1 = a1_1 then (some true) else (some false)) else (some false)
set_option maxHeartbeats 8000000 in
set_option maxRecDepth 100000 in
theorem laws_eqEnt.calls (a0_0 : ByteArray) (a0_1 : Int) (a1_0 : ByteArray) (a1_1 : Int) (r : Bool) (w : World) (h : laws_eqEnt.f a0_0 a0_1 a1_0 a1_1 = some r) :
  Calls Try.prog 83 #[.agg #[.string a0_0, .int .i64 a0_1], .agg #[.string a1_0, .int .i64 a1_1]] w fun e w' => e = .returned (.bool r) ∧ Below w.heap.size w w' := by
 have hu82 := Try.underlying82
 have HB := Aside0.mk (Below.refl w.heap.size w)
 unfold laws_eqEnt.f at h
 have H := h
 clear h
 by_cases c3 : a0_0.toList = a1_0.toList
 ·rw [if_pos c3] at H
  have c3b0 : (a0_0.toList == a1_0.toList) = true := beq_iff_eq.mpr c3
  have c3b1 : (a0_0.toList != a1_0.toList) = false := bne_eq_false_iff_eq.mpr c3
  clear c3
  by_cases c4 : a0_1 = a1_1
  ·rw [if_pos c4] at H
   have c4b0 : (a0_1 == a1_1) = true := beq_iff_eq.mpr c4
   have c4b1 : (a0_1 != a1_1) = false := bne_eq_false_iff_eq.mpr c4
   clear c4
   obtain rfl := Option.some.inj H
   go_enter Try.func83, Try.ntmps83
   go_wp2_with (first | ((with_reducible refine gate_dst (N := 2) rfl ?_); refine bx_ 2 #[.string a0_0, .int .i64 a0_1] 82 ?_; intro gb365 hg w5 hbox hb; have BK365 := Aside0.mk (hbox); have GW365 := gs_ hg; have GE365 := gs_ hg; replace HB := Aside0.mk (below_step oB hb); clear hb hbox hg) | ((with_reducible refine gate_dst (N := 3) rfl ?_); refine bx_ 3 #[.string a1_0, .int .i64 a1_1] 82 ?_; intro gb366 hg w6 hbox hb; have BK366 := Aside0.mk (hbox); have GW366 := gs_ hg; have GE366 := gs_ hg; have NB365_366 := nl_ hg BK365; have NB366_365 := nr_ hg BK365; replace BK365 := kb_ BK365 hb; replace HB := Aside0.mk (below_step oB hb); clear hb hbox hg; have hnb7 := NB365_366.out; have hnc7 := NB366_365.out; obtain ⟨⟨_, _⟩, _, _⟩ := z2 BK365; obtain ⟨⟨_, _⟩, _, _⟩ := z2 BK366))
   go_ret
   exact ⟨oE, oB⟩
  ·rw [if_neg c4] at H
   have c4b0 : (a0_1 == a1_1) = false := beq_eq_false_iff_ne.mpr c4
   have c4b1 : (a0_1 != a1_1) = true := bne_iff_ne.mpr c4
   obtain rfl := Option.some.inj H
   go_enter Try.func83, Try.ntmps83
   go_wp2_with (first | ((with_reducible refine gate_dst (N := 2) rfl ?_); refine bx_ 2 #[.string a0_0, .int .i64 a0_1] 82 ?_; intro gb365 hg w10 hbox hb; have BK365 := Aside0.mk (hbox); have GW365 := gs_ hg; have GE365 := gs_ hg; replace HB := Aside0.mk (below_step oB hb); clear hb hbox hg) | ((with_reducible refine gate_dst (N := 3) rfl ?_); refine bx_ 3 #[.string a1_0, .int .i64 a1_1] 82 ?_; intro gb366 hg w11 hbox hb; have BK366 := Aside0.mk (hbox); have GW366 := gs_ hg; have GE366 := gs_ hg; have NB365_366 := nl_ hg BK365; have NB366_365 := nr_ hg BK365; replace BK365 := kb_ BK365 hb; replace HB := Aside0.mk (below_step oB hb); clear hb hbox hg; have hnb12 := NB365_366.out; have hnc12 := NB366_365.out; obtain ⟨⟨_, _⟩, _, _⟩ := z2 BK365; obtain ⟨⟨_, _⟩, _, _⟩ := z2 BK366))
   go_ret
   exact ⟨oE, oB⟩
 ·rw [if_neg c3] at H
  have c3b0 : (a0_0.toList == a1_0.toList) = false := beq_eq_false_iff_ne.mpr c3
  have c3b1 : (a0_0.toList != a1_0.toList) = true := bne_iff_ne.mpr c3
  obtain rfl := Option.some.inj H
  go_enter Try.func83, Try.ntmps83
  go_wp2_with (first | ((with_reducible refine gate_dst (N := 2) rfl ?_); refine bx_ 2 #[.string a0_0, .int .i64 a0_1] 82 ?_; intro gb365 hg w15 hbox hb; have BK365 := Aside0.mk (hbox); have GW365 := gs_ hg; have GE365 := gs_ hg; replace HB := Aside0.mk (below_step oB hb); clear hb hbox hg) | ((with_reducible refine gate_dst (N := 3) rfl ?_); refine bx_ 3 #[.string a1_0, .int .i64 a1_1] 82 ?_; intro gb366 hg w16 hbox hb; have BK366 := Aside0.mk (hbox); have GW366 := gs_ hg; have GE366 := gs_ hg; have NB365_366 := nl_ hg BK365; have NB366_365 := nr_ hg BK365; replace BK365 := kb_ BK365 hb; replace HB := Aside0.mk (below_step oB hb); clear hb hbox hg; have hnb17 := NB365_366.out; have hnc17 := NB366_365.out; obtain ⟨⟨_, _⟩, _, _⟩ := z2 BK365; obtain ⟨⟨_, _⟩, _, _⟩ := z2 BK366))
  go_ret
  exact ⟨oE, oB⟩

end Go.Proofs.Ytmndnegpclaidaa.P
