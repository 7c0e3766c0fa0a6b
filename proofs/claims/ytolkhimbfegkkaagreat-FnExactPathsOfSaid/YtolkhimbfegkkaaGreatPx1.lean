-- By this session's own program (wip/myprint.py) out of the translation; Lean checks it.
import Derived.Test.YtolkhimbfegkkaaGreatPx0
namespace Go.Proofs.YtolkhimbfegkkaaGreat.P
open Go.RowKit Go.Proofs.YtolkhimbfegkkaaGreatW.PrintWords Go.Proofs.YtolkhimbfegkkaaGreatW.PrintLast Go.Proofs.YtolkhimbfegkkaaGreatW.PrintMore
attribute [local go_sem] max2_int min2_int max_two min_two max_three min_three max_four min_four   -- for this text's walks alone
set_option linter.unusedVariables false
set_option linter.unusedSimpArgs false

/-! ### spec_LinksOf: function 28 -/
mutual
def spec_LinksOf.l0 : Nat → Int → Int → Int → List (S47) → Int → Option (Int)
 | 0, _, _, _, _, _ => none
 | k + 1, x1, x5, x6, x239000, x239001 => if x6 < (x239000.length : Int) then (spec_LinksOf.l1 k x1 x5 x6 0 x239000 x239001) else (some x5)
def spec_LinksOf.l1 : Nat → Int → Int → Int → Int → List (S47) → Int → Option (Int)
 | 0, _, _, _, _, _, _ => none
 | k + 1, x1, x5, x6, x7, x239000, x239001 => if 0 ≤ x6 then (if x6 < (x239000.length : Int) then (if x7 < (((rd_T47 x239000 x6).f4).length : Int) then (spec_LinksOf.j2 k x1 x5 x6 x7 (((rd_T47 x239000 x6).f1) == 2) x239000 x239001) else (spec_LinksOf.j2 k x1 x5 x6 x7 false x239000 x239001)) else (none)) else (none)
def spec_LinksOf.j2 : Nat → Int → Int → Int → Int → Bool → List (S47) → Int → Option (Int)
 | 0, _, _, _, _, _, _, _ => none
 | k + 1, x1, x5, x6, x7, x32, x239000, x239001 => if x32 = true then (if 0 ≤ x6 then (if x6 < (x239000.length : Int) then (if 0 ≤ x7 then (if x7 < (((rd_T47 x239000 x6).f4).length : Int) then (if ((rd_T63 ((rd_T47 x239000 x6).f4) x7).f1) = x1 then (spec_LinksOf.l1 k x1 (wrap64 (x5 + 1)) x6 (wrap64 (x7 + 1)) x239000 x239001) else (spec_LinksOf.l1 k x1 x5 x6 (wrap64 (x7 + 1)) x239000 x239001)) else (none)) else (none)) else (none)) else (none)) else (spec_LinksOf.l0 k x1 x5 (wrap64 (x6 + 1)) x239000 x239001)
end
def spec_LinksOf.f (k : Nat) (l0_0 : List (S47)) (a0_1 : Int) (a1 : Int) : Option (Int) := spec_LinksOf.l0 k a1 0 0 l0_0 a0_1
set_option maxHeartbeats 8000000 in
set_option maxRecDepth 100000 in
theorem spec_LinksOf.calls (k : Nat) (A0_0 : Option Addr) (c0_0 : Nat) (l0_0 : List (S47)) (a0_1 : Int) (a1 : Int) (r : Int) (w : World) (hr0_0 : Kd.C k47 w A0_0 l0_0.length l0_0) (hc0_0 : l0_0.length ≤ c0_0) (h : spec_LinksOf.f k l0_0 a0_1 a1 = some r) :
  Calls Tryz.prog 28 #[.agg #[.slice A0_0 l0_0.length c0_0, .int .i64 a0_1], .int .i64 a1] w fun e w' => e = .returned (.int .i64 r) ∧ Below w.heap.size w w' := by
 have hu30 := Tryz.underlying30
 have HR0_0 := Aside0.mk hr0_0
 have HC0_0 := Aside0.mk hc0_0
 clear hr0_0 hc0_0
 have HB := Aside0.mk (Below.refl w.heap.size w)
 unfold spec_LinksOf.f at h
 have H := h
 clear h
 have H' := Aside0.mk H
 clear H
 go_enter Tryz.func28, Tryz.ntmps28
 go_wp2_with (first | ((with_reducible refine gate_dst (N := 2) rfl ?_); refine bx_ 2 #[.slice A0_0 l0_0.length c0_0, .int .i64 a0_1] 30 ?_; intro gb238 hg w3 hbox hb; have BK238 := Aside0.mk (hbox); have GW238 := gs_ hg; replace HB := Aside0.mk (below_step oB hb); clear hb hbox hg))
 go_loopg [5, 6] k (fun kq v5 v6 w' => ∃ (x5_1 : Int) (x6_1 : Int), v5 = .int .i64 x5_1 ∧ v6 = .int .i64 x6_1 ∧ Aside0 (spec_LinksOf.l0 kq a1 x5_1 x6_1 l0_0 a0_1 = some r) ∧ Aside0 (kq ≤ k) ∧ Aside0 (w'.heap[gb238]? = some (.cells #[(.slice A0_0 l0_0.length c0_0), .int .i64 a0_1] 30 (0, 0))) ∧ Aside0 (Below w.heap.size w w'))
 case atStart => exact ⟨(0), (0), oS, oS, H', ⟨Nat.le_refl _⟩, ⟨oF BK238⟩, ⟨oB⟩⟩
 case round =>
  clear H'
  obtain ⟨x5_1, x6_1, rfl, rfl, HA, HK1, BK238, HB⟩ := hrel
  cases gk with
  | zero => exact absurd HA.out (by simp [spec_LinksOf.l0])
  | succ k1 =>
   have H := HA.out
   clear HA
   simp only [spec_LinksOf.l0] at H
   replace H := itD H
   rcases H with ⟨c4b0, H⟩ | ⟨c4b0, H⟩
   ·have H' := Aside0.mk H
    clear H
    obtain ⟨⟨_, _⟩, _, _⟩ := z2 BK238
    go_wp2
    go_loopg [5, 7] k1 (fun kq v5 v7 w' => ∃ (x5_2 : Int) (x7_2 : Int), v5 = .int .i64 x5_2 ∧ v7 = .int .i64 x7_2 ∧ Aside0 (spec_LinksOf.l1 kq a1 x5_2 x6_1 x7_2 l0_0 a0_1 = some r) ∧ Aside0 (kq ≤ k1) ∧ Aside0 (w'.heap[gb238]? = some (.cells #[(.slice A0_0 l0_0.length c0_0), .int .i64 a0_1] 30 (0, 0))) ∧ Aside0 (Below w.heap.size w w'))
    case atStart => exact ⟨(x5_1), (0), oS, oS, H', ⟨Nat.le_refl _⟩, ⟨oF BK238⟩, ⟨oB⟩⟩
    case round =>
     clear H'
     try clear c4b0
     obtain ⟨x5_2, x7_2, rfl, rfl, HA, HK2, BK238, HB⟩ := hrel
     cases gk with
     | zero => exact absurd HA.out (by simp [spec_LinksOf.l1])
     | succ k2 =>
      have H := HA.out
      clear HA
      simp only [spec_LinksOf.l1] at H
      have HC6 := Aside0.mk H
      clear H
      go_upto_region 6 with (fail)
      go_cut [32] (fun v32 wc => ∃ (kq : Nat) (x32_5 : Bool), v32 = .bool x32_5 ∧ Aside0 (spec_LinksOf.j2 kq a1 x5_2 x6_1 x7_2 x32_5 l0_0 a0_1 = some r) ∧ Aside0 (kq ≤ k2) ∧ Aside0 (wc.heap[gb238]? = some (.cells #[(.slice A0_0 l0_0.length c0_0), .int .i64 a0_1] 30 (0, 0))) ∧ Aside0 (Below w.heap.size w wc))
      case first =>
       have H := HC6.out
       clear HC6
       replace H := itD H
       rcases H with ⟨c7b0, H⟩ | ⟨c7b0, H⟩
       ·(first | rw [c7b0] | rw [c7b2] | (simp only [i64_w, i32_w]; rw [c7b0]) | skip)
        replace H := itD H
        rcases H with ⟨c8b0, H⟩ | ⟨c8b0, H⟩
        ·replace H := itD H
         rcases H with ⟨c9b0, H⟩ | ⟨c9b0, H⟩
         ·have H' := Aside0.mk H
          clear H
          obtain ⟨⟨_, _⟩, _, _⟩ := z2 BK238
          have p239 : (0 ≤ (x6_1 : Int)) = True := oT
          have q239 : (x6_1 < (l0_0.length : Int)) = True := oT
          obtain ⟨ad239, A239_3, c239_3, A239_4, c239_4, A239_5, c239_5, e239, hx239_0, hx239_1, hx239_2, hx239_3, hx239_4, hx239_5, hl239_3, hi239_3, hl239_4, hi239_4, hl239_5, hi239_5⟩ := at_T47 HR0_0.out x6_1 oa oa
          cases e239
          replace hx239_0 := cB HB hx239_0
          replace hx239_1 := cB HB hx239_1
          replace hx239_2 := cB HB hx239_2
          replace hx239_3 := cB HB hx239_3
          replace hx239_4 := cB HB hx239_4
          replace hx239_5 := cB HB hx239_5
          have HR239_3 := Aside0.mk hi239_3
          have HC239_3 := Aside0.mk hl239_3
          clear hi239_3 hl239_3
          have HR239_4 := Aside0.mk hi239_4
          have HC239_4 := Aside0.mk hl239_4
          clear hi239_4 hl239_4
          have HR239_5 := Aside0.mk hi239_5
          have HC239_5 := Aside0.mk hl239_5
          clear hi239_5 hl239_5
          have p240 : (0 ≤ (x6_1 : Int)) = True := oT
          have q240 : (x6_1 < (l0_0.length : Int)) = True := oT
          obtain ⟨ad240, A240_3, c240_3, A240_4, c240_4, A240_5, c240_5, e240, hx240_0, hx240_1, hx240_2, hx240_3, hx240_4, hx240_5, hl240_3, hi240_3, hl240_4, hi240_4, hl240_5, hi240_5⟩ := at_T47 HR0_0.out x6_1 oa oa
          obtain rfl : ad239 = ad240 := (by injection e240)
          replace hx240_0 := cB HB hx240_0
          replace hx240_1 := cB HB hx240_1
          replace hx240_2 := cB HB hx240_2
          replace hx240_3 := cB HB hx240_3
          replace hx240_4 := cB HB hx240_4
          replace hx240_5 := cB HB hx240_5
          have HR240_3 := Aside0.mk hi240_3
          have HC240_3 := Aside0.mk hl240_3
          clear hi240_3 hl240_3
          have HR240_4 := Aside0.mk hi240_4
          have HC240_4 := Aside0.mk hl240_4
          clear hi240_4 hl240_4
          have HR240_5 := Aside0.mk hi240_5
          have HC240_5 := Aside0.mk hl240_5
          clear hi240_5 hl240_5
          have ea_ := Option.some.inj (hx239_3.symm.trans hx240_3)
          injection ea_ with ea_ en_ ec_
          subst ea_
          subst ec_
          clear en_
          have ea_ := Option.some.inj (hx239_4.symm.trans hx240_4)
          injection ea_ with ea_ en_ ec_
          subst ea_
          subst ec_
          clear en_
          have ea_ := Option.some.inj (hx239_5.symm.trans hx240_5)
          injection ea_ with ea_ en_ ec_
          subst ea_
          subst ec_
          clear en_
          go_wp2
          go_meet
          case rel => exact ⟨_, ((((rd_T47 l0_0 x6_1).f1) == 2)), oS, H', ⟨by have := HK1.out; have := HK2.out; first | omega | exact Nat.le_refl _⟩, ⟨oF BK238⟩, ⟨oB⟩⟩
         ·have H' := Aside0.mk H
          clear H
          obtain ⟨⟨_, _⟩, _, _⟩ := z2 BK238
          have p239 : (0 ≤ (x6_1 : Int)) = True := oT
          have q239 : (x6_1 < (l0_0.length : Int)) = True := oT
          obtain ⟨ad239, A239_3, c239_3, A239_4, c239_4, A239_5, c239_5, e239, hx239_0, hx239_1, hx239_2, hx239_3, hx239_4, hx239_5, hl239_3, hi239_3, hl239_4, hi239_4, hl239_5, hi239_5⟩ := at_T47 HR0_0.out x6_1 oa oa
          cases e239
          replace hx239_0 := cB HB hx239_0
          replace hx239_1 := cB HB hx239_1
          replace hx239_2 := cB HB hx239_2
          replace hx239_3 := cB HB hx239_3
          replace hx239_4 := cB HB hx239_4
          replace hx239_5 := cB HB hx239_5
          have HR239_3 := Aside0.mk hi239_3
          have HC239_3 := Aside0.mk hl239_3
          clear hi239_3 hl239_3
          have HR239_4 := Aside0.mk hi239_4
          have HC239_4 := Aside0.mk hl239_4
          clear hi239_4 hl239_4
          have HR239_5 := Aside0.mk hi239_5
          have HC239_5 := Aside0.mk hl239_5
          clear hi239_5 hl239_5
          go_wp2
          go_meet
          case rel => exact ⟨_, (false), oS, H', ⟨by have := HK1.out; have := HK2.out; first | omega | exact Nat.le_refl _⟩, ⟨oF BK238⟩, ⟨oB⟩⟩
        ·cases H
       ·cases H
      case rest =>
       clear HC6
       try clear c4b0
       obtain ⟨kq, x32_5, rfl, HA, HJ5, BK238, HB⟩ := hcut
       cases kq with
       | zero => exact absurd HA.out (by simp [spec_LinksOf.j2])
       | succ kj5 =>
        have H := HA.out
        clear HA
        simp only [spec_LinksOf.j2] at H
        replace H := itB H
        rcases H with ⟨rfl, H⟩ | ⟨rfl, H⟩
        ·replace H := itD H
         rcases H with ⟨c13b0, H⟩ | ⟨c13b0, H⟩
         ·replace H := itD H
          rcases H with ⟨c14b0, H⟩ | ⟨c14b0, H⟩
          ·replace H := itD H
           rcases H with ⟨c15b0, H⟩ | ⟨c15b0, H⟩
           ·replace H := itD H
            rcases H with ⟨c16b0, H⟩ | ⟨c16b0, H⟩
            ·by_cases c17 : ((rd_T63 ((rd_T47 l0_0 x6_1).f4) x7_2).f1) = a1
             ·rw [if_pos c17] at H
              have c17b0 : (((rd_T63 ((rd_T47 l0_0 x6_1).f4) x7_2).f1) == a1) = true := beq_iff_eq.mpr c17
              have c17b1 : (((rd_T63 ((rd_T47 l0_0 x6_1).f4) x7_2).f1) != a1) = false := bne_eq_false_iff_eq.mpr c17
              clear c17
              have H' := Aside0.mk H
              clear H
              obtain ⟨⟨_, _⟩, _, _⟩ := z2 BK238
              have p241 : (0 ≤ (x6_1 : Int)) = True := oT
              have q241 : (x6_1 < (l0_0.length : Int)) = True := oT
              obtain ⟨ad241, A241_3, c241_3, A241_4, c241_4, A241_5, c241_5, e241, hx241_0, hx241_1, hx241_2, hx241_3, hx241_4, hx241_5, hl241_3, hi241_3, hl241_4, hi241_4, hl241_5, hi241_5⟩ := at_T47 HR0_0.out x6_1 oa oa
              cases e241
              replace hx241_0 := cB HB hx241_0
              replace hx241_1 := cB HB hx241_1
              replace hx241_2 := cB HB hx241_2
              replace hx241_3 := cB HB hx241_3
              replace hx241_4 := cB HB hx241_4
              replace hx241_5 := cB HB hx241_5
              have HR241_3 := Aside0.mk hi241_3
              have HC241_3 := Aside0.mk hl241_3
              clear hi241_3 hl241_3
              have HR241_4 := Aside0.mk hi241_4
              have HC241_4 := Aside0.mk hl241_4
              clear hi241_4 hl241_4
              have HR241_5 := Aside0.mk hi241_5
              have HC241_5 := Aside0.mk hl241_5
              clear hi241_5 hl241_5
              have p242 : (0 ≤ (x7_2 : Int)) = True := oT
              have q242 : (x7_2 < (((rd_T47 l0_0 x6_1).f4).length : Int)) = True := oT
              obtain ⟨ad242, e242, hx242_0, hx242_1⟩ := at_T63 HR241_4.out x7_2 oa oa
              cases e242
              replace hx242_0 := cB HB hx242_0
              replace hx242_1 := cB HB hx242_1
              go_wp2
              go_roundg kj5
              case measure => have := HK1.out; have := HK2.out; have := HJ5.out; omega
              case rel => exact ⟨(wrap64 (x5_2 + 1)), (wrap64 (x7_2 + 1)), oS, oS, H', ⟨by have := HK1.out; have := HK2.out; have := HJ5.out; omega⟩, ⟨oF BK238⟩, ⟨oB⟩⟩
             ·rw [if_neg c17] at H
              have c17b0 : (((rd_T63 ((rd_T47 l0_0 x6_1).f4) x7_2).f1) == a1) = false := beq_eq_false_iff_ne.mpr c17
              have c17b1 : (((rd_T63 ((rd_T47 l0_0 x6_1).f4) x7_2).f1) != a1) = true := bne_iff_ne.mpr c17
              have H' := Aside0.mk H
              clear H
              obtain ⟨⟨_, _⟩, _, _⟩ := z2 BK238
              have p241 : (0 ≤ (x6_1 : Int)) = True := oT
              have q241 : (x6_1 < (l0_0.length : Int)) = True := oT
              obtain ⟨ad241, A241_3, c241_3, A241_4, c241_4, A241_5, c241_5, e241, hx241_0, hx241_1, hx241_2, hx241_3, hx241_4, hx241_5, hl241_3, hi241_3, hl241_4, hi241_4, hl241_5, hi241_5⟩ := at_T47 HR0_0.out x6_1 oa oa
              cases e241
              replace hx241_0 := cB HB hx241_0
              replace hx241_1 := cB HB hx241_1
              replace hx241_2 := cB HB hx241_2
              replace hx241_3 := cB HB hx241_3
              replace hx241_4 := cB HB hx241_4
              replace hx241_5 := cB HB hx241_5
              have HR241_3 := Aside0.mk hi241_3
              have HC241_3 := Aside0.mk hl241_3
              clear hi241_3 hl241_3
              have HR241_4 := Aside0.mk hi241_4
              have HC241_4 := Aside0.mk hl241_4
              clear hi241_4 hl241_4
              have HR241_5 := Aside0.mk hi241_5
              have HC241_5 := Aside0.mk hl241_5
              clear hi241_5 hl241_5
              have p242 : (0 ≤ (x7_2 : Int)) = True := oT
              have q242 : (x7_2 < (((rd_T47 l0_0 x6_1).f4).length : Int)) = True := oT
              obtain ⟨ad242, e242, hx242_0, hx242_1⟩ := at_T63 HR241_4.out x7_2 oa oa
              cases e242
              replace hx242_0 := cB HB hx242_0
              replace hx242_1 := cB HB hx242_1
              go_wp2
              go_roundg kj5
              case measure => have := HK1.out; have := HK2.out; have := HJ5.out; omega
              case rel => exact ⟨(x5_2), (wrap64 (x7_2 + 1)), oS, oS, H', ⟨by have := HK1.out; have := HK2.out; have := HJ5.out; omega⟩, ⟨oF BK238⟩, ⟨oB⟩⟩
            ·cases H
           ·cases H
          ·cases H
         ·cases H
        ·have H' := Aside0.mk H
         clear H
         go_wp2
         go_roundg kj5
         case measure => have := HK1.out; have := HK2.out; have := HJ5.out; omega
         case rel => exact ⟨(x5_2), (wrap64 (x6_1 + 1)), oS, oS, H', ⟨by have := HK1.out; have := HK2.out; have := HJ5.out; omega⟩, ⟨oF BK238⟩, ⟨oB⟩⟩
   ·obtain rfl := Option.some.inj H
    obtain ⟨⟨_, _⟩, _, _⟩ := z2 BK238
    go_wp2
    go_ret
    exact ⟨oE, oB⟩

end Go.Proofs.YtolkhimbfegkkaaGreat.P
