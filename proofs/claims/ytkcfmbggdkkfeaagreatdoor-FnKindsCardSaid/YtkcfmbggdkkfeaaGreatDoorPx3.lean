-- By this session's own program (wip/myprint.py) out of the translation; Lean checks it.
import Derived.Test.YtkcfmbggdkkfeaaGreatDoorPx0
import Derived.Test.YtkcfmbggdkkfeaaGreatDoorPx1
import Derived.Test.YtkcfmbggdkkfeaaGreatDoorPx2
namespace Go.Proofs.YtkcfmbggdkkfeaaGreatDoor.P
open Go.RowKit Go.Proofs.YtkcfmbggdkkfeaaGreatDoorW.PrintWords Go.Proofs.YtkcfmbggdkkfeaaGreatDoorW.PrintLast Go.Proofs.YtkcfmbggdkkfeaaGreatDoorW.PrintMore
attribute [local go_sem] max2_int min2_int max_two min_two max_three min_three max_four min_four   -- for this text's walks alone
set_option linter.unusedVariables false
set_option linter.unusedSimpArgs false

/-! ### impl_attrsOk: function 92 -/
def impl_attrsOk.l0 : Nat → List (S71) → List (S71) → Int → Int → Option (Bool)
 | 0, _, _, _, _ => none
 | k + 1, x0, x5, x6, x7 => if x7 < x6 then (if 0 ≤ x7 then (if x7 < (x5.length : Int) then ((impl_NameOk.f k ((rd_T71 x5 x7).f0)).bind fun t185 => (if t185 = true then ((impl_from.f (((rd_T71 x5 x7).f1).size : Int) 1 16).bind fun t186 => (if t186 = true then (if x7 > 0 then (if 0 ≤ (wrap64 (x7 - 1)) then (if (wrap64 (x7 - 1)) < (x0.length : Int) then (if ((Op.bytesLess (((rd_T71 x0 (wrap64 (x7 - 1))).f0).toList) (((rd_T71 x5 x7).f0).toList)) = true) then (impl_attrsOk.l0 k x0 x5 x6 (wrap64 (x7 + 1))) else (some false)) else (none)) else (none)) else (impl_attrsOk.l0 k x0 x5 x6 (wrap64 (x7 + 1)))) else (some false))) else (some false))) else (none)) else (none)) else (some (decide ((x0.length : Int) ≤ 4)))
def impl_attrsOk.f (k : Nat) (l0 : List (S71)) : Option (Bool) := impl_attrsOk.l0 k l0 l0 (l0.length : Int) 0
set_option maxHeartbeats 8000000 in
set_option maxRecDepth 100000 in
theorem impl_attrsOk.calls (k : Nat) (A0 : Option Addr) (c0 : Nat) (l0 : List (S71)) (r : Bool) (w : World) (hr0 : Kd.C k71 w A0 l0.length l0) (hc0 : l0.length ≤ c0) (h : impl_attrsOk.f k l0 = some r) :
  Calls Tryz.prog 92 #[.slice A0 l0.length c0] w fun e w' => e = .returned (.bool r) ∧ Below w.heap.size w w' := by
 have hu71 := Tryz.underlying71
 have HR0 := Aside0.mk hr0
 have HC0 := Aside0.mk hc0
 clear hr0 hc0
 have HB := Aside0.mk (Below.refl w.heap.size w)
 unfold impl_attrsOk.f at h
 have H := h
 clear h
 have H' := Aside0.mk H
 clear H
 go_enter Tryz.func92, Tryz.ntmps92
 go_wp2
 repeat (go_quiet (fail); try go_wp2)
 go_loopg [7] k (fun kq v7 w' => ∃ (x7_1 : Int), v7 = .int .i64 x7_1 ∧ Aside0 (impl_attrsOk.l0 kq l0 l0 (l0.length : Int) x7_1 = some r) ∧ Aside0 (kq ≤ k) ∧ Aside0 (Below w.heap.size w w'))
 case atStart => exact ⟨(0), oS, H', ⟨Nat.le_refl _⟩, ⟨oB⟩⟩
 case round =>
  clear H'
  obtain ⟨x7_1, rfl, HA, HK1, HB⟩ := hrel
  cases gk with
  | zero => exact absurd HA.out (by simp [impl_attrsOk.l0])
  | succ k1 =>
   have H := HA.out
   clear HA
   simp only [impl_attrsOk.l0] at H
   replace H := itD H
   rcases H with ⟨c2b0, H⟩ | ⟨c2b0, H⟩
   ·replace H := itD H
    rcases H with ⟨c3b0, H⟩ | ⟨c3b0, H⟩
    ·replace H := itD H
     rcases H with ⟨c4b0, H⟩ | ⟨c4b0, H⟩
     ·replace H := bA H
      obtain ⟨t185, A5, H⟩ := H
      try dsimp only at H
      replace H := itB H
      rcases H with ⟨rfl, H⟩ | ⟨rfl, H⟩
      ·replace H := bA H
       obtain ⟨t186, A7, H⟩ := H
       try dsimp only at H
       replace H := itB H
       rcases H with ⟨rfl, H⟩ | ⟨rfl, H⟩
       ·replace H := itG H
        rcases H with ⟨c9b0, H⟩ | ⟨c9b0, H⟩
        ·obtain ⟨ji10, hji10⟩ : ∃ j_ : Int, (wrap64 (x7_1 - 1)) = j_ := ⟨_, rfl⟩
         replace H : (if 0 ≤ (ji10) then (if (ji10) < (l0.length : Int) then (if ((Op.bytesLess (((rd_T71 l0 (ji10)).f0).toList) (((rd_T71 l0 x7_1).f0).toList)) = true) then (impl_attrsOk.l0 k1 l0 l0 (l0.length : Int) (wrap64 (x7_1 + 1))) else (some false)) else (none)) else (none)) = some r := by first | (rw [hji10] at H; exact H) | (simp only [hji10] at H ⊢; exact H)
         (try rw [hji10] at A5)
         (try rw [hji10] at A7)
         have hji10w : (IntKind.i64.wrap (x7_1 - 1)) = ji10 := (i64_w _).trans hji10
         replace H := itD H
         rcases H with ⟨c11b0, H⟩ | ⟨c11b0, H⟩
         ·replace H := itD H
          rcases H with ⟨c12b0, H⟩ | ⟨c12b0, H⟩
          ·by_cases c13 : ((Op.bytesLess (((rd_T71 l0 (ji10)).f0).toList) (((rd_T71 l0 x7_1).f0).toList)) = true)
           ·rw [if_pos c13] at H
            have c13b0 : (Op.bytesLess (((rd_T71 l0 (ji10)).f0).toList) (((rd_T71 l0 x7_1).f0).toList)) = true := c13
            clear c13
            have H' := Aside0.mk H
            clear H
            have p183 : (0 ≤ (x7_1 : Int)) = True := oT
            have q183 : (x7_1 < (l0.length : Int)) = True := oT
            obtain ⟨ad183, e183, hx183_0, hx183_1⟩ := at_T71 HR0.out x7_1 oa oa
            cases e183
            replace hx183_0 := cB HB hx183_0
            replace hx183_1 := cB HB hx183_1
            go_wp2_with (first | ((with_reducible refine gate_dst (N := 4) rfl ?_); (try (refine gate_guard (by rfl) ?_; dsimp only)); refine bx_ 4 #[.string (⟨#[]⟩ : ByteArray), .string (⟨#[]⟩ : ByteArray)] 71 ?_; intro gb184 hg w14 hbox hb; have BK184 := Aside0.mk (hbox); have GW184 := gs_ hg; replace HB := Aside0.mk (below_step oB hb); clear hb hbox hg; obtain ⟨⟨_, _⟩, _, _⟩ := z2 BK184) | (go_at_call 52; (with_reducible refine (impl_NameOk.calls k1 ((rd_T71 l0 x7_1).f0) true _ A5.out).mono ?_); rintro e w' ⟨rfl, ⟨nd, rfl⟩⟩) | (go_at_call 47; (with_reducible refine (impl_from.calls (((rd_T71 l0 x7_1).f1).size : Int) 1 16 true _ A7.out).mono ?_); rintro e w' ⟨rfl, ⟨nd, rfl⟩⟩; have p187 : (0 ≤ ((ji10) : Int)) = True := oT; have q187 : ((ji10) < (l0.length : Int)) = True := oT; obtain ⟨ad187, e187, hx187_0, hx187_1⟩ := at_T71 HR0.out (ji10) oa oa; obtain rfl : ad183 = ad187 := (by injection e187); have hn187_0 : ad183.block ≠ gb184 := cn_ hx187_0 GW184; have hn187_1 : ad183.block ≠ gb184 := cn_ hx187_0 GW184; replace hx187_0 := cB HB hx187_0; replace hx187_1 := cB HB hx187_1; replace hx187_0 := cf_ 0 (.string ((rd_T71 l0 x7_1).f0)) hn187_0 hx187_0; replace hx187_1 := cf_ 0 (.string ((rd_T71 l0 x7_1).f0)) hn187_0 hx187_1; replace hx187_0 := cf_ 1 (.string ((rd_T71 l0 x7_1).f1)) hn187_1 hx187_0; replace hx187_1 := cf_ 1 (.string ((rd_T71 l0 x7_1).f1)) hn187_1 hx187_1; (try have hy187_0 := fun (n_ : Nat) => (show ((((w14.drewN n_).setCell ⟨gb184, 0, none⟩ (.string ((rd_T71 l0 x7_1).f0))).setCell ⟨gb184, 1, none⟩ (.string ((rd_T71 l0 x7_1).f1)))).cell? _ = some _ from hx187_0)); (try have hy187_1 := fun (n_ : Nat) => (show ((((w14.drewN n_).setCell ⟨gb184, 0, none⟩ (.string ((rd_T71 l0 x7_1).f0))).setCell ⟨gb184, 1, none⟩ (.string ((rd_T71 l0 x7_1).f1)))).cell? _ = some _ from hx187_1)); clear hn187_0; clear hn187_1))
            try (have p187 : 0 ≤ ((ji10) : Int) := oa; have q187 : (ji10) < (l0.length : Int) := oa; obtain ⟨ad187, e187, hx187_0, hx187_1⟩ := at_T71 HR0.out (ji10) p187 q187; obtain rfl : ad183 = ad187 := (by injection e187); have hn187_0 : ad183.block ≠ gb184 := cn_ hx187_0 GW184; have hn187_1 : ad183.block ≠ gb184 := cn_ hx187_0 GW184; replace hx187_0 := cB HB hx187_0; replace hx187_1 := cB HB hx187_1; replace hx187_0 := cf_ 0 (.string ((rd_T71 l0 x7_1).f0)) hn187_0 hx187_0; replace hx187_1 := cf_ 0 (.string ((rd_T71 l0 x7_1).f0)) hn187_0 hx187_1; replace hx187_0 := cf_ 1 (.string ((rd_T71 l0 x7_1).f1)) hn187_1 hx187_0; replace hx187_1 := cf_ 1 (.string ((rd_T71 l0 x7_1).f1)) hn187_1 hx187_1; (try have hy187_0 := fun (n_ : Nat) => (show ((((w14.drewN n_).setCell ⟨gb184, 0, none⟩ (.string ((rd_T71 l0 x7_1).f0))).setCell ⟨gb184, 1, none⟩ (.string ((rd_T71 l0 x7_1).f1)))).cell? _ = some _ from hx187_0)); (try have hy187_1 := fun (n_ : Nat) => (show ((((w14.drewN n_).setCell ⟨gb184, 0, none⟩ (.string ((rd_T71 l0 x7_1).f0))).setCell ⟨gb184, 1, none⟩ (.string ((rd_T71 l0 x7_1).f1)))).cell? _ = some _ from hx187_1)); clear hn187_0; clear hn187_1; replace p187 := eq_true p187; replace q187 := eq_true q187)
            repeat (go_quiet (first | (go_at_call 52; (with_reducible refine (impl_NameOk.calls k1 ((rd_T71 l0 x7_1).f0) true _ A5.out).mono ?_); rintro e w' ⟨rfl, ⟨nd, rfl⟩⟩; exact oQ) | (go_at_call 47; (with_reducible refine (impl_from.calls (((rd_T71 l0 x7_1).f1).size : Int) 1 16 true _ A7.out).mono ?_); rintro e w' ⟨rfl, ⟨nd, rfl⟩⟩; exact oQ)); try go_wp2_with (first | ((with_reducible refine gate_dst (N := 4) rfl ?_); (try (refine gate_guard (by rfl) ?_; dsimp only)); refine bx_ 4 #[.string (⟨#[]⟩ : ByteArray), .string (⟨#[]⟩ : ByteArray)] 71 ?_; intro gb184 hg w14 hbox hb; have BK184 := Aside0.mk (hbox); have GW184 := gs_ hg; replace HB := Aside0.mk (below_step oB hb); clear hb hbox hg; obtain ⟨⟨_, _⟩, _, _⟩ := z2 BK184) | (go_at_call 52; (with_reducible refine (impl_NameOk.calls k1 ((rd_T71 l0 x7_1).f0) true _ A5.out).mono ?_); rintro e w' ⟨rfl, ⟨nd, rfl⟩⟩) | (go_at_call 47; (with_reducible refine (impl_from.calls (((rd_T71 l0 x7_1).f1).size : Int) 1 16 true _ A7.out).mono ?_); rintro e w' ⟨rfl, ⟨nd, rfl⟩⟩; have p187 : (0 ≤ ((ji10) : Int)) = True := oT; have q187 : ((ji10) < (l0.length : Int)) = True := oT; obtain ⟨ad187, e187, hx187_0, hx187_1⟩ := at_T71 HR0.out (ji10) oa oa; obtain rfl : ad183 = ad187 := (by injection e187); have hn187_0 : ad183.block ≠ gb184 := cn_ hx187_0 GW184; have hn187_1 : ad183.block ≠ gb184 := cn_ hx187_0 GW184; replace hx187_0 := cB HB hx187_0; replace hx187_1 := cB HB hx187_1; replace hx187_0 := cf_ 0 (.string ((rd_T71 l0 x7_1).f0)) hn187_0 hx187_0; replace hx187_1 := cf_ 0 (.string ((rd_T71 l0 x7_1).f0)) hn187_0 hx187_1; replace hx187_0 := cf_ 1 (.string ((rd_T71 l0 x7_1).f1)) hn187_1 hx187_0; replace hx187_1 := cf_ 1 (.string ((rd_T71 l0 x7_1).f1)) hn187_1 hx187_1; (try have hy187_0 := fun (n_ : Nat) => (show ((((w14.drewN n_).setCell ⟨gb184, 0, none⟩ (.string ((rd_T71 l0 x7_1).f0))).setCell ⟨gb184, 1, none⟩ (.string ((rd_T71 l0 x7_1).f1)))).cell? _ = some _ from hx187_0)); (try have hy187_1 := fun (n_ : Nat) => (show ((((w14.drewN n_).setCell ⟨gb184, 0, none⟩ (.string ((rd_T71 l0 x7_1).f0))).setCell ⟨gb184, 1, none⟩ (.string ((rd_T71 l0 x7_1).f1)))).cell? _ = some _ from hx187_1)); clear hn187_0; clear hn187_1)))
            go_roundg k1
            case measure => have := HK1.out; omega
            case rel => exact ⟨(wrap64 (x7_1 + 1)), oS, H', ⟨by have := HK1.out; omega⟩, ⟨oB⟩⟩
           ·rw [if_neg c13] at H
            have c13b0 : (Op.bytesLess (((rd_T71 l0 (ji10)).f0).toList) (((rd_T71 l0 x7_1).f0).toList)) = false := by simpa using c13
            clear c13
            obtain rfl := Option.some.inj H
            have p183 : (0 ≤ (x7_1 : Int)) = True := oT
            have q183 : (x7_1 < (l0.length : Int)) = True := oT
            obtain ⟨ad183, e183, hx183_0, hx183_1⟩ := at_T71 HR0.out x7_1 oa oa
            cases e183
            replace hx183_0 := cB HB hx183_0
            replace hx183_1 := cB HB hx183_1
            go_wp2_with (first | ((with_reducible refine gate_dst (N := 4) rfl ?_); (try (refine gate_guard (by rfl) ?_; dsimp only)); refine bx_ 4 #[.string (⟨#[]⟩ : ByteArray), .string (⟨#[]⟩ : ByteArray)] 71 ?_; intro gb184 hg w16 hbox hb; have BK184 := Aside0.mk (hbox); have GW184 := gs_ hg; replace HB := Aside0.mk (below_step oB hb); clear hb hbox hg; obtain ⟨⟨_, _⟩, _, _⟩ := z2 BK184) | (go_at_call 52; (with_reducible refine (impl_NameOk.calls k1 ((rd_T71 l0 x7_1).f0) true _ A5.out).mono ?_); rintro e w' ⟨rfl, ⟨nd, rfl⟩⟩) | (go_at_call 47; (with_reducible refine (impl_from.calls (((rd_T71 l0 x7_1).f1).size : Int) 1 16 true _ A7.out).mono ?_); rintro e w' ⟨rfl, ⟨nd, rfl⟩⟩; have p187 : (0 ≤ ((ji10) : Int)) = True := oT; have q187 : ((ji10) < (l0.length : Int)) = True := oT; obtain ⟨ad187, e187, hx187_0, hx187_1⟩ := at_T71 HR0.out (ji10) oa oa; obtain rfl : ad183 = ad187 := (by injection e187); have hn187_0 : ad183.block ≠ gb184 := cn_ hx187_0 GW184; have hn187_1 : ad183.block ≠ gb184 := cn_ hx187_0 GW184; replace hx187_0 := cB HB hx187_0; replace hx187_1 := cB HB hx187_1; replace hx187_0 := cf_ 0 (.string ((rd_T71 l0 x7_1).f0)) hn187_0 hx187_0; replace hx187_1 := cf_ 0 (.string ((rd_T71 l0 x7_1).f0)) hn187_0 hx187_1; replace hx187_0 := cf_ 1 (.string ((rd_T71 l0 x7_1).f1)) hn187_1 hx187_0; replace hx187_1 := cf_ 1 (.string ((rd_T71 l0 x7_1).f1)) hn187_1 hx187_1; (try have hy187_0 := fun (n_ : Nat) => (show ((((w16.drewN n_).setCell ⟨gb184, 0, none⟩ (.string ((rd_T71 l0 x7_1).f0))).setCell ⟨gb184, 1, none⟩ (.string ((rd_T71 l0 x7_1).f1)))).cell? _ = some _ from hx187_0)); (try have hy187_1 := fun (n_ : Nat) => (show ((((w16.drewN n_).setCell ⟨gb184, 0, none⟩ (.string ((rd_T71 l0 x7_1).f0))).setCell ⟨gb184, 1, none⟩ (.string ((rd_T71 l0 x7_1).f1)))).cell? _ = some _ from hx187_1)); clear hn187_0; clear hn187_1))
            try (have p187 : 0 ≤ ((ji10) : Int) := oa; have q187 : (ji10) < (l0.length : Int) := oa; obtain ⟨ad187, e187, hx187_0, hx187_1⟩ := at_T71 HR0.out (ji10) p187 q187; obtain rfl : ad183 = ad187 := (by injection e187); have hn187_0 : ad183.block ≠ gb184 := cn_ hx187_0 GW184; have hn187_1 : ad183.block ≠ gb184 := cn_ hx187_0 GW184; replace hx187_0 := cB HB hx187_0; replace hx187_1 := cB HB hx187_1; replace hx187_0 := cf_ 0 (.string ((rd_T71 l0 x7_1).f0)) hn187_0 hx187_0; replace hx187_1 := cf_ 0 (.string ((rd_T71 l0 x7_1).f0)) hn187_0 hx187_1; replace hx187_0 := cf_ 1 (.string ((rd_T71 l0 x7_1).f1)) hn187_1 hx187_0; replace hx187_1 := cf_ 1 (.string ((rd_T71 l0 x7_1).f1)) hn187_1 hx187_1; (try have hy187_0 := fun (n_ : Nat) => (show ((((w16.drewN n_).setCell ⟨gb184, 0, none⟩ (.string ((rd_T71 l0 x7_1).f0))).setCell ⟨gb184, 1, none⟩ (.string ((rd_T71 l0 x7_1).f1)))).cell? _ = some _ from hx187_0)); (try have hy187_1 := fun (n_ : Nat) => (show ((((w16.drewN n_).setCell ⟨gb184, 0, none⟩ (.string ((rd_T71 l0 x7_1).f0))).setCell ⟨gb184, 1, none⟩ (.string ((rd_T71 l0 x7_1).f1)))).cell? _ = some _ from hx187_1)); clear hn187_0; clear hn187_1; replace p187 := eq_true p187; replace q187 := eq_true q187)
            repeat (go_quiet (first | (go_at_call 52; (with_reducible refine (impl_NameOk.calls k1 ((rd_T71 l0 x7_1).f0) true _ A5.out).mono ?_); rintro e w' ⟨rfl, ⟨nd, rfl⟩⟩; exact oQ) | (go_at_call 47; (with_reducible refine (impl_from.calls (((rd_T71 l0 x7_1).f1).size : Int) 1 16 true _ A7.out).mono ?_); rintro e w' ⟨rfl, ⟨nd, rfl⟩⟩; exact oQ)); try go_wp2_with (first | ((with_reducible refine gate_dst (N := 4) rfl ?_); (try (refine gate_guard (by rfl) ?_; dsimp only)); refine bx_ 4 #[.string (⟨#[]⟩ : ByteArray), .string (⟨#[]⟩ : ByteArray)] 71 ?_; intro gb184 hg w16 hbox hb; have BK184 := Aside0.mk (hbox); have GW184 := gs_ hg; replace HB := Aside0.mk (below_step oB hb); clear hb hbox hg; obtain ⟨⟨_, _⟩, _, _⟩ := z2 BK184) | (go_at_call 52; (with_reducible refine (impl_NameOk.calls k1 ((rd_T71 l0 x7_1).f0) true _ A5.out).mono ?_); rintro e w' ⟨rfl, ⟨nd, rfl⟩⟩) | (go_at_call 47; (with_reducible refine (impl_from.calls (((rd_T71 l0 x7_1).f1).size : Int) 1 16 true _ A7.out).mono ?_); rintro e w' ⟨rfl, ⟨nd, rfl⟩⟩; have p187 : (0 ≤ ((ji10) : Int)) = True := oT; have q187 : ((ji10) < (l0.length : Int)) = True := oT; obtain ⟨ad187, e187, hx187_0, hx187_1⟩ := at_T71 HR0.out (ji10) oa oa; obtain rfl : ad183 = ad187 := (by injection e187); have hn187_0 : ad183.block ≠ gb184 := cn_ hx187_0 GW184; have hn187_1 : ad183.block ≠ gb184 := cn_ hx187_0 GW184; replace hx187_0 := cB HB hx187_0; replace hx187_1 := cB HB hx187_1; replace hx187_0 := cf_ 0 (.string ((rd_T71 l0 x7_1).f0)) hn187_0 hx187_0; replace hx187_1 := cf_ 0 (.string ((rd_T71 l0 x7_1).f0)) hn187_0 hx187_1; replace hx187_0 := cf_ 1 (.string ((rd_T71 l0 x7_1).f1)) hn187_1 hx187_0; replace hx187_1 := cf_ 1 (.string ((rd_T71 l0 x7_1).f1)) hn187_1 hx187_1; (try have hy187_0 := fun (n_ : Nat) => (show ((((w16.drewN n_).setCell ⟨gb184, 0, none⟩ (.string ((rd_T71 l0 x7_1).f0))).setCell ⟨gb184, 1, none⟩ (.string ((rd_T71 l0 x7_1).f1)))).cell? _ = some _ from hx187_0)); (try have hy187_1 := fun (n_ : Nat) => (show ((((w16.drewN n_).setCell ⟨gb184, 0, none⟩ (.string ((rd_T71 l0 x7_1).f0))).setCell ⟨gb184, 1, none⟩ (.string ((rd_T71 l0 x7_1).f1)))).cell? _ = some _ from hx187_1)); clear hn187_0; clear hn187_1)))
            go_ret
            exact ⟨by first | rfl | (simp [errW_none, errW_some] <;> rfl) | (simp only [← hji10]; first | rfl | (simp [errW_none, errW_some] <;> rfl)) | (simp [*, errW_none, errW_some] <;> rfl), oB⟩
          ·cases H
         ·cases H
        ·have H' := Aside0.mk H
         clear H
         have p183 : (0 ≤ (x7_1 : Int)) = True := oT
         have q183 : (x7_1 < (l0.length : Int)) = True := oT
         obtain ⟨ad183, e183, hx183_0, hx183_1⟩ := at_T71 HR0.out x7_1 oa oa
         cases e183
         replace hx183_0 := cB HB hx183_0
         replace hx183_1 := cB HB hx183_1
         go_wp2_with (first | ((with_reducible refine gate_dst (N := 4) rfl ?_); (try (refine gate_guard (by rfl) ?_; dsimp only)); refine bx_ 4 #[.string (⟨#[]⟩ : ByteArray), .string (⟨#[]⟩ : ByteArray)] 71 ?_; intro gb184 hg w18 hbox hb; have BK184 := Aside0.mk (hbox); have GW184 := gs_ hg; replace HB := Aside0.mk (below_step oB hb); clear hb hbox hg; obtain ⟨⟨_, _⟩, _, _⟩ := z2 BK184) | (go_at_call 52; (with_reducible refine (impl_NameOk.calls k1 ((rd_T71 l0 x7_1).f0) true _ A5.out).mono ?_); rintro e w' ⟨rfl, ⟨nd, rfl⟩⟩) | (go_at_call 47; (with_reducible refine (impl_from.calls (((rd_T71 l0 x7_1).f1).size : Int) 1 16 true _ A7.out).mono ?_); rintro e w' ⟨rfl, ⟨nd, rfl⟩⟩))
         repeat (go_quiet (first | (go_at_call 52; (with_reducible refine (impl_NameOk.calls k1 ((rd_T71 l0 x7_1).f0) true _ A5.out).mono ?_); rintro e w' ⟨rfl, ⟨nd, rfl⟩⟩; exact oQ) | (go_at_call 47; (with_reducible refine (impl_from.calls (((rd_T71 l0 x7_1).f1).size : Int) 1 16 true _ A7.out).mono ?_); rintro e w' ⟨rfl, ⟨nd, rfl⟩⟩; exact oQ)); try go_wp2_with (first | ((with_reducible refine gate_dst (N := 4) rfl ?_); (try (refine gate_guard (by rfl) ?_; dsimp only)); refine bx_ 4 #[.string (⟨#[]⟩ : ByteArray), .string (⟨#[]⟩ : ByteArray)] 71 ?_; intro gb184 hg w18 hbox hb; have BK184 := Aside0.mk (hbox); have GW184 := gs_ hg; replace HB := Aside0.mk (below_step oB hb); clear hb hbox hg; obtain ⟨⟨_, _⟩, _, _⟩ := z2 BK184) | (go_at_call 52; (with_reducible refine (impl_NameOk.calls k1 ((rd_T71 l0 x7_1).f0) true _ A5.out).mono ?_); rintro e w' ⟨rfl, ⟨nd, rfl⟩⟩) | (go_at_call 47; (with_reducible refine (impl_from.calls (((rd_T71 l0 x7_1).f1).size : Int) 1 16 true _ A7.out).mono ?_); rintro e w' ⟨rfl, ⟨nd, rfl⟩⟩)))
         go_roundg k1
         case measure => have := HK1.out; omega
         case rel => exact ⟨(wrap64 (x7_1 + 1)), oS, H', ⟨by have := HK1.out; omega⟩, ⟨oB⟩⟩
       ·obtain rfl := Option.some.inj H
        have p183 : (0 ≤ (x7_1 : Int)) = True := oT
        have q183 : (x7_1 < (l0.length : Int)) = True := oT
        obtain ⟨ad183, e183, hx183_0, hx183_1⟩ := at_T71 HR0.out x7_1 oa oa
        cases e183
        replace hx183_0 := cB HB hx183_0
        replace hx183_1 := cB HB hx183_1
        go_wp2_with (first | ((with_reducible refine gate_dst (N := 4) rfl ?_); (try (refine gate_guard (by rfl) ?_; dsimp only)); refine bx_ 4 #[.string (⟨#[]⟩ : ByteArray), .string (⟨#[]⟩ : ByteArray)] 71 ?_; intro gb184 hg w20 hbox hb; have BK184 := Aside0.mk (hbox); have GW184 := gs_ hg; replace HB := Aside0.mk (below_step oB hb); clear hb hbox hg; obtain ⟨⟨_, _⟩, _, _⟩ := z2 BK184) | (go_at_call 52; (with_reducible refine (impl_NameOk.calls k1 ((rd_T71 l0 x7_1).f0) true _ A5.out).mono ?_); rintro e w' ⟨rfl, ⟨nd, rfl⟩⟩) | (go_at_call 47; (with_reducible refine (impl_from.calls (((rd_T71 l0 x7_1).f1).size : Int) 1 16 false _ A7.out).mono ?_); rintro e w' ⟨rfl, ⟨nd, rfl⟩⟩))
        repeat (go_quiet (first | (go_at_call 52; (with_reducible refine (impl_NameOk.calls k1 ((rd_T71 l0 x7_1).f0) true _ A5.out).mono ?_); rintro e w' ⟨rfl, ⟨nd, rfl⟩⟩; exact oQ) | (go_at_call 47; (with_reducible refine (impl_from.calls (((rd_T71 l0 x7_1).f1).size : Int) 1 16 false _ A7.out).mono ?_); rintro e w' ⟨rfl, ⟨nd, rfl⟩⟩; exact oQ)); try go_wp2_with (first | ((with_reducible refine gate_dst (N := 4) rfl ?_); (try (refine gate_guard (by rfl) ?_; dsimp only)); refine bx_ 4 #[.string (⟨#[]⟩ : ByteArray), .string (⟨#[]⟩ : ByteArray)] 71 ?_; intro gb184 hg w20 hbox hb; have BK184 := Aside0.mk (hbox); have GW184 := gs_ hg; replace HB := Aside0.mk (below_step oB hb); clear hb hbox hg; obtain ⟨⟨_, _⟩, _, _⟩ := z2 BK184) | (go_at_call 52; (with_reducible refine (impl_NameOk.calls k1 ((rd_T71 l0 x7_1).f0) true _ A5.out).mono ?_); rintro e w' ⟨rfl, ⟨nd, rfl⟩⟩) | (go_at_call 47; (with_reducible refine (impl_from.calls (((rd_T71 l0 x7_1).f1).size : Int) 1 16 false _ A7.out).mono ?_); rintro e w' ⟨rfl, ⟨nd, rfl⟩⟩)))
        go_ret
        exact ⟨oE, oB⟩
      ·obtain rfl := Option.some.inj H
       have p183 : (0 ≤ (x7_1 : Int)) = True := oT
       have q183 : (x7_1 < (l0.length : Int)) = True := oT
       obtain ⟨ad183, e183, hx183_0, hx183_1⟩ := at_T71 HR0.out x7_1 oa oa
       cases e183
       replace hx183_0 := cB HB hx183_0
       replace hx183_1 := cB HB hx183_1
       go_wp2_with (first | ((with_reducible refine gate_dst (N := 4) rfl ?_); (try (refine gate_guard (by rfl) ?_; dsimp only)); refine bx_ 4 #[.string (⟨#[]⟩ : ByteArray), .string (⟨#[]⟩ : ByteArray)] 71 ?_; intro gb184 hg w22 hbox hb; have BK184 := Aside0.mk (hbox); have GW184 := gs_ hg; replace HB := Aside0.mk (below_step oB hb); clear hb hbox hg; obtain ⟨⟨_, _⟩, _, _⟩ := z2 BK184) | (go_at_call 52; (with_reducible refine (impl_NameOk.calls k1 ((rd_T71 l0 x7_1).f0) false _ A5.out).mono ?_); rintro e w' ⟨rfl, ⟨nd, rfl⟩⟩))
       repeat (go_quiet (first | (go_at_call 52; (with_reducible refine (impl_NameOk.calls k1 ((rd_T71 l0 x7_1).f0) false _ A5.out).mono ?_); rintro e w' ⟨rfl, ⟨nd, rfl⟩⟩; exact oQ)); try go_wp2_with (first | ((with_reducible refine gate_dst (N := 4) rfl ?_); (try (refine gate_guard (by rfl) ?_; dsimp only)); refine bx_ 4 #[.string (⟨#[]⟩ : ByteArray), .string (⟨#[]⟩ : ByteArray)] 71 ?_; intro gb184 hg w22 hbox hb; have BK184 := Aside0.mk (hbox); have GW184 := gs_ hg; replace HB := Aside0.mk (below_step oB hb); clear hb hbox hg; obtain ⟨⟨_, _⟩, _, _⟩ := z2 BK184) | (go_at_call 52; (with_reducible refine (impl_NameOk.calls k1 ((rd_T71 l0 x7_1).f0) false _ A5.out).mono ?_); rintro e w' ⟨rfl, ⟨nd, rfl⟩⟩)))
       go_ret
       exact ⟨oE, oB⟩
     ·cases H
    ·cases H
   ·obtain rfl := Option.some.inj H
    go_wp2
    repeat (go_quiet (fail); try go_wp2)
    go_ret
    exact ⟨oE, oB⟩

end Go.Proofs.YtkcfmbggdkkfeaaGreatDoor.P
