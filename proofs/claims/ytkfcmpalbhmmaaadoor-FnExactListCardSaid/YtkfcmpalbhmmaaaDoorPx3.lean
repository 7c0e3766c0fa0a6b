-- By this session's own program (wip/myprint.py) out of the translation; Lean checks it.
import Derived.Test.YtkfcmpalbhmmaaaDoorPx0
import Derived.Test.YtkfcmpalbhmmaaaDoorPx2
namespace Go.Proofs.YtkfcmpalbhmmaaaDoor.P
open Go.RowKit Go.Proofs.YtkfcmpalbhmmaaaDoorW.PrintWords Go.Proofs.YtkfcmpalbhmmaaaDoorW.PrintLast Go.Proofs.YtkfcmpalbhmmaaaDoorW.PrintMore
attribute [local go_sem] max2_int min2_int max_two min_two max_three min_three max_four min_four   -- for this text's walks alone
set_option linter.unusedVariables false
set_option linter.unusedSimpArgs false

/-! ### spec_NameOk: function 53 -/
def spec_NameOk.l0 : Nat → ByteArray → Int → Option (Bool)
 | 0, _, _ => none
 | k + 1, x0, x3 => if x3 < (x0.size : Int) then (if 0 ≤ x3 then ((spec_l1In.f (wrap64 (bt x0 x3)) 97 122).bind fun t216 => (if t216 = true then (spec_NameOk.l0 k x0 (wrap64 (x3 + 1))) else ((spec_l1In.f (wrap64 (bt x0 x3)) 48 57).bind fun t217 => (if t217 = true then (spec_NameOk.l0 k x0 (wrap64 (x3 + 1))) else (if (wrap64 (bt x0 x3)) = 95 then (spec_NameOk.l0 k x0 (wrap64 (x3 + 1))) else (if (wrap64 (bt x0 x3)) = 45 then (spec_NameOk.l0 k x0 (wrap64 (x3 + 1))) else (if (wrap64 (bt x0 x3)) = 46 then (spec_NameOk.l0 k x0 (wrap64 (x3 + 1))) else (some false)))))))) else (none)) else ((spec_l1In.f (x0.size : Int) 1 14).bind fun t215 => (if t215 = true then (if x0.toList = ([46] : List UInt8) then (some false) else (some (x0.toList != ([46, 46] : List UInt8)))) else (some false)))
def spec_NameOk.f (k : Nat) (a0 : ByteArray) : Option (Bool) := spec_NameOk.l0 k a0 0
set_option maxHeartbeats 8000000 in
set_option maxRecDepth 100000 in
theorem spec_NameOk.calls (k : Nat) (a0 : ByteArray) (r : Bool) (w : World) (h : spec_NameOk.f k a0 = some r) :
  Calls Tryd.prog 53 #[.string a0] w fun e w' => e = .returned (.bool r) ∧ Drawn0 w w' := by
 unfold spec_NameOk.f at h
 have H := h
 clear h
 have H' := Aside0.mk H
 clear H
 go_enter Tryd.func53, Tryd.ntmps53
 go_wp2
 go_loopg [3] k (fun kq v3 w' => ∃ (x3_1 : Int), v3 = .int .i64 x3_1 ∧ Aside0 (spec_NameOk.l0 kq a0 x3_1 = some r) ∧ Aside0 (kq ≤ k) ∧ Drawn0 w w')
 case atStart => exact ⟨(0), oS, H', ⟨Nat.le_refl _⟩, oD⟩
 case round =>
  clear H'
  obtain ⟨x3_1, rfl, HA, HK1, ⟨m1, rfl⟩⟩ := hrel
  cases gk with
  | zero => exact absurd HA.out (by simp [spec_NameOk.l0])
  | succ k1 =>
   have H := HA.out
   clear HA
   simp only [spec_NameOk.l0] at H
   replace H := itD H
   rcases H with ⟨c2b0, H⟩ | ⟨c2b0, H⟩
   ·replace H := itD H
    rcases H with ⟨c3b0, H⟩ | ⟨c3b0, H⟩
    ·replace H := bA H
     obtain ⟨t216, A5, H⟩ := H
     try dsimp only at H
     replace H := itB H
     rcases H with ⟨rfl, H⟩ | ⟨rfl, H⟩
     ·have H' := Aside0.mk H
      clear H
      have p4 : (0 ≤ (x3_1 : Int)) = True := oT
      have q4 : (x3_1 < (a0.size : Int)) = True := oT
      have hx4 := bt_at a0 x3_1
      go_wp2_with (first | ((with_reducible refine gate_callee (f := 79) rfl ?_); refine gl_ 16 Tryd.func79 (spec_l1In.calls (wrap64 (bt a0 x3_1)) 97 122 true _ A5.out) ?_; rintro e w' ⟨rfl, ⟨nd, rfl⟩⟩; refine ⟨_, rfl, ?_⟩))
      go_roundg k1
      case measure => have := HK1.out; omega
      case rel => exact ⟨(wrap64 (x3_1 + 1)), oS, H', ⟨by have := HK1.out; omega⟩, oD⟩
     ·replace H := bA H
      obtain ⟨t217, A7, H⟩ := H
      try dsimp only at H
      replace H := itB H
      rcases H with ⟨rfl, H⟩ | ⟨rfl, H⟩
      ·have H' := Aside0.mk H
       clear H
       have p4 : (0 ≤ (x3_1 : Int)) = True := oT
       have q4 : (x3_1 < (a0.size : Int)) = True := oT
       have hx4 := bt_at a0 x3_1
       go_wp2_with (first | ((with_reducible refine gate_callee (f := 79) rfl ?_); refine gl_ 16 Tryd.func79 (spec_l1In.calls (wrap64 (bt a0 x3_1)) 97 122 false _ A5.out) ?_; rintro e w' ⟨rfl, ⟨nd, rfl⟩⟩; refine ⟨_, rfl, ?_⟩) | (go_at_call 79; (with_reducible refine (spec_l1In.calls (wrap64 (bt a0 x3_1)) 48 57 true _ A7.out).mono ?_); rintro e w' ⟨rfl, ⟨nd, rfl⟩⟩))
       go_roundg k1
       case measure => have := HK1.out; omega
       case rel => exact ⟨(wrap64 (x3_1 + 1)), oS, H', ⟨by have := HK1.out; omega⟩, oD⟩
      ·by_cases c9 : (wrap64 (bt a0 x3_1)) = 95
       ·rw [if_pos c9] at H
        have c9b0 : ((wrap64 (bt a0 x3_1)) == 95) = true := beq_iff_eq.mpr c9
        have c9b1 : ((wrap64 (bt a0 x3_1)) != 95) = false := bne_eq_false_iff_eq.mpr c9
        clear c9
        have H' := Aside0.mk H
        clear H
        have p4 : (0 ≤ (x3_1 : Int)) = True := oT
        have q4 : (x3_1 < (a0.size : Int)) = True := oT
        have hx4 := bt_at a0 x3_1
        go_wp2_with (first | ((with_reducible refine gate_callee (f := 79) rfl ?_); refine gl_ 16 Tryd.func79 (spec_l1In.calls (wrap64 (bt a0 x3_1)) 97 122 false _ A5.out) ?_; rintro e w' ⟨rfl, ⟨nd, rfl⟩⟩; refine ⟨_, rfl, ?_⟩) | (go_at_call 79; (with_reducible refine (spec_l1In.calls (wrap64 (bt a0 x3_1)) 48 57 false _ A7.out).mono ?_); rintro e w' ⟨rfl, ⟨nd, rfl⟩⟩))
        go_roundg k1
        case measure => have := HK1.out; omega
        case rel => exact ⟨(wrap64 (x3_1 + 1)), oS, H', ⟨by have := HK1.out; omega⟩, oD⟩
       ·rw [if_neg c9] at H
        have c9b0 : ((wrap64 (bt a0 x3_1)) == 95) = false := beq_eq_false_iff_ne.mpr c9
        have c9b1 : ((wrap64 (bt a0 x3_1)) != 95) = true := bne_iff_ne.mpr c9
        by_cases c10 : (wrap64 (bt a0 x3_1)) = 45
        ·rw [if_pos c10] at H
         have c10b0 : ((wrap64 (bt a0 x3_1)) == 45) = true := beq_iff_eq.mpr c10
         have c10b1 : ((wrap64 (bt a0 x3_1)) != 45) = false := bne_eq_false_iff_eq.mpr c10
         clear c10
         have H' := Aside0.mk H
         clear H
         have p4 : (0 ≤ (x3_1 : Int)) = True := oT
         have q4 : (x3_1 < (a0.size : Int)) = True := oT
         have hx4 := bt_at a0 x3_1
         go_wp2_with (first | ((with_reducible refine gate_callee (f := 79) rfl ?_); refine gl_ 16 Tryd.func79 (spec_l1In.calls (wrap64 (bt a0 x3_1)) 97 122 false _ A5.out) ?_; rintro e w' ⟨rfl, ⟨nd, rfl⟩⟩; refine ⟨_, rfl, ?_⟩) | (go_at_call 79; (with_reducible refine (spec_l1In.calls (wrap64 (bt a0 x3_1)) 48 57 false _ A7.out).mono ?_); rintro e w' ⟨rfl, ⟨nd, rfl⟩⟩))
         go_roundg k1
         case measure => have := HK1.out; omega
         case rel => exact ⟨(wrap64 (x3_1 + 1)), oS, H', ⟨by have := HK1.out; omega⟩, oD⟩
        ·rw [if_neg c10] at H
         have c10b0 : ((wrap64 (bt a0 x3_1)) == 45) = false := beq_eq_false_iff_ne.mpr c10
         have c10b1 : ((wrap64 (bt a0 x3_1)) != 45) = true := bne_iff_ne.mpr c10
         by_cases c11 : (wrap64 (bt a0 x3_1)) = 46
         ·rw [if_pos c11] at H
          have c11b0 : ((wrap64 (bt a0 x3_1)) == 46) = true := beq_iff_eq.mpr c11
          have c11b1 : ((wrap64 (bt a0 x3_1)) != 46) = false := bne_eq_false_iff_eq.mpr c11
          clear c11
          have H' := Aside0.mk H
          clear H
          have p4 : (0 ≤ (x3_1 : Int)) = True := oT
          have q4 : (x3_1 < (a0.size : Int)) = True := oT
          have hx4 := bt_at a0 x3_1
          go_wp2_with (first | ((with_reducible refine gate_callee (f := 79) rfl ?_); refine gl_ 16 Tryd.func79 (spec_l1In.calls (wrap64 (bt a0 x3_1)) 97 122 false _ A5.out) ?_; rintro e w' ⟨rfl, ⟨nd, rfl⟩⟩; refine ⟨_, rfl, ?_⟩) | (go_at_call 79; (with_reducible refine (spec_l1In.calls (wrap64 (bt a0 x3_1)) 48 57 false _ A7.out).mono ?_); rintro e w' ⟨rfl, ⟨nd, rfl⟩⟩))
          go_roundg k1
          case measure => have := HK1.out; omega
          case rel => exact ⟨(wrap64 (x3_1 + 1)), oS, H', ⟨by have := HK1.out; omega⟩, oD⟩
         ·rw [if_neg c11] at H
          have c11b0 : ((wrap64 (bt a0 x3_1)) == 46) = false := beq_eq_false_iff_ne.mpr c11
          have c11b1 : ((wrap64 (bt a0 x3_1)) != 46) = true := bne_iff_ne.mpr c11
          obtain rfl := Option.some.inj H
          have p4 : (0 ≤ (x3_1 : Int)) = True := oT
          have q4 : (x3_1 < (a0.size : Int)) = True := oT
          have hx4 := bt_at a0 x3_1
          go_wp2_with (first | ((with_reducible refine gate_callee (f := 79) rfl ?_); refine gl_ 16 Tryd.func79 (spec_l1In.calls (wrap64 (bt a0 x3_1)) 97 122 false _ A5.out) ?_; rintro e w' ⟨rfl, ⟨nd, rfl⟩⟩; refine ⟨_, rfl, ?_⟩) | (go_at_call 79; (with_reducible refine (spec_l1In.calls (wrap64 (bt a0 x3_1)) 48 57 false _ A7.out).mono ?_); rintro e w' ⟨rfl, ⟨nd, rfl⟩⟩))
          go_ret
          exact ⟨oS, oD⟩
    ·cases H
   ·replace H := bA H
    obtain ⟨t215, A12, H⟩ := H
    try dsimp only at H
    replace H := itB H
    rcases H with ⟨rfl, H⟩ | ⟨rfl, H⟩
    ·by_cases c14 : a0.toList = ([46] : List UInt8)
     ·rw [if_pos c14] at H
      have c14b0 : (a0.toList == ([46] : List UInt8)) = true := beq_iff_eq.mpr c14
      have c14b1 : (a0.toList != ([46] : List UInt8)) = false := bne_eq_false_iff_eq.mpr c14
      clear c14
      obtain rfl := Option.some.inj H
      go_wp2_with (first | ((with_reducible refine gate_callee (f := 79) rfl ?_); refine gl_ 37 Tryd.func79 (spec_l1In.calls (a0.size : Int) 1 14 true _ A12.out) ?_; rintro e w' ⟨rfl, ⟨nd, rfl⟩⟩; refine ⟨_, rfl, ?_⟩))
      go_ret
      exact ⟨oS, oD⟩
     ·rw [if_neg c14] at H
      have c14b0 : (a0.toList == ([46] : List UInt8)) = false := beq_eq_false_iff_ne.mpr c14
      have c14b1 : (a0.toList != ([46] : List UInt8)) = true := bne_iff_ne.mpr c14
      obtain rfl := Option.some.inj H
      go_wp2_with (first | ((with_reducible refine gate_callee (f := 79) rfl ?_); refine gl_ 37 Tryd.func79 (spec_l1In.calls (a0.size : Int) 1 14 true _ A12.out) ?_; rintro e w' ⟨rfl, ⟨nd, rfl⟩⟩; refine ⟨_, rfl, ?_⟩))
      go_ret
      exact ⟨oS, oD⟩
    ·obtain rfl := Option.some.inj H
     go_wp2_with (first | ((with_reducible refine gate_callee (f := 79) rfl ?_); refine gl_ 37 Tryd.func79 (spec_l1In.calls (a0.size : Int) 1 14 false _ A12.out) ?_; rintro e w' ⟨rfl, ⟨nd, rfl⟩⟩; refine ⟨_, rfl, ?_⟩))
     go_ret
     exact ⟨oS, oD⟩

/-! ### spec_SplitPath: function 16 -/
mutual
def spec_SplitPath.l0 : Nat → ByteArray → List ByteArray → Int → Int → Option (List ByteArray × Bool)
 | 0, _, _, _, _ => none
 | k + 1, x0, x4, x5, x6 => if x6 ≤ (x0.size : Int) then (if x6 < (x0.size : Int) then (if 0 ≤ x6 then (spec_SplitPath.j1 k x0 x4 x5 x6 ((bt x0 x6) != 47)) else (none)) else (spec_SplitPath.j1 k x0 x4 x5 x6 false)) else (if (x0.size : Int) = 0 then (some ((([] : List ByteArray)), false)) else (if 0 < (x0.size : Int) then (if (bt x0 0) = 47 then (some (x4, true)) else (some ((([] : List ByteArray)), false))) else (none)))
def spec_SplitPath.j1 : Nat → ByteArray → List ByteArray → Int → Int → Bool → Option (List ByteArray × Bool)
 | 0, _, _, _, _, _ => none
 | k + 1, x0, x4, x5, x6, x27 => if x27 = true then (spec_SplitPath.l0 k x0 x4 x5 (wrap64 (x6 + 1))) else (if x6 > 0 then (if 0 ≤ x5 then (if x5 ≤ x6 then (if x6 ≤ (x0.size : Int) then ((spec_NameOk.f k (x0.extract (x5 : Int).toNat (x6 : Int).toNat)).bind fun t227 => (if t227 = true then (if (x4.length : Int) = 30 then (some ((([] : List ByteArray)), false)) else (if x4.length < 8796093022208 then (spec_SplitPath.l0 k x0 (x4 ++ [x0.extract (x5 : Int).toNat (x6 : Int).toNat]) (wrap64 (x6 + 1)) (wrap64 (x6 + 1))) else (none))) else (some ((([] : List ByteArray)), false)))) else (none)) else (none)) else (none)) else (spec_SplitPath.l0 k x0 x4 (wrap64 (x6 + 1)) (wrap64 (x6 + 1))))
end
def spec_SplitPath.f (k : Nat) (a0 : ByteArray) : Option (List ByteArray × Bool) := (some (([] : List ByteArray) : List ByteArray)).bind fun y218 => (if a0.toList = ([47] : List UInt8) then (some (y218, true)) else (spec_SplitPath.l0 k a0 y218 0 0))
set_option maxHeartbeats 8000000 in
set_option maxRecDepth 100000 in
theorem spec_SplitPath.calls (k : Nat) (a0 : ByteArray) (r1 : List ByteArray) (r2 : Bool) (w : World) (h : spec_SplitPath.f k a0 = some (r1, r2)) :
  Calls Tryd.prog 16 #[.string a0] w fun e w' => ∃ v0_ : Value, e = .returned (.tuple #[v0_, .bool r2]) ∧ Kd.R Kd.string 9 w' w.heap.size (fun _ => True) v0_ r1 ∧ Below w.heap.size w w' := by
 have HB := Aside0.mk (Below.refl w.heap.size w)
 unfold spec_SplitPath.f at h
 have H := h
 clear h
 obtain ⟨y218, hy218⟩ : ∃ y_ : List ByteArray, y_ = (([] : List ByteArray)) := ⟨_, rfl⟩
 replace H : (if a0.toList = ([47] : List UInt8) then (some (y218, true)) else (spec_SplitPath.l0 k a0 y218 0 0)) = some (r1, r2) := by first | (rw [hy218]; with_reducible exact H) | (have H2_ := (Option.bind_some _ _).symm.trans H; rw [hy218]; with_reducible exact H2_) | (have H2_ := (Option.bind_some _ _).symm.trans H; with_reducible exact H2_) | with_reducible exact H | (rw [hy218]; exact H) | exact H
 have Ny218 := Aside0.mk hy218
 clear hy218
 by_cases c2 : a0.toList = ([47] : List UInt8)
 ·rw [if_pos c2] at H
  have c2b0 : (a0.toList == ([47] : List UInt8)) = true := beq_iff_eq.mpr c2
  have c2b1 : (a0.toList != ([47] : List UInt8)) = false := bne_eq_false_iff_eq.mpr c2
  clear c2
  simp only [Option.some.injEq, Prod.mk.injEq] at H
  obtain ⟨rfl, rfl⟩ := H
  go_enter Tryd.func16, Tryd.ntmps16
  go_wp2_with (first | ((with_reducible refine gate_dst (N := 8) rfl ?_); (try (refine gate_guard (by rfl) ?_; dsimp only)); refine Kd.R_lit Kd.string _ 9 ?hg (N := 8) ?hd (xs := ([] : List ByteArray)) (inner := []) (ok := fun _ => True) (okp := fun _ => True) ?hr ?hp (fun _ hk => hk) trivial (Below.refl _ _) (Nat.le_refl _) (by simp) ?_; (case hd => rfl); (case hg => rfl); (case hr => first | (go_simp; done) | (go_simp; rfl)); (case hp => exact (Reps.none _ _)); intro v219 w3 ho4 hb hg_ hnew_; clear hg_ hnew_; (first | rw [← Ny218.out] at ho4 | (simp only [Int.reduceToNat] at ho4; rw [← Ny218.out] at ho4)); have HO220 := Aside0.mk (Kd.R_lower ho4 (below_size oB)); replace HB := Aside0.mk (below_step oB hb); clear hb ho4))
  go_ret2
  exact ⟨_, oE, oR HO220, oB⟩
 ·rw [if_neg c2] at H
  have c2b0 : (a0.toList == ([47] : List UInt8)) = false := beq_eq_false_iff_ne.mpr c2
  have c2b1 : (a0.toList != ([47] : List UInt8)) = true := bne_iff_ne.mpr c2
  have H' := Aside0.mk H
  clear H
  go_enter Tryd.func16, Tryd.ntmps16
  go_wp2_with (first | ((with_reducible refine gate_dst (N := 8) rfl ?_); (try (refine gate_guard (by rfl) ?_; dsimp only)); refine Kd.R_lit Kd.string _ 9 ?hg (N := 8) ?hd (xs := ([] : List ByteArray)) (inner := []) (ok := fun _ => True) (okp := fun _ => True) ?hr ?hp (fun _ hk => hk) trivial (Below.refl _ _) (Nat.le_refl _) (by simp) ?_; (case hd => rfl); (case hg => rfl); (case hr => first | (go_simp; done) | (go_simp; rfl)); (case hp => exact (Reps.none _ _)); intro v219 w5 ho6 hb hg_ hnew_; clear hg_ hnew_; (first | rw [← Ny218.out] at ho6 | (simp only [Int.reduceToNat] at ho6; rw [← Ny218.out] at ho6)); have HO220 := Aside0.mk (Kd.R_lower ho6 (below_size oB)); replace HB := Aside0.mk (below_step oB hb); clear hb ho6))
  go_loopg [4, 5, 6] k (fun kq v4 v5 v6 w' => ∃ (x4_1 : List ByteArray) (x5_1 : Int) (x6_1 : Int), v5 = .int .i64 x5_1 ∧ v6 = .int .i64 x6_1 ∧ Aside0 (spec_SplitPath.l0 kq a0 x4_1 x5_1 x6_1 = some (r1, r2)) ∧ Aside0 (kq ≤ k) ∧ Aside0 (Kd.R Kd.string 9 w' w.heap.size (fun _ => True) v4 x4_1) ∧ Aside0 (Below w.heap.size w w'))
  case atStart => exact ⟨(y218), (0), (0), oS, oS, H', ⟨Nat.le_refl _⟩, ⟨oR HO220⟩, ⟨oB⟩⟩
  case round =>
   clear H'
   try clear c2
   obtain ⟨x4_1, x5_1, x6_1, rfl, rfl, HA, HK1, HO_4, HB⟩ := hrel
   cases gk with
   | zero => exact absurd HA.out (by simp [spec_SplitPath.l0])
   | succ k1 =>
    have H := HA.out
    clear HA
    simp only [spec_SplitPath.l0] at H
    replace H := itD H
    rcases H with ⟨c7b0, H⟩ | ⟨c7b0, H⟩
    ·have HC8 := Aside0.mk H
     clear H
     go_upto_region 8 with (fail)
     go_cut [27] (fun v27 wc => ∃ (kq : Nat) (x27_7 : Bool), v27 = .bool x27_7 ∧ Aside0 (spec_SplitPath.j1 kq a0 x4_1 x5_1 x6_1 x27_7 = some (r1, r2)) ∧ Aside0 (kq ≤ k1) ∧ Aside0 (Kd.R Kd.string 9 wc w.heap.size (fun _ => True) u4 x4_1) ∧ Aside0 (Below w.heap.size w wc))
     case first =>
      have H := HC8.out
      clear HC8
      replace H := itD H
      rcases H with ⟨c9b0, H⟩ | ⟨c9b0, H⟩
      ·(first | rw [c9b0] | rw [c9b2] | (simp only [i64_w, i32_w]; rw [c9b0]) | skip)
       replace H := itD H
       rcases H with ⟨c10b0, H⟩ | ⟨c10b0, H⟩
       ·have H' := Aside0.mk H
        clear H
        have p11 : (0 ≤ (x6_1 : Int)) = True := oT
        have q11 : (x6_1 < (a0.size : Int)) = True := oT
        have hx11 := bt_at a0 x6_1
        go_wp2
        go_meet
        case rel => exact ⟨_, (((bt a0 x6_1) != 47)), oS, H', ⟨by have := HK1.out; first | omega | exact Nat.le_refl _⟩, ⟨oR HO_4⟩, ⟨oB⟩⟩
       ·cases H
      ·(first | rw [c9b0] | rw [c9b2] | (simp only [i64_w, i32_w]; rw [c9b0]) | skip)
       have H' := Aside0.mk H
       clear H
       go_wp2
       go_meet
       case rel => exact ⟨_, (false), oS, H', ⟨by have := HK1.out; first | omega | exact Nat.le_refl _⟩, ⟨oR HO_4⟩, ⟨oB⟩⟩
     case rest =>
      clear HC8
      try clear c2
      try clear c7b0
      obtain ⟨kq, x27_7, rfl, HA, HJ7, HO_4, HB⟩ := hcut
      cases kq with
      | zero => exact absurd HA.out (by simp [spec_SplitPath.j1])
      | succ kj7 =>
       have H := HA.out
       clear HA
       simp only [spec_SplitPath.j1] at H
       replace H := itB H
       rcases H with ⟨rfl, H⟩ | ⟨rfl, H⟩
       ·have H' := Aside0.mk H
        clear H
        go_wp2
        go_roundg kj7
        case measure => have := HK1.out; have := HJ7.out; omega
        case rel => exact ⟨(x4_1), (x5_1), (wrap64 (x6_1 + 1)), oS, oS, H', ⟨by have := HK1.out; have := HJ7.out; omega⟩, ⟨oR HO_4⟩, ⟨oB⟩⟩
       ·replace H := itG H
        rcases H with ⟨c13b0, H⟩ | ⟨c13b0, H⟩
        ·by_cases c14 : 0 ≤ x5_1
         ·rw [if_pos c14] at H
          have c14b0 := eq_true c14
          have c14b1 : decide (0 ≤ x5_1) = true := decide_eq_true c14
          clear c14
          by_cases c15 : x5_1 ≤ x6_1
          ·rw [if_pos c15] at H
           have c15b0 := eq_true c15
           have c15b1 : decide (x5_1 ≤ x6_1) = true := decide_eq_true c15
           clear c15
           by_cases c16 : x6_1 ≤ (a0.size : Int)
           ·rw [if_pos c16] at H
            have c16b0 := eq_true c16
            have c16b1 : decide (x6_1 ≤ (a0.size : Int)) = true := decide_eq_true c16
            clear c16
            replace H := bA H
            obtain ⟨t227, A17, H⟩ := H
            try dsimp only at H
            replace H := itB H
            rcases H with ⟨rfl, H⟩ | ⟨rfl, H⟩
            ·by_cases c19 : (x4_1.length : Int) = 30
             ·rw [if_pos c19] at H
              have c19b0 : ((x4_1.length : Int) == 30) = true := beq_iff_eq.mpr c19
              have c19b1 : ((x4_1.length : Int) != 30) = false := bne_eq_false_iff_eq.mpr c19
              clear c19
              obtain ⟨y228, hy228⟩ : ∃ y_ : List ByteArray, y_ = (([] : List ByteArray)) := ⟨_, rfl⟩
              replace H : (some (y228, false)) = some (r1, r2) := by first | (rw [hy228]; with_reducible exact H) | (have H2_ := (Option.bind_some _ _).symm.trans H; rw [hy228]; with_reducible exact H2_) | (have H2_ := (Option.bind_some _ _).symm.trans H; with_reducible exact H2_) | with_reducible exact H | (rw [hy228]; exact H) | exact H
              have Ny228 := Aside0.mk hy228
              clear hy228
              simp only [Option.some.injEq, Prod.mk.injEq] at H
              obtain ⟨rfl, rfl⟩ := H
              go_wp2_with (first | ((with_reducible refine gate_callee (f := 53) rfl ?_); refine gl_ 35 Tryd.func53 (spec_NameOk.calls kj7 (a0.extract (x5_1 : Int).toNat (x6_1 : Int).toNat) true _ A17.out) ?_; rintro e w' ⟨rfl, ⟨nd, rfl⟩⟩; refine ⟨_, rfl, ?_⟩; obtain ⟨Ao20, co20, eo20⟩ := Kd.R_slice HO_4.out; subst eo20) | ((with_reducible refine gate_dst (N := 42) rfl ?_); (try (refine gate_guard (by rfl) ?_; dsimp only)); refine Kd.R_lit Kd.string _ 9 ?hg (N := 42) ?hd (xs := ([] : List ByteArray)) (inner := []) (ok := fun _ => True) (okp := fun _ => True) ?hr ?hp (fun _ hk => hk) trivial (Below.refl _ _) (Nat.le_refl _) (by simp) ?_; (case hd => rfl); (case hg => rfl); (case hr => first | (go_simp; done) | (go_simp; rfl)); (case hp => exact (Reps.none _ _)); intro v229 w21 ho22 hb hg_ hnew_; clear hg_ hnew_; (first | rw [← Ny228.out] at ho22 | (simp only [Int.reduceToNat] at ho22; rw [← Ny228.out] at ho22)); have HO230 := Aside0.mk (Kd.R_lower (Kd.R_new' ho22 (kl_ HO_4)) (below_size oB)); replace HO_4 := ke_ HO_4 ho22 hb; replace HB := Aside0.mk (below_step oB hb); clear hb ho22))
              go_ret2
              exact ⟨_, oE, by (with_reducible repeat (first | apply Kd.R_alloc | apply Kd.R_drewN | apply Kd.R_drew)); exact Kd.R_mono HO230.out (fun _ hk => trivial), oB⟩
             ·rw [if_neg c19] at H
              have c19b0 : ((x4_1.length : Int) == 30) = false := beq_eq_false_iff_ne.mpr c19
              have c19b1 : ((x4_1.length : Int) != 30) = true := bne_iff_ne.mpr c19
              by_cases c23 : x4_1.length < 8796093022208
              ·rw [if_pos c23] at H
               have LMc23 := Aside0.mk c23
               clear c23
               obtain ⟨y231, hy231⟩ : ∃ y_ : List ByteArray, y_ = (x4_1 ++ [a0.extract (x5_1 : Int).toNat (x6_1 : Int).toNat]) := ⟨_, rfl⟩
               replace H : (spec_SplitPath.l0 kj7 a0 y231 (wrap64 (x6_1 + 1)) (wrap64 (x6_1 + 1))) = some (r1, r2) := by first | (rw [hy231]; with_reducible exact H) | (have H2_ := (Option.bind_some _ _).symm.trans H; rw [hy231]; with_reducible exact H2_) | (have H2_ := (Option.bind_some _ _).symm.trans H; with_reducible exact H2_) | with_reducible exact H | (rw [hy231]; exact H) | exact H
               have Ny231 := Aside0.mk hy231
               clear hy231
               have H' := Aside0.mk H
               clear H
               go_wp2_with (first | ((with_reducible refine gate_callee (f := 53) rfl ?_); refine gl_ 35 Tryd.func53 (spec_NameOk.calls kj7 (a0.extract (x5_1 : Int).toNat (x6_1 : Int).toNat) true _ A17.out) ?_; rintro e w' ⟨rfl, ⟨nd, rfl⟩⟩; refine ⟨_, rfl, ?_⟩; obtain ⟨Ao24, co24, eo24⟩ := Kd.R_slice HO_4.out; subst eo24) | ((with_reducible refine gate_builtin (b := .append) (xs := #[.tmp 43, .tmp 45]) rfl ?_); (try (refine gate_guard (by rfl) ?_; dsimp only)); at_builtin; refine Kd.R_append Kd.string (w0 := w) w.heap.size rfl (.tmp 43) (.tmp 45) 23 9 (.string ⟨#[]⟩) 16 rfl Tryd.underlying23 info9 rfl (by decide) (by omega) (.slice Ao24 x4_1.length co24) x4_1 (a0.extract (x5_1 : Int).toNat (x6_1 : Int).toNat) [.string (a0.extract (x5_1 : Int).toNat (x6_1 : Int).toNat)] (fun _ => True) (fun _ => False) rfl rfl ?aP (fun _ hk => hk.elim) ?aF ?aO ?aB ?aS ?aL ?_; (case aP => exact rfl); (case aB => exact oB); (case aF => exact (fun _ _ => trivial)); (case aO => exact (oR HO_4)); (case aS => exact (below_size oB)); (case aL => have := LMc23.out; omega); intro v232 w25 ho hb hg hat; rw [← Ny231.out] at ho; have HO233 := Aside0.mk (ho); replace HB := Aside0.mk (hb); clear HO_4; clear ho hb hg hat))
               go_roundg kj7
               case measure => have := HK1.out; have := HJ7.out; omega
               case rel => exact ⟨(y231), (wrap64 (x6_1 + 1)), (wrap64 (x6_1 + 1)), oS, oS, H', ⟨by have := HK1.out; have := HJ7.out; omega⟩, ⟨oR HO233⟩, ⟨oB⟩⟩
              ·rw [if_neg c23] at H
               exact absurd H (by simp)
            ·obtain ⟨y234, hy234⟩ : ∃ y_ : List ByteArray, y_ = (([] : List ByteArray)) := ⟨_, rfl⟩
             replace H : (some (y234, false)) = some (r1, r2) := by first | (rw [hy234]; with_reducible exact H) | (have H2_ := (Option.bind_some _ _).symm.trans H; rw [hy234]; with_reducible exact H2_) | (have H2_ := (Option.bind_some _ _).symm.trans H; with_reducible exact H2_) | with_reducible exact H | (rw [hy234]; exact H) | exact H
             have Ny234 := Aside0.mk hy234
             clear hy234
             simp only [Option.some.injEq, Prod.mk.injEq] at H
             obtain ⟨rfl, rfl⟩ := H
             go_wp2_with (first | ((with_reducible refine gate_callee (f := 53) rfl ?_); refine gl_ 35 Tryd.func53 (spec_NameOk.calls kj7 (a0.extract (x5_1 : Int).toNat (x6_1 : Int).toNat) false _ A17.out) ?_; rintro e w' ⟨rfl, ⟨nd, rfl⟩⟩; refine ⟨_, rfl, ?_⟩) | ((with_reducible refine gate_dst (N := 42) rfl ?_); (try (refine gate_guard (by rfl) ?_; dsimp only)); refine Kd.R_lit Kd.string _ 9 ?hg (N := 42) ?hd (xs := ([] : List ByteArray)) (inner := []) (ok := fun _ => True) (okp := fun _ => True) ?hr ?hp (fun _ hk => hk) trivial (Below.refl _ _) (Nat.le_refl _) (by simp) ?_; (case hd => rfl); (case hg => rfl); (case hr => first | (go_simp; done) | (go_simp; rfl)); (case hp => exact (Reps.none _ _)); intro v235 w26 ho27 hb hg_ hnew_; clear hg_ hnew_; (first | rw [← Ny234.out] at ho27 | (simp only [Int.reduceToNat] at ho27; rw [← Ny234.out] at ho27)); have HO236 := Aside0.mk (Kd.R_lower (Kd.R_new' ho27 (kl_ HO_4)) (below_size oB)); replace HO_4 := ke_ HO_4 ho27 hb; replace HB := Aside0.mk (below_step oB hb); clear hb ho27))
             go_ret2
             exact ⟨_, oE, by (with_reducible repeat (first | apply Kd.R_alloc | apply Kd.R_drewN | apply Kd.R_drew)); exact Kd.R_mono HO236.out (fun _ hk => trivial), oB⟩
           ·rw [if_neg c16] at H
            exact absurd H (by simp)
          ·rw [if_neg c15] at H
           exact absurd H (by simp)
         ·rw [if_neg c14] at H
          exact absurd H (by simp)
        ·have H' := Aside0.mk H
         clear H
         go_wp2
         go_roundg kj7
         case measure => have := HK1.out; have := HJ7.out; omega
         case rel => exact ⟨(x4_1), (wrap64 (x6_1 + 1)), (wrap64 (x6_1 + 1)), oS, oS, H', ⟨by have := HK1.out; have := HJ7.out; omega⟩, ⟨oR HO_4⟩, ⟨oB⟩⟩
    ·by_cases c28 : (a0.size : Int) = 0
     ·rw [if_pos c28] at H
      have c28b0 : ((a0.size : Int) == 0) = true := beq_iff_eq.mpr c28
      have c28b1 : ((a0.size : Int) != 0) = false := bne_eq_false_iff_eq.mpr c28
      clear c28
      obtain ⟨y221, hy221⟩ : ∃ y_ : List ByteArray, y_ = (([] : List ByteArray)) := ⟨_, rfl⟩
      replace H : (some (y221, false)) = some (r1, r2) := by first | (rw [hy221]; with_reducible exact H) | (have H2_ := (Option.bind_some _ _).symm.trans H; rw [hy221]; with_reducible exact H2_) | (have H2_ := (Option.bind_some _ _).symm.trans H; with_reducible exact H2_) | with_reducible exact H | (rw [hy221]; exact H) | exact H
      have Ny221 := Aside0.mk hy221
      clear hy221
      simp only [Option.some.injEq, Prod.mk.injEq] at H
      obtain ⟨rfl, rfl⟩ := H
      go_wp2_with (first | ((with_reducible refine gate_dst (N := 57) rfl ?_); (try (refine gate_guard (by rfl) ?_; dsimp only)); refine Kd.R_lit Kd.string _ 9 ?hg (N := 57) ?hd (xs := ([] : List ByteArray)) (inner := []) (ok := fun _ => True) (okp := fun _ => True) ?hr ?hp (fun _ hk => hk) trivial (Below.refl _ _) (Nat.le_refl _) (by simp) ?_; (case hd => rfl); (case hg => rfl); (case hr => first | (go_simp; done) | (go_simp; rfl)); (case hp => exact (Reps.none _ _)); intro v222 w29 ho30 hb hg_ hnew_; clear hg_ hnew_; (first | rw [← Ny221.out] at ho30 | (simp only [Int.reduceToNat] at ho30; rw [← Ny221.out] at ho30)); have HO223 := Aside0.mk (Kd.R_lower (Kd.R_new' ho30 (kl_ HO_4)) (below_size oB)); replace HO_4 := ke_ HO_4 ho30 hb; replace HB := Aside0.mk (below_step oB hb); clear hb ho30))
      go_ret2
      exact ⟨_, oE, by (with_reducible repeat (first | apply Kd.R_alloc | apply Kd.R_drewN | apply Kd.R_drew)); exact Kd.R_mono HO223.out (fun _ hk => trivial), oB⟩
     ·rw [if_neg c28] at H
      have c28b0 : ((a0.size : Int) == 0) = false := beq_eq_false_iff_ne.mpr c28
      have c28b1 : ((a0.size : Int) != 0) = true := bne_iff_ne.mpr c28
      by_cases c31 : 0 < (a0.size : Int)
      ·rw [if_pos c31] at H
       have c31b0 : decide (0 < (a0.size : Int)) = true := decide_eq_true c31
       have c31b1 : decide (0 < a0.size) = true := decide_eq_true (by omega)
       clear c31
       by_cases c33 : (bt a0 0) = 47
       ·rw [if_pos c33] at H
        have c33b0 : ((bt a0 0) == 47) = true := beq_iff_eq.mpr c33
        have c33b1 : ((bt a0 0) != 47) = false := bne_eq_false_iff_eq.mpr c33
        clear c33
        simp only [Option.some.injEq, Prod.mk.injEq] at H
        obtain ⟨rfl, rfl⟩ := H
        have p32 : 0 ≤ (0 : Int) := (by omega)
        have q32 : 0 < a0.size := (by have : (0 : Int) < (a0.size : Int) := oa; omega)
        have hx32 : ∀ h : 0 < a0.size, ((a0[0]'h).toNat : Int) = bt a0 0 := bt_at a0 0
        clear p32
        have qi32 : (0 < (a0.size : Int)) = True := eq_true oa
        replace q32 := eq_true q32
        go_wp2
        go_ret2
        exact ⟨_, oE, oR HO_4, oB⟩
       ·rw [if_neg c33] at H
        have c33b0 : ((bt a0 0) == 47) = false := beq_eq_false_iff_ne.mpr c33
        have c33b1 : ((bt a0 0) != 47) = true := bne_iff_ne.mpr c33
        obtain ⟨y224, hy224⟩ : ∃ y_ : List ByteArray, y_ = (([] : List ByteArray)) := ⟨_, rfl⟩
        replace H : (some (y224, false)) = some (r1, r2) := by first | (rw [hy224]; with_reducible exact H) | (have H2_ := (Option.bind_some _ _).symm.trans H; rw [hy224]; with_reducible exact H2_) | (have H2_ := (Option.bind_some _ _).symm.trans H; with_reducible exact H2_) | with_reducible exact H | (rw [hy224]; exact H) | exact H
        have Ny224 := Aside0.mk hy224
        clear hy224
        simp only [Option.some.injEq, Prod.mk.injEq] at H
        obtain ⟨rfl, rfl⟩ := H
        have p32 : 0 ≤ (0 : Int) := (by omega)
        have q32 : 0 < a0.size := (by have : (0 : Int) < (a0.size : Int) := oa; omega)
        have hx32 : ∀ h : 0 < a0.size, ((a0[0]'h).toNat : Int) = bt a0 0 := bt_at a0 0
        clear p32
        have qi32 : (0 < (a0.size : Int)) = True := eq_true oa
        replace q32 := eq_true q32
        go_wp2_with (first | ((with_reducible refine gate_dst (N := 57) rfl ?_); (try (refine gate_guard (by rfl) ?_; dsimp only)); refine Kd.R_lit Kd.string _ 9 ?hg (N := 57) ?hd (xs := ([] : List ByteArray)) (inner := []) (ok := fun _ => True) (okp := fun _ => True) ?hr ?hp (fun _ hk => hk) trivial (Below.refl _ _) (Nat.le_refl _) (by simp) ?_; (case hd => rfl); (case hg => rfl); (case hr => first | (go_simp; done) | (go_simp; rfl)); (case hp => exact (Reps.none _ _)); intro v225 w34 ho35 hb hg_ hnew_; clear hg_ hnew_; (first | rw [← Ny224.out] at ho35 | (simp only [Int.reduceToNat] at ho35; rw [← Ny224.out] at ho35)); have HO226 := Aside0.mk (Kd.R_lower (Kd.R_new' ho35 (kl_ HO_4)) (below_size oB)); replace HO_4 := ke_ HO_4 ho35 hb; replace HB := Aside0.mk (below_step oB hb); clear hb ho35))
        go_ret2
        exact ⟨_, oE, by (with_reducible repeat (first | apply Kd.R_alloc | apply Kd.R_drewN | apply Kd.R_drew)); exact Kd.R_mono HO226.out (fun _ hk => trivial), oB⟩
      ·rw [if_neg c31] at H
       exact absurd H (by simp)

/-! ### spec_l4At: function 89 -/
def spec_l4At.l0 : Nat → Int → Int → List (S64) → Int → Option (Int)
 | 0, _, _, _, _ => none
 | k + 1, x1, x5, x238000, x238001 => if x5 < (x238000.length : Int) then (if 0 ≤ x5 then (if ((rd_T64 x238000 x5).f0) = x1 then (some x5) else (spec_l4At.l0 k x1 (wrap64 (x5 + 1)) x238000 x238001)) else (none)) else (some (-1))
def spec_l4At.f (k : Nat) (l0_0 : List (S64)) (a0_1 : Int) (a1 : Int) : Option (Int) := spec_l4At.l0 k a1 0 l0_0 a0_1
set_option maxHeartbeats 8000000 in
set_option maxRecDepth 100000 in
theorem spec_l4At.calls (k : Nat) (A0_0 : Option Addr) (c0_0 : Nat) (l0_0 : List (S64)) (a0_1 : Int) (a1 : Int) (r : Int) (w : World) (hr0_0 : Kd.C k64 w A0_0 l0_0.length l0_0) (hc0_0 : l0_0.length ≤ c0_0) (h : spec_l4At.f k l0_0 a0_1 a1 = some r) :
  Calls Tryd.prog 89 #[.agg #[.slice A0_0 l0_0.length c0_0, .int .i64 a0_1], .int .i64 a1] w fun e w' => e = .returned (.int .i64 r) ∧ Below w.heap.size w w' := by
 have hu46 := Tryd.underlying46
 have HR0_0 := Aside0.mk hr0_0
 have HC0_0 := Aside0.mk hc0_0
 clear hr0_0 hc0_0
 have HB := Aside0.mk (Below.refl w.heap.size w)
 unfold spec_l4At.f at h
 have H := h
 clear h
 have H' := Aside0.mk H
 clear H
 go_enter Tryd.func89, Tryd.ntmps89
 go_wp2_with (first | ((with_reducible refine gate_dst (N := 2) rfl ?_); refine bx_ 2 #[.slice A0_0 l0_0.length c0_0, .int .i64 a0_1] 46 ?_; intro gb237 hg w3 hbox hb; have BK237 := Aside0.mk (hbox); have GW237 := gs_ hg; have GE237 := gs_ hg; replace HB := Aside0.mk (below_step oB hb); clear hb hbox hg))
 go_loopg [5] k (fun kq v5 w' => ∃ (x5_1 : Int), v5 = .int .i64 x5_1 ∧ Aside0 (spec_l4At.l0 kq a1 x5_1 l0_0 a0_1 = some r) ∧ Aside0 (kq ≤ k) ∧ Aside0 (w'.heap[gb237]? = some (.cells #[(.slice A0_0 l0_0.length c0_0), .int .i64 a0_1] 46 (0, 0))) ∧ Aside0 (Below w.heap.size w w'))
 case atStart => exact ⟨(0), oS, H', ⟨Nat.le_refl _⟩, ⟨oF BK237⟩, ⟨oB⟩⟩
 case round =>
  clear H'
  obtain ⟨x5_1, rfl, HA, HK1, BK237, HB⟩ := hrel
  cases gk with
  | zero => exact absurd HA.out (by simp [spec_l4At.l0])
  | succ k1 =>
   have H := HA.out
   clear HA
   simp only [spec_l4At.l0] at H
   replace H := itD H
   rcases H with ⟨c4b0, H⟩ | ⟨c4b0, H⟩
   ·replace H := itD H
    rcases H with ⟨c5b0, H⟩ | ⟨c5b0, H⟩
    ·by_cases c6 : ((rd_T64 l0_0 x5_1).f0) = a1
     ·rw [if_pos c6] at H
      have c6b0 : (((rd_T64 l0_0 x5_1).f0) == a1) = true := beq_iff_eq.mpr c6
      have c6b1 : (((rd_T64 l0_0 x5_1).f0) != a1) = false := bne_eq_false_iff_eq.mpr c6
      clear c6
      obtain rfl := Option.some.inj H
      obtain ⟨⟨_, _⟩, _, _⟩ := z2 BK237
      have p238 : (0 ≤ (x5_1 : Int)) = True := oT
      have q238 : (x5_1 < (l0_0.length : Int)) = True := oT
      obtain ⟨ad238, A238_3, c238_3, A238_4, c238_4, A238_5, c238_5, e238, hx238_0, hx238_1, hx238_2, hx238_3, hx238_4, hx238_5, hl238_3, hi238_3, hl238_4, hi238_4, hl238_5, hi238_5⟩ := at_T64 HR0_0.out x5_1 oa oa
      cases e238
      replace hx238_0 := cB HB hx238_0
      replace hx238_1 := cB HB hx238_1
      replace hx238_2 := cB HB hx238_2
      replace hx238_3 := cB HB hx238_3
      replace hx238_4 := cB HB hx238_4
      replace hx238_5 := cB HB hx238_5
      have HR238_3 := Aside0.mk hi238_3
      have HC238_3 := Aside0.mk hl238_3
      clear hi238_3 hl238_3
      have HR238_4 := Aside0.mk hi238_4
      have HC238_4 := Aside0.mk hl238_4
      clear hi238_4 hl238_4
      have HR238_5 := Aside0.mk hi238_5
      have HC238_5 := Aside0.mk hl238_5
      clear hi238_5 hl238_5
      go_wp2
      go_ret
      exact ⟨oE, oB⟩
     ·rw [if_neg c6] at H
      have c6b0 : (((rd_T64 l0_0 x5_1).f0) == a1) = false := beq_eq_false_iff_ne.mpr c6
      have c6b1 : (((rd_T64 l0_0 x5_1).f0) != a1) = true := bne_iff_ne.mpr c6
      have H' := Aside0.mk H
      clear H
      obtain ⟨⟨_, _⟩, _, _⟩ := z2 BK237
      have p238 : (0 ≤ (x5_1 : Int)) = True := oT
      have q238 : (x5_1 < (l0_0.length : Int)) = True := oT
      obtain ⟨ad238, A238_3, c238_3, A238_4, c238_4, A238_5, c238_5, e238, hx238_0, hx238_1, hx238_2, hx238_3, hx238_4, hx238_5, hl238_3, hi238_3, hl238_4, hi238_4, hl238_5, hi238_5⟩ := at_T64 HR0_0.out x5_1 oa oa
      cases e238
      replace hx238_0 := cB HB hx238_0
      replace hx238_1 := cB HB hx238_1
      replace hx238_2 := cB HB hx238_2
      replace hx238_3 := cB HB hx238_3
      replace hx238_4 := cB HB hx238_4
      replace hx238_5 := cB HB hx238_5
      have HR238_3 := Aside0.mk hi238_3
      have HC238_3 := Aside0.mk hl238_3
      clear hi238_3 hl238_3
      have HR238_4 := Aside0.mk hi238_4
      have HC238_4 := Aside0.mk hl238_4
      clear hi238_4 hl238_4
      have HR238_5 := Aside0.mk hi238_5
      have HC238_5 := Aside0.mk hl238_5
      clear hi238_5 hl238_5
      go_wp2
      go_roundg k1
      case measure => have := HK1.out; omega
      case rel => exact ⟨(wrap64 (x5_1 + 1)), oS, H', ⟨by have := HK1.out; omega⟩, ⟨oF BK237⟩, ⟨oB⟩⟩
    ·cases H
   ·obtain rfl := Option.some.inj H
    obtain ⟨⟨_, _⟩, _, _⟩ := z2 BK237
    go_wp2
    go_ret
    exact ⟨oE, oB⟩

/-! ### spec_EntOf: function 90 -/
def spec_EntOf.l0 : Nat → ByteArray → Int → Int → Int → Int → List Int → List (S91) → List (S87) → Option (Int)
 | 0, _, _, _, _, _, _, _, _ => none
 | k + 1, x1, x5, x240000, x240001, x240002, x240003, x240004, x240005 => if x5 < (x240004.length : Int) then (if 0 ≤ x5 then (if ((rd_T91 x240004 x5).f0).toList = x1.toList then (some ((rd_T91 x240004 x5).f1)) else (spec_EntOf.l0 k x1 (wrap64 (x5 + 1)) x240000 x240001 x240002 x240003 x240004 x240005)) else (none)) else (some 0)
def spec_EntOf.f (k : Nat) (a0_0 : Int) (a0_1 : Int) (a0_2 : Int) (l0_3 : List Int) (l0_4 : List (S91)) (l0_5 : List (S87)) (a1 : ByteArray) : Option (Int) := spec_EntOf.l0 k a1 0 a0_0 a0_1 a0_2 l0_3 l0_4 l0_5
set_option maxHeartbeats 8000000 in
set_option maxRecDepth 100000 in
theorem spec_EntOf.calls (k : Nat) (a0_0 : Int) (a0_1 : Int) (a0_2 : Int) (A0_3 : Option Addr) (c0_3 : Nat) (l0_3 : List Int) (A0_4 : Option Addr) (c0_4 : Nat) (l0_4 : List (S91)) (A0_5 : Option Addr) (c0_5 : Nat) (l0_5 : List (S87)) (a1 : ByteArray) (r : Int) (w : World) (hr0_3 : Kd.C (Kd.int .u8) w A0_3 l0_3.length l0_3) (hc0_3 : l0_3.length ≤ c0_3) (hr0_4 : Kd.C k91 w A0_4 l0_4.length l0_4) (hc0_4 : l0_4.length ≤ c0_4) (hr0_5 : Kd.C k87 w A0_5 l0_5.length l0_5) (hc0_5 : l0_5.length ≤ c0_5) (h : spec_EntOf.f k a0_0 a0_1 a0_2 l0_3 l0_4 l0_5 a1 = some r) :
  Calls Tryd.prog 90 #[.agg #[.int .i64 a0_0, .int .i64 a0_1, .int .i64 a0_2, .slice A0_3 l0_3.length c0_3, .slice A0_4 l0_4.length c0_4, .slice A0_5 l0_5.length c0_5], .string a1] w fun e w' => e = .returned (.int .i64 r) ∧ Below w.heap.size w w' := by
 have hu64 := Tryd.underlying64
 have HR0_3 := Aside0.mk hr0_3
 have HC0_3 := Aside0.mk hc0_3
 clear hr0_3 hc0_3
 have HR0_4 := Aside0.mk hr0_4
 have HC0_4 := Aside0.mk hc0_4
 clear hr0_4 hc0_4
 have HR0_5 := Aside0.mk hr0_5
 have HC0_5 := Aside0.mk hc0_5
 clear hr0_5 hc0_5
 have HB := Aside0.mk (Below.refl w.heap.size w)
 unfold spec_EntOf.f at h
 have H := h
 clear h
 have H' := Aside0.mk H
 clear H
 go_enter Tryd.func90, Tryd.ntmps90
 go_wp2_with (first | ((with_reducible refine gate_dst (N := 2) rfl ?_); refine bx_ 2 #[.int .i64 a0_0, .int .i64 a0_1, .int .i64 a0_2, .slice A0_3 l0_3.length c0_3, .slice A0_4 l0_4.length c0_4, .slice A0_5 l0_5.length c0_5] 64 ?_; intro gb239 hg w3 hbox hb; have BK239 := Aside0.mk (hbox); have GW239 := gs_ hg; have GE239 := gs_ hg; replace HB := Aside0.mk (below_step oB hb); clear hb hbox hg))
 go_loopg [5] k (fun kq v5 w' => ∃ (x5_1 : Int), v5 = .int .i64 x5_1 ∧ Aside0 (spec_EntOf.l0 kq a1 x5_1 a0_0 a0_1 a0_2 l0_3 l0_4 l0_5 = some r) ∧ Aside0 (kq ≤ k) ∧ Aside0 (w'.heap[gb239]? = some (.cells #[.int .i64 a0_0, .int .i64 a0_1, .int .i64 a0_2, (.slice A0_3 l0_3.length c0_3), (.slice A0_4 l0_4.length c0_4), (.slice A0_5 l0_5.length c0_5)] 64 (0, 0))) ∧ Aside0 (Below w.heap.size w w'))
 case atStart => exact ⟨(0), oS, H', ⟨Nat.le_refl _⟩, ⟨oF BK239⟩, ⟨oB⟩⟩
 case round =>
  clear H'
  obtain ⟨x5_1, rfl, HA, HK1, BK239, HB⟩ := hrel
  cases gk with
  | zero => exact absurd HA.out (by simp [spec_EntOf.l0])
  | succ k1 =>
   have H := HA.out
   clear HA
   simp only [spec_EntOf.l0] at H
   replace H := itD H
   rcases H with ⟨c4b0, H⟩ | ⟨c4b0, H⟩
   ·replace H := itD H
    rcases H with ⟨c5b0, H⟩ | ⟨c5b0, H⟩
    ·by_cases c6 : ((rd_T91 l0_4 x5_1).f0).toList = a1.toList
     ·rw [if_pos c6] at H
      have c6b0 : (((rd_T91 l0_4 x5_1).f0).toList == a1.toList) = true := beq_iff_eq.mpr c6
      have c6b1 : (((rd_T91 l0_4 x5_1).f0).toList != a1.toList) = false := bne_eq_false_iff_eq.mpr c6
      clear c6
      obtain rfl := Option.some.inj H
      obtain ⟨⟨_, _, _, _, _, _⟩, _, _, _, _, _, _⟩ := z6 BK239
      have p240 : (0 ≤ (x5_1 : Int)) = True := oT
      have q240 : (x5_1 < (l0_4.length : Int)) = True := oT
      obtain ⟨ad240, e240, hx240_0, hx240_1⟩ := at_T91 HR0_4.out x5_1 oa oa
      cases e240
      replace hx240_0 := cB HB hx240_0
      replace hx240_1 := cB HB hx240_1
      have p241 : (0 ≤ (x5_1 : Int)) = True := oT
      have q241 : (x5_1 < (l0_4.length : Int)) = True := oT
      obtain ⟨ad241, e241, hx241_0, hx241_1⟩ := at_T91 HR0_4.out x5_1 oa oa
      obtain rfl : ad240 = ad241 := (by injection e241)
      replace hx241_0 := cB HB hx241_0
      replace hx241_1 := cB HB hx241_1
      go_wp2
      go_ret
      exact ⟨oE, oB⟩
     ·rw [if_neg c6] at H
      have c6b0 : (((rd_T91 l0_4 x5_1).f0).toList == a1.toList) = false := beq_eq_false_iff_ne.mpr c6
      have c6b1 : (((rd_T91 l0_4 x5_1).f0).toList != a1.toList) = true := bne_iff_ne.mpr c6
      have H' := Aside0.mk H
      clear H
      obtain ⟨⟨_, _, _, _, _, _⟩, _, _, _, _, _, _⟩ := z6 BK239
      have p240 : (0 ≤ (x5_1 : Int)) = True := oT
      have q240 : (x5_1 < (l0_4.length : Int)) = True := oT
      obtain ⟨ad240, e240, hx240_0, hx240_1⟩ := at_T91 HR0_4.out x5_1 oa oa
      cases e240
      replace hx240_0 := cB HB hx240_0
      replace hx240_1 := cB HB hx240_1
      go_wp2
      go_roundg k1
      case measure => have := HK1.out; omega
      case rel => exact ⟨(wrap64 (x5_1 + 1)), oS, H', ⟨by have := HK1.out; omega⟩, ⟨oF BK239⟩, ⟨oB⟩⟩
    ·cases H
   ·obtain rfl := Option.some.inj H
    obtain ⟨⟨_, _, _, _, _, _⟩, _, _, _, _, _, _⟩ := z6 BK239
    go_wp2
    go_ret
    exact ⟨oE, oB⟩

/-! ### spec_l5Walk: function 65 -/
def spec_l5Walk.l0 : Nat → List ByteArray → Int → Int → List (S64) → Int → Option (Int × Int)
 | 0, _, _, _, _, _ => none
 | k + 1, x1, x6, x7, x243000, x243001 => if x7 < (x1.length : Int) then ((spec_l4At.f k x243000 x243001 x6).bind fun t243 => (if t243 < 0 then (some (0, 2)) else (if 0 ≤ t243 then (if t243 < (x243000.length : Int) then (if ((rd_T64 x243000 t243).f1) = 2 then (if 0 ≤ x7 then ((spec_EntOf.f k ((rd_T64 x243000 t243).f0) ((rd_T64 x243000 t243).f1) ((rd_T64 x243000 t243).f2) ((rd_T64 x243000 t243).f3) ((rd_T64 x243000 t243).f4) ((rd_T64 x243000 t243).f5) (rdOf ByteArray.empty x1 x7)).bind fun t247 => (if t247 = 0 then (some (0, 2)) else (spec_l5Walk.l0 k x1 t247 (wrap64 (x7 + 1)) x243000 x243001))) else (none)) else (some (0, 3))) else (none)) else (none)))) else (some (x6, 0))
def spec_l5Walk.f (k : Nat) (l0_0 : List (S64)) (a0_1 : Int) (l1 : List ByteArray) : Option (Int × Int) := spec_l5Walk.l0 k l1 1 0 l0_0 a0_1
def spec_l5Walk.T10 : Bool × List (List Nat × List Nat) := (true, [([], []), ([0], [0]), ([], []), ([1, 2], [1, 2]), ([3], [3]), ([], []), ([], []), ([5, 6], [5, 6]), ([7], [7]), ([4, 8], [4, 8]), ([9, 9, 0, 1, 2, 3, 4, 5, 6, 7, 8, 9], [9])])
def spec_l5Walk.B10 : List Nat := [0, 1, 0, 7, 15, 0, 0, 96, 224, 511, 1023]
theorem spec_l5Walk.tab10 : rtab .any (opsOf Tryd.f65 10) = spec_l5Walk.T10 := by kernel_rfl
theorem spec_l5Walk.bits10 : waitsOk spec_l5Walk.T10.2 spec_l5Walk.B10 = true := by kernel_rfl
set_option maxHeartbeats 8000000 in
set_option maxRecDepth 100000 in
theorem spec_l5Walk.calls (k : Nat) (A0_0 : Option Addr) (c0_0 : Nat) (l0_0 : List (S64)) (a0_1 : Int) (A1 : Option Addr) (c1 : Nat) (l1 : List ByteArray) (r1 : Int) (r2 : Int) (w : World) (hr0_0 : Kd.C k64 w A0_0 l0_0.length l0_0) (hc0_0 : l0_0.length ≤ c0_0) (hr1 : Kd.C Kd.string w A1 l1.length l1) (hc1 : l1.length ≤ c1) (h : spec_l5Walk.f k l0_0 a0_1 l1 = some (r1, r2)) :
  Calls Tryd.prog 65 #[.agg #[.slice A0_0 l0_0.length c0_0, .int .i64 a0_1], .slice A1 l1.length c1] w fun e w' => e = .returned (.tuple #[.int .i64 r1, .int .i64 r2]) ∧ Below w.heap.size w w' := by
 have hu46 := Tryd.underlying46
 have hu64 := Tryd.underlying64
 have HR0_0 := Aside0.mk hr0_0
 have HC0_0 := Aside0.mk hc0_0
 clear hr0_0 hc0_0
 have HR1 := Aside0.mk hr1
 have HC1 := Aside0.mk hc1
 clear hr1 hc1
 have HB := Aside0.mk (Below.refl w.heap.size w)
 unfold spec_l5Walk.f at h
 have H := h
 clear h
 have H' := Aside0.mk H
 clear H
 go_enter Tryd.func65, Tryd.ntmps65
 go_wp2_with (first | ((with_reducible refine gate_dst (N := 2) rfl ?_); refine bx_ 2 #[.slice A0_0 l0_0.length c0_0, .int .i64 a0_1] 46 ?_; intro gb242 hg w3 hbox hb; have BK242 := Aside0.mk (hbox); have GW242 := gs_ hg; have GE242 := gs_ hg; replace HB := Aside0.mk (below_step oB hb); clear hb hbox hg))
 go_loopg [6, 7] k (fun kq v6 v7 w' => ∃ (x6_1 : Int) (x7_1 : Int), v6 = .int .i64 x6_1 ∧ v7 = .int .i64 x7_1 ∧ Aside0 (spec_l5Walk.l0 kq l1 x6_1 x7_1 l0_0 a0_1 = some (r1, r2)) ∧ Aside0 (kq ≤ k) ∧ Aside0 (w'.heap[gb242]? = some (.cells #[(.slice A0_0 l0_0.length c0_0), .int .i64 a0_1] 46 (0, 0))) ∧ Aside0 (Below w.heap.size w w'))
 case atStart => exact ⟨(1), (0), oS, oS, H', ⟨Nat.le_refl _⟩, ⟨oF BK242⟩, ⟨oB⟩⟩
 case round =>
  clear H'
  try clear c1
  obtain ⟨x6_1, x7_1, rfl, rfl, HA, HK1, BK242, HB⟩ := hrel
  cases gk with
  | zero => exact absurd HA.out (by simp [spec_l5Walk.l0])
  | succ k1 =>
   have H := HA.out
   clear HA
   simp only [spec_l5Walk.l0] at H
   replace H := itD H
   rcases H with ⟨c4b0, H⟩ | ⟨c4b0, H⟩
   ·replace H := bA H
    obtain ⟨t243, A5, H⟩ := H
    try dsimp only at H
    replace H := itD H
    rcases H with ⟨c6b0, H⟩ | ⟨c6b0, H⟩
    ·simp only [Option.some.injEq, Prod.mk.injEq] at H
     obtain ⟨rfl, rfl⟩ := H
     obtain ⟨⟨_, _⟩, _, _⟩ := z2 BK242
     go_wp2_with (first | ((with_reducible refine gate_callee (f := 89) rfl ?_); refine gl_ 17 Tryd.func89 (spec_l4At.calls k1 _ _ l0_0 a0_1 x6_1 t243 _ (kC HR0_0) HC0_0.out A5.out) ?_; rintro e w8 ⟨rfl, hb⟩; refine ⟨_, rfl, ?_⟩; replace BK242 := kb_ BK242 hb; replace HB := Aside0.mk (below_step oB hb)))
     go_ret2
     exact ⟨oE, oB⟩
    ·replace H := itD H
     rcases H with ⟨c9b0, H⟩ | ⟨c9b0, H⟩
     ·replace H := itD H
      rcases H with ⟨c10b0, H⟩ | ⟨c10b0, H⟩
      ·by_cases c11 : ((rd_T64 l0_0 t243).f1) = 2
       ·rw [if_pos c11] at H
        have c11b0 : (((rd_T64 l0_0 t243).f1) == 2) = true := beq_iff_eq.mpr c11
        have c11b1 : (((rd_T64 l0_0 t243).f1) != 2) = false := bne_eq_false_iff_eq.mpr c11
        clear c11
        replace H := itD H
        rcases H with ⟨c12b0, H⟩ | ⟨c12b0, H⟩
        ·replace H := bA H
         obtain ⟨t247, A13, H⟩ := H
         try dsimp only at H
         by_cases c14 : t247 = 0
         ·rw [if_pos c14] at H
          have c14b0 : (t247 == 0) = true := beq_iff_eq.mpr c14
          have c14b1 : (t247 != 0) = false := bne_eq_false_iff_eq.mpr c14
          clear c14
          simp only [Option.some.injEq, Prod.mk.injEq] at H
          obtain ⟨rfl, rfl⟩ := H
          obtain ⟨⟨_, _⟩, _, _⟩ := z2 BK242
          try go_wp2_with (first | ((with_reducible refine gate_callee (f := 89) rfl ?_); refine gl_ 17 Tryd.func89 (spec_l4At.calls k1 _ _ l0_0 a0_1 x6_1 t243 _ (kC HR0_0) HC0_0.out A5.out) ?_; rintro e w16 ⟨rfl, hb⟩; refine ⟨_, rfl, ?_⟩; replace BK242 := kb_ BK242 hb; replace HB := Aside0.mk (below_step oB hb); obtain ⟨⟨_, _⟩, _, _⟩ := z2 BK242; have p244 : (0 ≤ (t243 : Int)) = True := oT; have q244 : (t243 < (l0_0.length : Int)) = True := oT; obtain ⟨ad244, A244_3, c244_3, A244_4, c244_4, A244_5, c244_5, e244, hx244_0, hx244_1, hx244_2, hx244_3, hx244_4, hx244_5, hl244_3, hi244_3, hl244_4, hi244_4, hl244_5, hi244_5⟩ := at_T64 HR0_0.out t243 oa oa; cases e244; replace hx244_0 := cB HB hx244_0; replace hx244_1 := cB HB hx244_1; replace hx244_2 := cB HB hx244_2; replace hx244_3 := cB HB hx244_3; replace hx244_4 := cB HB hx244_4; replace hx244_5 := cB HB hx244_5; have HR244_3 := Aside0.mk hi244_3; have HC244_3 := Aside0.mk hl244_3; clear hi244_3 hl244_3; have HR244_4 := Aside0.mk hi244_4; have HC244_4 := Aside0.mk hl244_4; clear hi244_4 hl244_4; have HR244_5 := Aside0.mk hi244_5; have HC244_5 := Aside0.mk hl244_5; clear hi244_5 hl244_5))
          replace BK242 := Aside0.mk (blk_drew BK242.out)
          replace HB := Aside0.mk (below_drew1 HB.out)
          have p245 : (0 ≤ (t243 : Int)) = True := oT
          have q245 : (t243 < (l0_0.length : Int)) = True := oT
          obtain ⟨ad245, A245_3, c245_3, A245_4, c245_4, A245_5, c245_5, e245, hx245_0, hx245_1, hx245_2, hx245_3, hx245_4, hx245_5, hl245_3, hi245_3, hl245_4, hi245_4, hl245_5, hi245_5⟩ := at_T64 HR0_0.out t243 oa oa
          have hw245_5 := hx245_5
          have hw245_4 := hx245_4
          have hw245_3 := hx245_3
          have hw245_2 := hx245_2
          have hw245_1 := hx245_1
          have hw245_0 := hx245_0
          obtain rfl : ad244 = ad245 := (by injection e245)
          replace hx245_0 := cB HB hx245_0
          replace hx245_1 := cB HB hx245_1
          replace hx245_2 := cB HB hx245_2
          replace hx245_3 := cB HB hx245_3
          replace hx245_4 := cB HB hx245_4
          replace hx245_5 := cB HB hx245_5
          have HR245_3 := Aside0.mk hi245_3
          have HC245_3 := Aside0.mk hl245_3
          clear hi245_3 hl245_3
          have HR245_4 := Aside0.mk hi245_4
          have HC245_4 := Aside0.mk hl245_4
          clear hi245_4 hl245_4
          have HR245_5 := Aside0.mk hi245_5
          have HC245_5 := Aside0.mk hl245_5
          clear hi245_5 hl245_5
          have p246 : (0 ≤ (x7_1 : Int)) = True := oT
          have q246 : (x7_1 < (l1.length : Int)) = True := oT
          obtain ⟨ad246, e246, hx246_0⟩ := Kd.at_string HR1.out x7_1 oa oa
          have hw246_0 := hx246_0
          cases e246
          replace hx246_0 := cB HB hx246_0
          refine st_ 11 (fun w' => w'.cell? ⟨gb242, 0, none⟩ = some (.slice (some ad244) l0_0.length c0_0) ∧ w'.cell? ⟨gb242, 1, none⟩ = some (.int .i64 a0_1) ∧ w'.cell? (ad244.add ((t243).toNat * 6)) = some (.int .i64 ((rd_T64 l0_0 t243).f0)) ∧ w'.cell? ⟨(ad244.add ((t243).toNat * 6)).block, (ad244.add ((t243).toNat * 6)).off + 1, none⟩ = some (.int .i64 ((rd_T64 l0_0 t243).f1)) ∧ w'.cell? ⟨(ad244.add ((t243).toNat * 6)).block, (ad244.add ((t243).toNat * 6)).off + 2, none⟩ = some (.int .i64 ((rd_T64 l0_0 t243).f2)) ∧ w'.cell? ⟨(ad244.add ((t243).toNat * 6)).block, (ad244.add ((t243).toNat * 6)).off + 3, none⟩ = some (.slice A245_3 ((rd_T64 l0_0 t243).f3).length c245_3) ∧ w'.cell? ⟨(ad244.add ((t243).toNat * 6)).block, (ad244.add ((t243).toNat * 6)).off + 4, none⟩ = some (.slice A245_4 ((rd_T64 l0_0 t243).f4).length c245_4) ∧ w'.cell? ⟨(ad244.add ((t243).toNat * 6)).block, (ad244.add ((t243).toNat * 6)).off + 5, none⟩ = some (.slice A245_5 ((rd_T64 l0_0 t243).f5).length c245_5) ∧ w'.cell? (ad246.add (x7_1).toNat) = some (.string (rdOf ByteArray.empty l1 x7_1))) spec_l5Walk.tab10 spec_l5Walk.bits10 ⟨(blk_cell BK242.out 0).trans rfl, (blk_cell BK242.out 1).trans rfl, (cB HB hw245_0), (cB HB hw245_1), (cB HB hw245_2), (cB HB hw245_3), (cB HB hw245_4), (cB HB hw245_5), (cB HB hw246_0)⟩ (fun hHeld HT_ HW_ => ?_)
          generalize w16.drew = w18 at BK242 HB HR245_3 HR245_4 HR245_5 hx245_0 hx245_1 hx245_2 hx245_3 hx245_4 hx245_5 hx246_0 hHeld ⊢
          refine pu_ 0 27 HT_ ?_
          refine pu_ 2 29 HT_ ?_
          refine pu_ 5 32 HT_ ?_
          refine pu_ 6 33 HT_ ?_
          refine pu_ 7 34 HT_ ?_
          refine ta_ 1 28 HT_ HW_ hHeld ?_
          refine pu_ 3 30 HT_ ?_
          refine ta_ 4 31 HT_ HW_ hHeld ?_
          refine ta_ 8 35 HT_ HW_ hHeld ?_
          refine on_ 9 36 HT_ (fun K hK => ?_)
          refine gr_ 36 Tryd.func90 (spec_EntOf.calls k1 ((rd_T64 l0_0 t243).f0) ((rd_T64 l0_0 t243).f1) ((rd_T64 l0_0 t243).f2) _ _ ((rd_T64 l0_0 t243).f3) _ _ ((rd_T64 l0_0 t243).f4) _ _ ((rd_T64 l0_0 t243).f5) (rdOf ByteArray.empty l1 x7_1) t247 _ (kC HR245_3) HC245_3.out (kC HR245_4) HC245_4.out (kC HR245_5) HC245_5.out A13.out) ?_
          rintro e w19 ⟨rfl, hb⟩
          refine ⟨_, rfl, ?_⟩
          replace BK242 := kb_ BK242 hb
          replace HB := Aside0.mk (below_step oB hb)
          refine hk_ hK 36 ⟨(blk_cell BK242.out 0).trans rfl, (blk_cell BK242.out 1).trans rfl, (cB HB hw245_0), (cB HB hw245_1), (cB HB hw245_2), (cB HB hw245_3), (cB HB hw245_4), (cB HB hw245_5), (cB HB hw246_0)⟩ (fun hHeld => ?_)
          clear hK K
          refine pu_ 10 6 HT_ ?_
          refine dn_ HT_ ?_
          try go_wp2
          go_ret2
          exact ⟨oE, oB⟩
         ·rw [if_neg c14] at H
          have c14b0 : (t247 == 0) = false := beq_eq_false_iff_ne.mpr c14
          have c14b1 : (t247 != 0) = true := bne_iff_ne.mpr c14
          have H' := Aside0.mk H
          clear H
          obtain ⟨⟨_, _⟩, _, _⟩ := z2 BK242
          try go_wp2_with (first | ((with_reducible refine gate_callee (f := 89) rfl ?_); refine gl_ 17 Tryd.func89 (spec_l4At.calls k1 _ _ l0_0 a0_1 x6_1 t243 _ (kC HR0_0) HC0_0.out A5.out) ?_; rintro e w21 ⟨rfl, hb⟩; refine ⟨_, rfl, ?_⟩; replace BK242 := kb_ BK242 hb; replace HB := Aside0.mk (below_step oB hb); obtain ⟨⟨_, _⟩, _, _⟩ := z2 BK242; have p244 : (0 ≤ (t243 : Int)) = True := oT; have q244 : (t243 < (l0_0.length : Int)) = True := oT; obtain ⟨ad244, A244_3, c244_3, A244_4, c244_4, A244_5, c244_5, e244, hx244_0, hx244_1, hx244_2, hx244_3, hx244_4, hx244_5, hl244_3, hi244_3, hl244_4, hi244_4, hl244_5, hi244_5⟩ := at_T64 HR0_0.out t243 oa oa; cases e244; replace hx244_0 := cB HB hx244_0; replace hx244_1 := cB HB hx244_1; replace hx244_2 := cB HB hx244_2; replace hx244_3 := cB HB hx244_3; replace hx244_4 := cB HB hx244_4; replace hx244_5 := cB HB hx244_5; have HR244_3 := Aside0.mk hi244_3; have HC244_3 := Aside0.mk hl244_3; clear hi244_3 hl244_3; have HR244_4 := Aside0.mk hi244_4; have HC244_4 := Aside0.mk hl244_4; clear hi244_4 hl244_4; have HR244_5 := Aside0.mk hi244_5; have HC244_5 := Aside0.mk hl244_5; clear hi244_5 hl244_5))
          replace BK242 := Aside0.mk (blk_drew BK242.out)
          replace HB := Aside0.mk (below_drew1 HB.out)
          have p245 : (0 ≤ (t243 : Int)) = True := oT
          have q245 : (t243 < (l0_0.length : Int)) = True := oT
          obtain ⟨ad245, A245_3, c245_3, A245_4, c245_4, A245_5, c245_5, e245, hx245_0, hx245_1, hx245_2, hx245_3, hx245_4, hx245_5, hl245_3, hi245_3, hl245_4, hi245_4, hl245_5, hi245_5⟩ := at_T64 HR0_0.out t243 oa oa
          have hw245_5 := hx245_5
          have hw245_4 := hx245_4
          have hw245_3 := hx245_3
          have hw245_2 := hx245_2
          have hw245_1 := hx245_1
          have hw245_0 := hx245_0
          obtain rfl : ad244 = ad245 := (by injection e245)
          replace hx245_0 := cB HB hx245_0
          replace hx245_1 := cB HB hx245_1
          replace hx245_2 := cB HB hx245_2
          replace hx245_3 := cB HB hx245_3
          replace hx245_4 := cB HB hx245_4
          replace hx245_5 := cB HB hx245_5
          have HR245_3 := Aside0.mk hi245_3
          have HC245_3 := Aside0.mk hl245_3
          clear hi245_3 hl245_3
          have HR245_4 := Aside0.mk hi245_4
          have HC245_4 := Aside0.mk hl245_4
          clear hi245_4 hl245_4
          have HR245_5 := Aside0.mk hi245_5
          have HC245_5 := Aside0.mk hl245_5
          clear hi245_5 hl245_5
          have p246 : (0 ≤ (x7_1 : Int)) = True := oT
          have q246 : (x7_1 < (l1.length : Int)) = True := oT
          obtain ⟨ad246, e246, hx246_0⟩ := Kd.at_string HR1.out x7_1 oa oa
          have hw246_0 := hx246_0
          cases e246
          replace hx246_0 := cB HB hx246_0
          refine st_ 11 (fun w' => w'.cell? ⟨gb242, 0, none⟩ = some (.slice (some ad244) l0_0.length c0_0) ∧ w'.cell? ⟨gb242, 1, none⟩ = some (.int .i64 a0_1) ∧ w'.cell? (ad244.add ((t243).toNat * 6)) = some (.int .i64 ((rd_T64 l0_0 t243).f0)) ∧ w'.cell? ⟨(ad244.add ((t243).toNat * 6)).block, (ad244.add ((t243).toNat * 6)).off + 1, none⟩ = some (.int .i64 ((rd_T64 l0_0 t243).f1)) ∧ w'.cell? ⟨(ad244.add ((t243).toNat * 6)).block, (ad244.add ((t243).toNat * 6)).off + 2, none⟩ = some (.int .i64 ((rd_T64 l0_0 t243).f2)) ∧ w'.cell? ⟨(ad244.add ((t243).toNat * 6)).block, (ad244.add ((t243).toNat * 6)).off + 3, none⟩ = some (.slice A245_3 ((rd_T64 l0_0 t243).f3).length c245_3) ∧ w'.cell? ⟨(ad244.add ((t243).toNat * 6)).block, (ad244.add ((t243).toNat * 6)).off + 4, none⟩ = some (.slice A245_4 ((rd_T64 l0_0 t243).f4).length c245_4) ∧ w'.cell? ⟨(ad244.add ((t243).toNat * 6)).block, (ad244.add ((t243).toNat * 6)).off + 5, none⟩ = some (.slice A245_5 ((rd_T64 l0_0 t243).f5).length c245_5) ∧ w'.cell? (ad246.add (x7_1).toNat) = some (.string (rdOf ByteArray.empty l1 x7_1))) spec_l5Walk.tab10 spec_l5Walk.bits10 ⟨(blk_cell BK242.out 0).trans rfl, (blk_cell BK242.out 1).trans rfl, (cB HB hw245_0), (cB HB hw245_1), (cB HB hw245_2), (cB HB hw245_3), (cB HB hw245_4), (cB HB hw245_5), (cB HB hw246_0)⟩ (fun hHeld HT_ HW_ => ?_)
          generalize w21.drew = w23 at BK242 HB HR245_3 HR245_4 HR245_5 hx245_0 hx245_1 hx245_2 hx245_3 hx245_4 hx245_5 hx246_0 hHeld ⊢
          refine pu_ 0 27 HT_ ?_
          refine pu_ 2 29 HT_ ?_
          refine pu_ 5 32 HT_ ?_
          refine pu_ 6 33 HT_ ?_
          refine pu_ 7 34 HT_ ?_
          refine ta_ 1 28 HT_ HW_ hHeld ?_
          refine pu_ 3 30 HT_ ?_
          refine ta_ 4 31 HT_ HW_ hHeld ?_
          refine ta_ 8 35 HT_ HW_ hHeld ?_
          refine on_ 9 36 HT_ (fun K hK => ?_)
          refine gr_ 36 Tryd.func90 (spec_EntOf.calls k1 ((rd_T64 l0_0 t243).f0) ((rd_T64 l0_0 t243).f1) ((rd_T64 l0_0 t243).f2) _ _ ((rd_T64 l0_0 t243).f3) _ _ ((rd_T64 l0_0 t243).f4) _ _ ((rd_T64 l0_0 t243).f5) (rdOf ByteArray.empty l1 x7_1) t247 _ (kC HR245_3) HC245_3.out (kC HR245_4) HC245_4.out (kC HR245_5) HC245_5.out A13.out) ?_
          rintro e w24 ⟨rfl, hb⟩
          refine ⟨_, rfl, ?_⟩
          replace BK242 := kb_ BK242 hb
          replace HB := Aside0.mk (below_step oB hb)
          refine hk_ hK 36 ⟨(blk_cell BK242.out 0).trans rfl, (blk_cell BK242.out 1).trans rfl, (cB HB hw245_0), (cB HB hw245_1), (cB HB hw245_2), (cB HB hw245_3), (cB HB hw245_4), (cB HB hw245_5), (cB HB hw246_0)⟩ (fun hHeld => ?_)
          clear hK K
          refine pu_ 10 6 HT_ ?_
          refine dn_ HT_ ?_
          try go_wp2
          go_roundg k1
          case measure => have := HK1.out; omega
          case rel => exact ⟨(t247), (wrap64 (x7_1 + 1)), oS, oS, H', ⟨by have := HK1.out; omega⟩, ⟨oF BK242⟩, ⟨oB⟩⟩
        ·cases H
       ·rw [if_neg c11] at H
        have c11b0 : (((rd_T64 l0_0 t243).f1) == 2) = false := beq_eq_false_iff_ne.mpr c11
        have c11b1 : (((rd_T64 l0_0 t243).f1) != 2) = true := bne_iff_ne.mpr c11
        simp only [Option.some.injEq, Prod.mk.injEq] at H
        obtain ⟨rfl, rfl⟩ := H
        obtain ⟨⟨_, _⟩, _, _⟩ := z2 BK242
        go_wp2_with (first | ((with_reducible refine gate_callee (f := 89) rfl ?_); refine gl_ 17 Tryd.func89 (spec_l4At.calls k1 _ _ l0_0 a0_1 x6_1 t243 _ (kC HR0_0) HC0_0.out A5.out) ?_; rintro e w26 ⟨rfl, hb⟩; refine ⟨_, rfl, ?_⟩; replace BK242 := kb_ BK242 hb; replace HB := Aside0.mk (below_step oB hb); obtain ⟨⟨_, _⟩, _, _⟩ := z2 BK242; have p244 : (0 ≤ (t243 : Int)) = True := oT; have q244 : (t243 < (l0_0.length : Int)) = True := oT; obtain ⟨ad244, A244_3, c244_3, A244_4, c244_4, A244_5, c244_5, e244, hx244_0, hx244_1, hx244_2, hx244_3, hx244_4, hx244_5, hl244_3, hi244_3, hl244_4, hi244_4, hl244_5, hi244_5⟩ := at_T64 HR0_0.out t243 oa oa; cases e244; replace hx244_0 := cB HB hx244_0; replace hx244_1 := cB HB hx244_1; replace hx244_2 := cB HB hx244_2; replace hx244_3 := cB HB hx244_3; replace hx244_4 := cB HB hx244_4; replace hx244_5 := cB HB hx244_5; have HR244_3 := Aside0.mk hi244_3; have HC244_3 := Aside0.mk hl244_3; clear hi244_3 hl244_3; have HR244_4 := Aside0.mk hi244_4; have HC244_4 := Aside0.mk hl244_4; clear hi244_4 hl244_4; have HR244_5 := Aside0.mk hi244_5; have HC244_5 := Aside0.mk hl244_5; clear hi244_5 hl244_5))
        go_ret2
        exact ⟨oE, oB⟩
      ·cases H
     ·cases H
   ·simp only [Option.some.injEq, Prod.mk.injEq] at H
    obtain ⟨rfl, rfl⟩ := H
    go_wp2
    go_ret2
    exact ⟨oE, oB⟩

/-! ### spec_Walk: function 33 -/
def spec_Walk.f (k : Nat) (l0_0 : List (S64)) (a0_1 : Int) (a1 : ByteArray) : Option (Int × Int) := (spec_SplitPath.f k a1).bind fun bt249 => (if bt249.2 = true then ((spec_l5Walk.f k l0_0 a0_1 bt249.1).bind fun bt253 => (some (bt253.1, bt253.2))) else (some (0, 1)))
set_option maxHeartbeats 8000000 in
set_option maxRecDepth 100000 in
theorem spec_Walk.calls (k : Nat) (A0_0 : Option Addr) (c0_0 : Nat) (l0_0 : List (S64)) (a0_1 : Int) (a1 : ByteArray) (r1 : Int) (r2 : Int) (w : World) (hr0_0 : Kd.C k64 w A0_0 l0_0.length l0_0) (hc0_0 : l0_0.length ≤ c0_0) (h : spec_Walk.f k l0_0 a0_1 a1 = some (r1, r2)) :
  Calls Tryd.prog 33 #[.agg #[.slice A0_0 l0_0.length c0_0, .int .i64 a0_1], .string a1] w fun e w' => e = .returned (.tuple #[.int .i64 r1, .int .i64 r2]) ∧ Below w.heap.size w w' := by
 have hu46 := Tryd.underlying46
 have HR0_0 := Aside0.mk hr0_0
 have HC0_0 := Aside0.mk hc0_0
 clear hr0_0 hc0_0
 have HB := Aside0.mk (Below.refl w.heap.size w)
 unfold spec_Walk.f at h
 have H := h
 clear h
 replace H := bA H
 obtain ⟨⟨t249, t250⟩, A3, H⟩ := H
 try dsimp only at H
 replace H := itB H
 rcases H with ⟨rfl, H⟩ | ⟨rfl, H⟩
 ·replace H := bA H
  obtain ⟨⟨t253, t254⟩, A5, H⟩ := H
  try dsimp only at H
  simp only [Option.some.injEq, Prod.mk.injEq] at H
  obtain ⟨rfl, rfl⟩ := H
  go_enter Tryd.func33, Tryd.ntmps33
  go_wp2_with (first | ((with_reducible refine gate_dst (N := 2) rfl ?_); refine bx_ 2 #[.slice A0_0 l0_0.length c0_0, .int .i64 a0_1] 46 ?_; intro gb248 hg w6 hbox hb; have BK248 := Aside0.mk (hbox); have GW248 := gs_ hg; have GE248 := gs_ hg; replace HB := Aside0.mk (below_step oB hb); clear hb hbox hg) | ((with_reducible refine gate_callee (f := 16) rfl ?_); refine gl_ 10 Tryd.func16 (spec_SplitPath.calls k a1 t249 true _ A3.out) ?_; rintro e w7 ⟨v251, rfl, ho0, hb⟩; refine ⟨_, rfl, ?_⟩; have HO252 := Aside0.mk (Kd.R_lower ho0 (below_size oB)); replace BK248 := kb_ BK248 hb; replace HB := Aside0.mk (below_step oB hb); obtain ⟨⟨_, _⟩, _, _⟩ := z2 BK248; obtain ⟨Ao9, co9, eo9⟩ := Kd.R_slice HO252.out; subst eo9) | ((with_reducible refine gate_callee (f := 65) rfl ?_); refine gl_ 17 Tryd.func65 (spec_l5Walk.calls k _ _ l0_0 a0_1 _ _ t249 t253 t254 _ (kC HR0_0) HC0_0.out (kO HO252) (ko HO252) A5.out) ?_; rintro e w10 ⟨rfl, hb⟩; refine ⟨_, rfl, ?_⟩; replace HO252 := kr_ HO252 hb; replace BK248 := kb_ BK248 hb; replace HB := Aside0.mk (below_step oB hb)))
  go_ret2
  exact ⟨oE, oB⟩
 ·simp only [Option.some.injEq, Prod.mk.injEq] at H
  obtain ⟨rfl, rfl⟩ := H
  go_enter Tryd.func33, Tryd.ntmps33
  go_wp2_with (first | ((with_reducible refine gate_dst (N := 2) rfl ?_); refine bx_ 2 #[.slice A0_0 l0_0.length c0_0, .int .i64 a0_1] 46 ?_; intro gb248 hg w11 hbox hb; have BK248 := Aside0.mk (hbox); have GW248 := gs_ hg; have GE248 := gs_ hg; replace HB := Aside0.mk (below_step oB hb); clear hb hbox hg) | ((with_reducible refine gate_callee (f := 16) rfl ?_); refine gl_ 10 Tryd.func16 (spec_SplitPath.calls k a1 t249 false _ A3.out) ?_; rintro e w12 ⟨v251, rfl, ho0, hb⟩; refine ⟨_, rfl, ?_⟩; have HO252 := Aside0.mk (Kd.R_lower ho0 (below_size oB)); replace BK248 := kb_ BK248 hb; replace HB := Aside0.mk (below_step oB hb)))
  go_ret2
  exact ⟨oE, oB⟩

/-! ### spec_l3Copy: function 94 -/
def spec_l3Copy.f (a0_0 : Int) (a0_1 : Int) (a0_2 : Int) (l0_3 : List Int) (l0_4 : List (S91)) (l0_5 : List (S87)) : Option (Int × Int × Int × List Int × (List (S91)) × (List (S87))) := (some (([] : List Int) : List Int)).bind fun y258 => (if y258.length + l0_3.length < 140737488355328 then ((some (([] : List (S91)) : List (S91))).bind fun y264 => (if y264.length + l0_4.length < 5864062014805 then ((some (([] : List (S87)) : List (S87))).bind fun y270 => (if y270.length + l0_5.length < 4398046511104 then (some (a0_0, a0_1, a0_2, (y258 ++ l0_3), (y264 ++ l0_4), (y270 ++ l0_5))) else (none))) else (none))) else (none))
set_option maxHeartbeats 8000000 in
set_option maxRecDepth 100000 in
theorem spec_l3Copy.calls (a0_0 : Int) (a0_1 : Int) (a0_2 : Int) (A0_3 : Option Addr) (c0_3 : Nat) (l0_3 : List Int) (A0_4 : Option Addr) (c0_4 : Nat) (l0_4 : List (S91)) (A0_5 : Option Addr) (c0_5 : Nat) (l0_5 : List (S87)) (r1 : Int) (r2 : Int) (r3 : Int) (r4 : List Int) (r5 : List (S91)) (r6 : List (S87)) (w : World) (hr0_3 : Kd.C (Kd.int .u8) w A0_3 l0_3.length l0_3) (hc0_3 : l0_3.length ≤ c0_3) (hr0_4 : Kd.C k91 w A0_4 l0_4.length l0_4) (hc0_4 : l0_4.length ≤ c0_4) (hr0_5 : Kd.C k87 w A0_5 l0_5.length l0_5) (hc0_5 : l0_5.length ≤ c0_5) (h : spec_l3Copy.f a0_0 a0_1 a0_2 l0_3 l0_4 l0_5 = some (r1, r2, r3, r4, r5, r6)) :
  Calls Tryd.prog 94 #[.agg #[.int .i64 a0_0, .int .i64 a0_1, .int .i64 a0_2, .slice A0_3 l0_3.length c0_3, .slice A0_4 l0_4.length c0_4, .slice A0_5 l0_5.length c0_5]] w fun e w' => ∃ v3_ v4_ v5_ : Value, e = .returned (.agg #[.int .i64 r1, .int .i64 r2, .int .i64 r3, v3_, v4_, v5_]) ∧ Kd.R (Kd.int .u8) 5 w' w.heap.size (fun _ => True) v3_ r4 ∧ Kd.R k91 91 w' w.heap.size (fun _ => True) v4_ r5 ∧ Kd.R k87 87 w' w.heap.size (fun _ => True) v5_ r6 ∧ Below w.heap.size w w' := by
 have hu64 := Tryd.underlying64
 have HR0_3 := Aside0.mk hr0_3
 have HC0_3 := Aside0.mk hc0_3
 clear hr0_3 hc0_3
 have HR0_4 := Aside0.mk hr0_4
 have HC0_4 := Aside0.mk hc0_4
 clear hr0_4 hc0_4
 have HR0_5 := Aside0.mk hr0_5
 have HC0_5 := Aside0.mk hc0_5
 clear hr0_5 hc0_5
 have HB := Aside0.mk (Below.refl w.heap.size w)
 unfold spec_l3Copy.f at h
 have H := h
 clear h
 obtain ⟨y258, hy258⟩ : ∃ y_ : List Int, y_ = (([] : List Int)) := ⟨_, rfl⟩
 replace H : (if y258.length + l0_3.length < 140737488355328 then ((some (([] : List (S91)) : List (S91))).bind fun y264 => (if y264.length + l0_4.length < 5864062014805 then ((some (([] : List (S87)) : List (S87))).bind fun y270 => (if y270.length + l0_5.length < 4398046511104 then (some (a0_0, a0_1, a0_2, (y258 ++ l0_3), (y264 ++ l0_4), (y270 ++ l0_5))) else (none))) else (none))) else (none)) = some (r1, r2, r3, r4, r5, r6) := by first | (rw [hy258]; with_reducible exact H) | (have H2_ := (Option.bind_some _ _).symm.trans H; rw [hy258]; with_reducible exact H2_) | (have H2_ := (Option.bind_some _ _).symm.trans H; with_reducible exact H2_) | with_reducible exact H | (rw [hy258]; exact H) | exact H
 have Ny258 := Aside0.mk hy258
 clear hy258
 by_cases c2 : y258.length + l0_3.length < 140737488355328
 ·rw [if_pos c2] at H
  have LMc2 := Aside0.mk c2
  clear c2
  obtain ⟨y261, hy261⟩ : ∃ y_ : List Int, y_ = (y258 ++ l0_3) := ⟨_, rfl⟩
  replace H : ((some (([] : List (S91)) : List (S91))).bind fun y264 => (if y264.length + l0_4.length < 5864062014805 then ((some (([] : List (S87)) : List (S87))).bind fun y270 => (if y270.length + l0_5.length < 4398046511104 then (some (a0_0, a0_1, a0_2, y261, (y264 ++ l0_4), (y270 ++ l0_5))) else (none))) else (none))) = some (r1, r2, r3, r4, r5, r6) := by first | (rw [hy261]; with_reducible exact H) | (have H2_ := (Option.bind_some _ _).symm.trans H; rw [hy261]; with_reducible exact H2_) | (have H2_ := (Option.bind_some _ _).symm.trans H; with_reducible exact H2_) | with_reducible exact H | (rw [hy261]; exact H) | exact H
  have Ny261 := Aside0.mk hy261
  clear hy261
  obtain ⟨y264, hy264⟩ : ∃ y_ : List (S91), y_ = (([] : List (S91))) := ⟨_, rfl⟩
  replace H : (if y264.length + l0_4.length < 5864062014805 then ((some (([] : List (S87)) : List (S87))).bind fun y270 => (if y270.length + l0_5.length < 4398046511104 then (some (a0_0, a0_1, a0_2, y261, (y264 ++ l0_4), (y270 ++ l0_5))) else (none))) else (none)) = some (r1, r2, r3, r4, r5, r6) := by first | (rw [hy264]; with_reducible exact H) | (have H2_ := (Option.bind_some _ _).symm.trans H; rw [hy264]; with_reducible exact H2_) | (have H2_ := (Option.bind_some _ _).symm.trans H; with_reducible exact H2_) | with_reducible exact H | (rw [hy264]; exact H) | exact H
  have Ny264 := Aside0.mk hy264
  clear hy264
  by_cases c3 : y264.length + l0_4.length < 5864062014805
  ·rw [if_pos c3] at H
   have LMc3 := Aside0.mk c3
   clear c3
   obtain ⟨y267, hy267⟩ : ∃ y_ : List (S91), y_ = (y264 ++ l0_4) := ⟨_, rfl⟩
   replace H : ((some (([] : List (S87)) : List (S87))).bind fun y270 => (if y270.length + l0_5.length < 4398046511104 then (some (a0_0, a0_1, a0_2, y261, y267, (y270 ++ l0_5))) else (none))) = some (r1, r2, r3, r4, r5, r6) := by first | (rw [hy267]; with_reducible exact H) | (have H2_ := (Option.bind_some _ _).symm.trans H; rw [hy267]; with_reducible exact H2_) | (have H2_ := (Option.bind_some _ _).symm.trans H; with_reducible exact H2_) | with_reducible exact H | (rw [hy267]; exact H) | exact H
   have Ny267 := Aside0.mk hy267
   clear hy267
   obtain ⟨y270, hy270⟩ : ∃ y_ : List (S87), y_ = (([] : List (S87))) := ⟨_, rfl⟩
   replace H : (if y270.length + l0_5.length < 4398046511104 then (some (a0_0, a0_1, a0_2, y261, y267, (y270 ++ l0_5))) else (none)) = some (r1, r2, r3, r4, r5, r6) := by first | (rw [hy270]; with_reducible exact H) | (have H2_ := (Option.bind_some _ _).symm.trans H; rw [hy270]; with_reducible exact H2_) | (have H2_ := (Option.bind_some _ _).symm.trans H; with_reducible exact H2_) | with_reducible exact H | (rw [hy270]; exact H) | exact H
   have Ny270 := Aside0.mk hy270
   clear hy270
   by_cases c4 : y270.length + l0_5.length < 4398046511104
   ·rw [if_pos c4] at H
    have LMc4 := Aside0.mk c4
    clear c4
    obtain ⟨y273, hy273⟩ : ∃ y_ : List (S87), y_ = (y270 ++ l0_5) := ⟨_, rfl⟩
    replace H : (some (a0_0, a0_1, a0_2, y261, y267, y273)) = some (r1, r2, r3, r4, r5, r6) := by first | (rw [hy273]; with_reducible exact H) | (have H2_ := (Option.bind_some _ _).symm.trans H; rw [hy273]; with_reducible exact H2_) | (have H2_ := (Option.bind_some _ _).symm.trans H; with_reducible exact H2_) | with_reducible exact H | (rw [hy273]; exact H) | exact H
    have Ny273 := Aside0.mk hy273
    clear hy273
    simp only [Option.some.injEq, Prod.mk.injEq] at H
    obtain ⟨rfl, rfl, rfl, rfl, rfl, rfl⟩ := H
    go_enter Tryd.func94, Tryd.ntmps94
    go_wp2_with (first | ((with_reducible refine gate_dst (N := 1) rfl ?_); refine bx_ 1 #[.int .i64 a0_0, .int .i64 a0_1, .int .i64 a0_2, .slice A0_3 l0_3.length c0_3, .slice A0_4 l0_4.length c0_4, .slice A0_5 l0_5.length c0_5] 64 ?_; intro gb255 hg w5 hbox hb; have BK255 := Aside0.mk (hbox); have GW255 := gs_ hg; have GE255 := gs_ hg; replace HB := Aside0.mk (below_step oB hb); clear hb hbox hg) | ((with_reducible refine gate_dst (N := 2) rfl ?_); refine bx_ 2 #[.int .i64 0, .int .i64 0, .int .i64 0, .slice none 0 0, .slice none 0 0, .slice none 0 0] 64 ?_; intro gb256 hg w6 hbox hb; have BK256 := Aside0.mk (hbox); have GW256 := gs_ hg; have GE256 := gs_ hg; have NB255_256 := nl_ hg BK255; have NB256_255 := nr_ hg BK255; replace BK255 := kb_ BK255 hb; replace HB := Aside0.mk (below_step oB hb); clear hb hbox hg; have hnb7 := NB255_256.out; have hnc7 := NB256_255.out; obtain ⟨⟨_, _, _, _, _, _⟩, _, _, _, _, _, _⟩ := z6 BK255) | ((with_reducible refine gate_dst (N := 3) rfl ?_); refine bx_ 3 #[.int .i64 0, .int .i64 0, .int .i64 0, .slice none 0 0, .slice none 0 0, .slice none 0 0] 64 ?_; intro gb257 hg w9 hbox hb; have BK257 := Aside0.mk (hbox); have GW257 := gs_ hg; have GE257 := gs_ hg; have NB255_257 := nl_ hg BK255; have NB257_255 := nr_ hg BK255; have NB256_257 := nl_ hg BK256; have NB257_256 := nr_ hg BK256; replace BK255 := kb_ BK255 hb; replace BK256 := kb_ BK256 hb; replace HB := Aside0.mk (below_step oB hb); clear hb hbox hg; have hnb10 := NB257_255.out; have hnc10 := NB255_257.out; have hnb11 := NB257_256.out; have hnc11 := NB256_257.out; obtain ⟨⟨_, _, _, _, _, _⟩, _, _, _, _, _, _⟩ := z6 BK257) | ((with_reducible refine gate_dst (N := 5) rfl ?_); refine Kd.R_lit (Kd.int .u8) _ 5 ?hg (N := 5) ?hd (xs := ([] : List Int)) (inner := []) (ok := fun _ => True) (okp := fun _ => True) ?hr ?hp (fun _ hk => hk) trivial (Below.refl _ _) (Nat.le_refl _) (by simp) ?_; (case hd => rfl); (case hg => rfl); (case hr => first | (go_simp; done) | (go_simp; rfl)); (case hp => exact (Reps.none _ _)); intro v259 w13 ho14 hb hg_ hnew_; clear hg_ hnew_; (first | rw [← Ny258.out] at ho14 | (simp only [Int.reduceToNat] at ho14; rw [← Ny258.out] at ho14)); have HO260 := Aside0.mk (Kd.R_lower ho14 (below_size oB)); replace BK255 := Aside0.mk (blk_below (g := gb255) (o := .cells #[.int .i64 a0_0, .int .i64 a0_1, .int .i64 a0_2, .slice A0_3 l0_3.length c0_3, .slice A0_4 l0_4.length c0_4, .slice A0_5 l0_5.length c0_5] 64 (0, 0)) (by (with_reducible repeat (first | refine blk_drewN ?_ _ | refine blk_drew ?_ | refine blk_alloc ?_ _)); refine blk_far ?_ NB255_257.out _; (with_reducible repeat (first | refine blk_drewN ?_ _ | refine blk_drew ?_ | refine blk_alloc ?_ _)); refine blk_far ?_ NB255_257.out _; (with_reducible repeat (first | refine blk_drewN ?_ _ | refine blk_drew ?_ | refine blk_alloc ?_ _)); refine blk_far ?_ NB255_257.out _; (with_reducible repeat (first | refine blk_drewN ?_ _ | refine blk_drew ?_ | refine blk_alloc ?_ _)); refine blk_far ?_ NB255_257.out _; (with_reducible repeat (first | refine blk_drewN ?_ _ | refine blk_drew ?_ | refine blk_alloc ?_ _)); refine blk_far ?_ NB255_257.out _; (with_reducible repeat (first | refine blk_drewN ?_ _ | refine blk_drew ?_ | refine blk_alloc ?_ _)); refine blk_far ?_ NB255_257.out _; (with_reducible repeat (first | refine blk_drewN ?_ _ | refine blk_drew ?_ | refine blk_alloc ?_ _)); exact BK255.out) hb); replace BK256 := Aside0.mk (blk_below (g := gb256) (o := .cells #[.int .i64 0, .int .i64 0, .int .i64 0, .slice none 0 0, .slice none 0 0, .slice none 0 0] 64 (0, 0)) (by (with_reducible repeat (first | refine blk_drewN ?_ _ | refine blk_drew ?_ | refine blk_alloc ?_ _)); refine blk_far ?_ NB256_257.out _; (with_reducible repeat (first | refine blk_drewN ?_ _ | refine blk_drew ?_ | refine blk_alloc ?_ _)); refine blk_far ?_ NB256_257.out _; (with_reducible repeat (first | refine blk_drewN ?_ _ | refine blk_drew ?_ | refine blk_alloc ?_ _)); refine blk_far ?_ NB256_257.out _; (with_reducible repeat (first | refine blk_drewN ?_ _ | refine blk_drew ?_ | refine blk_alloc ?_ _)); refine blk_far ?_ NB256_257.out _; (with_reducible repeat (first | refine blk_drewN ?_ _ | refine blk_drew ?_ | refine blk_alloc ?_ _)); refine blk_far ?_ NB256_257.out _; (with_reducible repeat (first | refine blk_drewN ?_ _ | refine blk_drew ?_ | refine blk_alloc ?_ _)); refine blk_far ?_ NB256_257.out _; (with_reducible repeat (first | refine blk_drewN ?_ _ | refine blk_drew ?_ | refine blk_alloc ?_ _)); exact BK256.out) hb); replace BK257 := Aside0.mk (blk_below (g := gb257) (o := .cells #[.int .i64 a0_0, .int .i64 a0_1, .int .i64 a0_2, .slice A0_3 l0_3.length c0_3, .slice A0_4 l0_4.length c0_4, .slice A0_5 l0_5.length c0_5] 64 (0, 0)) (by (with_reducible repeat (first | refine blk_drewN ?_ _ | refine blk_drew ?_ | refine blk_alloc ?_ _)); refine blk_put (cs := #[.int .i64 a0_0, .int .i64 a0_1, .int .i64 a0_2, .slice A0_3 l0_3.length c0_3, .slice A0_4 l0_4.length c0_4, .slice none 0 0]) ?_ 5 _ rfl; (with_reducible repeat (first | refine blk_drewN ?_ _ | refine blk_drew ?_ | refine blk_alloc ?_ _)); refine blk_put (cs := #[.int .i64 a0_0, .int .i64 a0_1, .int .i64 a0_2, .slice A0_3 l0_3.length c0_3, .slice none 0 0, .slice none 0 0]) ?_ 4 _ rfl; (with_reducible repeat (first | refine blk_drewN ?_ _ | refine blk_drew ?_ | refine blk_alloc ?_ _)); refine blk_put (cs := #[.int .i64 a0_0, .int .i64 a0_1, .int .i64 a0_2, .slice none 0 0, .slice none 0 0, .slice none 0 0]) ?_ 3 _ rfl; (with_reducible repeat (first | refine blk_drewN ?_ _ | refine blk_drew ?_ | refine blk_alloc ?_ _)); refine blk_put (cs := #[.int .i64 a0_0, .int .i64 a0_1, .int .i64 0, .slice none 0 0, .slice none 0 0, .slice none 0 0]) ?_ 2 _ rfl; (with_reducible repeat (first | refine blk_drewN ?_ _ | refine blk_drew ?_ | refine blk_alloc ?_ _)); refine blk_put (cs := #[.int .i64 a0_0, .int .i64 0, .int .i64 0, .slice none 0 0, .slice none 0 0, .slice none 0 0]) ?_ 1 _ rfl; (with_reducible repeat (first | refine blk_drewN ?_ _ | refine blk_drew ?_ | refine blk_alloc ?_ _)); refine blk_put (cs := #[.int .i64 0, .int .i64 0, .int .i64 0, .slice none 0 0, .slice none 0 0, .slice none 0 0]) ?_ 0 _ rfl; (with_reducible repeat (first | refine blk_drewN ?_ _ | refine blk_drew ?_ | refine blk_alloc ?_ _)); exact BK257.out) hb); replace HB := Aside0.mk (below_step oB hb); clear hb ho14; obtain ⟨⟨_, _, _, _, _, _⟩, _, _, _, _, _, _⟩ := z6 BK255) | ((with_reducible refine gate_builtin (b := .append) (xs := #[.tmp 5, .tmp 7]) rfl ?_); at_builtin; refine Kd.R_append_rows (Kd.int .u8) (w0 := w) w.heap.size rfl (.tmp 5) (.tmp 7) 29 5 (.int .u8 0) 1 rfl Tryd.underlying29 info5 rfl (by decide) (by omega) v259 y258 l0_3 _ _ _ (fun _ => True) (fun _ => False) rfl rfl ?aO ?aR (fun _ _ h => h) (fun _ h => h.elim) ?aF ?aB ?aS ?aL ?_; (case aR => repeat (first | exact (Kd.C_below HR0_3.out HB.out) | (with_reducible refine Kd.C_alloc ?_ _) | (with_reducible refine Kd.C_drewN ?_ _) | (with_reducible refine Kd.C_drew ?_))); (case aB => exact oB); (case aF => exact (fun _ _ => trivial)); (case aO => exact (oR HO260)); (case aS => exact (below_size oB)); (case aL => have := LMc2.out; omega); intro v262 w16 ho hb hg hat; rw [← Ny261.out] at ho; have HO263 := Aside0.mk (ho); replace BK255 := Aside0.mk (blk_grown (g := gb255) (o := .cells #[.int .i64 a0_0, .int .i64 a0_1, .int .i64 a0_2, .slice A0_3 l0_3.length c0_3, .slice A0_4 l0_4.length c0_4, .slice A0_5 l0_5.length c0_5] 64 (0, 0)) (oF BK255) hg (Kd.R_ne HO260.out BK255.out (by decide))); replace BK256 := Aside0.mk (blk_grown (g := gb256) (o := .cells #[.int .i64 0, .int .i64 0, .int .i64 0, .slice none 0 0, .slice none 0 0, .slice none 0 0] 64 (0, 0)) (oF BK256) hg (Kd.R_ne HO260.out BK256.out (by decide))); replace BK257 := Aside0.mk (blk_grown (g := gb257) (o := .cells #[.int .i64 a0_0, .int .i64 a0_1, .int .i64 a0_2, .slice A0_3 l0_3.length c0_3, .slice A0_4 l0_4.length c0_4, .slice A0_5 l0_5.length c0_5] 64 (0, 0)) (oF BK257) hg (Kd.R_ne HO260.out BK257.out (by decide))); replace HB := Aside0.mk (hb); clear HO260; clear ho hb hg hat; obtain ⟨Ao17, co17, eo17⟩ := Kd.R_slice HO263.out; subst eo17; obtain ⟨⟨_, _, _, _, _, _⟩, _, _, _, _, _, _⟩ := z6 BK257) | ((with_reducible refine gate_dst (N := 10) rfl ?_); refine Kd.R_lit k91 _ 91 ?hg (N := 10) ?hd (xs := ([] : List (S91))) (inner := []) (ok := fun _ => True) (okp := fun _ => True) ?hr ?hp (fun _ hk => hk) trivial (Below.refl _ _) (Nat.le_refl _) (by simp) ?_; (case hd => rfl); (case hg => rfl); (case hr => first | (go_simp; done) | (go_simp; rfl)); (case hp => exact (Reps.none _ _)); intro v265 w19 ho20 hb hg_ hnew_; clear hg_ hnew_; (first | rw [← Ny264.out] at ho20 | (simp only [Int.reduceToNat] at ho20; rw [← Ny264.out] at ho20)); have HO266 := Aside0.mk (Kd.R_lower ho20 (below_size oB)); replace HO263 := Aside0.mk (Kd.R_below (by (with_reducible repeat (first | apply Kd.R_alloc | apply Kd.R_drewN | apply Kd.R_drew)); exact (Kd.R_mono (Kd.R_far (p := ⟨gb257, 3, none⟩) (Kd.R_types HO263.out BK257.out (by decide)) (fun _ hk => hk.2) (.slice Ao17 y261.length co17)) (fun _ h_ => h_.1))) hb); replace BK255 := Aside0.mk (blk_below (g := gb255) (o := .cells #[.int .i64 a0_0, .int .i64 a0_1, .int .i64 a0_2, .slice A0_3 l0_3.length c0_3, .slice A0_4 l0_4.length c0_4, .slice A0_5 l0_5.length c0_5] 64 (0, 0)) (by (with_reducible repeat (first | refine blk_drewN ?_ _ | refine blk_drew ?_ | refine blk_alloc ?_ _)); refine blk_far ?_ NB255_257.out _; (with_reducible repeat (first | refine blk_drewN ?_ _ | refine blk_drew ?_ | refine blk_alloc ?_ _)); exact BK255.out) hb); replace BK256 := Aside0.mk (blk_below (g := gb256) (o := .cells #[.int .i64 0, .int .i64 0, .int .i64 0, .slice none 0 0, .slice none 0 0, .slice none 0 0] 64 (0, 0)) (by (with_reducible repeat (first | refine blk_drewN ?_ _ | refine blk_drew ?_ | refine blk_alloc ?_ _)); refine blk_far ?_ NB256_257.out _; (with_reducible repeat (first | refine blk_drewN ?_ _ | refine blk_drew ?_ | refine blk_alloc ?_ _)); exact BK256.out) hb); replace BK257 := Aside0.mk (blk_below (g := gb257) (o := .cells #[.int .i64 a0_0, .int .i64 a0_1, .int .i64 a0_2, .slice Ao17 y261.length co17, .slice A0_4 l0_4.length c0_4, .slice A0_5 l0_5.length c0_5] 64 (0, 0)) (by (with_reducible repeat (first | refine blk_drewN ?_ _ | refine blk_drew ?_ | refine blk_alloc ?_ _)); refine blk_put (cs := #[.int .i64 a0_0, .int .i64 a0_1, .int .i64 a0_2, .slice A0_3 l0_3.length c0_3, .slice A0_4 l0_4.length c0_4, .slice A0_5 l0_5.length c0_5]) ?_ 3 _ rfl; (with_reducible repeat (first | refine blk_drewN ?_ _ | refine blk_drew ?_ | refine blk_alloc ?_ _)); exact BK257.out) hb); replace HB := Aside0.mk (below_step oB hb); clear hb ho20; obtain ⟨⟨_, _, _, _, _, _⟩, _, _, _, _, _, _⟩ := z6 BK255) | ((with_reducible refine gate_builtin (b := .append) (xs := #[.tmp 10, .tmp 12]) rfl ?_); at_builtin; refine Kd.R_append_rows k91 (w0 := w) w.heap.size rfl (.tmp 10) (.tmp 12) 61 91 (.agg #[(.string ⟨#[]⟩), (.int .i64 0)]) 24 rfl Tryd.underlying61 info91 rfl (by decide) (by omega) v265 y264 l0_4 _ _ _ (fun _ => True) (fun _ => False) rfl rfl ?aO ?aR (fun _ _ h => h) (fun _ h => h.elim) ?aF ?aB ?aS ?aL ?_; (case aR => repeat (first | exact (Kd.C_below HR0_4.out HB.out) | (with_reducible refine Kd.C_alloc ?_ _) | (with_reducible refine Kd.C_drewN ?_ _) | (with_reducible refine Kd.C_drew ?_))); (case aB => exact oB); (case aF => exact (fun _ _ => trivial)); (case aO => exact (oR HO266)); (case aS => exact (below_size oB)); (case aL => have := LMc3.out; omega); intro v268 w22 ho hb hg hat; rw [← Ny267.out] at ho; have HO269 := Aside0.mk (ho); replace BK255 := Aside0.mk (blk_grown (g := gb255) (o := .cells #[.int .i64 a0_0, .int .i64 a0_1, .int .i64 a0_2, .slice A0_3 l0_3.length c0_3, .slice A0_4 l0_4.length c0_4, .slice A0_5 l0_5.length c0_5] 64 (0, 0)) (oF BK255) hg (Kd.R_ne HO266.out BK255.out (by decide))); replace BK256 := Aside0.mk (blk_grown (g := gb256) (o := .cells #[.int .i64 0, .int .i64 0, .int .i64 0, .slice none 0 0, .slice none 0 0, .slice none 0 0] 64 (0, 0)) (oF BK256) hg (Kd.R_ne HO266.out BK256.out (by decide))); replace BK257 := Aside0.mk (blk_grown (g := gb257) (o := .cells #[.int .i64 a0_0, .int .i64 a0_1, .int .i64 a0_2, .slice Ao17 y261.length co17, .slice A0_4 l0_4.length c0_4, .slice A0_5 l0_5.length c0_5] 64 (0, 0)) (oF BK257) hg (Kd.R_ne HO266.out BK257.out (by decide))); replace HO263 := Aside0.mk (Kd.R_over' (oR HO263) (Kd.R_typed (oR HO266)) (by decide) hg); replace HB := Aside0.mk (hb); clear HO266; clear ho hb hg hat; obtain ⟨Ao23, co23, eo23⟩ := Kd.R_slice HO269.out; subst eo23; obtain ⟨⟨_, _, _, _, _, _⟩, _, _, _, _, _, _⟩ := z6 BK257) | ((with_reducible refine gate_dst (N := 15) rfl ?_); refine Kd.R_lit k87 _ 87 ?hg (N := 15) ?hd (xs := ([] : List (S87))) (inner := []) (ok := fun _ => True) (okp := fun _ => True) ?hr ?hp (fun _ hk => hk) trivial (Below.refl _ _) (Nat.le_refl _) (by simp) ?_; (case hd => rfl); (case hg => rfl); (case hr => first | (go_simp; done) | (go_simp; rfl)); (case hp => exact (Reps.none _ _)); intro v271 w25 ho26 hb hg_ hnew_; clear hg_ hnew_; (first | rw [← Ny270.out] at ho26 | (simp only [Int.reduceToNat] at ho26; rw [← Ny270.out] at ho26)); have HO272 := Aside0.mk (Kd.R_lower ho26 (below_size oB)); replace HO263 := Aside0.mk (Kd.R_below (by (with_reducible repeat (first | apply Kd.R_alloc | apply Kd.R_drewN | apply Kd.R_drew)); exact (Kd.R_mono (Kd.R_far (p := ⟨gb257, 4, none⟩) (Kd.R_types HO263.out BK257.out (by decide)) (fun _ hk => hk.2) (.slice Ao23 y267.length co23)) (fun _ h_ => h_.1))) hb); replace HO269 := Aside0.mk (Kd.R_below (by (with_reducible repeat (first | apply Kd.R_alloc | apply Kd.R_drewN | apply Kd.R_drew)); exact (Kd.R_mono (Kd.R_far (p := ⟨gb257, 4, none⟩) (Kd.R_types HO269.out BK257.out (by decide)) (fun _ hk => hk.2) (.slice Ao23 y267.length co23)) (fun _ h_ => h_.1))) hb); replace BK255 := Aside0.mk (blk_below (g := gb255) (o := .cells #[.int .i64 a0_0, .int .i64 a0_1, .int .i64 a0_2, .slice A0_3 l0_3.length c0_3, .slice A0_4 l0_4.length c0_4, .slice A0_5 l0_5.length c0_5] 64 (0, 0)) (by (with_reducible repeat (first | refine blk_drewN ?_ _ | refine blk_drew ?_ | refine blk_alloc ?_ _)); refine blk_far ?_ NB255_257.out _; (with_reducible repeat (first | refine blk_drewN ?_ _ | refine blk_drew ?_ | refine blk_alloc ?_ _)); exact BK255.out) hb); replace BK256 := Aside0.mk (blk_below (g := gb256) (o := .cells #[.int .i64 0, .int .i64 0, .int .i64 0, .slice none 0 0, .slice none 0 0, .slice none 0 0] 64 (0, 0)) (by (with_reducible repeat (first | refine blk_drewN ?_ _ | refine blk_drew ?_ | refine blk_alloc ?_ _)); refine blk_far ?_ NB256_257.out _; (with_reducible repeat (first | refine blk_drewN ?_ _ | refine blk_drew ?_ | refine blk_alloc ?_ _)); exact BK256.out) hb); replace BK257 := Aside0.mk (blk_below (g := gb257) (o := .cells #[.int .i64 a0_0, .int .i64 a0_1, .int .i64 a0_2, .slice Ao17 y261.length co17, .slice Ao23 y267.length co23, .slice A0_5 l0_5.length c0_5] 64 (0, 0)) (by (with_reducible repeat (first | refine blk_drewN ?_ _ | refine blk_drew ?_ | refine blk_alloc ?_ _)); refine blk_put (cs := #[.int .i64 a0_0, .int .i64 a0_1, .int .i64 a0_2, .slice Ao17 y261.length co17, .slice A0_4 l0_4.length c0_4, .slice A0_5 l0_5.length c0_5]) ?_ 4 _ rfl; (with_reducible repeat (first | refine blk_drewN ?_ _ | refine blk_drew ?_ | refine blk_alloc ?_ _)); exact BK257.out) hb); replace HB := Aside0.mk (below_step oB hb); clear hb ho26; obtain ⟨⟨_, _, _, _, _, _⟩, _, _, _, _, _, _⟩ := z6 BK255) | ((with_reducible refine gate_builtin (b := .append) (xs := #[.tmp 15, .tmp 17]) rfl ?_); at_builtin; refine Kd.R_append_rows k87 (w0 := w) w.heap.size rfl (.tmp 15) (.tmp 17) 62 87 (.agg #[(.string ⟨#[]⟩), (.string ⟨#[]⟩)]) 32 rfl Tryd.underlying62 info87 rfl (by decide) (by omega) v271 y270 l0_5 _ _ _ (fun _ => True) (fun _ => False) rfl rfl ?aO ?aR (fun _ _ h => h) (fun _ h => h.elim) ?aF ?aB ?aS ?aL ?_; (case aR => repeat (first | exact (Kd.C_below HR0_5.out HB.out) | (with_reducible refine Kd.C_alloc ?_ _) | (with_reducible refine Kd.C_drewN ?_ _) | (with_reducible refine Kd.C_drew ?_))); (case aB => exact oB); (case aF => exact (fun _ _ => trivial)); (case aO => exact (oR HO272)); (case aS => exact (below_size oB)); (case aL => have := LMc4.out; omega); intro v274 w28 ho hb hg hat; rw [← Ny273.out] at ho; have HO275 := Aside0.mk (ho); replace BK255 := Aside0.mk (blk_grown (g := gb255) (o := .cells #[.int .i64 a0_0, .int .i64 a0_1, .int .i64 a0_2, .slice A0_3 l0_3.length c0_3, .slice A0_4 l0_4.length c0_4, .slice A0_5 l0_5.length c0_5] 64 (0, 0)) (oF BK255) hg (Kd.R_ne HO272.out BK255.out (by decide))); replace BK256 := Aside0.mk (blk_grown (g := gb256) (o := .cells #[.int .i64 0, .int .i64 0, .int .i64 0, .slice none 0 0, .slice none 0 0, .slice none 0 0] 64 (0, 0)) (oF BK256) hg (Kd.R_ne HO272.out BK256.out (by decide))); replace BK257 := Aside0.mk (blk_grown (g := gb257) (o := .cells #[.int .i64 a0_0, .int .i64 a0_1, .int .i64 a0_2, .slice Ao17 y261.length co17, .slice Ao23 y267.length co23, .slice A0_5 l0_5.length c0_5] 64 (0, 0)) (oF BK257) hg (Kd.R_ne HO272.out BK257.out (by decide))); replace HO263 := Aside0.mk (Kd.R_over' (oR HO263) (Kd.R_typed (oR HO272)) (by decide) hg); replace HO269 := Aside0.mk (Kd.R_over' (oR HO269) (Kd.R_typed (oR HO272)) (by decide) hg); replace HB := Aside0.mk (hb); clear HO272; clear ho hb hg hat; obtain ⟨Ao29, co29, eo29⟩ := Kd.R_slice HO275.out; subst eo29; obtain ⟨⟨_, _, _, _, _, _⟩, _, _, _, _, _, _⟩ := z6 BK257; obtain ⟨⟨_, _, _, _, _, _⟩, _, _, _, _, _, _⟩ := z6 BK256))
    refine bodyPost_ret (results_cell_row rfl _ _ gb256 64 #[.int .i64 a0_0, .int .i64 a0_1, .int .i64 a0_2, .slice Ao17 y261.length co17, .slice Ao23 y267.length co23, .slice Ao29 y273.length co29] (0, 0) _ rfl (by (with_reducible repeat (first | refine blk_drewN ?_ _ | refine blk_drew ?_ | refine blk_alloc ?_ _)); refine blk_put (cs := #[.int .i64 a0_0, .int .i64 a0_1, .int .i64 a0_2, .slice Ao17 y261.length co17, .slice Ao23 y267.length co23, .slice none 0 0]) ?_ 5 _ rfl; (with_reducible repeat (first | refine blk_drewN ?_ _ | refine blk_drew ?_ | refine blk_alloc ?_ _)); refine blk_put (cs := #[.int .i64 a0_0, .int .i64 a0_1, .int .i64 a0_2, .slice Ao17 y261.length co17, .slice none 0 0, .slice none 0 0]) ?_ 4 _ rfl; (with_reducible repeat (first | refine blk_drewN ?_ _ | refine blk_drew ?_ | refine blk_alloc ?_ _)); refine blk_put (cs := #[.int .i64 a0_0, .int .i64 a0_1, .int .i64 a0_2, .slice none 0 0, .slice none 0 0, .slice none 0 0]) ?_ 3 _ rfl; (with_reducible repeat (first | refine blk_drewN ?_ _ | refine blk_drew ?_ | refine blk_alloc ?_ _)); refine blk_put (cs := #[.int .i64 a0_0, .int .i64 a0_1, .int .i64 0, .slice none 0 0, .slice none 0 0, .slice none 0 0]) ?_ 2 _ rfl; (with_reducible repeat (first | refine blk_drewN ?_ _ | refine blk_drew ?_ | refine blk_alloc ?_ _)); refine blk_put (cs := #[.int .i64 a0_0, .int .i64 0, .int .i64 0, .slice none 0 0, .slice none 0 0, .slice none 0 0]) ?_ 1 _ rfl; (with_reducible repeat (first | refine blk_drewN ?_ _ | refine blk_drew ?_ | refine blk_alloc ?_ _)); refine blk_put (cs := #[.int .i64 0, .int .i64 0, .int .i64 0, .slice none 0 0, .slice none 0 0, .slice none 0 0]) ?_ 0 _ rfl; (with_reducible repeat (first | refine blk_drewN ?_ _ | refine blk_drew ?_ | refine blk_alloc ?_ _)); refine blk_far ?_ NB256_257.out _; (with_reducible repeat (first | refine blk_drewN ?_ _ | refine blk_drew ?_ | refine blk_alloc ?_ _)); exact BK256.out) Tryd.underlying64 rfl (by kernel_rfl)) rfl ?_
    exact ⟨_, _, _, oE, by (with_reducible repeat (first | apply Kd.R_alloc | apply Kd.R_drewN | apply Kd.R_drew)); exact Kd.R_mono (Kd.R_far (p := ⟨gb256, 5, none⟩) (Kd.R_far (p := ⟨gb256, 4, none⟩) (Kd.R_far (p := ⟨gb256, 3, none⟩) (Kd.R_far (p := ⟨gb256, 2, none⟩) (Kd.R_far (p := ⟨gb256, 1, none⟩) (Kd.R_far (p := ⟨gb256, 0, none⟩) (Kd.R_far (p := ⟨gb257, 5, none⟩) (Kd.R_types (Kd.R_types HO263.out BK257.out (by decide)) BK256.out (by decide)) (fun _ hk => hk.1.2) (.slice Ao29 y273.length co29)) (fun _ hk => hk.2) (.int .i64 a0_0)) (fun _ hk => hk.2) (.int .i64 a0_1)) (fun _ hk => hk.2) (.int .i64 a0_2)) (fun _ hk => hk.2) (.slice Ao17 y261.length co17)) (fun _ hk => hk.2) (.slice Ao23 y267.length co23)) (fun _ hk => hk.2) (.slice Ao29 y273.length co29)) (fun _ hk => trivial), by (with_reducible repeat (first | apply Kd.R_alloc | apply Kd.R_drewN | apply Kd.R_drew)); exact Kd.R_mono (Kd.R_far (p := ⟨gb256, 5, none⟩) (Kd.R_far (p := ⟨gb256, 4, none⟩) (Kd.R_far (p := ⟨gb256, 3, none⟩) (Kd.R_far (p := ⟨gb256, 2, none⟩) (Kd.R_far (p := ⟨gb256, 1, none⟩) (Kd.R_far (p := ⟨gb256, 0, none⟩) (Kd.R_far (p := ⟨gb257, 5, none⟩) (Kd.R_types (Kd.R_types HO269.out BK257.out (by decide)) BK256.out (by decide)) (fun _ hk => hk.1.2) (.slice Ao29 y273.length co29)) (fun _ hk => hk.2) (.int .i64 a0_0)) (fun _ hk => hk.2) (.int .i64 a0_1)) (fun _ hk => hk.2) (.int .i64 a0_2)) (fun _ hk => hk.2) (.slice Ao17 y261.length co17)) (fun _ hk => hk.2) (.slice Ao23 y267.length co23)) (fun _ hk => hk.2) (.slice Ao29 y273.length co29)) (fun _ hk => trivial), by (with_reducible repeat (first | apply Kd.R_alloc | apply Kd.R_drewN | apply Kd.R_drew)); exact Kd.R_mono (Kd.R_far (p := ⟨gb256, 5, none⟩) (Kd.R_far (p := ⟨gb256, 4, none⟩) (Kd.R_far (p := ⟨gb256, 3, none⟩) (Kd.R_far (p := ⟨gb256, 2, none⟩) (Kd.R_far (p := ⟨gb256, 1, none⟩) (Kd.R_far (p := ⟨gb256, 0, none⟩) (Kd.R_far (p := ⟨gb257, 5, none⟩) (Kd.R_types (Kd.R_types HO275.out BK257.out (by decide)) BK256.out (by decide)) (fun _ hk => hk.1.2) (.slice Ao29 y273.length co29)) (fun _ hk => hk.2) (.int .i64 a0_0)) (fun _ hk => hk.2) (.int .i64 a0_1)) (fun _ hk => hk.2) (.int .i64 a0_2)) (fun _ hk => hk.2) (.slice Ao17 y261.length co17)) (fun _ hk => hk.2) (.slice Ao23 y267.length co23)) (fun _ hk => hk.2) (.slice Ao29 y273.length co29)) (fun _ hk => trivial), oB⟩
   ·rw [if_neg c4] at H
    exact absurd H (by simp)
  ·rw [if_neg c3] at H
   exact absurd H (by simp)
 ·rw [if_neg c2] at H
  exact absurd H (by simp)

/-! ### spec_InodeAt: function 72 -/
def spec_InodeAt.f (k : Nat) (l0_0 : List (S64)) (a0_1 : Int) (a1 : Int) : Option (Int × Int × Int × List Int × (List (S91)) × (List (S87)) × Bool) := (spec_l4At.f k l0_0 a0_1 a1).bind fun t278 => (if t278 < 0 then (some (0, 0, 0, ([] : List Int), ([] : List (S91)), ([] : List (S87)), false)) else (if 0 ≤ t278 then (if t278 < (l0_0.length : Int) then ((spec_l3Copy.f ((rd_T64 l0_0 t278).f0) ((rd_T64 l0_0 t278).f1) ((rd_T64 l0_0 t278).f2) ((rd_T64 l0_0 t278).f3) ((rd_T64 l0_0 t278).f4) ((rd_T64 l0_0 t278).f5)).bind fun bt280 => (some (bt280.1, bt280.2.1, bt280.2.2.1, bt280.2.2.2.1, bt280.2.2.2.2.1, bt280.2.2.2.2.2, true))) else (none)) else (none)))
set_option maxHeartbeats 8000000 in
set_option maxRecDepth 100000 in
theorem spec_InodeAt.calls (k : Nat) (A0_0 : Option Addr) (c0_0 : Nat) (l0_0 : List (S64)) (a0_1 : Int) (a1 : Int) (r1 : Int) (r2 : Int) (r3 : Int) (r4 : List Int) (r5 : List (S91)) (r6 : List (S87)) (r7 : Bool) (w : World) (hr0_0 : Kd.C k64 w A0_0 l0_0.length l0_0) (hc0_0 : l0_0.length ≤ c0_0) (h : spec_InodeAt.f k l0_0 a0_1 a1 = some (r1, r2, r3, r4, r5, r6, r7)) :
  Calls Tryd.prog 72 #[.agg #[.slice A0_0 l0_0.length c0_0, .int .i64 a0_1], .int .i64 a1] w fun e w' => ∃ v3_ v4_ v5_ : Value, e = .returned (.tuple #[.agg #[.int .i64 r1, .int .i64 r2, .int .i64 r3, v3_, v4_, v5_], .bool r7]) ∧ Kd.R (Kd.int .u8) 5 w' w.heap.size (fun _ => True) v3_ r4 ∧ Kd.R k91 91 w' w.heap.size (fun _ => True) v4_ r5 ∧ Kd.R k87 87 w' w.heap.size (fun _ => True) v5_ r6 ∧ Below w.heap.size w w' := by
 have hu46 := Tryd.underlying46
 have hu64 := Tryd.underlying64
 have HR0_0 := Aside0.mk hr0_0
 have HC0_0 := Aside0.mk hc0_0
 clear hr0_0 hc0_0
 have HB := Aside0.mk (Below.refl w.heap.size w)
 unfold spec_InodeAt.f at h
 have H := h
 clear h
 replace H := bA H
 obtain ⟨t278, A3, H⟩ := H
 try dsimp only at H
 replace H := itD H
 rcases H with ⟨c4b0, H⟩ | ⟨c4b0, H⟩
 ·simp only [Option.some.injEq, Prod.mk.injEq] at H
  obtain ⟨rfl, rfl, rfl, rfl, rfl, rfl, rfl⟩ := H
  go_enter Tryd.func72, Tryd.ntmps72
  go_wp2_with (first | ((with_reducible refine gate_dst (N := 2) rfl ?_); refine bx_ 2 #[.slice A0_0 l0_0.length c0_0, .int .i64 a0_1] 46 ?_; intro gb276 hg w5 hbox hb; have BK276 := Aside0.mk (hbox); have GW276 := gs_ hg; have GE276 := gs_ hg; replace HB := Aside0.mk (below_step oB hb); clear hb hbox hg) | ((with_reducible refine gate_dst (N := 4) rfl ?_); refine bx_ 4 #[.int .i64 0, .int .i64 0, .int .i64 0, .slice none 0 0, .slice none 0 0, .slice none 0 0] 64 ?_; intro gb277 hg w6 hbox hb; have BK277 := Aside0.mk (hbox); have GW277 := gs_ hg; have GE277 := gs_ hg; have NB276_277 := nl_ hg BK276; have NB277_276 := nr_ hg BK276; replace BK276 := kb_ BK276 hb; replace HB := Aside0.mk (below_step oB hb); clear hb hbox hg; have hnb7 := NB276_277.out; have hnc7 := NB277_276.out; obtain ⟨⟨_, _⟩, _, _⟩ := z2 BK276) | ((with_reducible refine gate_callee (f := 89) rfl ?_); refine gl_ 9 Tryd.func89 (spec_l4At.calls k _ _ l0_0 a0_1 a1 t278 _ (kC HR0_0) HC0_0.out A3.out) ?_; rintro e w9 ⟨rfl, hb⟩; refine ⟨_, rfl, ?_⟩; replace BK276 := kb_ BK276 hb; replace BK277 := kb_ BK277 hb; replace HB := Aside0.mk (below_step oB hb); obtain ⟨⟨_, _, _, _, _, _⟩, _, _, _, _, _, _⟩ := z6 BK277))
  refine bodyPost_ret (results_ct rfl _ _ gb277 64 #[.int .i64 0, .int .i64 0, .int .i64 0, .slice none 0 0, .slice none 0 0, .slice none 0 0] (0, 0) _ rfl (by (with_reducible repeat (first | refine blk_drewN ?_ _ | refine blk_drew ?_ | refine blk_alloc ?_ _)); refine blk_put (cs := #[.int .i64 0, .int .i64 0, .int .i64 0, .slice none 0 0, .slice none 0 0, .slice none 0 0]) ?_ 5 _ rfl; (with_reducible repeat (first | refine blk_drewN ?_ _ | refine blk_drew ?_ | refine blk_alloc ?_ _)); refine blk_put (cs := #[.int .i64 0, .int .i64 0, .int .i64 0, .slice none 0 0, .slice none 0 0, .slice none 0 0]) ?_ 4 _ rfl; (with_reducible repeat (first | refine blk_drewN ?_ _ | refine blk_drew ?_ | refine blk_alloc ?_ _)); refine blk_put (cs := #[.int .i64 0, .int .i64 0, .int .i64 0, .slice none 0 0, .slice none 0 0, .slice none 0 0]) ?_ 3 _ rfl; (with_reducible repeat (first | refine blk_drewN ?_ _ | refine blk_drew ?_ | refine blk_alloc ?_ _)); refine blk_put (cs := #[.int .i64 0, .int .i64 0, .int .i64 0, .slice none 0 0, .slice none 0 0, .slice none 0 0]) ?_ 2 _ rfl; (with_reducible repeat (first | refine blk_drewN ?_ _ | refine blk_drew ?_ | refine blk_alloc ?_ _)); refine blk_put (cs := #[.int .i64 0, .int .i64 0, .int .i64 0, .slice none 0 0, .slice none 0 0, .slice none 0 0]) ?_ 1 _ rfl; (with_reducible repeat (first | refine blk_drewN ?_ _ | refine blk_drew ?_ | refine blk_alloc ?_ _)); refine blk_put (cs := #[.int .i64 0, .int .i64 0, .int .i64 0, .slice none 0 0, .slice none 0 0, .slice none 0 0]) ?_ 0 _ rfl; (with_reducible repeat (first | refine blk_drewN ?_ _ | refine blk_drew ?_ | refine blk_alloc ?_ _)); exact BK277.out) Tryd.underlying64 rfl (by kernel_rfl)) rfl ?_
  exact ⟨_, _, _, oE, by first | exact Kd.R_nil _ _ _ _ _ | exact Kd.N_nil _ _ _ _ _ | exact Kd.V_nil _ _ _ _ _ | exact Kd.Q_nil _ _ _ _ _ | exact Kd.S_nil _ _ _ _ _, by first | exact Kd.R_nil _ _ _ _ _ | exact Kd.N_nil _ _ _ _ _ | exact Kd.V_nil _ _ _ _ _ | exact Kd.Q_nil _ _ _ _ _ | exact Kd.S_nil _ _ _ _ _, by first | exact Kd.R_nil _ _ _ _ _ | exact Kd.N_nil _ _ _ _ _ | exact Kd.V_nil _ _ _ _ _ | exact Kd.Q_nil _ _ _ _ _ | exact Kd.S_nil _ _ _ _ _, oB⟩
 ·replace H := itD H
  rcases H with ⟨c11b0, H⟩ | ⟨c11b0, H⟩
  ·replace H := itD H
   rcases H with ⟨c12b0, H⟩ | ⟨c12b0, H⟩
   ·replace H := bA H
    obtain ⟨⟨t280, t281, t282, t283, t286, t289⟩, A13, H⟩ := H
    try dsimp only at H
    simp only [Option.some.injEq, Prod.mk.injEq] at H
    obtain ⟨rfl, rfl, rfl, rfl, rfl, rfl, rfl⟩ := H
    go_enter Tryd.func72, Tryd.ntmps72
    go_wp2_with (first | ((with_reducible refine gate_dst (N := 2) rfl ?_); refine bx_ 2 #[.slice A0_0 l0_0.length c0_0, .int .i64 a0_1] 46 ?_; intro gb276 hg w14 hbox hb; have BK276 := Aside0.mk (hbox); have GW276 := gs_ hg; have GE276 := gs_ hg; replace HB := Aside0.mk (below_step oB hb); clear hb hbox hg) | ((with_reducible refine gate_dst (N := 4) rfl ?_); refine bx_ 4 #[.int .i64 0, .int .i64 0, .int .i64 0, .slice none 0 0, .slice none 0 0, .slice none 0 0] 64 ?_; intro gb277 hg w15 hbox hb; have BK277 := Aside0.mk (hbox); have GW277 := gs_ hg; have GE277 := gs_ hg; have NB276_277 := nl_ hg BK276; have NB277_276 := nr_ hg BK276; replace BK276 := kb_ BK276 hb; replace HB := Aside0.mk (below_step oB hb); clear hb hbox hg; have hnb16 := NB276_277.out; have hnc16 := NB277_276.out; obtain ⟨⟨_, _⟩, _, _⟩ := z2 BK276) | ((with_reducible refine gate_callee (f := 89) rfl ?_); refine gl_ 9 Tryd.func89 (spec_l4At.calls k _ _ l0_0 a0_1 a1 t278 _ (kC HR0_0) HC0_0.out A3.out) ?_; rintro e w18 ⟨rfl, hb⟩; refine ⟨_, rfl, ?_⟩; replace BK276 := kb_ BK276 hb; replace BK277 := kb_ BK277 hb; replace HB := Aside0.mk (below_step oB hb); obtain ⟨⟨_, _⟩, _, _⟩ := z2 BK276; have p279 : (0 ≤ (t278 : Int)) = True := oT; have q279 : (t278 < (l0_0.length : Int)) = True := oT; obtain ⟨ad279, A279_3, c279_3, A279_4, c279_4, A279_5, c279_5, e279, hx279_0, hx279_1, hx279_2, hx279_3, hx279_4, hx279_5, hl279_3, hi279_3, hl279_4, hi279_4, hl279_5, hi279_5⟩ := at_T64 HR0_0.out t278 oa oa; cases e279; replace hx279_0 := cB HB hx279_0; replace hx279_1 := cB HB hx279_1; replace hx279_2 := cB HB hx279_2; replace hx279_3 := cB HB hx279_3; replace hx279_4 := cB HB hx279_4; replace hx279_5 := cB HB hx279_5; have HR279_3 := Aside0.mk hi279_3; have HC279_3 := Aside0.mk hl279_3; clear hi279_3 hl279_3; have HR279_4 := Aside0.mk hi279_4; have HC279_4 := Aside0.mk hl279_4; clear hi279_4 hl279_4; have HR279_5 := Aside0.mk hi279_5; have HC279_5 := Aside0.mk hl279_5; clear hi279_5 hl279_5) | ((with_reducible refine gate_callee (f := 94) rfl ?_); refine gl_ 18 Tryd.func94 (spec_l3Copy.calls ((rd_T64 l0_0 t278).f0) ((rd_T64 l0_0 t278).f1) ((rd_T64 l0_0 t278).f2) _ _ ((rd_T64 l0_0 t278).f3) _ _ ((rd_T64 l0_0 t278).f4) _ _ ((rd_T64 l0_0 t278).f5) t280 t281 t282 t283 t286 t289 _ (kC HR279_3) HC279_3.out (kC HR279_4) HC279_4.out (kC HR279_5) HC279_5.out A13.out) ?_; rintro e w20 ⟨v284, v287, v290, rfl, ho0, ho1, ho2, hb⟩; refine ⟨_, rfl, ?_⟩; have HO285 := Aside0.mk (Kd.R_lower ho0 (below_size oB)); have HO288 := Aside0.mk (Kd.R_lower ho1 (below_size oB)); have HO291 := Aside0.mk (Kd.R_lower ho2 (below_size oB)); replace BK276 := kb_ BK276 hb; replace BK277 := kb_ BK277 hb; replace HB := Aside0.mk (below_step oB hb); (try clear ho1); (try clear ho2); obtain ⟨⟨_, _, _, _, _, _⟩, _, _, _, _, _, _⟩ := z6 BK277; obtain ⟨Ao22, co22, eo22⟩ := Kd.R_slice HO285.out; subst eo22; obtain ⟨Ao23, co23, eo23⟩ := Kd.R_slice HO288.out; subst eo23; obtain ⟨Ao24, co24, eo24⟩ := Kd.R_slice HO291.out; subst eo24))
    refine bodyPost_ret (results_ct rfl _ _ gb277 64 #[.int .i64 t280, .int .i64 t281, .int .i64 t282, .slice Ao22 t283.length co22, .slice Ao23 t286.length co23, .slice Ao24 t289.length co24] (0, 0) _ rfl (by (with_reducible repeat (first | refine blk_drewN ?_ _ | refine blk_drew ?_ | refine blk_alloc ?_ _)); refine blk_put (cs := #[.int .i64 t280, .int .i64 t281, .int .i64 t282, .slice Ao22 t283.length co22, .slice Ao23 t286.length co23, .slice none 0 0]) ?_ 5 _ rfl; (with_reducible repeat (first | refine blk_drewN ?_ _ | refine blk_drew ?_ | refine blk_alloc ?_ _)); refine blk_put (cs := #[.int .i64 t280, .int .i64 t281, .int .i64 t282, .slice Ao22 t283.length co22, .slice none 0 0, .slice none 0 0]) ?_ 4 _ rfl; (with_reducible repeat (first | refine blk_drewN ?_ _ | refine blk_drew ?_ | refine blk_alloc ?_ _)); refine blk_put (cs := #[.int .i64 t280, .int .i64 t281, .int .i64 t282, .slice none 0 0, .slice none 0 0, .slice none 0 0]) ?_ 3 _ rfl; (with_reducible repeat (first | refine blk_drewN ?_ _ | refine blk_drew ?_ | refine blk_alloc ?_ _)); refine blk_put (cs := #[.int .i64 t280, .int .i64 t281, .int .i64 0, .slice none 0 0, .slice none 0 0, .slice none 0 0]) ?_ 2 _ rfl; (with_reducible repeat (first | refine blk_drewN ?_ _ | refine blk_drew ?_ | refine blk_alloc ?_ _)); refine blk_put (cs := #[.int .i64 t280, .int .i64 0, .int .i64 0, .slice none 0 0, .slice none 0 0, .slice none 0 0]) ?_ 1 _ rfl; (with_reducible repeat (first | refine blk_drewN ?_ _ | refine blk_drew ?_ | refine blk_alloc ?_ _)); refine blk_put (cs := #[.int .i64 0, .int .i64 0, .int .i64 0, .slice none 0 0, .slice none 0 0, .slice none 0 0]) ?_ 0 _ rfl; (with_reducible repeat (first | refine blk_drewN ?_ _ | refine blk_drew ?_ | refine blk_alloc ?_ _)); exact BK277.out) Tryd.underlying64 rfl (by kernel_rfl)) rfl ?_
    exact ⟨_, _, _, oE, by (with_reducible repeat (first | apply Kd.R_alloc | apply Kd.R_drewN | apply Kd.R_drew)); exact Kd.R_mono (Kd.R_far (p := ⟨gb277, 5, none⟩) (Kd.R_far (p := ⟨gb277, 4, none⟩) (Kd.R_far (p := ⟨gb277, 3, none⟩) (Kd.R_far (p := ⟨gb277, 2, none⟩) (Kd.R_far (p := ⟨gb277, 1, none⟩) (Kd.R_far (p := ⟨gb277, 0, none⟩) (Kd.R_types HO285.out BK277.out (by decide)) (fun _ hk => hk.2) (.int .i64 t280)) (fun _ hk => hk.2) (.int .i64 t281)) (fun _ hk => hk.2) (.int .i64 t282)) (fun _ hk => hk.2) (.slice Ao22 t283.length co22)) (fun _ hk => hk.2) (.slice Ao23 t286.length co23)) (fun _ hk => hk.2) (.slice Ao24 t289.length co24)) (fun _ hk => trivial), by (with_reducible repeat (first | apply Kd.R_alloc | apply Kd.R_drewN | apply Kd.R_drew)); exact Kd.R_mono (Kd.R_far (p := ⟨gb277, 5, none⟩) (Kd.R_far (p := ⟨gb277, 4, none⟩) (Kd.R_far (p := ⟨gb277, 3, none⟩) (Kd.R_far (p := ⟨gb277, 2, none⟩) (Kd.R_far (p := ⟨gb277, 1, none⟩) (Kd.R_far (p := ⟨gb277, 0, none⟩) (Kd.R_types HO288.out BK277.out (by decide)) (fun _ hk => hk.2) (.int .i64 t280)) (fun _ hk => hk.2) (.int .i64 t281)) (fun _ hk => hk.2) (.int .i64 t282)) (fun _ hk => hk.2) (.slice Ao22 t283.length co22)) (fun _ hk => hk.2) (.slice Ao23 t286.length co23)) (fun _ hk => hk.2) (.slice Ao24 t289.length co24)) (fun _ hk => trivial), by (with_reducible repeat (first | apply Kd.R_alloc | apply Kd.R_drewN | apply Kd.R_drew)); exact Kd.R_mono (Kd.R_far (p := ⟨gb277, 5, none⟩) (Kd.R_far (p := ⟨gb277, 4, none⟩) (Kd.R_far (p := ⟨gb277, 3, none⟩) (Kd.R_far (p := ⟨gb277, 2, none⟩) (Kd.R_far (p := ⟨gb277, 1, none⟩) (Kd.R_far (p := ⟨gb277, 0, none⟩) (Kd.R_types HO291.out BK277.out (by decide)) (fun _ hk => hk.2) (.int .i64 t280)) (fun _ hk => hk.2) (.int .i64 t281)) (fun _ hk => hk.2) (.int .i64 t282)) (fun _ hk => hk.2) (.slice Ao22 t283.length co22)) (fun _ hk => hk.2) (.slice Ao23 t286.length co23)) (fun _ hk => hk.2) (.slice Ao24 t289.length co24)) (fun _ hk => trivial), oB⟩
   ·cases H
  ·cases H

/-! ### spec_Stat: function 47 -/
def spec_Stat.f (k : Nat) (l0_0 : List (S64)) (a0_1 : Int) (a1 : ByteArray) : Option (Int × Int × Int × List Int × (List (S91)) × (List (S87)) × Int) := (spec_Walk.f k l0_0 a0_1 a1).bind fun bt294 => (if bt294.2 = 0 then ((spec_InodeAt.f k l0_0 a0_1 bt294.1).bind fun bt296 => (if bt296.2.2.2.2.2.2 = true then (some (bt296.1, bt296.2.1, bt296.2.2.1, bt296.2.2.2.1, bt296.2.2.2.2.1, bt296.2.2.2.2.2.1, 0)) else (some (0, 0, 0, ([] : List Int), ([] : List (S91)), ([] : List (S87)), 2)))) else (some (0, 0, 0, ([] : List Int), ([] : List (S91)), ([] : List (S87)), bt294.2)))
set_option maxHeartbeats 8000000 in
set_option maxRecDepth 100000 in
theorem spec_Stat.calls (k : Nat) (A0_0 : Option Addr) (c0_0 : Nat) (l0_0 : List (S64)) (a0_1 : Int) (a1 : ByteArray) (r1 : Int) (r2 : Int) (r3 : Int) (r4 : List Int) (r5 : List (S91)) (r6 : List (S87)) (r7 : Int) (w : World) (hr0_0 : Kd.C k64 w A0_0 l0_0.length l0_0) (hc0_0 : l0_0.length ≤ c0_0) (h : spec_Stat.f k l0_0 a0_1 a1 = some (r1, r2, r3, r4, r5, r6, r7)) :
  Calls Tryd.prog 47 #[.agg #[.slice A0_0 l0_0.length c0_0, .int .i64 a0_1], .string a1] w fun e w' => ∃ v3_ v4_ v5_ : Value, e = .returned (.tuple #[.agg #[.int .i64 r1, .int .i64 r2, .int .i64 r3, v3_, v4_, v5_], .int .i64 r7]) ∧ Kd.R (Kd.int .u8) 5 w' w.heap.size (fun _ => True) v3_ r4 ∧ Kd.R k91 91 w' w.heap.size (fun _ => True) v4_ r5 ∧ Kd.R k87 87 w' w.heap.size (fun _ => True) v5_ r6 ∧ Below w.heap.size w w' := by
 have hu46 := Tryd.underlying46
 have hu64 := Tryd.underlying64
 have HR0_0 := Aside0.mk hr0_0
 have HC0_0 := Aside0.mk hc0_0
 clear hr0_0 hc0_0
 have HB := Aside0.mk (Below.refl w.heap.size w)
 unfold spec_Stat.f at h
 have H := h
 clear h
 replace H := bA H
 obtain ⟨⟨t294, t295⟩, A3, H⟩ := H
 try dsimp only at H
 by_cases c4 : t295 = 0
 ·rw [if_pos c4] at H
  have c4b0 : (t295 == 0) = true := beq_iff_eq.mpr c4
  have c4b1 : (t295 != 0) = false := bne_eq_false_iff_eq.mpr c4
  clear c4
  replace H := bA H
  obtain ⟨⟨t296, t297, t298, t299, t302, t305, t308⟩, A5, H⟩ := H
  try dsimp only at H
  replace H := itB H
  rcases H with ⟨rfl, H⟩ | ⟨rfl, H⟩
  ·simp only [Option.some.injEq, Prod.mk.injEq] at H
   obtain ⟨rfl, rfl, rfl, rfl, rfl, rfl, rfl⟩ := H
   go_enter Tryd.func47, Tryd.ntmps47
   go_wp2_with (first | ((with_reducible refine gate_dst (N := 2) rfl ?_); refine bx_ 2 #[.slice A0_0 l0_0.length c0_0, .int .i64 a0_1] 46 ?_; intro gb292 hg w7 hbox hb; have BK292 := Aside0.mk (hbox); have GW292 := gs_ hg; have GE292 := gs_ hg; replace HB := Aside0.mk (below_step oB hb); clear hb hbox hg) | ((with_reducible refine gate_dst (N := 4) rfl ?_); refine bx_ 4 #[.int .i64 0, .int .i64 0, .int .i64 0, .slice none 0 0, .slice none 0 0, .slice none 0 0] 64 ?_; intro gb293 hg w8 hbox hb; have BK293 := Aside0.mk (hbox); have GW293 := gs_ hg; have GE293 := gs_ hg; have NB292_293 := nl_ hg BK292; have NB293_292 := nr_ hg BK292; replace BK292 := kb_ BK292 hb; replace HB := Aside0.mk (below_step oB hb); clear hb hbox hg; have hnb9 := NB292_293.out; have hnc9 := NB293_292.out; obtain ⟨⟨_, _⟩, _, _⟩ := z2 BK292) | ((with_reducible refine gate_callee (f := 33) rfl ?_); refine gl_ 13 Tryd.func33 (spec_Walk.calls k _ _ l0_0 a0_1 a1 t294 t295 _ (kC HR0_0) HC0_0.out A3.out) ?_; rintro e w11 ⟨rfl, hb⟩; refine ⟨_, rfl, ?_⟩; replace BK292 := kb_ BK292 hb; replace BK293 := kb_ BK293 hb; replace HB := Aside0.mk (below_step oB hb); obtain ⟨⟨_, _⟩, _, _⟩ := z2 BK292) | ((with_reducible refine gate_callee (f := 72) rfl ?_); refine gl_ 23 Tryd.func72 (spec_InodeAt.calls k _ _ l0_0 a0_1 t294 t296 t297 t298 t299 t302 t305 true _ (kC HR0_0) HC0_0.out A5.out) ?_; rintro e w13 ⟨v300, v303, v306, rfl, ho0, ho1, ho2, hb⟩; refine ⟨_, rfl, ?_⟩; have HO301 := Aside0.mk (Kd.R_lower ho0 (below_size oB)); have HO304 := Aside0.mk (Kd.R_lower ho1 (below_size oB)); have HO307 := Aside0.mk (Kd.R_lower ho2 (below_size oB)); replace BK292 := kb_ BK292 hb; replace BK293 := kb_ BK293 hb; replace HB := Aside0.mk (below_step oB hb); (try clear ho1); (try clear ho2)) | ((with_reducible refine gate_dst (N := 8) rfl ?_); refine bx_ 8 #[.int .i64 0, .int .i64 0, .int .i64 0, .slice none 0 0, .slice none 0 0, .slice none 0 0] 64 ?_; intro gb309 hg w14 hbox hb; have BK309 := Aside0.mk (hbox); have GW309 := gs_ hg; have GE309 := gs_ hg; have NB292_309 := nl_ hg BK292; have NB309_292 := nr_ hg BK292; have NB293_309 := nl_ hg BK293; have NB309_293 := nr_ hg BK293; replace HO301 := kr_ HO301 hb; replace HO304 := kr_ HO304 hb; replace HO307 := kr_ HO307 hb; replace BK292 := kb_ BK292 hb; replace BK293 := kb_ BK293 hb; replace HB := Aside0.mk (below_step oB hb); clear hb hbox hg; have hnb15 := NB309_292.out; have hnc15 := NB292_309.out; have hnb16 := NB309_293.out; have hnc16 := NB293_309.out; obtain ⟨⟨_, _, _, _, _, _⟩, _, _, _, _, _, _⟩ := z6 BK309; obtain ⟨Ao18, co18, eo18⟩ := Kd.R_slice HO301.out; subst eo18; obtain ⟨Ao19, co19, eo19⟩ := Kd.R_slice HO304.out; subst eo19; obtain ⟨Ao20, co20, eo20⟩ := Kd.R_slice HO307.out; subst eo20; obtain ⟨⟨_, _, _, _, _, _⟩, _, _, _, _, _, _⟩ := z6 BK293))
   refine bodyPost_ret (results_ct rfl _ _ gb293 64 #[.int .i64 t296, .int .i64 t297, .int .i64 t298, .slice Ao18 t299.length co18, .slice Ao19 t302.length co19, .slice Ao20 t305.length co20] (0, 0) _ rfl (by (with_reducible repeat (first | refine blk_drewN ?_ _ | refine blk_drew ?_ | refine blk_alloc ?_ _)); refine blk_put (cs := #[.int .i64 t296, .int .i64 t297, .int .i64 t298, .slice Ao18 t299.length co18, .slice Ao19 t302.length co19, .slice none 0 0]) ?_ 5 _ rfl; (with_reducible repeat (first | refine blk_drewN ?_ _ | refine blk_drew ?_ | refine blk_alloc ?_ _)); refine blk_put (cs := #[.int .i64 t296, .int .i64 t297, .int .i64 t298, .slice Ao18 t299.length co18, .slice none 0 0, .slice none 0 0]) ?_ 4 _ rfl; (with_reducible repeat (first | refine blk_drewN ?_ _ | refine blk_drew ?_ | refine blk_alloc ?_ _)); refine blk_put (cs := #[.int .i64 t296, .int .i64 t297, .int .i64 t298, .slice none 0 0, .slice none 0 0, .slice none 0 0]) ?_ 3 _ rfl; (with_reducible repeat (first | refine blk_drewN ?_ _ | refine blk_drew ?_ | refine blk_alloc ?_ _)); refine blk_put (cs := #[.int .i64 t296, .int .i64 t297, .int .i64 0, .slice none 0 0, .slice none 0 0, .slice none 0 0]) ?_ 2 _ rfl; (with_reducible repeat (first | refine blk_drewN ?_ _ | refine blk_drew ?_ | refine blk_alloc ?_ _)); refine blk_put (cs := #[.int .i64 t296, .int .i64 0, .int .i64 0, .slice none 0 0, .slice none 0 0, .slice none 0 0]) ?_ 1 _ rfl; (with_reducible repeat (first | refine blk_drewN ?_ _ | refine blk_drew ?_ | refine blk_alloc ?_ _)); refine blk_put (cs := #[.int .i64 0, .int .i64 0, .int .i64 0, .slice none 0 0, .slice none 0 0, .slice none 0 0]) ?_ 0 _ rfl; (with_reducible repeat (first | refine blk_drewN ?_ _ | refine blk_drew ?_ | refine blk_alloc ?_ _)); refine blk_far ?_ NB293_309.out _; (with_reducible repeat (first | refine blk_drewN ?_ _ | refine blk_drew ?_ | refine blk_alloc ?_ _)); refine blk_far ?_ NB293_309.out _; (with_reducible repeat (first | refine blk_drewN ?_ _ | refine blk_drew ?_ | refine blk_alloc ?_ _)); refine blk_far ?_ NB293_309.out _; (with_reducible repeat (first | refine blk_drewN ?_ _ | refine blk_drew ?_ | refine blk_alloc ?_ _)); refine blk_far ?_ NB293_309.out _; (with_reducible repeat (first | refine blk_drewN ?_ _ | refine blk_drew ?_ | refine blk_alloc ?_ _)); refine blk_far ?_ NB293_309.out _; (with_reducible repeat (first | refine blk_drewN ?_ _ | refine blk_drew ?_ | refine blk_alloc ?_ _)); refine blk_far ?_ NB293_309.out _; (with_reducible repeat (first | refine blk_drewN ?_ _ | refine blk_drew ?_ | refine blk_alloc ?_ _)); exact BK293.out) Tryd.underlying64 rfl (by kernel_rfl)) rfl ?_
   exact ⟨_, _, _, oE, by (with_reducible repeat (first | apply Kd.R_alloc | apply Kd.R_drewN | apply Kd.R_drew)); exact Kd.R_mono (Kd.R_far (p := ⟨gb293, 5, none⟩) (Kd.R_far (p := ⟨gb293, 4, none⟩) (Kd.R_far (p := ⟨gb293, 3, none⟩) (Kd.R_far (p := ⟨gb293, 2, none⟩) (Kd.R_far (p := ⟨gb293, 1, none⟩) (Kd.R_far (p := ⟨gb293, 0, none⟩) (Kd.R_far (p := ⟨gb309, 5, none⟩) (Kd.R_far (p := ⟨gb309, 4, none⟩) (Kd.R_far (p := ⟨gb309, 3, none⟩) (Kd.R_far (p := ⟨gb309, 2, none⟩) (Kd.R_far (p := ⟨gb309, 1, none⟩) (Kd.R_far (p := ⟨gb309, 0, none⟩) (Kd.R_types (Kd.R_types HO301.out BK309.out (by decide)) BK293.out (by decide)) (fun _ hk => hk.1.2) (.int .i64 t296)) (fun _ hk => hk.1.2) (.int .i64 t297)) (fun _ hk => hk.1.2) (.int .i64 t298)) (fun _ hk => hk.1.2) (.slice Ao18 t299.length co18)) (fun _ hk => hk.1.2) (.slice Ao19 t302.length co19)) (fun _ hk => hk.1.2) (.slice Ao20 t305.length co20)) (fun _ hk => hk.2) (.int .i64 t296)) (fun _ hk => hk.2) (.int .i64 t297)) (fun _ hk => hk.2) (.int .i64 t298)) (fun _ hk => hk.2) (.slice Ao18 t299.length co18)) (fun _ hk => hk.2) (.slice Ao19 t302.length co19)) (fun _ hk => hk.2) (.slice Ao20 t305.length co20)) (fun _ hk => trivial), by (with_reducible repeat (first | apply Kd.R_alloc | apply Kd.R_drewN | apply Kd.R_drew)); exact Kd.R_mono (Kd.R_far (p := ⟨gb293, 5, none⟩) (Kd.R_far (p := ⟨gb293, 4, none⟩) (Kd.R_far (p := ⟨gb293, 3, none⟩) (Kd.R_far (p := ⟨gb293, 2, none⟩) (Kd.R_far (p := ⟨gb293, 1, none⟩) (Kd.R_far (p := ⟨gb293, 0, none⟩) (Kd.R_far (p := ⟨gb309, 5, none⟩) (Kd.R_far (p := ⟨gb309, 4, none⟩) (Kd.R_far (p := ⟨gb309, 3, none⟩) (Kd.R_far (p := ⟨gb309, 2, none⟩) (Kd.R_far (p := ⟨gb309, 1, none⟩) (Kd.R_far (p := ⟨gb309, 0, none⟩) (Kd.R_types (Kd.R_types HO304.out BK309.out (by decide)) BK293.out (by decide)) (fun _ hk => hk.1.2) (.int .i64 t296)) (fun _ hk => hk.1.2) (.int .i64 t297)) (fun _ hk => hk.1.2) (.int .i64 t298)) (fun _ hk => hk.1.2) (.slice Ao18 t299.length co18)) (fun _ hk => hk.1.2) (.slice Ao19 t302.length co19)) (fun _ hk => hk.1.2) (.slice Ao20 t305.length co20)) (fun _ hk => hk.2) (.int .i64 t296)) (fun _ hk => hk.2) (.int .i64 t297)) (fun _ hk => hk.2) (.int .i64 t298)) (fun _ hk => hk.2) (.slice Ao18 t299.length co18)) (fun _ hk => hk.2) (.slice Ao19 t302.length co19)) (fun _ hk => hk.2) (.slice Ao20 t305.length co20)) (fun _ hk => trivial), by (with_reducible repeat (first | apply Kd.R_alloc | apply Kd.R_drewN | apply Kd.R_drew)); exact Kd.R_mono (Kd.R_far (p := ⟨gb293, 5, none⟩) (Kd.R_far (p := ⟨gb293, 4, none⟩) (Kd.R_far (p := ⟨gb293, 3, none⟩) (Kd.R_far (p := ⟨gb293, 2, none⟩) (Kd.R_far (p := ⟨gb293, 1, none⟩) (Kd.R_far (p := ⟨gb293, 0, none⟩) (Kd.R_far (p := ⟨gb309, 5, none⟩) (Kd.R_far (p := ⟨gb309, 4, none⟩) (Kd.R_far (p := ⟨gb309, 3, none⟩) (Kd.R_far (p := ⟨gb309, 2, none⟩) (Kd.R_far (p := ⟨gb309, 1, none⟩) (Kd.R_far (p := ⟨gb309, 0, none⟩) (Kd.R_types (Kd.R_types HO307.out BK309.out (by decide)) BK293.out (by decide)) (fun _ hk => hk.1.2) (.int .i64 t296)) (fun _ hk => hk.1.2) (.int .i64 t297)) (fun _ hk => hk.1.2) (.int .i64 t298)) (fun _ hk => hk.1.2) (.slice Ao18 t299.length co18)) (fun _ hk => hk.1.2) (.slice Ao19 t302.length co19)) (fun _ hk => hk.1.2) (.slice Ao20 t305.length co20)) (fun _ hk => hk.2) (.int .i64 t296)) (fun _ hk => hk.2) (.int .i64 t297)) (fun _ hk => hk.2) (.int .i64 t298)) (fun _ hk => hk.2) (.slice Ao18 t299.length co18)) (fun _ hk => hk.2) (.slice Ao19 t302.length co19)) (fun _ hk => hk.2) (.slice Ao20 t305.length co20)) (fun _ hk => trivial), oB⟩
  ·simp only [Option.some.injEq, Prod.mk.injEq] at H
   obtain ⟨rfl, rfl, rfl, rfl, rfl, rfl, rfl⟩ := H
   go_enter Tryd.func47, Tryd.ntmps47
   go_wp2_with (first | ((with_reducible refine gate_dst (N := 2) rfl ?_); refine bx_ 2 #[.slice A0_0 l0_0.length c0_0, .int .i64 a0_1] 46 ?_; intro gb292 hg w22 hbox hb; have BK292 := Aside0.mk (hbox); have GW292 := gs_ hg; have GE292 := gs_ hg; replace HB := Aside0.mk (below_step oB hb); clear hb hbox hg) | ((with_reducible refine gate_dst (N := 4) rfl ?_); refine bx_ 4 #[.int .i64 0, .int .i64 0, .int .i64 0, .slice none 0 0, .slice none 0 0, .slice none 0 0] 64 ?_; intro gb293 hg w23 hbox hb; have BK293 := Aside0.mk (hbox); have GW293 := gs_ hg; have GE293 := gs_ hg; have NB292_293 := nl_ hg BK292; have NB293_292 := nr_ hg BK292; replace BK292 := kb_ BK292 hb; replace HB := Aside0.mk (below_step oB hb); clear hb hbox hg; have hnb24 := NB292_293.out; have hnc24 := NB293_292.out; obtain ⟨⟨_, _⟩, _, _⟩ := z2 BK292) | ((with_reducible refine gate_callee (f := 33) rfl ?_); refine gl_ 13 Tryd.func33 (spec_Walk.calls k _ _ l0_0 a0_1 a1 t294 t295 _ (kC HR0_0) HC0_0.out A3.out) ?_; rintro e w26 ⟨rfl, hb⟩; refine ⟨_, rfl, ?_⟩; replace BK292 := kb_ BK292 hb; replace BK293 := kb_ BK293 hb; replace HB := Aside0.mk (below_step oB hb); obtain ⟨⟨_, _⟩, _, _⟩ := z2 BK292) | ((with_reducible refine gate_callee (f := 72) rfl ?_); refine gl_ 23 Tryd.func72 (spec_InodeAt.calls k _ _ l0_0 a0_1 t294 t296 t297 t298 t299 t302 t305 false _ (kC HR0_0) HC0_0.out A5.out) ?_; rintro e w28 ⟨v300, v303, v306, rfl, ho0, ho1, ho2, hb⟩; refine ⟨_, rfl, ?_⟩; have HO301 := Aside0.mk (Kd.R_lower ho0 (below_size oB)); have HO304 := Aside0.mk (Kd.R_lower ho1 (below_size oB)); have HO307 := Aside0.mk (Kd.R_lower ho2 (below_size oB)); replace BK292 := kb_ BK292 hb; replace BK293 := kb_ BK293 hb; replace HB := Aside0.mk (below_step oB hb); (try clear ho1); (try clear ho2)) | ((with_reducible refine gate_dst (N := 8) rfl ?_); refine bx_ 8 #[.int .i64 0, .int .i64 0, .int .i64 0, .slice none 0 0, .slice none 0 0, .slice none 0 0] 64 ?_; intro gb309 hg w29 hbox hb; have BK309 := Aside0.mk (hbox); have GW309 := gs_ hg; have GE309 := gs_ hg; have NB292_309 := nl_ hg BK292; have NB309_292 := nr_ hg BK292; have NB293_309 := nl_ hg BK293; have NB309_293 := nr_ hg BK293; replace HO301 := kr_ HO301 hb; replace HO304 := kr_ HO304 hb; replace HO307 := kr_ HO307 hb; replace BK292 := kb_ BK292 hb; replace BK293 := kb_ BK293 hb; replace HB := Aside0.mk (below_step oB hb); clear hb hbox hg; have hnb30 := NB309_292.out; have hnc30 := NB292_309.out; have hnb31 := NB309_293.out; have hnc31 := NB293_309.out; obtain ⟨⟨_, _, _, _, _, _⟩, _, _, _, _, _, _⟩ := z6 BK309; obtain ⟨Ao33, co33, eo33⟩ := Kd.R_slice HO301.out; subst eo33; obtain ⟨Ao34, co34, eo34⟩ := Kd.R_slice HO304.out; subst eo34; obtain ⟨Ao35, co35, eo35⟩ := Kd.R_slice HO307.out; subst eo35; obtain ⟨⟨_, _, _, _, _, _⟩, _, _, _, _, _, _⟩ := z6 BK293))
   refine bodyPost_ret (results_ct rfl _ _ gb293 64 #[.int .i64 0, .int .i64 0, .int .i64 0, .slice none 0 0, .slice none 0 0, .slice none 0 0] (0, 0) _ rfl (by (with_reducible repeat (first | refine blk_drewN ?_ _ | refine blk_drew ?_ | refine blk_alloc ?_ _)); refine blk_put (cs := #[.int .i64 0, .int .i64 0, .int .i64 0, .slice none 0 0, .slice none 0 0, .slice none 0 0]) ?_ 5 _ rfl; (with_reducible repeat (first | refine blk_drewN ?_ _ | refine blk_drew ?_ | refine blk_alloc ?_ _)); refine blk_put (cs := #[.int .i64 0, .int .i64 0, .int .i64 0, .slice none 0 0, .slice none 0 0, .slice none 0 0]) ?_ 4 _ rfl; (with_reducible repeat (first | refine blk_drewN ?_ _ | refine blk_drew ?_ | refine blk_alloc ?_ _)); refine blk_put (cs := #[.int .i64 0, .int .i64 0, .int .i64 0, .slice none 0 0, .slice none 0 0, .slice none 0 0]) ?_ 3 _ rfl; (with_reducible repeat (first | refine blk_drewN ?_ _ | refine blk_drew ?_ | refine blk_alloc ?_ _)); refine blk_put (cs := #[.int .i64 0, .int .i64 0, .int .i64 0, .slice none 0 0, .slice none 0 0, .slice none 0 0]) ?_ 2 _ rfl; (with_reducible repeat (first | refine blk_drewN ?_ _ | refine blk_drew ?_ | refine blk_alloc ?_ _)); refine blk_put (cs := #[.int .i64 0, .int .i64 0, .int .i64 0, .slice none 0 0, .slice none 0 0, .slice none 0 0]) ?_ 1 _ rfl; (with_reducible repeat (first | refine blk_drewN ?_ _ | refine blk_drew ?_ | refine blk_alloc ?_ _)); refine blk_put (cs := #[.int .i64 0, .int .i64 0, .int .i64 0, .slice none 0 0, .slice none 0 0, .slice none 0 0]) ?_ 0 _ rfl; (with_reducible repeat (first | refine blk_drewN ?_ _ | refine blk_drew ?_ | refine blk_alloc ?_ _)); refine blk_far ?_ NB293_309.out _; (with_reducible repeat (first | refine blk_drewN ?_ _ | refine blk_drew ?_ | refine blk_alloc ?_ _)); refine blk_far ?_ NB293_309.out _; (with_reducible repeat (first | refine blk_drewN ?_ _ | refine blk_drew ?_ | refine blk_alloc ?_ _)); refine blk_far ?_ NB293_309.out _; (with_reducible repeat (first | refine blk_drewN ?_ _ | refine blk_drew ?_ | refine blk_alloc ?_ _)); refine blk_far ?_ NB293_309.out _; (with_reducible repeat (first | refine blk_drewN ?_ _ | refine blk_drew ?_ | refine blk_alloc ?_ _)); refine blk_far ?_ NB293_309.out _; (with_reducible repeat (first | refine blk_drewN ?_ _ | refine blk_drew ?_ | refine blk_alloc ?_ _)); refine blk_far ?_ NB293_309.out _; (with_reducible repeat (first | refine blk_drewN ?_ _ | refine blk_drew ?_ | refine blk_alloc ?_ _)); exact BK293.out) Tryd.underlying64 rfl (by kernel_rfl)) rfl ?_
   exact ⟨_, _, _, oE, by first | exact Kd.R_nil _ _ _ _ _ | exact Kd.N_nil _ _ _ _ _ | exact Kd.V_nil _ _ _ _ _ | exact Kd.Q_nil _ _ _ _ _ | exact Kd.S_nil _ _ _ _ _, by first | exact Kd.R_nil _ _ _ _ _ | exact Kd.N_nil _ _ _ _ _ | exact Kd.V_nil _ _ _ _ _ | exact Kd.Q_nil _ _ _ _ _ | exact Kd.S_nil _ _ _ _ _, by first | exact Kd.R_nil _ _ _ _ _ | exact Kd.N_nil _ _ _ _ _ | exact Kd.V_nil _ _ _ _ _ | exact Kd.Q_nil _ _ _ _ _ | exact Kd.S_nil _ _ _ _ _, oB⟩
 ·rw [if_neg c4] at H
  have c4b0 : (t295 == 0) = false := beq_eq_false_iff_ne.mpr c4
  have c4b1 : (t295 != 0) = true := bne_iff_ne.mpr c4
  simp only [Option.some.injEq, Prod.mk.injEq] at H
  obtain ⟨rfl, rfl, rfl, rfl, rfl, rfl, rfl⟩ := H
  go_enter Tryd.func47, Tryd.ntmps47
  go_wp2_with (first | ((with_reducible refine gate_dst (N := 2) rfl ?_); refine bx_ 2 #[.slice A0_0 l0_0.length c0_0, .int .i64 a0_1] 46 ?_; intro gb292 hg w37 hbox hb; have BK292 := Aside0.mk (hbox); have GW292 := gs_ hg; have GE292 := gs_ hg; replace HB := Aside0.mk (below_step oB hb); clear hb hbox hg) | ((with_reducible refine gate_dst (N := 4) rfl ?_); refine bx_ 4 #[.int .i64 0, .int .i64 0, .int .i64 0, .slice none 0 0, .slice none 0 0, .slice none 0 0] 64 ?_; intro gb293 hg w38 hbox hb; have BK293 := Aside0.mk (hbox); have GW293 := gs_ hg; have GE293 := gs_ hg; have NB292_293 := nl_ hg BK292; have NB293_292 := nr_ hg BK292; replace BK292 := kb_ BK292 hb; replace HB := Aside0.mk (below_step oB hb); clear hb hbox hg; have hnb39 := NB292_293.out; have hnc39 := NB293_292.out; obtain ⟨⟨_, _⟩, _, _⟩ := z2 BK292) | ((with_reducible refine gate_callee (f := 33) rfl ?_); refine gl_ 13 Tryd.func33 (spec_Walk.calls k _ _ l0_0 a0_1 a1 t294 t295 _ (kC HR0_0) HC0_0.out A3.out) ?_; rintro e w41 ⟨rfl, hb⟩; refine ⟨_, rfl, ?_⟩; replace BK292 := kb_ BK292 hb; replace BK293 := kb_ BK293 hb; replace HB := Aside0.mk (below_step oB hb); obtain ⟨⟨_, _, _, _, _, _⟩, _, _, _, _, _, _⟩ := z6 BK293))
  refine bodyPost_ret (results_ct rfl _ _ gb293 64 #[.int .i64 0, .int .i64 0, .int .i64 0, .slice none 0 0, .slice none 0 0, .slice none 0 0] (0, 0) _ rfl (by (with_reducible repeat (first | refine blk_drewN ?_ _ | refine blk_drew ?_ | refine blk_alloc ?_ _)); refine blk_put (cs := #[.int .i64 0, .int .i64 0, .int .i64 0, .slice none 0 0, .slice none 0 0, .slice none 0 0]) ?_ 5 _ rfl; (with_reducible repeat (first | refine blk_drewN ?_ _ | refine blk_drew ?_ | refine blk_alloc ?_ _)); refine blk_put (cs := #[.int .i64 0, .int .i64 0, .int .i64 0, .slice none 0 0, .slice none 0 0, .slice none 0 0]) ?_ 4 _ rfl; (with_reducible repeat (first | refine blk_drewN ?_ _ | refine blk_drew ?_ | refine blk_alloc ?_ _)); refine blk_put (cs := #[.int .i64 0, .int .i64 0, .int .i64 0, .slice none 0 0, .slice none 0 0, .slice none 0 0]) ?_ 3 _ rfl; (with_reducible repeat (first | refine blk_drewN ?_ _ | refine blk_drew ?_ | refine blk_alloc ?_ _)); refine blk_put (cs := #[.int .i64 0, .int .i64 0, .int .i64 0, .slice none 0 0, .slice none 0 0, .slice none 0 0]) ?_ 2 _ rfl; (with_reducible repeat (first | refine blk_drewN ?_ _ | refine blk_drew ?_ | refine blk_alloc ?_ _)); refine blk_put (cs := #[.int .i64 0, .int .i64 0, .int .i64 0, .slice none 0 0, .slice none 0 0, .slice none 0 0]) ?_ 1 _ rfl; (with_reducible repeat (first | refine blk_drewN ?_ _ | refine blk_drew ?_ | refine blk_alloc ?_ _)); refine blk_put (cs := #[.int .i64 0, .int .i64 0, .int .i64 0, .slice none 0 0, .slice none 0 0, .slice none 0 0]) ?_ 0 _ rfl; (with_reducible repeat (first | refine blk_drewN ?_ _ | refine blk_drew ?_ | refine blk_alloc ?_ _)); exact BK293.out) Tryd.underlying64 rfl (by kernel_rfl)) rfl ?_
  exact ⟨_, _, _, oE, by first | exact Kd.R_nil _ _ _ _ _ | exact Kd.N_nil _ _ _ _ _ | exact Kd.V_nil _ _ _ _ _ | exact Kd.Q_nil _ _ _ _ _ | exact Kd.S_nil _ _ _ _ _, by first | exact Kd.R_nil _ _ _ _ _ | exact Kd.N_nil _ _ _ _ _ | exact Kd.V_nil _ _ _ _ _ | exact Kd.Q_nil _ _ _ _ _ | exact Kd.S_nil _ _ _ _ _, by first | exact Kd.R_nil _ _ _ _ _ | exact Kd.N_nil _ _ _ _ _ | exact Kd.V_nil _ _ _ _ _ | exact Kd.Q_nil _ _ _ _ _ | exact Kd.S_nil _ _ _ _ _, oB⟩

end Go.Proofs.YtkfcmpalbhmmaaaDoor.P
