-- By this session's own program (wip/myprint.py) out of the translation; Lean checks it.
import Derived.Test.YtkknehgaebhbeaaPx0
import Derived.Test.YtkknehgaebhbeaaPx1
namespace Go.Proofs.Ytkknehgaebhbeaa.P
open Go.RowKit Go.Proofs.YtkknehgaebhbeaaW.PrintWords Go.Proofs.YtkknehgaebhbeaaW.PrintLast Go.Proofs.YtkknehgaebhbeaaW.PrintMore
attribute [local go_sem] max2_int min2_int max_two min_two max_three min_three max_four min_four   -- for this text's walks alone
set_option linter.unusedVariables false
set_option linter.unusedSimpArgs false

/-! ### laws_markTab: function 26 -/
set_option maxHeartbeats 1000000 in
theorem laws_markTab.calls (k : Nat) (P0_ : Nat → Prop) (u : Value) (l0 : List S45) (a0 a1 r1 : Int) (r2 : List S45) (w0 w : World) (hB : Below w0.heap.size w0 w) (ho0 : Kd.S k45 45 w w0.heap.size P0_ u l0) (h : laws_markInodeS.f k l0 a1 = some (r1, r2)) :
  Calls Try.prog 26 #[.agg #[u, .int .i64 a0], .int .i64 a1] w fun e w' => e = .returned (.int .i64 r1) ∧ Kd.S k45 45 w' w0.heap.size (fun k_ => P0_ k_ ∨ w.heap.size ≤ k_) u r2 ∧ Below w0.heap.size w0 w' ∧ Kept w w' P0_ := by
 obtain ⟨A, co, rfl⟩ := Kd.S_slice ho0
 have HH := Aside0.mk h
 have hc := laws_markInodeS.calls k P0_ (.slice A l0.length co) l0 a1 r1 r2 w0 (w.alloc (.cells #[.slice A l0.length co, .int .i64 a0] 30)) (hB.alloc hB.size _) (Kd.S_alloc ho0 _) h
 have HC := Aside0.mk hc
 have HW := Aside0.mk hB.size
 clear h hc hB ho0
 go_enter Try.func26, Try.ntmps26
 go_wp2_with (go_at_call 71; refine HC.out.mono ?_; rintro e w1 ⟨rfl, hs, hb, hk⟩)
 go_ret
 exact ⟨rfl, Kd.S_mono hs (fun q hq => hq.imp_right (fun h => by simp at h; omega)), hb, (Kept.alloc (Kept.refl w P0_) _).then_ hk (fun q hq => .inl hq)⟩
/-! ### laws_szByteS: function 73 -/
def laws_szByteS.f (l0 : List Int) (a1 : Int) : Option (Int) := if (wrap64 (a1 - (l0.length : Int))) < 0 then (some (-1)) else (some (wrap64 (a1 - (l0.length : Int))))
set_option maxHeartbeats 8000000 in
set_option maxRecDepth 100000 in
theorem laws_szByteS.calls (A0 : Option Addr) (c0 : Nat) (l0 : List Int) (a1 : Int) (r : Int) (w : World) (hr0 : Kd.C (Kd.int .u8) w A0 l0.length l0) (hc0 : l0.length ≤ c0) (h : laws_szByteS.f l0 a1 = some r) :
  Calls Try.prog 73 #[.slice A0 l0.length c0, .int .i64 a1] w fun e w' => e = .returned (.int .i64 r) ∧ Drawn0 w w' := by
 have HR0 := Aside0.mk hr0
 have HC0 := Aside0.mk hc0
 clear hr0 hc0
 unfold laws_szByteS.f at h
 have H := h
 clear h
 replace H := itD H
 rcases H with ⟨c3b0, H⟩ | ⟨c3b0, H⟩
 ·obtain rfl := Option.some.inj H
  go_enter Try.func73, Try.ntmps73
  go_wp2
  go_ret
  exact ⟨oS, oD⟩
 ·obtain rfl := Option.some.inj H
  go_enter Try.func73, Try.ntmps73
  go_wp2
  go_ret
  exact ⟨oS, oD⟩

/-! ### laws_szEnt: function 125 -/
def laws_szEnt.f (a0_0 : ByteArray) (a0_1 : Int) (a1 : Int) : Option (Int) := if (wrap64 (a1 - (a0_0.size : Int))) < 0 then (some (-1)) else (some (wrap64 (a1 - (a0_0.size : Int))))
set_option maxHeartbeats 8000000 in
set_option maxRecDepth 100000 in
theorem laws_szEnt.calls (a0_0 : ByteArray) (a0_1 : Int) (a1 : Int) (r : Int) (w : World) (h : laws_szEnt.f a0_0 a0_1 a1 = some r) :
  Calls Try.prog 125 #[.agg #[.string a0_0, .int .i64 a0_1], .int .i64 a1] w fun e w' => e = .returned (.int .i64 r) ∧ Below w.heap.size w w' := by
 have hu125 := Try.underlying125
 have HB := Aside0.mk (Below.refl w.heap.size w)
 unfold laws_szEnt.f at h
 have H := h
 clear h
 replace H := itD H
 rcases H with ⟨c3b0, H⟩ | ⟨c3b0, H⟩
 ·obtain rfl := Option.some.inj H
  go_enter Try.func125, Try.ntmps125
  go_wp2_with (first | ((with_reducible refine gate_dst (N := 2) rfl ?_); refine bx_ 2 #[.string a0_0, .int .i64 a0_1] 125 ?_; intro gb135 hg w4 hbox hb; have BK135 := Aside0.mk (hbox); have GW135 := gs_ hg; have GE135 := gs_ hg; replace HB := Aside0.mk (below_step oB hb); clear hb hbox hg; obtain ⟨⟨_, _⟩, _, _⟩ := z2 BK135))
  go_ret
  exact ⟨oE, oB⟩
 ·obtain rfl := Option.some.inj H
  go_enter Try.func125, Try.ntmps125
  go_wp2_with (first | ((with_reducible refine gate_dst (N := 2) rfl ?_); refine bx_ 2 #[.string a0_0, .int .i64 a0_1] 125 ?_; intro gb135 hg w6 hbox hb; have BK135 := Aside0.mk (hbox); have GW135 := gs_ hg; have GE135 := gs_ hg; replace HB := Aside0.mk (below_step oB hb); clear hb hbox hg; obtain ⟨⟨_, _⟩, _, _⟩ := z2 BK135))
  go_ret
  exact ⟨oE, oB⟩

/-! ### laws_szEntS: function 74 -/
def laws_szEntS.l0 : Nat → List (S125) → Int → Int → Option (Int)
 | 0, _, _, _ => none
 | k + 1, x0, x1, x5 => if x5 < (x0.length : Int) then (if 0 ≤ x5 then ((laws_szEnt.f ((rd_T125 x0 x5).f0) ((rd_T125 x0 x5).f1) x1).bind fun t137 => (if t137 < 0 then (some (-1)) else (laws_szEntS.l0 k x0 t137 (wrap64 (x5 + 1))))) else (none)) else (some x1)
def laws_szEntS.f (k : Nat) (l0 : List (S125)) (a1 : Int) : Option (Int) := if (wrap64 (a1 - (l0.length : Int))) < 0 then (some (-1)) else (laws_szEntS.l0 k l0 (wrap64 (a1 - (l0.length : Int))) 0)
set_option maxHeartbeats 8000000 in
set_option maxRecDepth 100000 in
theorem laws_szEntS.calls (k : Nat) (A0 : Option Addr) (c0 : Nat) (l0 : List (S125)) (a1 : Int) (r : Int) (w : World) (hr0 : Kd.C k125 w A0 l0.length l0) (hc0 : l0.length ≤ c0) (h : laws_szEntS.f k l0 a1 = some r) :
  Calls Try.prog 74 #[.slice A0 l0.length c0, .int .i64 a1] w fun e w' => e = .returned (.int .i64 r) ∧ Below w.heap.size w w' := by
 have hu125 := Try.underlying125
 have HR0 := Aside0.mk hr0
 have HC0 := Aside0.mk hc0
 clear hr0 hc0
 have HB := Aside0.mk (Below.refl w.heap.size w)
 unfold laws_szEntS.f at h
 have H := h
 clear h
 replace H := itD H
 rcases H with ⟨c3b0, H⟩ | ⟨c3b0, H⟩
 ·obtain rfl := Option.some.inj H
  go_enter Try.func74, Try.ntmps74
  go_wp2
  go_ret
  exact ⟨oE, oB⟩
 ·have H' := Aside0.mk H
  clear H
  go_enter Try.func74, Try.ntmps74
  go_wp2
  go_loopg [1, 5] k (fun kq v1 v5 w' => ∃ (x1_1 : Int) (x5_1 : Int), v1 = .int .i64 x1_1 ∧ v5 = .int .i64 x5_1 ∧ Aside0 (laws_szEntS.l0 kq l0 x1_1 x5_1 = some r) ∧ Aside0 (kq ≤ k) ∧ Aside0 (Below w.heap.size w w'))
  case atStart => exact ⟨(wrap64 (a1 - (l0.length : Int))), (0), oS, oS, H', ⟨Nat.le_refl _⟩, ⟨oB⟩⟩
  case round =>
   clear H'
   try clear c3b0
   obtain ⟨x1_1, x5_1, rfl, rfl, HA, HK1, HB⟩ := hrel
   cases gk with
   | zero => exact absurd HA.out (by simp [laws_szEntS.l0])
   | succ k1 =>
    have H := HA.out
    clear HA
    simp only [laws_szEntS.l0] at H
    replace H := itD H
    rcases H with ⟨c4b0, H⟩ | ⟨c4b0, H⟩
    ·replace H := itD H
     rcases H with ⟨c5b0, H⟩ | ⟨c5b0, H⟩
     ·replace H := bA H
      obtain ⟨t137, A6, H⟩ := H
      try dsimp only at H
      replace H := itD H
      rcases H with ⟨c7b0, H⟩ | ⟨c7b0, H⟩
      ·obtain rfl := Option.some.inj H
       have p136 : (0 ≤ (x5_1 : Int)) = True := oT
       have q136 : (x5_1 < (l0.length : Int)) = True := oT
       obtain ⟨ad136, e136, hx136_0, hx136_1⟩ := at_T125 HR0.out x5_1 oa oa
       cases e136
       replace hx136_0 := cB HB hx136_0
       replace hx136_1 := cB HB hx136_1
       go_wp2_with (first | ((with_reducible refine gate_callee (f := 125) rfl ?_); refine gl_ 23 Try.func125 (laws_szEnt.calls ((rd_T125 l0 x5_1).f0) ((rd_T125 l0 x5_1).f1) x1_1 t137 _ A6.out) ?_; rintro e w8 ⟨rfl, hb⟩; refine ⟨_, rfl, ?_⟩; replace HB := Aside0.mk (below_step oB hb)))
       go_ret
       exact ⟨oE, oB⟩
      ·have H' := Aside0.mk H
       clear H
       have p136 : (0 ≤ (x5_1 : Int)) = True := oT
       have q136 : (x5_1 < (l0.length : Int)) = True := oT
       obtain ⟨ad136, e136, hx136_0, hx136_1⟩ := at_T125 HR0.out x5_1 oa oa
       cases e136
       replace hx136_0 := cB HB hx136_0
       replace hx136_1 := cB HB hx136_1
       go_wp2_with (first | ((with_reducible refine gate_callee (f := 125) rfl ?_); refine gl_ 23 Try.func125 (laws_szEnt.calls ((rd_T125 l0 x5_1).f0) ((rd_T125 l0 x5_1).f1) x1_1 t137 _ A6.out) ?_; rintro e w9 ⟨rfl, hb⟩; refine ⟨_, rfl, ?_⟩; replace HB := Aside0.mk (below_step oB hb)))
       go_roundg k1
       case measure => have := HK1.out; omega
       case rel => exact ⟨(t137), (wrap64 (x5_1 + 1)), oS, oS, H', ⟨by have := HK1.out; omega⟩, ⟨oB⟩⟩
     ·cases H
    ·obtain rfl := Option.some.inj H
     go_wp2
     go_ret
     exact ⟨oE, oB⟩

/-! ### laws_szAttr: function 126 -/
def laws_szAttr.f (a0_0 : ByteArray) (a0_1 : ByteArray) (a1 : Int) : Option (Int) := if (wrap64 (a1 - (a0_0.size : Int))) < 0 then (some (-1)) else (if (wrap64 ((wrap64 (a1 - (a0_0.size : Int))) - (a0_1.size : Int))) < 0 then (some (-1)) else (some (wrap64 ((wrap64 (a1 - (a0_0.size : Int))) - (a0_1.size : Int)))))
set_option maxHeartbeats 8000000 in
set_option maxRecDepth 100000 in
theorem laws_szAttr.calls (a0_0 : ByteArray) (a0_1 : ByteArray) (a1 : Int) (r : Int) (w : World) (h : laws_szAttr.f a0_0 a0_1 a1 = some r) :
  Calls Try.prog 126 #[.agg #[.string a0_0, .string a0_1], .int .i64 a1] w fun e w' => e = .returned (.int .i64 r) ∧ Below w.heap.size w w' := by
 have hu127 := Try.underlying127
 have HB := Aside0.mk (Below.refl w.heap.size w)
 unfold laws_szAttr.f at h
 have H := h
 clear h
 replace H := itD H
 rcases H with ⟨c3b0, H⟩ | ⟨c3b0, H⟩
 ·obtain rfl := Option.some.inj H
  go_enter Try.func126, Try.ntmps126
  go_wp2_with (first | ((with_reducible refine gate_dst (N := 2) rfl ?_); refine bx_ 2 #[.string a0_0, .string a0_1] 127 ?_; intro gb138 hg w4 hbox hb; have BK138 := Aside0.mk (hbox); have GW138 := gs_ hg; have GE138 := gs_ hg; replace HB := Aside0.mk (below_step oB hb); clear hb hbox hg; obtain ⟨⟨_, _⟩, _, _⟩ := z2 BK138))
  go_ret
  exact ⟨oE, oB⟩
 ·replace H := itD H
  rcases H with ⟨c6b0, H⟩ | ⟨c6b0, H⟩
  ·obtain rfl := Option.some.inj H
   go_enter Try.func126, Try.ntmps126
   go_wp2_with (first | ((with_reducible refine gate_dst (N := 2) rfl ?_); refine bx_ 2 #[.string a0_0, .string a0_1] 127 ?_; intro gb138 hg w7 hbox hb; have BK138 := Aside0.mk (hbox); have GW138 := gs_ hg; have GE138 := gs_ hg; replace HB := Aside0.mk (below_step oB hb); clear hb hbox hg; obtain ⟨⟨_, _⟩, _, _⟩ := z2 BK138))
   go_ret
   exact ⟨oE, oB⟩
  ·obtain rfl := Option.some.inj H
   go_enter Try.func126, Try.ntmps126
   go_wp2_with (first | ((with_reducible refine gate_dst (N := 2) rfl ?_); refine bx_ 2 #[.string a0_0, .string a0_1] 127 ?_; intro gb138 hg w9 hbox hb; have BK138 := Aside0.mk (hbox); have GW138 := gs_ hg; have GE138 := gs_ hg; replace HB := Aside0.mk (below_step oB hb); clear hb hbox hg; obtain ⟨⟨_, _⟩, _, _⟩ := z2 BK138))
   go_ret
   exact ⟨oE, oB⟩

/-! ### laws_szAttrS: function 75 -/
def laws_szAttrS.l0 : Nat → List (S127) → Int → Int → Option (Int)
 | 0, _, _, _ => none
 | k + 1, x0, x1, x5 => if x5 < (x0.length : Int) then (if 0 ≤ x5 then ((laws_szAttr.f ((rd_T127 x0 x5).f0) ((rd_T127 x0 x5).f1) x1).bind fun t140 => (if t140 < 0 then (some (-1)) else (laws_szAttrS.l0 k x0 t140 (wrap64 (x5 + 1))))) else (none)) else (some x1)
def laws_szAttrS.f (k : Nat) (l0 : List (S127)) (a1 : Int) : Option (Int) := if (wrap64 (a1 - (l0.length : Int))) < 0 then (some (-1)) else (laws_szAttrS.l0 k l0 (wrap64 (a1 - (l0.length : Int))) 0)
set_option maxHeartbeats 8000000 in
set_option maxRecDepth 100000 in
theorem laws_szAttrS.calls (k : Nat) (A0 : Option Addr) (c0 : Nat) (l0 : List (S127)) (a1 : Int) (r : Int) (w : World) (hr0 : Kd.C k127 w A0 l0.length l0) (hc0 : l0.length ≤ c0) (h : laws_szAttrS.f k l0 a1 = some r) :
  Calls Try.prog 75 #[.slice A0 l0.length c0, .int .i64 a1] w fun e w' => e = .returned (.int .i64 r) ∧ Below w.heap.size w w' := by
 have hu127 := Try.underlying127
 have HR0 := Aside0.mk hr0
 have HC0 := Aside0.mk hc0
 clear hr0 hc0
 have HB := Aside0.mk (Below.refl w.heap.size w)
 unfold laws_szAttrS.f at h
 have H := h
 clear h
 replace H := itD H
 rcases H with ⟨c3b0, H⟩ | ⟨c3b0, H⟩
 ·obtain rfl := Option.some.inj H
  go_enter Try.func75, Try.ntmps75
  go_wp2
  go_ret
  exact ⟨oE, oB⟩
 ·have H' := Aside0.mk H
  clear H
  go_enter Try.func75, Try.ntmps75
  go_wp2
  go_loopg [1, 5] k (fun kq v1 v5 w' => ∃ (x1_1 : Int) (x5_1 : Int), v1 = .int .i64 x1_1 ∧ v5 = .int .i64 x5_1 ∧ Aside0 (laws_szAttrS.l0 kq l0 x1_1 x5_1 = some r) ∧ Aside0 (kq ≤ k) ∧ Aside0 (Below w.heap.size w w'))
  case atStart => exact ⟨(wrap64 (a1 - (l0.length : Int))), (0), oS, oS, H', ⟨Nat.le_refl _⟩, ⟨oB⟩⟩
  case round =>
   clear H'
   try clear c3b0
   obtain ⟨x1_1, x5_1, rfl, rfl, HA, HK1, HB⟩ := hrel
   cases gk with
   | zero => exact absurd HA.out (by simp [laws_szAttrS.l0])
   | succ k1 =>
    have H := HA.out
    clear HA
    simp only [laws_szAttrS.l0] at H
    replace H := itD H
    rcases H with ⟨c4b0, H⟩ | ⟨c4b0, H⟩
    ·replace H := itD H
     rcases H with ⟨c5b0, H⟩ | ⟨c5b0, H⟩
     ·replace H := bA H
      obtain ⟨t140, A6, H⟩ := H
      try dsimp only at H
      replace H := itD H
      rcases H with ⟨c7b0, H⟩ | ⟨c7b0, H⟩
      ·obtain rfl := Option.some.inj H
       have p139 : (0 ≤ (x5_1 : Int)) = True := oT
       have q139 : (x5_1 < (l0.length : Int)) = True := oT
       obtain ⟨ad139, e139, hx139_0, hx139_1⟩ := at_T127 HR0.out x5_1 oa oa
       cases e139
       replace hx139_0 := cB HB hx139_0
       replace hx139_1 := cB HB hx139_1
       go_wp2_with (first | ((with_reducible refine gate_callee (f := 126) rfl ?_); refine gl_ 23 Try.func126 (laws_szAttr.calls ((rd_T127 l0 x5_1).f0) ((rd_T127 l0 x5_1).f1) x1_1 t140 _ A6.out) ?_; rintro e w8 ⟨rfl, hb⟩; refine ⟨_, rfl, ?_⟩; replace HB := Aside0.mk (below_step oB hb)))
       go_ret
       exact ⟨oE, oB⟩
      ·have H' := Aside0.mk H
       clear H
       have p139 : (0 ≤ (x5_1 : Int)) = True := oT
       have q139 : (x5_1 < (l0.length : Int)) = True := oT
       obtain ⟨ad139, e139, hx139_0, hx139_1⟩ := at_T127 HR0.out x5_1 oa oa
       cases e139
       replace hx139_0 := cB HB hx139_0
       replace hx139_1 := cB HB hx139_1
       go_wp2_with (first | ((with_reducible refine gate_callee (f := 126) rfl ?_); refine gl_ 23 Try.func126 (laws_szAttr.calls ((rd_T127 l0 x5_1).f0) ((rd_T127 l0 x5_1).f1) x1_1 t140 _ A6.out) ?_; rintro e w9 ⟨rfl, hb⟩; refine ⟨_, rfl, ?_⟩; replace HB := Aside0.mk (below_step oB hb)))
       go_roundg k1
       case measure => have := HK1.out; omega
       case rel => exact ⟨(t140), (wrap64 (x5_1 + 1)), oS, oS, H', ⟨by have := HK1.out; omega⟩, ⟨oB⟩⟩
     ·cases H
    ·obtain rfl := Option.some.inj H
     go_wp2
     go_ret
     exact ⟨oE, oB⟩

/-! ### laws_szInode: function 28 -/
def laws_szInode.f (k : Nat) (a0_0 : Int) (a0_1 : Int) (a0_2 : Int) (l0_3 : List Int) (l0_4 : List (S125)) (l0_5 : List (S127)) (a1 : Int) : Option (Int) := (laws_szByteS.f l0_3 a1).bind fun t142 => (if t142 < 0 then (some (-1)) else ((laws_szEntS.f k l0_4 t142).bind fun t143 => (if t143 < 0 then (some (-1)) else ((laws_szAttrS.f k l0_5 t143).bind fun t144 => (if t144 < 0 then (some (-1)) else (some t144))))))
set_option maxHeartbeats 8000000 in
set_option maxRecDepth 100000 in
theorem laws_szInode.calls (k : Nat) (a0_0 : Int) (a0_1 : Int) (a0_2 : Int) (A0_3 : Option Addr) (c0_3 : Nat) (l0_3 : List Int) (A0_4 : Option Addr) (c0_4 : Nat) (l0_4 : List (S125)) (A0_5 : Option Addr) (c0_5 : Nat) (l0_5 : List (S127)) (a1 : Int) (r : Int) (w : World) (hr0_3 : Kd.C (Kd.int .u8) w A0_3 l0_3.length l0_3) (hc0_3 : l0_3.length ≤ c0_3) (hr0_4 : Kd.C k125 w A0_4 l0_4.length l0_4) (hc0_4 : l0_4.length ≤ c0_4) (hr0_5 : Kd.C k127 w A0_5 l0_5.length l0_5) (hc0_5 : l0_5.length ≤ c0_5) (h : laws_szInode.f k a0_0 a0_1 a0_2 l0_3 l0_4 l0_5 a1 = some r) :
  Calls Try.prog 28 #[.agg #[.int .i64 a0_0, .int .i64 a0_1, .int .i64 a0_2, .slice A0_3 l0_3.length c0_3, .slice A0_4 l0_4.length c0_4, .slice A0_5 l0_5.length c0_5], .int .i64 a1] w fun e w' => e = .returned (.int .i64 r) ∧ Below w.heap.size w w' := by
 have hu39 := Try.underlying39
 have HR0_3 := Aside0.mk hr0_3
 have HC0_3 := Aside0.mk hc0_3
 clear hr0_3 hc0_3
 have HR0_4 := Aside0.mk hr0_4
 have HC0_4 := Aside0.mk hc0_4
 clear hr0_4 hc0_4
 have HR0_5 := Aside0.mk hr0_5
 have HC0_5 := Aside0.mk hc0_5
 clear hr0_5 hc0_5
 have HB := Aside0.mk (Below.refl w.heap.size w)
 unfold laws_szInode.f at h
 have H := h
 clear h
 replace H := bA H
 obtain ⟨t142, A3, H⟩ := H
 try dsimp only at H
 replace H := itD H
 rcases H with ⟨c4b0, H⟩ | ⟨c4b0, H⟩
 ·obtain rfl := Option.some.inj H
  go_enter Try.func28, Try.ntmps28
  go_wp2_with (first | ((with_reducible refine gate_dst (N := 2) rfl ?_); refine bx_ 2 #[.int .i64 a0_0, .int .i64 a0_1, .int .i64 a0_2, .slice A0_3 l0_3.length c0_3, .slice A0_4 l0_4.length c0_4, .slice A0_5 l0_5.length c0_5] 39 ?_; intro gb141 hg w5 hbox hb; have BK141 := Aside0.mk (hbox); have GW141 := gs_ hg; have GE141 := gs_ hg; replace HB := Aside0.mk (below_step oB hb); clear hb hbox hg; obtain ⟨⟨_, _, _, _, _, _⟩, _, _, _, _, _, _⟩ := z6 BK141) | ((with_reducible refine gate_callee (f := 73) rfl ?_); refine gl_ 8 Try.func73 (laws_szByteS.calls _ _ l0_3 a1 t142 _ (kC HR0_3) HC0_3.out A3.out) ?_; rintro e w' ⟨rfl, ⟨nd, rfl⟩⟩; refine ⟨_, rfl, ?_⟩))
  go_ret
  exact ⟨oE, oB⟩
 ·replace H := bA H
  obtain ⟨t143, A7, H⟩ := H
  try dsimp only at H
  replace H := itD H
  rcases H with ⟨c8b0, H⟩ | ⟨c8b0, H⟩
  ·obtain rfl := Option.some.inj H
   go_enter Try.func28, Try.ntmps28
   go_wp2_with (first | ((with_reducible refine gate_dst (N := 2) rfl ?_); refine bx_ 2 #[.int .i64 a0_0, .int .i64 a0_1, .int .i64 a0_2, .slice A0_3 l0_3.length c0_3, .slice A0_4 l0_4.length c0_4, .slice A0_5 l0_5.length c0_5] 39 ?_; intro gb141 hg w9 hbox hb; have BK141 := Aside0.mk (hbox); have GW141 := gs_ hg; have GE141 := gs_ hg; replace HB := Aside0.mk (below_step oB hb); clear hb hbox hg; obtain ⟨⟨_, _, _, _, _, _⟩, _, _, _, _, _, _⟩ := z6 BK141) | ((with_reducible refine gate_callee (f := 73) rfl ?_); refine gl_ 8 Try.func73 (laws_szByteS.calls _ _ l0_3 a1 t142 _ (kC HR0_3) HC0_3.out A3.out) ?_; rintro e w' ⟨rfl, ⟨nd, rfl⟩⟩; refine ⟨_, rfl, ?_⟩) | ((with_reducible refine gate_callee (f := 74) rfl ?_); refine gl_ 14 Try.func74 (laws_szEntS.calls k _ _ l0_4 t142 t143 _ (kC HR0_4) HC0_4.out A7.out) ?_; rintro e w11 ⟨rfl, hb⟩; refine ⟨_, rfl, ?_⟩; replace BK141 := kb_ BK141 hb; replace HB := Aside0.mk (below_step oB hb)))
   go_ret
   exact ⟨oE, oB⟩
  ·replace H := bA H
   obtain ⟨t144, A12, H⟩ := H
   try dsimp only at H
   replace H := itD H
   rcases H with ⟨c13b0, H⟩ | ⟨c13b0, H⟩
   ·obtain rfl := Option.some.inj H
    go_enter Try.func28, Try.ntmps28
    go_wp2_with (first | ((with_reducible refine gate_dst (N := 2) rfl ?_); refine bx_ 2 #[.int .i64 a0_0, .int .i64 a0_1, .int .i64 a0_2, .slice A0_3 l0_3.length c0_3, .slice A0_4 l0_4.length c0_4, .slice A0_5 l0_5.length c0_5] 39 ?_; intro gb141 hg w14 hbox hb; have BK141 := Aside0.mk (hbox); have GW141 := gs_ hg; have GE141 := gs_ hg; replace HB := Aside0.mk (below_step oB hb); clear hb hbox hg; obtain ⟨⟨_, _, _, _, _, _⟩, _, _, _, _, _, _⟩ := z6 BK141) | ((with_reducible refine gate_callee (f := 73) rfl ?_); refine gl_ 8 Try.func73 (laws_szByteS.calls _ _ l0_3 a1 t142 _ (kC HR0_3) HC0_3.out A3.out) ?_; rintro e w' ⟨rfl, ⟨nd, rfl⟩⟩; refine ⟨_, rfl, ?_⟩) | ((with_reducible refine gate_callee (f := 74) rfl ?_); refine gl_ 14 Try.func74 (laws_szEntS.calls k _ _ l0_4 t142 t143 _ (kC HR0_4) HC0_4.out A7.out) ?_; rintro e w16 ⟨rfl, hb⟩; refine ⟨_, rfl, ?_⟩; replace BK141 := kb_ BK141 hb; replace HB := Aside0.mk (below_step oB hb); obtain ⟨⟨_, _, _, _, _, _⟩, _, _, _, _, _, _⟩ := z6 BK141) | ((with_reducible refine gate_callee (f := 75) rfl ?_); refine gl_ 20 Try.func75 (laws_szAttrS.calls k _ _ l0_5 t143 t144 _ (kC HR0_5) HC0_5.out A12.out) ?_; rintro e w18 ⟨rfl, hb⟩; refine ⟨_, rfl, ?_⟩; replace BK141 := kb_ BK141 hb; replace HB := Aside0.mk (below_step oB hb)))
    go_ret
    exact ⟨oE, oB⟩
   ·obtain rfl := Option.some.inj H
    go_enter Try.func28, Try.ntmps28
    go_wp2_with (first | ((with_reducible refine gate_dst (N := 2) rfl ?_); refine bx_ 2 #[.int .i64 a0_0, .int .i64 a0_1, .int .i64 a0_2, .slice A0_3 l0_3.length c0_3, .slice A0_4 l0_4.length c0_4, .slice A0_5 l0_5.length c0_5] 39 ?_; intro gb141 hg w19 hbox hb; have BK141 := Aside0.mk (hbox); have GW141 := gs_ hg; have GE141 := gs_ hg; replace HB := Aside0.mk (below_step oB hb); clear hb hbox hg; obtain ⟨⟨_, _, _, _, _, _⟩, _, _, _, _, _, _⟩ := z6 BK141) | ((with_reducible refine gate_callee (f := 73) rfl ?_); refine gl_ 8 Try.func73 (laws_szByteS.calls _ _ l0_3 a1 t142 _ (kC HR0_3) HC0_3.out A3.out) ?_; rintro e w' ⟨rfl, ⟨nd, rfl⟩⟩; refine ⟨_, rfl, ?_⟩) | ((with_reducible refine gate_callee (f := 74) rfl ?_); refine gl_ 14 Try.func74 (laws_szEntS.calls k _ _ l0_4 t142 t143 _ (kC HR0_4) HC0_4.out A7.out) ?_; rintro e w21 ⟨rfl, hb⟩; refine ⟨_, rfl, ?_⟩; replace BK141 := kb_ BK141 hb; replace HB := Aside0.mk (below_step oB hb); obtain ⟨⟨_, _, _, _, _, _⟩, _, _, _, _, _, _⟩ := z6 BK141) | ((with_reducible refine gate_callee (f := 75) rfl ?_); refine gl_ 20 Try.func75 (laws_szAttrS.calls k _ _ l0_5 t143 t144 _ (kC HR0_5) HC0_5.out A12.out) ?_; rintro e w23 ⟨rfl, hb⟩; refine ⟨_, rfl, ?_⟩; replace BK141 := kb_ BK141 hb; replace HB := Aside0.mk (below_step oB hb)))
    go_ret
    exact ⟨oE, oB⟩

/-! ### laws_szInodeS: function 85 -/
def laws_szInodeS.l0 : Nat → List (S39) → Int → Int → Option (Int)
 | 0, _, _, _ => none
 | k + 1, x0, x1, x5 => if x5 < (x0.length : Int) then (if 0 ≤ x5 then ((laws_szInode.f k ((rd_T39 x0 x5).f0) ((rd_T39 x0 x5).f1) ((rd_T39 x0 x5).f2) ((rd_T39 x0 x5).f3) ((rd_T39 x0 x5).f4) ((rd_T39 x0 x5).f5) x1).bind fun t146 => (if t146 < 0 then (some (-1)) else (laws_szInodeS.l0 k x0 t146 (wrap64 (x5 + 1))))) else (none)) else (some x1)
def laws_szInodeS.f (k : Nat) (l0 : List (S39)) (a1 : Int) : Option (Int) := if (wrap64 (a1 - (l0.length : Int))) < 0 then (some (-1)) else (laws_szInodeS.l0 k l0 (wrap64 (a1 - (l0.length : Int))) 0)
set_option maxHeartbeats 8000000 in
set_option maxRecDepth 100000 in
theorem laws_szInodeS.calls (k : Nat) (A0 : Option Addr) (c0 : Nat) (l0 : List (S39)) (a1 : Int) (r : Int) (w : World) (hr0 : Kd.C k39 w A0 l0.length l0) (hc0 : l0.length ≤ c0) (h : laws_szInodeS.f k l0 a1 = some r) :
  Calls Try.prog 85 #[.slice A0 l0.length c0, .int .i64 a1] w fun e w' => e = .returned (.int .i64 r) ∧ Below w.heap.size w w' := by
 have hu39 := Try.underlying39
 have HR0 := Aside0.mk hr0
 have HC0 := Aside0.mk hc0
 clear hr0 hc0
 have HB := Aside0.mk (Below.refl w.heap.size w)
 unfold laws_szInodeS.f at h
 have H := h
 clear h
 replace H := itD H
 rcases H with ⟨c3b0, H⟩ | ⟨c3b0, H⟩
 ·obtain rfl := Option.some.inj H
  go_enter Try.func85, Try.ntmps85
  go_wp2
  go_ret
  exact ⟨oE, oB⟩
 ·have H' := Aside0.mk H
  clear H
  go_enter Try.func85, Try.ntmps85
  go_wp2
  go_loopg [1, 5] k (fun kq v1 v5 w' => ∃ (x1_1 : Int) (x5_1 : Int), v1 = .int .i64 x1_1 ∧ v5 = .int .i64 x5_1 ∧ Aside0 (laws_szInodeS.l0 kq l0 x1_1 x5_1 = some r) ∧ Aside0 (kq ≤ k) ∧ Aside0 (Below w.heap.size w w'))
  case atStart => exact ⟨(wrap64 (a1 - (l0.length : Int))), (0), oS, oS, H', ⟨Nat.le_refl _⟩, ⟨oB⟩⟩
  case round =>
   clear H'
   try clear c3b0
   obtain ⟨x1_1, x5_1, rfl, rfl, HA, HK1, HB⟩ := hrel
   cases gk with
   | zero => exact absurd HA.out (by simp [laws_szInodeS.l0])
   | succ k1 =>
    have H := HA.out
    clear HA
    simp only [laws_szInodeS.l0] at H
    replace H := itD H
    rcases H with ⟨c4b0, H⟩ | ⟨c4b0, H⟩
    ·replace H := itD H
     rcases H with ⟨c5b0, H⟩ | ⟨c5b0, H⟩
     ·replace H := bA H
      obtain ⟨t146, A6, H⟩ := H
      try dsimp only at H
      replace H := itD H
      rcases H with ⟨c7b0, H⟩ | ⟨c7b0, H⟩
      ·obtain rfl := Option.some.inj H
       have p145 : (0 ≤ (x5_1 : Int)) = True := oT
       have q145 : (x5_1 < (l0.length : Int)) = True := oT
       obtain ⟨ad145, A145_3, c145_3, A145_4, c145_4, A145_5, c145_5, e145, hx145_0, hx145_1, hx145_2, hx145_3, hx145_4, hx145_5, hl145_3, hi145_3, hl145_4, hi145_4, hl145_5, hi145_5⟩ := at_T39 HR0.out x5_1 oa oa
       cases e145
       replace hx145_0 := cB HB hx145_0
       replace hx145_1 := cB HB hx145_1
       replace hx145_2 := cB HB hx145_2
       replace hx145_3 := cB HB hx145_3
       replace hx145_4 := cB HB hx145_4
       replace hx145_5 := cB HB hx145_5
       have HR145_3 := Aside0.mk hi145_3
       have HC145_3 := Aside0.mk hl145_3
       clear hi145_3 hl145_3
       have HR145_4 := Aside0.mk hi145_4
       have HC145_4 := Aside0.mk hl145_4
       clear hi145_4 hl145_4
       have HR145_5 := Aside0.mk hi145_5
       have HC145_5 := Aside0.mk hl145_5
       clear hi145_5 hl145_5
       go_wp2_with (first | ((with_reducible refine gate_callee (f := 28) rfl ?_); refine gl_ 23 Try.func28 (laws_szInode.calls k1 ((rd_T39 l0 x5_1).f0) ((rd_T39 l0 x5_1).f1) ((rd_T39 l0 x5_1).f2) _ _ ((rd_T39 l0 x5_1).f3) _ _ ((rd_T39 l0 x5_1).f4) _ _ ((rd_T39 l0 x5_1).f5) x1_1 t146 _ (kC HR145_3) HC145_3.out (kC HR145_4) HC145_4.out (kC HR145_5) HC145_5.out A6.out) ?_; rintro e w8 ⟨rfl, hb⟩; refine ⟨_, rfl, ?_⟩; replace HB := Aside0.mk (below_step oB hb)))
       go_ret
       exact ⟨oE, oB⟩
      ·have H' := Aside0.mk H
       clear H
       have p145 : (0 ≤ (x5_1 : Int)) = True := oT
       have q145 : (x5_1 < (l0.length : Int)) = True := oT
       obtain ⟨ad145, A145_3, c145_3, A145_4, c145_4, A145_5, c145_5, e145, hx145_0, hx145_1, hx145_2, hx145_3, hx145_4, hx145_5, hl145_3, hi145_3, hl145_4, hi145_4, hl145_5, hi145_5⟩ := at_T39 HR0.out x5_1 oa oa
       cases e145
       replace hx145_0 := cB HB hx145_0
       replace hx145_1 := cB HB hx145_1
       replace hx145_2 := cB HB hx145_2
       replace hx145_3 := cB HB hx145_3
       replace hx145_4 := cB HB hx145_4
       replace hx145_5 := cB HB hx145_5
       have HR145_3 := Aside0.mk hi145_3
       have HC145_3 := Aside0.mk hl145_3
       clear hi145_3 hl145_3
       have HR145_4 := Aside0.mk hi145_4
       have HC145_4 := Aside0.mk hl145_4
       clear hi145_4 hl145_4
       have HR145_5 := Aside0.mk hi145_5
       have HC145_5 := Aside0.mk hl145_5
       clear hi145_5 hl145_5
       go_wp2_with (first | ((with_reducible refine gate_callee (f := 28) rfl ?_); refine gl_ 23 Try.func28 (laws_szInode.calls k1 ((rd_T39 l0 x5_1).f0) ((rd_T39 l0 x5_1).f1) ((rd_T39 l0 x5_1).f2) _ _ ((rd_T39 l0 x5_1).f3) _ _ ((rd_T39 l0 x5_1).f4) _ _ ((rd_T39 l0 x5_1).f5) x1_1 t146 _ (kC HR145_3) HC145_3.out (kC HR145_4) HC145_4.out (kC HR145_5) HC145_5.out A6.out) ?_; rintro e w9 ⟨rfl, hb⟩; refine ⟨_, rfl, ?_⟩; replace HB := Aside0.mk (below_step oB hb)))
       go_roundg k1
       case measure => have := HK1.out; omega
       case rel => exact ⟨(t146), (wrap64 (x5_1 + 1)), oS, oS, H', ⟨by have := HK1.out; omega⟩, ⟨oB⟩⟩
     ·cases H
    ·obtain rfl := Option.some.inj H
     go_wp2
     go_ret
     exact ⟨oE, oB⟩

/-! ### laws_szTab: function 33 -/
def laws_szTab.f (k : Nat) (l0_0 : List (S39)) (a0_1 : Int) (a1 : Int) : Option (Int) := (laws_szInodeS.f k l0_0 a1).bind fun t148 => (if t148 < 0 then (some (-1)) else (some t148))
set_option maxHeartbeats 8000000 in
set_option maxRecDepth 100000 in
theorem laws_szTab.calls (k : Nat) (A0_0 : Option Addr) (c0_0 : Nat) (l0_0 : List (S39)) (a0_1 : Int) (a1 : Int) (r : Int) (w : World) (hr0_0 : Kd.C k39 w A0_0 l0_0.length l0_0) (hc0_0 : l0_0.length ≤ c0_0) (h : laws_szTab.f k l0_0 a0_1 a1 = some r) :
  Calls Try.prog 33 #[.agg #[.slice A0_0 l0_0.length c0_0, .int .i64 a0_1], .int .i64 a1] w fun e w' => e = .returned (.int .i64 r) ∧ Below w.heap.size w w' := by
 have hu50 := Try.underlying50
 have HR0_0 := Aside0.mk hr0_0
 have HC0_0 := Aside0.mk hc0_0
 clear hr0_0 hc0_0
 have HB := Aside0.mk (Below.refl w.heap.size w)
 unfold laws_szTab.f at h
 have H := h
 clear h
 replace H := bA H
 obtain ⟨t148, A3, H⟩ := H
 try dsimp only at H
 replace H := itD H
 rcases H with ⟨c4b0, H⟩ | ⟨c4b0, H⟩
 ·obtain rfl := Option.some.inj H
  go_enter Try.func33, Try.ntmps33
  go_wp2_with (first | ((with_reducible refine gate_dst (N := 2) rfl ?_); refine bx_ 2 #[.slice A0_0 l0_0.length c0_0, .int .i64 a0_1] 50 ?_; intro gb147 hg w5 hbox hb; have BK147 := Aside0.mk (hbox); have GW147 := gs_ hg; have GE147 := gs_ hg; replace HB := Aside0.mk (below_step oB hb); clear hb hbox hg; obtain ⟨⟨_, _⟩, _, _⟩ := z2 BK147) | ((with_reducible refine gate_callee (f := 85) rfl ?_); refine gl_ 8 Try.func85 (laws_szInodeS.calls k _ _ l0_0 a1 t148 _ (kC HR0_0) HC0_0.out A3.out) ?_; rintro e w7 ⟨rfl, hb⟩; refine ⟨_, rfl, ?_⟩; replace BK147 := kb_ BK147 hb; replace HB := Aside0.mk (below_step oB hb)))
  go_ret
  exact ⟨oE, oB⟩
 ·obtain rfl := Option.some.inj H
  go_enter Try.func33, Try.ntmps33
  go_wp2_with (first | ((with_reducible refine gate_dst (N := 2) rfl ?_); refine bx_ 2 #[.slice A0_0 l0_0.length c0_0, .int .i64 a0_1] 50 ?_; intro gb147 hg w8 hbox hb; have BK147 := Aside0.mk (hbox); have GW147 := gs_ hg; have GE147 := gs_ hg; replace HB := Aside0.mk (below_step oB hb); clear hb hbox hg; obtain ⟨⟨_, _⟩, _, _⟩ := z2 BK147) | ((with_reducible refine gate_callee (f := 85) rfl ?_); refine gl_ 8 Try.func85 (laws_szInodeS.calls k _ _ l0_0 a1 t148 _ (kC HR0_0) HC0_0.out A3.out) ?_; rintro e w10 ⟨rfl, hb⟩; refine ⟨_, rfl, ?_⟩; replace BK147 := kb_ BK147 hb; replace HB := Aside0.mk (below_step oB hb)))
  go_ret
  exact ⟨oE, oB⟩

/-! ### laws_toByteS: function 77 -/
def laws_toByteS.l0 : Nat → List Int → List Int → Int → Option (List Int)
 | 0, _, _, _ => none
 | k + 1, x0, x3, x4 => if x4 < (x0.length : Int) then (if 0 ≤ x4 then (if x4 < (x3.length : Int) then (laws_toByteS.l0 k x0 (x3.set (x4 : Int).toNat (rd x0 x4)) (wrap64 (x4 + 1))) else (none)) else (none)) else (some x3)
def laws_toByteS.f (k : Nat) (l0 : List Int) : Option (List Int) := if 0 ≤ (l0.length : Int) then (if ((l0.length : Int) : Int).toNat ≤ 281474976710656 then (laws_toByteS.l0 k l0 (List.replicate ((l0.length : Int) : Int).toNat 0) 0) else (none)) else (none)
set_option maxHeartbeats 8000000 in
set_option maxRecDepth 100000 in
theorem laws_toByteS.calls (k : Nat) (A0 : Option Addr) (c0 : Nat) (l0 : List Int) (r : List Int) (w : World) (hr0 : Kd.C (Kd.int .u8) w A0 l0.length l0) (hc0 : l0.length ≤ c0) (h : laws_toByteS.f k l0 = some r) :
  Calls Try.prog 77 #[.slice A0 l0.length c0] w fun e w' => ∃ v0_ : Value, e = .returned (v0_) ∧ Kd.R (Kd.int .u8) 5 w' w.heap.size (fun _ => True) v0_ r ∧ Below w.heap.size w w' := by
 have HR0 := Aside0.mk hr0
 have HC0 := Aside0.mk hc0
 clear hr0 hc0
 have HB := Aside0.mk (Below.refl w.heap.size w)
 unfold laws_toByteS.f at h
 have H := h
 clear h
 by_cases c2 : 0 ≤ (l0.length : Int)
 ·rw [if_pos c2] at H
  have c2b0 := eq_true c2
  have c2b1 : decide (0 ≤ (l0.length : Int)) = true := decide_eq_true c2
  clear c2
  by_cases c3 : ((l0.length : Int) : Int).toNat ≤ 281474976710656
  ·rw [if_pos c3] at H
   have c3b0 := eq_true c3
   have c3b1 : decide (((l0.length : Int) : Int).toNat ≤ 281474976710656) = true := decide_eq_true c3
   clear c3
   obtain ⟨y149, hy149⟩ : ∃ y_ : List Int, y_ = (List.replicate ((l0.length : Int) : Int).toNat 0) := ⟨_, rfl⟩
   replace H : (laws_toByteS.l0 k l0 y149 0) = some r := by first | (rw [hy149]; with_reducible exact H) | (have H2_ := (Option.bind_some _ _).symm.trans H; rw [hy149]; with_reducible exact H2_) | (have H2_ := (Option.bind_some _ _).symm.trans H; with_reducible exact H2_) | with_reducible exact H | (rw [hy149]; exact H) | exact H
   have Ny149 := Aside0.mk hy149
   clear hy149
   have H' := Aside0.mk H
   clear H
   go_enter Try.func77, Try.ntmps77
   go_wp2_with (first | ((with_reducible refine gate_dst (N := 7) rfl ?_); refine Kd.R_make (Kd.int .u8) _ 5 rfl (N := 7) rfl 35 _ _ rfl (l0.length : Int) rfl rfl Try.underlying35 (.int .u8 0) 1 info5 rfl (by decide) (by omega) 0 (ok := fun _ => True) (okp := fun _ => True) rfl (fun _ hk => hk) trivial oa (Nat.le_trans (Nat.mul_le_mul_right _ (oa : (l0.length : Int).toNat ≤ 281474976710656)) (by omega)) (Below.refl _ _) (Nat.le_refl _) ?_; intro v150 w4 ho5 hb hg_ hnew_; clear hg_ hnew_; (first | rw [← Ny149.out] at ho5 | (simp only [Int.reduceToNat] at ho5; rw [← Ny149.out] at ho5)); have HO151 := Aside0.mk (Kd.R_lower ho5 (below_size oB)); replace HB := Aside0.mk (below_step oB hb); clear hb ho5))
   go_loopg [4] k (fun kq v4 w' => ∃ (x3_1 : List Int) (x4_1 : Int), v4 = .int .i64 x4_1 ∧ Aside0 (laws_toByteS.l0 kq l0 x3_1 x4_1 = some r) ∧ Aside0 (kq ≤ k) ∧ Aside0 (Kd.R (Kd.int .u8) 5 w' w.heap.size (fun _ => True) v150 x3_1) ∧ Aside0 (Below w.heap.size w w'))
   case atStart => exact ⟨(y149), (0), oS, H', ⟨Nat.le_refl _⟩, ⟨oR HO151⟩, ⟨oB⟩⟩
   case round =>
    clear H'
    try clear c2
    try clear c2b0
    try clear c2b1
    try clear c3
    obtain ⟨x3_1, x4_1, rfl, HA, HK1, HO_3, HB⟩ := hrel
    cases gk with
    | zero => exact absurd HA.out (by simp [laws_toByteS.l0])
    | succ k1 =>
     have H := HA.out
     clear HA
     simp only [laws_toByteS.l0] at H
     replace H := itD H
     rcases H with ⟨c6b0, H⟩ | ⟨c6b0, H⟩
     ·replace H := itD H
      rcases H with ⟨c7b0, H⟩ | ⟨c7b0, H⟩
      ·replace H := itD H
       rcases H with ⟨c8b0, H⟩ | ⟨c8b0, H⟩
       ·obtain ⟨y153, hy153⟩ : ∃ y_ : List Int, y_ = (x3_1.set (x4_1 : Int).toNat (rd l0 x4_1)) := ⟨_, rfl⟩
        replace H : (laws_toByteS.l0 k1 l0 y153 (wrap64 (x4_1 + 1))) = some r := by first | (rw [hy153]; with_reducible exact H) | (have H2_ := (Option.bind_some _ _).symm.trans H; rw [hy153]; with_reducible exact H2_) | (have H2_ := (Option.bind_some _ _).symm.trans H; with_reducible exact H2_) | with_reducible exact H | (rw [hy153]; exact H) | exact H
        have Ny153 := Aside0.mk hy153
        clear hy153
        have H' := Aside0.mk H
        clear H
        have p152 : (0 ≤ (x4_1 : Int)) = True := oT
        have q152 : (x4_1 < (l0.length : Int)) = True := oT
        obtain ⟨ad152, e152, hx152_0⟩ := Kd.at_int HR0.out x4_1 oa oa
        cases e152
        replace hx152_0 := cB HB hx152_0
        have p9 : 0 ≤ (x4_1 : Int) := oa
        have q9 : (x4_1 : Int) < ((x3_1.length : Int) : Int) := oa
        obtain ⟨go9, co9, eo9, gb9, gl9, cl9, HG9⟩ := Kd.R_form HO_3.out (by omega)
        (first | cases eo9 | (injection eo9 with ea_ en_ ec_; (first | subst ea_ | (injection ea_ with ea_; subst ea_)); subst ec_; clear en_))
        have GB9 := Aside0.mk gb9
        have GG9 := Aside0.mk HG9
        clear gb9 gl9 HG9
        obtain ⟨hx9_0, hf9_0⟩ := Kd.R_celln 0 HO_3.out (x4_1 : Int) p9 q9
        replace p9 := eq_true p9
        replace q9 := eq_true q9
        have HP10 := Kd.R_putg HO_3.out (x4_1 : Int) (rd l0 x4_1)
        go_wp2_with (first | ((with_reducible refine gate_store (t := 5) (p := 20) rfl ?_); refine store_event (t := 5) (p := 20) (v := ?vo_w11) (w1 := (wr.setCell ⟨go9, (x4_1 : Int).toNat, none⟩ (.int .u8 (rd l0 x4_1)))) ?hg ?ho ?hn ?hr ?_; (case ho => rfl); (case hg => rfl); (case hn => rfl); (case hr => first | (go_simp; done) | (go_simp; rfl)); intro w11 hw; have hg : wr.grownBy w11 (some go9) := (by rw [hw]; exact HP10.2); have hp_ : Kd.R (Kd.int .u8) 5 w11 w.heap.size (fun _ => True) (.slice (some ⟨go9, 0, none⟩) x3_1.length co9) y153 := (by rw [hw, Ny153.out]; exact HP10.1); clear HP10; replace HO_3 := Aside0.mk (hp_); replace HB := Aside0.mk ((by rw [hw]; exact below_set (HB.out) GB9.out : Below w.heap.size w w11)); clear hg hw hp_))
        go_roundg k1
        case measure => have := HK1.out; omega
        case rel => exact ⟨(y153), (wrap64 (x4_1 + 1)), oS, H', ⟨by have := HK1.out; omega⟩, ⟨oR HO_3⟩, ⟨oB⟩⟩
       ·cases H
      ·cases H
     ·obtain rfl := Option.some.inj H
      go_wp2
      go_ret
      exact ⟨_, oE, oR HO_3, oB⟩
  ·rw [if_neg c3] at H
   exact absurd H (by simp)
 ·rw [if_neg c2] at H
  exact absurd H (by simp)

/-! ### laws_toEnt: function 127 -/
def laws_toEnt.f (a0_0 : ByteArray) (a0_1 : Int) : Option (ByteArray × Int) := some (a0_0, a0_1)
set_option maxHeartbeats 8000000 in
set_option maxRecDepth 100000 in
theorem laws_toEnt.calls (a0_0 : ByteArray) (a0_1 : Int) (r1 : ByteArray) (r2 : Int) (w : World) (h : laws_toEnt.f a0_0 a0_1 = some (r1, r2)) :
  Calls Try.prog 127 #[.agg #[.string a0_0, .int .i64 a0_1]] w fun e w' => e = .returned (.agg #[.string r1, .int .i64 r2]) ∧ Below w.heap.size w w' := by
 have hu125 := Try.underlying125
 have hu83 := Try.underlying83
 have HB := Aside0.mk (Below.refl w.heap.size w)
 unfold laws_toEnt.f at h
 have H := h
 clear h
 simp only [Option.some.injEq, Prod.mk.injEq] at H
 obtain ⟨rfl, rfl⟩ := H
 go_enter Try.func127, Try.ntmps127
 go_wp2_with (first | ((with_reducible refine gate_dst (N := 1) rfl ?_); refine bx_ 1 #[.string a0_0, .int .i64 a0_1] 125 ?_; intro gb154 hg w2 hbox hb; have BK154 := Aside0.mk (hbox); have GW154 := gs_ hg; have GE154 := gs_ hg; replace HB := Aside0.mk (below_step oB hb); clear hb hbox hg) | ((with_reducible refine gate_dst (N := 2) rfl ?_); refine bx_ 2 #[.string (⟨#[]⟩ : ByteArray), .int .i64 0] 83 ?_; intro gb155 hg w3 hbox hb; have BK155 := Aside0.mk (hbox); have GW155 := gs_ hg; have GE155 := gs_ hg; have NB154_155 := nl_ hg BK154; have NB155_154 := nr_ hg BK154; replace BK154 := kb_ BK154 hb; replace HB := Aside0.mk (below_step oB hb); clear hb hbox hg) | ((with_reducible refine gate_dst (N := 3) rfl ?_); refine bx_ 3 #[.string (⟨#[]⟩ : ByteArray), .int .i64 0] 83 ?_; intro gb156 hg w4 hbox hb; have BK156 := Aside0.mk (hbox); have GW156 := gs_ hg; have GE156 := gs_ hg; have NB154_156 := nl_ hg BK154; have NB156_154 := nr_ hg BK154; have NB155_156 := nl_ hg BK155; have NB156_155 := nr_ hg BK155; replace BK154 := kb_ BK154 hb; replace BK155 := kb_ BK155 hb; replace HB := Aside0.mk (below_step oB hb); clear hb hbox hg; have hnb5 := NB154_155.out; have hnc5 := NB155_154.out; have hnb6 := NB154_156.out; have hnc6 := NB156_154.out; obtain ⟨⟨_, _⟩, _, _⟩ := z2 BK154; have hnb8 := NB156_155.out; have hnc8 := NB155_156.out; obtain ⟨⟨_, _⟩, _, _⟩ := z2 BK156; obtain ⟨⟨_, _⟩, _, _⟩ := z2 BK155))
 refine bodyPost_ret (results_cell_row rfl _ _ gb155 83 #[.string a0_0, .int .i64 a0_1] (0, 0) _ rfl (by (with_reducible repeat (first | refine blk_drewN ?_ _ | refine blk_drew ?_ | refine blk_alloc ?_ _)); refine blk_put (cs := #[.string a0_0, .int .i64 0]) ?_ 1 _ rfl; (with_reducible repeat (first | refine blk_drewN ?_ _ | refine blk_drew ?_ | refine blk_alloc ?_ _)); refine blk_put (cs := #[.string (⟨#[]⟩ : ByteArray), .int .i64 0]) ?_ 0 _ rfl; (with_reducible repeat (first | refine blk_drewN ?_ _ | refine blk_drew ?_ | refine blk_alloc ?_ _)); refine blk_far ?_ NB155_156.out _; (with_reducible repeat (first | refine blk_drewN ?_ _ | refine blk_drew ?_ | refine blk_alloc ?_ _)); refine blk_far ?_ NB155_156.out _; (with_reducible repeat (first | refine blk_drewN ?_ _ | refine blk_drew ?_ | refine blk_alloc ?_ _)); exact BK155.out) Try.underlying83 rfl (by kernel_rfl)) rfl ?_
 exact ⟨oE, oB⟩

/-! ### laws_toEntS: function 78 -/
def laws_toEntS.l0 : Nat → List (S125) → List (S83) → Int → Option ((List (S83)))
 | 0, _, _, _ => none
 | k + 1, x0, x3, x4 => if x4 < (x0.length : Int) then (if 0 ≤ x4 then ((laws_toEnt.f ((rd_T125 x0 x4).f0) ((rd_T125 x0 x4).f1)).bind fun bt161 => (if x4 < (x3.length : Int) then (laws_toEntS.l0 k x0 (x3.set (x4 : Int).toNat (⟨bt161.1, bt161.2⟩ : S83)) (wrap64 (x4 + 1))) else (none))) else (none)) else (some x3)
def laws_toEntS.f (k : Nat) (l0 : List (S125)) : Option ((List (S83))) := if 0 ≤ (l0.length : Int) then (if ((l0.length : Int) : Int).toNat ≤ 11728124029610 then (laws_toEntS.l0 k l0 (List.replicate ((l0.length : Int) : Int).toNat z83) 0) else (none)) else (none)
set_option maxHeartbeats 8000000 in
set_option maxRecDepth 100000 in
theorem laws_toEntS.calls (k : Nat) (A0 : Option Addr) (c0 : Nat) (l0 : List (S125)) (r : List (S83)) (w : World) (hr0 : Kd.C k125 w A0 l0.length l0) (hc0 : l0.length ≤ c0) (h : laws_toEntS.f k l0 = some r) :
  Calls Try.prog 78 #[.slice A0 l0.length c0] w fun e w' => ∃ v0_ : Value, e = .returned (v0_) ∧ Kd.R k83 83 w' w.heap.size (fun _ => True) v0_ r ∧ Below w.heap.size w w' := by
 have hu125 := Try.underlying125
 have hu83 := Try.underlying83
 have HR0 := Aside0.mk hr0
 have HC0 := Aside0.mk hc0
 clear hr0 hc0
 have HB := Aside0.mk (Below.refl w.heap.size w)
 unfold laws_toEntS.f at h
 have H := h
 clear h
 by_cases c2 : 0 ≤ (l0.length : Int)
 ·rw [if_pos c2] at H
  have c2b0 := eq_true c2
  have c2b1 : decide (0 ≤ (l0.length : Int)) = true := decide_eq_true c2
  clear c2
  by_cases c3 : ((l0.length : Int) : Int).toNat ≤ 11728124029610
  ·rw [if_pos c3] at H
   have c3b0 := eq_true c3
   have c3b1 : decide (((l0.length : Int) : Int).toNat ≤ 11728124029610) = true := decide_eq_true c3
   clear c3
   obtain ⟨y157, hy157⟩ : ∃ y_ : List (S83), y_ = (List.replicate ((l0.length : Int) : Int).toNat z83) := ⟨_, rfl⟩
   replace H : (laws_toEntS.l0 k l0 y157 0) = some r := by first | (rw [hy157]; with_reducible exact H) | (have H2_ := (Option.bind_some _ _).symm.trans H; rw [hy157]; with_reducible exact H2_) | (have H2_ := (Option.bind_some _ _).symm.trans H; with_reducible exact H2_) | with_reducible exact H | (rw [hy157]; exact H) | exact H
   have Ny157 := Aside0.mk hy157
   clear hy157
   have H' := Aside0.mk H
   clear H
   go_enter Try.func78, Try.ntmps78
   go_wp2_with (first | ((with_reducible refine gate_dst (N := 7) rfl ?_); refine Kd.R_make k83 _ 83 rfl (N := 7) rfl 42 _ _ rfl (l0.length : Int) rfl rfl Try.underlying42 (.agg #[(.string ⟨#[]⟩), (.int .i64 0)]) 24 info83 rfl (by decide) (by omega) z83 (ok := fun _ => True) (okp := fun _ => True) (k83_mkM _ _ _ z83 ) (fun _ hk => hk) trivial oa (Nat.le_trans (Nat.mul_le_mul_right _ (oa : (l0.length : Int).toNat ≤ 11728124029610)) (by omega)) (Below.refl _ _) (Nat.le_refl _) ?_; intro v158 w4 ho5 hb hg_ hnew_; clear hg_ hnew_; (first | rw [← Ny157.out] at ho5 | (simp only [Int.reduceToNat] at ho5; rw [← Ny157.out] at ho5)); have HO159 := Aside0.mk (Kd.R_lower ho5 (below_size oB)); replace HB := Aside0.mk (below_step oB hb); clear hb ho5))
   go_loopg [4] k (fun kq v4 w' => ∃ (x3_1 : List (S83)) (x4_1 : Int), v4 = .int .i64 x4_1 ∧ Aside0 (laws_toEntS.l0 kq l0 x3_1 x4_1 = some r) ∧ Aside0 (kq ≤ k) ∧ Aside0 (Kd.R k83 83 w' w.heap.size (fun _ => True) v158 x3_1) ∧ Aside0 (Below w.heap.size w w'))
   case atStart => exact ⟨(y157), (0), oS, H', ⟨Nat.le_refl _⟩, ⟨oR HO159⟩, ⟨oB⟩⟩
   case round =>
    clear H'
    try clear c2
    try clear c2b0
    try clear c2b1
    try clear c3
    obtain ⟨x3_1, x4_1, rfl, HA, HK1, HO_3, HB⟩ := hrel
    cases gk with
    | zero => exact absurd HA.out (by simp [laws_toEntS.l0])
    | succ k1 =>
     have H := HA.out
     clear HA
     simp only [laws_toEntS.l0] at H
     replace H := itD H
     rcases H with ⟨c6b0, H⟩ | ⟨c6b0, H⟩
     ·replace H := itD H
      rcases H with ⟨c7b0, H⟩ | ⟨c7b0, H⟩
      ·replace H := bA H
       obtain ⟨⟨t161, t162⟩, A8, H⟩ := H
       try dsimp only at H
       replace H := itD H
       rcases H with ⟨c9b0, H⟩ | ⟨c9b0, H⟩
       ·obtain ⟨y163, hy163⟩ : ∃ y_ : List (S83), y_ = (x3_1.set (x4_1 : Int).toNat (⟨t161, t162⟩ : S83)) := ⟨_, rfl⟩
        replace H : (laws_toEntS.l0 k1 l0 y163 (wrap64 (x4_1 + 1))) = some r := by first | (rw [hy163]; with_reducible exact H) | (have H2_ := (Option.bind_some _ _).symm.trans H; rw [hy163]; with_reducible exact H2_) | (have H2_ := (Option.bind_some _ _).symm.trans H; with_reducible exact H2_) | with_reducible exact H | (rw [hy163]; exact H) | exact H
        have Ny163 := Aside0.mk hy163
        clear hy163
        have H' := Aside0.mk H
        clear H
        have p160 : (0 ≤ (x4_1 : Int)) = True := oT
        have q160 : (x4_1 < (l0.length : Int)) = True := oT
        obtain ⟨ad160, e160, hx160_0, hx160_1⟩ := at_T125 HR0.out x4_1 oa oa
        cases e160
        replace hx160_0 := cB HB hx160_0
        replace hx160_1 := cB HB hx160_1
        go_wp2_with (first | ((with_reducible refine gate_callee (f := 127) rfl ?_); refine gl_ 20 Try.func127 (laws_toEnt.calls ((rd_T125 l0 x4_1).f0) ((rd_T125 l0 x4_1).f1) t161 t162 _ A8.out) ?_; rintro e w11 ⟨rfl, hb⟩; refine ⟨_, rfl, ?_⟩; replace HO_3 := kr_ HO_3 hb; replace HB := Aside0.mk (below_step oB hb); (try clear hk); have p10 : 0 ≤ (x4_1 : Int) := oa; have q10 : (x4_1 : Int) < ((x3_1.length : Int) : Int) := oa; obtain ⟨go10, co10, eo10, gb10, gl10, cl10, HG10⟩ := Kd.R_form HO_3.out (by omega); (first | cases eo10 | (injection eo10 with ea_ en_ ec_; (first | subst ea_ | (injection ea_ with ea_; subst ea_)); subst ec_; clear en_)); have GB10 := Aside0.mk gb10; have GG10 := Aside0.mk HG10; clear gb10 gl10 HG10; obtain ⟨ce10, hcl10, hM10, hcc10, hfr10⟩ := Kd.R_elem HO_3.out z83 (x4_1 : Int) p10 q10; obtain rfl := k83_openM hM10; have hx10_0 : w11.cell? ⟨go10, (x4_1 : Int).toNat * 2, none⟩ = some (.string ((rd_T83 x3_1 x4_1).f0)) := hcc10 0 _ rfl; have hx10_1 : w11.cell? ⟨go10, (x4_1 : Int).toNat * 2 + 1, none⟩ = some (.int .i64 ((rd_T83 x3_1 x4_1).f1)) := hcc10 1 _ rfl; have hf10_0 : w11.frozen? ⟨go10, (x4_1 : Int).toNat * 2, none⟩ = false := hfr10 0; have hf10_1 : w11.frozen? ⟨go10, (x4_1 : Int).toNat * 2 + 1, none⟩ = false := hfr10 1; clear hcl10 hcc10 hfr10 hM10; replace p10 := eq_true p10; replace q10 := eq_true q10; have HX12 := Aside0.mk (show Kd.R k83 83 w11 w.heap.size (fun _ => True) (.slice (some ⟨go10, 0, none⟩) x3_1.length co10) x3_1 from (oR HO_3)); obtain ⟨ce12, hcl12, hM12, hcc12, hfr12⟩ := Kd.R_elem HX12.out z83 (x4_1 : Int) oa (by have h_ : (x4_1 : Int) < ((x3_1.length : Int) : Int) := oa; first | exact h_ | (have e_ := (Kd.R_reads' HO_3.out).1; omega) | simpa using h_); obtain rfl := k83_openM hM12; have HP12 := Kd.R_seg HX12.out (x4_1 : Int) oa (by have h_ : (x4_1 : Int) < ((x3_1.length : Int) : Int) := oa; first | exact h_ | (have e_ := (Kd.R_reads' HO_3.out).1; omega) | simpa using h_) (seg := [.string t161, .int .i64 t162]) (j := 0) hcl12 hcc12 (show 2 ≤ 2 from by decide) (x' := (⟨t161, t162⟩ : S83)) (k83_mkM _ _ _ (⟨t161, t162⟩ : S83) ) (fun _ hk => hk); have hx12_0 := hcc12 0 _ rfl; (try simp only [show (k83).sz = 2 from rfl, Nat.mul_one, Nat.add_zero] at hx12_0); have hf12_0 := hfr12 0; (try simp only [show (k83).sz = 2 from rfl, Nat.mul_one, Nat.add_zero] at hf12_0); have hx12_1 := hcc12 1 _ rfl; (try simp only [show (k83).sz = 2 from rfl, Nat.mul_one, Nat.add_zero] at hx12_1); have hf12_1 := hfr12 1; (try simp only [show (k83).sz = 2 from rfl, Nat.mul_one, Nat.add_zero] at hf12_1); clear hcl12 hcc12 hfr12 hM12) | ((with_reducible refine gate_store (t := 83) (p := 21) rfl ?_); refine store_event (t := 83) (p := 21) (v := ?vo_w13) (w1 := ((w11.setCell ⟨go10, (x4_1 : Int).toNat * 2, none⟩ (.string t161)).setCell ⟨go10, (x4_1 : Int).toNat * 2 + 1, none⟩ (.int .i64 t162))) ?hg ?ho ?hn ?hr ?_; (case ho => rfl); (case hg => rfl); (case hn => rfl); (case hr => first | (go_simp; done) | (go_simp; rfl)); intro w13 hw; have hg : w11.grownBy w13 (some go10) := (by rw [hw]; exact HP12.2); have hp_ : Kd.R k83 83 w13 w.heap.size (fun _ => True) (.slice (some ⟨go10, 0, none⟩) x3_1.length co10) y163 := (by rw [hw, Ny163.out]; exact HP12.1); clear HP12; replace HO_3 := Aside0.mk (hp_); replace HB := Aside0.mk ((by rw [hw]; exact below_set (below_set (HB.out) GB10.out) GB10.out : Below w.heap.size w w13)); clear hg hw hp_))
        go_roundg k1
        case measure => have := HK1.out; omega
        case rel => exact ⟨(y163), (wrap64 (x4_1 + 1)), oS, H', ⟨by have := HK1.out; omega⟩, ⟨oR HO_3⟩, ⟨oB⟩⟩
       ·cases H
      ·cases H
     ·obtain rfl := Option.some.inj H
      go_wp2
      go_ret
      exact ⟨_, oE, oR HO_3, oB⟩
  ·rw [if_neg c3] at H
   exact absurd H (by simp)
 ·rw [if_neg c2] at H
  exact absurd H (by simp)

/-! ### laws_toAttr: function 128 -/
def laws_toAttr.f (a0_0 : ByteArray) (a0_1 : ByteArray) : Option (ByteArray × ByteArray) := some (a0_0, a0_1)
set_option maxHeartbeats 8000000 in
set_option maxRecDepth 100000 in
theorem laws_toAttr.calls (a0_0 : ByteArray) (a0_1 : ByteArray) (r1 : ByteArray) (r2 : ByteArray) (w : World) (h : laws_toAttr.f a0_0 a0_1 = some (r1, r2)) :
  Calls Try.prog 128 #[.agg #[.string a0_0, .string a0_1]] w fun e w' => e = .returned (.agg #[.string r1, .string r2]) ∧ Below w.heap.size w w' := by
 have hu127 := Try.underlying127
 have hu85 := Try.underlying85
 have HB := Aside0.mk (Below.refl w.heap.size w)
 unfold laws_toAttr.f at h
 have H := h
 clear h
 simp only [Option.some.injEq, Prod.mk.injEq] at H
 obtain ⟨rfl, rfl⟩ := H
 go_enter Try.func128, Try.ntmps128
 go_wp2_with (first | ((with_reducible refine gate_dst (N := 1) rfl ?_); refine bx_ 1 #[.string a0_0, .string a0_1] 127 ?_; intro gb164 hg w2 hbox hb; have BK164 := Aside0.mk (hbox); have GW164 := gs_ hg; have GE164 := gs_ hg; replace HB := Aside0.mk (below_step oB hb); clear hb hbox hg) | ((with_reducible refine gate_dst (N := 2) rfl ?_); refine bx_ 2 #[.string (⟨#[]⟩ : ByteArray), .string (⟨#[]⟩ : ByteArray)] 85 ?_; intro gb165 hg w3 hbox hb; have BK165 := Aside0.mk (hbox); have GW165 := gs_ hg; have GE165 := gs_ hg; have NB164_165 := nl_ hg BK164; have NB165_164 := nr_ hg BK164; replace BK164 := kb_ BK164 hb; replace HB := Aside0.mk (below_step oB hb); clear hb hbox hg) | ((with_reducible refine gate_dst (N := 3) rfl ?_); refine bx_ 3 #[.string (⟨#[]⟩ : ByteArray), .string (⟨#[]⟩ : ByteArray)] 85 ?_; intro gb166 hg w4 hbox hb; have BK166 := Aside0.mk (hbox); have GW166 := gs_ hg; have GE166 := gs_ hg; have NB164_166 := nl_ hg BK164; have NB166_164 := nr_ hg BK164; have NB165_166 := nl_ hg BK165; have NB166_165 := nr_ hg BK165; replace BK164 := kb_ BK164 hb; replace BK165 := kb_ BK165 hb; replace HB := Aside0.mk (below_step oB hb); clear hb hbox hg; have hnb5 := NB164_165.out; have hnc5 := NB165_164.out; have hnb6 := NB164_166.out; have hnc6 := NB166_164.out; obtain ⟨⟨_, _⟩, _, _⟩ := z2 BK164; have hnb8 := NB166_165.out; have hnc8 := NB165_166.out; obtain ⟨⟨_, _⟩, _, _⟩ := z2 BK166; obtain ⟨⟨_, _⟩, _, _⟩ := z2 BK165))
 refine bodyPost_ret (results_cell_row rfl _ _ gb165 85 #[.string a0_0, .string a0_1] (0, 0) _ rfl (by (with_reducible repeat (first | refine blk_drewN ?_ _ | refine blk_drew ?_ | refine blk_alloc ?_ _)); refine blk_put (cs := #[.string a0_0, .string (⟨#[]⟩ : ByteArray)]) ?_ 1 _ rfl; (with_reducible repeat (first | refine blk_drewN ?_ _ | refine blk_drew ?_ | refine blk_alloc ?_ _)); refine blk_put (cs := #[.string (⟨#[]⟩ : ByteArray), .string (⟨#[]⟩ : ByteArray)]) ?_ 0 _ rfl; (with_reducible repeat (first | refine blk_drewN ?_ _ | refine blk_drew ?_ | refine blk_alloc ?_ _)); refine blk_far ?_ NB165_166.out _; (with_reducible repeat (first | refine blk_drewN ?_ _ | refine blk_drew ?_ | refine blk_alloc ?_ _)); refine blk_far ?_ NB165_166.out _; (with_reducible repeat (first | refine blk_drewN ?_ _ | refine blk_drew ?_ | refine blk_alloc ?_ _)); exact BK165.out) Try.underlying85 rfl (by kernel_rfl)) rfl ?_
 exact ⟨oE, oB⟩

/-! ### laws_toAttrS: function 79 -/
def laws_toAttrS.l0 : Nat → List (S127) → List (S85) → Int → Option ((List (S85)))
 | 0, _, _, _ => none
 | k + 1, x0, x3, x4 => if x4 < (x0.length : Int) then (if 0 ≤ x4 then ((laws_toAttr.f ((rd_T127 x0 x4).f0) ((rd_T127 x0 x4).f1)).bind fun bt171 => (if x4 < (x3.length : Int) then (laws_toAttrS.l0 k x0 (x3.set (x4 : Int).toNat (⟨bt171.1, bt171.2⟩ : S85)) (wrap64 (x4 + 1))) else (none))) else (none)) else (some x3)
def laws_toAttrS.f (k : Nat) (l0 : List (S127)) : Option ((List (S85))) := if 0 ≤ (l0.length : Int) then (if ((l0.length : Int) : Int).toNat ≤ 8796093022208 then (laws_toAttrS.l0 k l0 (List.replicate ((l0.length : Int) : Int).toNat z85) 0) else (none)) else (none)
set_option maxHeartbeats 8000000 in
set_option maxRecDepth 100000 in
theorem laws_toAttrS.calls (k : Nat) (A0 : Option Addr) (c0 : Nat) (l0 : List (S127)) (r : List (S85)) (w : World) (hr0 : Kd.C k127 w A0 l0.length l0) (hc0 : l0.length ≤ c0) (h : laws_toAttrS.f k l0 = some r) :
  Calls Try.prog 79 #[.slice A0 l0.length c0] w fun e w' => ∃ v0_ : Value, e = .returned (v0_) ∧ Kd.R k85 85 w' w.heap.size (fun _ => True) v0_ r ∧ Below w.heap.size w w' := by
 have hu127 := Try.underlying127
 have hu85 := Try.underlying85
 have HR0 := Aside0.mk hr0
 have HC0 := Aside0.mk hc0
 clear hr0 hc0
 have HB := Aside0.mk (Below.refl w.heap.size w)
 unfold laws_toAttrS.f at h
 have H := h
 clear h
 by_cases c2 : 0 ≤ (l0.length : Int)
 ·rw [if_pos c2] at H
  have c2b0 := eq_true c2
  have c2b1 : decide (0 ≤ (l0.length : Int)) = true := decide_eq_true c2
  clear c2
  by_cases c3 : ((l0.length : Int) : Int).toNat ≤ 8796093022208
  ·rw [if_pos c3] at H
   have c3b0 := eq_true c3
   have c3b1 : decide (((l0.length : Int) : Int).toNat ≤ 8796093022208) = true := decide_eq_true c3
   clear c3
   obtain ⟨y167, hy167⟩ : ∃ y_ : List (S85), y_ = (List.replicate ((l0.length : Int) : Int).toNat z85) := ⟨_, rfl⟩
   replace H : (laws_toAttrS.l0 k l0 y167 0) = some r := by first | (rw [hy167]; with_reducible exact H) | (have H2_ := (Option.bind_some _ _).symm.trans H; rw [hy167]; with_reducible exact H2_) | (have H2_ := (Option.bind_some _ _).symm.trans H; with_reducible exact H2_) | with_reducible exact H | (rw [hy167]; exact H) | exact H
   have Ny167 := Aside0.mk hy167
   clear hy167
   have H' := Aside0.mk H
   clear H
   go_enter Try.func79, Try.ntmps79
   go_wp2_with (first | ((with_reducible refine gate_dst (N := 7) rfl ?_); refine Kd.R_make k85 _ 85 rfl (N := 7) rfl 43 _ _ rfl (l0.length : Int) rfl rfl Try.underlying43 (.agg #[(.string ⟨#[]⟩), (.string ⟨#[]⟩)]) 32 info85 rfl (by decide) (by omega) z85 (ok := fun _ => True) (okp := fun _ => True) (k85_mkM _ _ _ z85 ) (fun _ hk => hk) trivial oa (Nat.le_trans (Nat.mul_le_mul_right _ (oa : (l0.length : Int).toNat ≤ 8796093022208)) (by omega)) (Below.refl _ _) (Nat.le_refl _) ?_; intro v168 w4 ho5 hb hg_ hnew_; clear hg_ hnew_; (first | rw [← Ny167.out] at ho5 | (simp only [Int.reduceToNat] at ho5; rw [← Ny167.out] at ho5)); have HO169 := Aside0.mk (Kd.R_lower ho5 (below_size oB)); replace HB := Aside0.mk (below_step oB hb); clear hb ho5))
   go_loopg [4] k (fun kq v4 w' => ∃ (x3_1 : List (S85)) (x4_1 : Int), v4 = .int .i64 x4_1 ∧ Aside0 (laws_toAttrS.l0 kq l0 x3_1 x4_1 = some r) ∧ Aside0 (kq ≤ k) ∧ Aside0 (Kd.R k85 85 w' w.heap.size (fun _ => True) v168 x3_1) ∧ Aside0 (Below w.heap.size w w'))
   case atStart => exact ⟨(y167), (0), oS, H', ⟨Nat.le_refl _⟩, ⟨oR HO169⟩, ⟨oB⟩⟩
   case round =>
    clear H'
    try clear c2
    try clear c2b0
    try clear c2b1
    try clear c3
    obtain ⟨x3_1, x4_1, rfl, HA, HK1, HO_3, HB⟩ := hrel
    cases gk with
    | zero => exact absurd HA.out (by simp [laws_toAttrS.l0])
    | succ k1 =>
     have H := HA.out
     clear HA
     simp only [laws_toAttrS.l0] at H
     replace H := itD H
     rcases H with ⟨c6b0, H⟩ | ⟨c6b0, H⟩
     ·replace H := itD H
      rcases H with ⟨c7b0, H⟩ | ⟨c7b0, H⟩
      ·replace H := bA H
       obtain ⟨⟨t171, t172⟩, A8, H⟩ := H
       try dsimp only at H
       replace H := itD H
       rcases H with ⟨c9b0, H⟩ | ⟨c9b0, H⟩
       ·obtain ⟨y173, hy173⟩ : ∃ y_ : List (S85), y_ = (x3_1.set (x4_1 : Int).toNat (⟨t171, t172⟩ : S85)) := ⟨_, rfl⟩
        replace H : (laws_toAttrS.l0 k1 l0 y173 (wrap64 (x4_1 + 1))) = some r := by first | (rw [hy173]; with_reducible exact H) | (have H2_ := (Option.bind_some _ _).symm.trans H; rw [hy173]; with_reducible exact H2_) | (have H2_ := (Option.bind_some _ _).symm.trans H; with_reducible exact H2_) | with_reducible exact H | (rw [hy173]; exact H) | exact H
        have Ny173 := Aside0.mk hy173
        clear hy173
        have H' := Aside0.mk H
        clear H
        have p170 : (0 ≤ (x4_1 : Int)) = True := oT
        have q170 : (x4_1 < (l0.length : Int)) = True := oT
        obtain ⟨ad170, e170, hx170_0, hx170_1⟩ := at_T127 HR0.out x4_1 oa oa
        cases e170
        replace hx170_0 := cB HB hx170_0
        replace hx170_1 := cB HB hx170_1
        go_wp2_with (first | ((with_reducible refine gate_callee (f := 128) rfl ?_); refine gl_ 20 Try.func128 (laws_toAttr.calls ((rd_T127 l0 x4_1).f0) ((rd_T127 l0 x4_1).f1) t171 t172 _ A8.out) ?_; rintro e w11 ⟨rfl, hb⟩; refine ⟨_, rfl, ?_⟩; replace HO_3 := kr_ HO_3 hb; replace HB := Aside0.mk (below_step oB hb); (try clear hk); have p10 : 0 ≤ (x4_1 : Int) := oa; have q10 : (x4_1 : Int) < ((x3_1.length : Int) : Int) := oa; obtain ⟨go10, co10, eo10, gb10, gl10, cl10, HG10⟩ := Kd.R_form HO_3.out (by omega); (first | cases eo10 | (injection eo10 with ea_ en_ ec_; (first | subst ea_ | (injection ea_ with ea_; subst ea_)); subst ec_; clear en_)); have GB10 := Aside0.mk gb10; have GG10 := Aside0.mk HG10; clear gb10 gl10 HG10; obtain ⟨ce10, hcl10, hM10, hcc10, hfr10⟩ := Kd.R_elem HO_3.out z85 (x4_1 : Int) p10 q10; obtain rfl := k85_openM hM10; have hx10_0 : w11.cell? ⟨go10, (x4_1 : Int).toNat * 2, none⟩ = some (.string ((rd_T85 x3_1 x4_1).f0)) := hcc10 0 _ rfl; have hx10_1 : w11.cell? ⟨go10, (x4_1 : Int).toNat * 2 + 1, none⟩ = some (.string ((rd_T85 x3_1 x4_1).f1)) := hcc10 1 _ rfl; have hf10_0 : w11.frozen? ⟨go10, (x4_1 : Int).toNat * 2, none⟩ = false := hfr10 0; have hf10_1 : w11.frozen? ⟨go10, (x4_1 : Int).toNat * 2 + 1, none⟩ = false := hfr10 1; clear hcl10 hcc10 hfr10 hM10; replace p10 := eq_true p10; replace q10 := eq_true q10; have HX12 := Aside0.mk (show Kd.R k85 85 w11 w.heap.size (fun _ => True) (.slice (some ⟨go10, 0, none⟩) x3_1.length co10) x3_1 from (oR HO_3)); obtain ⟨ce12, hcl12, hM12, hcc12, hfr12⟩ := Kd.R_elem HX12.out z85 (x4_1 : Int) oa (by have h_ : (x4_1 : Int) < ((x3_1.length : Int) : Int) := oa; first | exact h_ | (have e_ := (Kd.R_reads' HO_3.out).1; omega) | simpa using h_); obtain rfl := k85_openM hM12; have HP12 := Kd.R_seg HX12.out (x4_1 : Int) oa (by have h_ : (x4_1 : Int) < ((x3_1.length : Int) : Int) := oa; first | exact h_ | (have e_ := (Kd.R_reads' HO_3.out).1; omega) | simpa using h_) (seg := [.string t171, .string t172]) (j := 0) hcl12 hcc12 (show 2 ≤ 2 from by decide) (x' := (⟨t171, t172⟩ : S85)) (k85_mkM _ _ _ (⟨t171, t172⟩ : S85) ) (fun _ hk => hk); have hx12_0 := hcc12 0 _ rfl; (try simp only [show (k85).sz = 2 from rfl, Nat.mul_one, Nat.add_zero] at hx12_0); have hf12_0 := hfr12 0; (try simp only [show (k85).sz = 2 from rfl, Nat.mul_one, Nat.add_zero] at hf12_0); have hx12_1 := hcc12 1 _ rfl; (try simp only [show (k85).sz = 2 from rfl, Nat.mul_one, Nat.add_zero] at hx12_1); have hf12_1 := hfr12 1; (try simp only [show (k85).sz = 2 from rfl, Nat.mul_one, Nat.add_zero] at hf12_1); clear hcl12 hcc12 hfr12 hM12) | ((with_reducible refine gate_store (t := 85) (p := 21) rfl ?_); refine store_event (t := 85) (p := 21) (v := ?vo_w13) (w1 := ((w11.setCell ⟨go10, (x4_1 : Int).toNat * 2, none⟩ (.string t171)).setCell ⟨go10, (x4_1 : Int).toNat * 2 + 1, none⟩ (.string t172))) ?hg ?ho ?hn ?hr ?_; (case ho => rfl); (case hg => rfl); (case hn => rfl); (case hr => first | (go_simp; done) | (go_simp; rfl)); intro w13 hw; have hg : w11.grownBy w13 (some go10) := (by rw [hw]; exact HP12.2); have hp_ : Kd.R k85 85 w13 w.heap.size (fun _ => True) (.slice (some ⟨go10, 0, none⟩) x3_1.length co10) y173 := (by rw [hw, Ny173.out]; exact HP12.1); clear HP12; replace HO_3 := Aside0.mk (hp_); replace HB := Aside0.mk ((by rw [hw]; exact below_set (below_set (HB.out) GB10.out) GB10.out : Below w.heap.size w w13)); clear hg hw hp_))
        go_roundg k1
        case measure => have := HK1.out; omega
        case rel => exact ⟨(y173), (wrap64 (x4_1 + 1)), oS, H', ⟨by have := HK1.out; omega⟩, ⟨oR HO_3⟩, ⟨oB⟩⟩
       ·cases H
      ·cases H
     ·obtain rfl := Option.some.inj H
      go_wp2
      go_ret
      exact ⟨_, oE, oR HO_3, oB⟩
  ·rw [if_neg c3] at H
   exact absurd H (by simp)
 ·rw [if_neg c2] at H
  exact absurd H (by simp)

/-! ### laws_toInode: function 30 -/
def laws_toInode.f (k : Nat) (a0_0 : Int) (a0_1 : Int) (a0_2 : Int) (l0_3 : List Int) (l0_4 : List (S125)) (l0_5 : List (S127)) : Option (Int × Int × Int × List Int × (List (S83)) × (List (S85))) := (laws_toByteS.f k l0_3).bind fun t177 => ((laws_toEntS.f k l0_4).bind fun t180 => ((laws_toAttrS.f k l0_5).bind fun t183 => (some (a0_0, a0_1, a0_2, t177, t180, t183))))
set_option maxHeartbeats 8000000 in
set_option maxRecDepth 100000 in
theorem laws_toInode.calls (k : Nat) (a0_0 : Int) (a0_1 : Int) (a0_2 : Int) (A0_3 : Option Addr) (c0_3 : Nat) (l0_3 : List Int) (A0_4 : Option Addr) (c0_4 : Nat) (l0_4 : List (S125)) (A0_5 : Option Addr) (c0_5 : Nat) (l0_5 : List (S127)) (r1 : Int) (r2 : Int) (r3 : Int) (r4 : List Int) (r5 : List (S83)) (r6 : List (S85)) (w : World) (hr0_3 : Kd.C (Kd.int .u8) w A0_3 l0_3.length l0_3) (hc0_3 : l0_3.length ≤ c0_3) (hr0_4 : Kd.C k125 w A0_4 l0_4.length l0_4) (hc0_4 : l0_4.length ≤ c0_4) (hr0_5 : Kd.C k127 w A0_5 l0_5.length l0_5) (hc0_5 : l0_5.length ≤ c0_5) (h : laws_toInode.f k a0_0 a0_1 a0_2 l0_3 l0_4 l0_5 = some (r1, r2, r3, r4, r5, r6)) :
  Calls Try.prog 30 #[.agg #[.int .i64 a0_0, .int .i64 a0_1, .int .i64 a0_2, .slice A0_3 l0_3.length c0_3, .slice A0_4 l0_4.length c0_4, .slice A0_5 l0_5.length c0_5]] w fun e w' => ∃ v3_ v4_ v5_ : Value, e = .returned (.agg #[.int .i64 r1, .int .i64 r2, .int .i64 r3, v3_, v4_, v5_]) ∧ Kd.R (Kd.int .u8) 5 w' w.heap.size (fun _ => True) v3_ r4 ∧ Kd.R k83 83 w' w.heap.size (fun _ => True) v4_ r5 ∧ Kd.R k85 85 w' w.heap.size (fun _ => True) v5_ r6 ∧ Below w.heap.size w w' := by
 have hu39 := Try.underlying39
 have hu45 := Try.underlying45
 have HR0_3 := Aside0.mk hr0_3
 have HC0_3 := Aside0.mk hc0_3
 clear hr0_3 hc0_3
 have HR0_4 := Aside0.mk hr0_4
 have HC0_4 := Aside0.mk hc0_4
 clear hr0_4 hc0_4
 have HR0_5 := Aside0.mk hr0_5
 have HC0_5 := Aside0.mk hc0_5
 clear hr0_5 hc0_5
 have HB := Aside0.mk (Below.refl w.heap.size w)
 unfold laws_toInode.f at h
 have H := h
 clear h
 replace H := bA H
 obtain ⟨t177, A2, H⟩ := H
 try dsimp only at H
 replace H := bA H
 obtain ⟨t180, A3, H⟩ := H
 try dsimp only at H
 replace H := bA H
 obtain ⟨t183, A4, H⟩ := H
 try dsimp only at H
 simp only [Option.some.injEq, Prod.mk.injEq] at H
 obtain ⟨rfl, rfl, rfl, rfl, rfl, rfl⟩ := H
 go_enter Try.func30, Try.ntmps30
 go_wp2_with (first | ((with_reducible refine gate_dst (N := 1) rfl ?_); refine bx_ 1 #[.int .i64 a0_0, .int .i64 a0_1, .int .i64 a0_2, .slice A0_3 l0_3.length c0_3, .slice A0_4 l0_4.length c0_4, .slice A0_5 l0_5.length c0_5] 39 ?_; intro gb174 hg w5 hbox hb; have BK174 := Aside0.mk (hbox); have GW174 := gs_ hg; have GE174 := gs_ hg; replace HB := Aside0.mk (below_step oB hb); clear hb hbox hg) | ((with_reducible refine gate_dst (N := 2) rfl ?_); refine bx_ 2 #[.int .i64 0, .int .i64 0, .int .i64 0, .slice none 0 0, .slice none 0 0, .slice none 0 0] 45 ?_; intro gb175 hg w6 hbox hb; have BK175 := Aside0.mk (hbox); have GW175 := gs_ hg; have GE175 := gs_ hg; have NB174_175 := nl_ hg BK174; have NB175_174 := nr_ hg BK174; replace BK174 := kb_ BK174 hb; replace HB := Aside0.mk (below_step oB hb); clear hb hbox hg) | ((with_reducible refine gate_dst (N := 3) rfl ?_); refine bx_ 3 #[.int .i64 0, .int .i64 0, .int .i64 0, .slice none 0 0, .slice none 0 0, .slice none 0 0] 45 ?_; intro gb176 hg w7 hbox hb; have BK176 := Aside0.mk (hbox); have GW176 := gs_ hg; have GE176 := gs_ hg; have NB174_176 := nl_ hg BK174; have NB176_174 := nr_ hg BK174; have NB175_176 := nl_ hg BK175; have NB176_175 := nr_ hg BK175; replace BK174 := kb_ BK174 hb; replace BK175 := kb_ BK175 hb; replace HB := Aside0.mk (below_step oB hb); clear hb hbox hg; have hnb8 := NB174_175.out; have hnc8 := NB175_174.out; have hnb9 := NB174_176.out; have hnc9 := NB176_174.out; obtain ⟨⟨_, _, _, _, _, _⟩, _, _, _, _, _, _⟩ := z6 BK174; have hnb11 := NB176_175.out; have hnc11 := NB175_176.out; obtain ⟨⟨_, _, _, _, _, _⟩, _, _, _, _, _, _⟩ := z6 BK176) | ((with_reducible refine gate_callee (f := 77) rfl ?_); refine gl_ 15 Try.func77 (laws_toByteS.calls k _ _ l0_3 t177 _ ?side1 HC0_3.out A2.out) ?_; (case side1 => exact Kd.C_below HR0_3.out oB); rintro e w13 ⟨v178, rfl, ho0, hb⟩; refine ⟨_, rfl, ?_⟩; have HO179 := Aside0.mk (Kd.R_lower ho0 (below_size oB)); replace BK174 := Aside0.mk (blk_below (g := gb174) (o := .cells #[.int .i64 a0_0, .int .i64 a0_1, .int .i64 a0_2, .slice A0_3 l0_3.length c0_3, .slice A0_4 l0_4.length c0_4, .slice A0_5 l0_5.length c0_5] 39 (0, 0)) (by (with_reducible repeat (first | refine blk_drewN ?_ _ | refine blk_drew ?_ | refine blk_alloc ?_ _)); refine blk_far ?_ NB174_176.out _; (with_reducible repeat (first | refine blk_drewN ?_ _ | refine blk_drew ?_ | refine blk_alloc ?_ _)); refine blk_far ?_ NB174_176.out _; (with_reducible repeat (first | refine blk_drewN ?_ _ | refine blk_drew ?_ | refine blk_alloc ?_ _)); refine blk_far ?_ NB174_176.out _; (with_reducible repeat (first | refine blk_drewN ?_ _ | refine blk_drew ?_ | refine blk_alloc ?_ _)); exact BK174.out) hb); replace BK175 := Aside0.mk (blk_below (g := gb175) (o := .cells #[.int .i64 0, .int .i64 0, .int .i64 0, .slice none 0 0, .slice none 0 0, .slice none 0 0] 45 (0, 0)) (by (with_reducible repeat (first | refine blk_drewN ?_ _ | refine blk_drew ?_ | refine blk_alloc ?_ _)); refine blk_far ?_ NB175_176.out _; (with_reducible repeat (first | refine blk_drewN ?_ _ | refine blk_drew ?_ | refine blk_alloc ?_ _)); refine blk_far ?_ NB175_176.out _; (with_reducible repeat (first | refine blk_drewN ?_ _ | refine blk_drew ?_ | refine blk_alloc ?_ _)); refine blk_far ?_ NB175_176.out _; (with_reducible repeat (first | refine blk_drewN ?_ _ | refine blk_drew ?_ | refine blk_alloc ?_ _)); exact BK175.out) hb); replace BK176 := Aside0.mk (blk_below (g := gb176) (o := .cells #[.int .i64 a0_0, .int .i64 a0_1, .int .i64 a0_2, .slice none 0 0, .slice none 0 0, .slice none 0 0] 45 (0, 0)) (by (with_reducible repeat (first | refine blk_drewN ?_ _ | refine blk_drew ?_ | refine blk_alloc ?_ _)); refine blk_put (cs := #[.int .i64 a0_0, .int .i64 a0_1, .int .i64 0, .slice none 0 0, .slice none 0 0, .slice none 0 0]) ?_ 2 _ rfl; (with_reducible repeat (first | refine blk_drewN ?_ _ | refine blk_drew ?_ | refine blk_alloc ?_ _)); refine blk_put (cs := #[.int .i64 a0_0, .int .i64 0, .int .i64 0, .slice none 0 0, .slice none 0 0, .slice none 0 0]) ?_ 1 _ rfl; (with_reducible repeat (first | refine blk_drewN ?_ _ | refine blk_drew ?_ | refine blk_alloc ?_ _)); refine blk_put (cs := #[.int .i64 0, .int .i64 0, .int .i64 0, .slice none 0 0, .slice none 0 0, .slice none 0 0]) ?_ 0 _ rfl; (with_reducible repeat (first | refine blk_drewN ?_ _ | refine blk_drew ?_ | refine blk_alloc ?_ _)); exact BK176.out) hb); replace HB := Aside0.mk (below_step oB hb); obtain ⟨Ao14, co14, eo14⟩ := Kd.R_slice HO179.out; subst eo14; obtain ⟨⟨_, _, _, _, _, _⟩, _, _, _, _, _, _⟩ := z6 BK176; obtain ⟨⟨_, _, _, _, _, _⟩, _, _, _, _, _, _⟩ := z6 BK174) | ((with_reducible refine gate_callee (f := 78) rfl ?_); refine gl_ 19 Try.func78 (laws_toEntS.calls k _ _ l0_4 t180 _ ?side1 HC0_4.out A3.out) ?_; (case side1 => exact Kd.C_below HR0_4.out oB); rintro e w17 ⟨v181, rfl, ho0, hb⟩; refine ⟨_, rfl, ?_⟩; have HO182 := Aside0.mk (Kd.R_lower ho0 (below_size oB)); replace HO179 := Aside0.mk (Kd.R_below (by (with_reducible repeat (first | apply Kd.R_alloc | apply Kd.R_drewN | apply Kd.R_drew)); exact (Kd.R_mono (Kd.R_far (p := ⟨gb176, 3, none⟩) (Kd.R_types HO179.out BK176.out (by decide)) (fun _ hk => hk.2) (.slice Ao14 t177.length co14)) (fun _ h_ => h_.1))) hb); replace BK174 := Aside0.mk (blk_below (g := gb174) (o := .cells #[.int .i64 a0_0, .int .i64 a0_1, .int .i64 a0_2, .slice A0_3 l0_3.length c0_3, .slice A0_4 l0_4.length c0_4, .slice A0_5 l0_5.length c0_5] 39 (0, 0)) (by (with_reducible repeat (first | refine blk_drewN ?_ _ | refine blk_drew ?_ | refine blk_alloc ?_ _)); refine blk_far ?_ NB174_176.out _; (with_reducible repeat (first | refine blk_drewN ?_ _ | refine blk_drew ?_ | refine blk_alloc ?_ _)); exact BK174.out) hb); replace BK175 := Aside0.mk (blk_below (g := gb175) (o := .cells #[.int .i64 0, .int .i64 0, .int .i64 0, .slice none 0 0, .slice none 0 0, .slice none 0 0] 45 (0, 0)) (by (with_reducible repeat (first | refine blk_drewN ?_ _ | refine blk_drew ?_ | refine blk_alloc ?_ _)); refine blk_far ?_ NB175_176.out _; (with_reducible repeat (first | refine blk_drewN ?_ _ | refine blk_drew ?_ | refine blk_alloc ?_ _)); exact BK175.out) hb); replace BK176 := Aside0.mk (blk_below (g := gb176) (o := .cells #[.int .i64 a0_0, .int .i64 a0_1, .int .i64 a0_2, .slice Ao14 t177.length co14, .slice none 0 0, .slice none 0 0] 45 (0, 0)) (by (with_reducible repeat (first | refine blk_drewN ?_ _ | refine blk_drew ?_ | refine blk_alloc ?_ _)); refine blk_put (cs := #[.int .i64 a0_0, .int .i64 a0_1, .int .i64 a0_2, .slice none 0 0, .slice none 0 0, .slice none 0 0]) ?_ 3 _ rfl; (with_reducible repeat (first | refine blk_drewN ?_ _ | refine blk_drew ?_ | refine blk_alloc ?_ _)); exact BK176.out) hb); replace HB := Aside0.mk (below_step oB hb); (try clear hk); obtain ⟨Ao18, co18, eo18⟩ := Kd.R_slice HO182.out; subst eo18; obtain ⟨⟨_, _, _, _, _, _⟩, _, _, _, _, _, _⟩ := z6 BK176; obtain ⟨⟨_, _, _, _, _, _⟩, _, _, _, _, _, _⟩ := z6 BK174) | ((with_reducible refine gate_callee (f := 79) rfl ?_); refine gl_ 23 Try.func79 (laws_toAttrS.calls k _ _ l0_5 t183 _ ?side1 HC0_5.out A4.out) ?_; (case side1 => exact Kd.C_below HR0_5.out oB); rintro e w21 ⟨v184, rfl, ho0, hb⟩; refine ⟨_, rfl, ?_⟩; have HO185 := Aside0.mk (Kd.R_lower ho0 (below_size oB)); replace HO179 := Aside0.mk (Kd.R_below (by (with_reducible repeat (first | apply Kd.R_alloc | apply Kd.R_drewN | apply Kd.R_drew)); exact (Kd.R_mono (Kd.R_far (p := ⟨gb176, 4, none⟩) (Kd.R_types HO179.out BK176.out (by decide)) (fun _ hk => hk.2) (.slice Ao18 t180.length co18)) (fun _ h_ => h_.1))) hb); replace HO182 := Aside0.mk (Kd.R_below (by (with_reducible repeat (first | apply Kd.R_alloc | apply Kd.R_drewN | apply Kd.R_drew)); exact (Kd.R_mono (Kd.R_far (p := ⟨gb176, 4, none⟩) (Kd.R_types HO182.out BK176.out (by decide)) (fun _ hk => hk.2) (.slice Ao18 t180.length co18)) (fun _ h_ => h_.1))) hb); replace BK174 := Aside0.mk (blk_below (g := gb174) (o := .cells #[.int .i64 a0_0, .int .i64 a0_1, .int .i64 a0_2, .slice A0_3 l0_3.length c0_3, .slice A0_4 l0_4.length c0_4, .slice A0_5 l0_5.length c0_5] 39 (0, 0)) (by (with_reducible repeat (first | refine blk_drewN ?_ _ | refine blk_drew ?_ | refine blk_alloc ?_ _)); refine blk_far ?_ NB174_176.out _; (with_reducible repeat (first | refine blk_drewN ?_ _ | refine blk_drew ?_ | refine blk_alloc ?_ _)); exact BK174.out) hb); replace BK175 := Aside0.mk (blk_below (g := gb175) (o := .cells #[.int .i64 0, .int .i64 0, .int .i64 0, .slice none 0 0, .slice none 0 0, .slice none 0 0] 45 (0, 0)) (by (with_reducible repeat (first | refine blk_drewN ?_ _ | refine blk_drew ?_ | refine blk_alloc ?_ _)); refine blk_far ?_ NB175_176.out _; (with_reducible repeat (first | refine blk_drewN ?_ _ | refine blk_drew ?_ | refine blk_alloc ?_ _)); exact BK175.out) hb); replace BK176 := Aside0.mk (blk_below (g := gb176) (o := .cells #[.int .i64 a0_0, .int .i64 a0_1, .int .i64 a0_2, .slice Ao14 t177.length co14, .slice Ao18 t180.length co18, .slice none 0 0] 45 (0, 0)) (by (with_reducible repeat (first | refine blk_drewN ?_ _ | refine blk_drew ?_ | refine blk_alloc ?_ _)); refine blk_put (cs := #[.int .i64 a0_0, .int .i64 a0_1, .int .i64 a0_2, .slice Ao14 t177.length co14, .slice none 0 0, .slice none 0 0]) ?_ 4 _ rfl; (with_reducible repeat (first | refine blk_drewN ?_ _ | refine blk_drew ?_ | refine blk_alloc ?_ _)); exact BK176.out) hb); replace HB := Aside0.mk (below_step oB hb); (try clear hk); obtain ⟨Ao22, co22, eo22⟩ := Kd.R_slice HO185.out; subst eo22; obtain ⟨⟨_, _, _, _, _, _⟩, _, _, _, _, _, _⟩ := z6 BK176; obtain ⟨⟨_, _, _, _, _, _⟩, _, _, _, _, _, _⟩ := z6 BK175))
 refine bodyPost_ret (results_cell_row rfl _ _ gb175 45 #[.int .i64 a0_0, .int .i64 a0_1, .int .i64 a0_2, .slice Ao14 t177.length co14, .slice Ao18 t180.length co18, .slice Ao22 t183.length co22] (0, 0) _ rfl (by (with_reducible repeat (first | refine blk_drewN ?_ _ | refine blk_drew ?_ | refine blk_alloc ?_ _)); refine blk_put (cs := #[.int .i64 a0_0, .int .i64 a0_1, .int .i64 a0_2, .slice Ao14 t177.length co14, .slice Ao18 t180.length co18, .slice none 0 0]) ?_ 5 _ rfl; (with_reducible repeat (first | refine blk_drewN ?_ _ | refine blk_drew ?_ | refine blk_alloc ?_ _)); refine blk_put (cs := #[.int .i64 a0_0, .int .i64 a0_1, .int .i64 a0_2, .slice Ao14 t177.length co14, .slice none 0 0, .slice none 0 0]) ?_ 4 _ rfl; (with_reducible repeat (first | refine blk_drewN ?_ _ | refine blk_drew ?_ | refine blk_alloc ?_ _)); refine blk_put (cs := #[.int .i64 a0_0, .int .i64 a0_1, .int .i64 a0_2, .slice none 0 0, .slice none 0 0, .slice none 0 0]) ?_ 3 _ rfl; (with_reducible repeat (first | refine blk_drewN ?_ _ | refine blk_drew ?_ | refine blk_alloc ?_ _)); refine blk_put (cs := #[.int .i64 a0_0, .int .i64 a0_1, .int .i64 0, .slice none 0 0, .slice none 0 0, .slice none 0 0]) ?_ 2 _ rfl; (with_reducible repeat (first | refine blk_drewN ?_ _ | refine blk_drew ?_ | refine blk_alloc ?_ _)); refine blk_put (cs := #[.int .i64 a0_0, .int .i64 0, .int .i64 0, .slice none 0 0, .slice none 0 0, .slice none 0 0]) ?_ 1 _ rfl; (with_reducible repeat (first | refine blk_drewN ?_ _ | refine blk_drew ?_ | refine blk_alloc ?_ _)); refine blk_put (cs := #[.int .i64 0, .int .i64 0, .int .i64 0, .slice none 0 0, .slice none 0 0, .slice none 0 0]) ?_ 0 _ rfl; (with_reducible repeat (first | refine blk_drewN ?_ _ | refine blk_drew ?_ | refine blk_alloc ?_ _)); refine blk_far ?_ NB175_176.out _; (with_reducible repeat (first | refine blk_drewN ?_ _ | refine blk_drew ?_ | refine blk_alloc ?_ _)); exact BK175.out) Try.underlying45 rfl (by kernel_rfl)) rfl ?_
 exact ⟨_, _, _, oE, by (with_reducible repeat (first | apply Kd.R_alloc | apply Kd.R_drewN | apply Kd.R_drew)); exact Kd.R_mono (Kd.R_far (p := ⟨gb175, 5, none⟩) (Kd.R_far (p := ⟨gb175, 4, none⟩) (Kd.R_far (p := ⟨gb175, 3, none⟩) (Kd.R_far (p := ⟨gb175, 2, none⟩) (Kd.R_far (p := ⟨gb175, 1, none⟩) (Kd.R_far (p := ⟨gb175, 0, none⟩) (Kd.R_far (p := ⟨gb176, 5, none⟩) (Kd.R_types (Kd.R_types HO179.out BK176.out (by decide)) BK175.out (by decide)) (fun _ hk => hk.1.2) (.slice Ao22 t183.length co22)) (fun _ hk => hk.2) (.int .i64 a0_0)) (fun _ hk => hk.2) (.int .i64 a0_1)) (fun _ hk => hk.2) (.int .i64 a0_2)) (fun _ hk => hk.2) (.slice Ao14 t177.length co14)) (fun _ hk => hk.2) (.slice Ao18 t180.length co18)) (fun _ hk => hk.2) (.slice Ao22 t183.length co22)) (fun _ hk => trivial), by (with_reducible repeat (first | apply Kd.R_alloc | apply Kd.R_drewN | apply Kd.R_drew)); exact Kd.R_mono (Kd.R_far (p := ⟨gb175, 5, none⟩) (Kd.R_far (p := ⟨gb175, 4, none⟩) (Kd.R_far (p := ⟨gb175, 3, none⟩) (Kd.R_far (p := ⟨gb175, 2, none⟩) (Kd.R_far (p := ⟨gb175, 1, none⟩) (Kd.R_far (p := ⟨gb175, 0, none⟩) (Kd.R_far (p := ⟨gb176, 5, none⟩) (Kd.R_types (Kd.R_types HO182.out BK176.out (by decide)) BK175.out (by decide)) (fun _ hk => hk.1.2) (.slice Ao22 t183.length co22)) (fun _ hk => hk.2) (.int .i64 a0_0)) (fun _ hk => hk.2) (.int .i64 a0_1)) (fun _ hk => hk.2) (.int .i64 a0_2)) (fun _ hk => hk.2) (.slice Ao14 t177.length co14)) (fun _ hk => hk.2) (.slice Ao18 t180.length co18)) (fun _ hk => hk.2) (.slice Ao22 t183.length co22)) (fun _ hk => trivial), by (with_reducible repeat (first | apply Kd.R_alloc | apply Kd.R_drewN | apply Kd.R_drew)); exact Kd.R_mono (Kd.R_far (p := ⟨gb175, 5, none⟩) (Kd.R_far (p := ⟨gb175, 4, none⟩) (Kd.R_far (p := ⟨gb175, 3, none⟩) (Kd.R_far (p := ⟨gb175, 2, none⟩) (Kd.R_far (p := ⟨gb175, 1, none⟩) (Kd.R_far (p := ⟨gb175, 0, none⟩) (Kd.R_far (p := ⟨gb176, 5, none⟩) (Kd.R_types (Kd.R_types HO185.out BK176.out (by decide)) BK175.out (by decide)) (fun _ hk => hk.1.2) (.slice Ao22 t183.length co22)) (fun _ hk => hk.2) (.int .i64 a0_0)) (fun _ hk => hk.2) (.int .i64 a0_1)) (fun _ hk => hk.2) (.int .i64 a0_2)) (fun _ hk => hk.2) (.slice Ao14 t177.length co14)) (fun _ hk => hk.2) (.slice Ao18 t180.length co18)) (fun _ hk => hk.2) (.slice Ao22 t183.length co22)) (fun _ hk => trivial), oB⟩

/-! ### laws_toInodeS: function 86 -/
def laws_toInodeS.l0 : Nat → List (S39) → List (S45) → Int → Option ((List (S45)))
 | 0, _, _, _ => none
 | k + 1, x0, x3, x4 => if x4 < (x0.length : Int) then (if 0 ≤ x4 then ((laws_toInode.f k ((rd_T39 x0 x4).f0) ((rd_T39 x0 x4).f1) ((rd_T39 x0 x4).f2) ((rd_T39 x0 x4).f3) ((rd_T39 x0 x4).f4) ((rd_T39 x0 x4).f5)).bind fun bt190 => (if x4 < (x3.length : Int) then (laws_toInodeS.l0 k x0 (x3.set (x4 : Int).toNat (⟨bt190.1, bt190.2.1, bt190.2.2.1, bt190.2.2.2.1, bt190.2.2.2.2.1, bt190.2.2.2.2.2⟩ : S45)) (wrap64 (x4 + 1))) else (none))) else (none)) else (some x3)
def laws_toInodeS.f (k : Nat) (l0 : List (S39)) : Option ((List (S45))) := if 0 ≤ (l0.length : Int) then (if ((l0.length : Int) : Int).toNat ≤ 2932031007402 then (laws_toInodeS.l0 k l0 (List.replicate ((l0.length : Int) : Int).toNat z45) 0) else (none)) else (none)
set_option maxHeartbeats 8000000 in
set_option maxRecDepth 100000 in
theorem laws_toInodeS.calls (k : Nat) (A0 : Option Addr) (c0 : Nat) (l0 : List (S39)) (r : List (S45)) (w : World) (hr0 : Kd.C k39 w A0 l0.length l0) (hc0 : l0.length ≤ c0) (h : laws_toInodeS.f k l0 = some r) :
  Calls Try.prog 86 #[.slice A0 l0.length c0] w fun e w' => ∃ v0_ : Value, e = .returned (v0_) ∧ Kd.S k45 45 w' w.heap.size (fun _ => True) v0_ r ∧ Below w.heap.size w w' := by
 have hu39 := Try.underlying39
 have hu45 := Try.underlying45
 have HR0 := Aside0.mk hr0
 have HC0 := Aside0.mk hc0
 clear hr0 hc0
 have HB := Aside0.mk (Below.refl w.heap.size w)
 unfold laws_toInodeS.f at h
 have H := h
 clear h
 by_cases c2 : 0 ≤ (l0.length : Int)
 ·rw [if_pos c2] at H
  have c2b0 := eq_true c2
  have c2b1 : decide (0 ≤ (l0.length : Int)) = true := decide_eq_true c2
  clear c2
  by_cases c3 : ((l0.length : Int) : Int).toNat ≤ 2932031007402
  ·rw [if_pos c3] at H
   have c3b0 := eq_true c3
   have c3b1 : decide (((l0.length : Int) : Int).toNat ≤ 2932031007402) = true := decide_eq_true c3
   clear c3
   obtain ⟨y186, hy186⟩ : ∃ y_ : List (S45), y_ = (List.replicate ((l0.length : Int) : Int).toNat z45) := ⟨_, rfl⟩
   replace H : (laws_toInodeS.l0 k l0 y186 0) = some r := by first | (rw [hy186]; with_reducible exact H) | (have H2_ := (Option.bind_some _ _).symm.trans H; rw [hy186]; with_reducible exact H2_) | (have H2_ := (Option.bind_some _ _).symm.trans H; with_reducible exact H2_) | with_reducible exact H | (rw [hy186]; exact H) | exact H
   have Ny186 := Aside0.mk hy186
   clear hy186
   have H' := Aside0.mk H
   clear H
   go_enter Try.func86, Try.ntmps86
   go_wp2_with (first | ((with_reducible refine gate_dst (N := 7) rfl ?_); refine Kd.S_make k45 _ 45 rfl (N := 7) rfl 28 _ _ rfl (l0.length : Int) rfl rfl Try.underlying28 (.agg #[(.int .i64 0), (.int .i64 0), (.int .i64 0), (.slice none 0 0), (.slice none 0 0), (.slice none 0 0)]) 96 info45 rfl (by decide) (by omega) z45 (ok := fun _ => True) (okp := fun _ => True) (k45_mkM _ _ _ z45 (Kd.R_nil _ _ _ _ _) (Kd.R_nil _ _ _ _ _) (Kd.R_nil _ _ _ _ _)) (fun _ hk => hk) trivial oa (Nat.le_trans (Nat.mul_le_mul_right _ (oa : (l0.length : Int).toNat ≤ 2932031007402)) (by omega)) (Below.refl _ _) (Nat.le_refl _) ?_; intro v187 w4 ho5 hb hg_ hnew_; clear hg_ hnew_; (first | rw [← Ny186.out] at ho5 | (simp only [Int.reduceToNat] at ho5; rw [← Ny186.out] at ho5)); have HO188 := Aside0.mk (Kd.S_lower ho5 (below_size oB)); replace HB := Aside0.mk (below_step oB hb); clear hb ho5))
   go_loopg [4] k (fun kq v4 w' => ∃ (x3_1 : List (S45)) (x4_1 : Int), v4 = .int .i64 x4_1 ∧ Aside0 (laws_toInodeS.l0 kq l0 x3_1 x4_1 = some r) ∧ Aside0 (kq ≤ k) ∧ Aside0 (Kd.S k45 45 w' w.heap.size (fun _ => True) v187 x3_1) ∧ Aside0 (Below w.heap.size w w'))
   case atStart => exact ⟨(y186), (0), oS, H', ⟨Nat.le_refl _⟩, ⟨by (with_reducible repeat (first | apply Kd.S_alloc | apply Kd.S_drewN | apply Kd.S_drew)); exact HO188.out⟩, ⟨oB⟩⟩
   case round =>
    clear H'
    try clear c2
    try clear c2b0
    try clear c2b1
    try clear c3
    obtain ⟨x3_1, x4_1, rfl, HA, HK1, HO_3, HB⟩ := hrel
    cases gk with
    | zero => exact absurd HA.out (by simp [laws_toInodeS.l0])
    | succ k1 =>
     have H := HA.out
     clear HA
     simp only [laws_toInodeS.l0] at H
     replace H := itD H
     rcases H with ⟨c6b0, H⟩ | ⟨c6b0, H⟩
     ·replace H := itD H
      rcases H with ⟨c7b0, H⟩ | ⟨c7b0, H⟩
      ·replace H := bA H
       obtain ⟨⟨t190, t191, t192, t193, t196, t199⟩, A8, H⟩ := H
       try dsimp only at H
       replace H := itD H
       rcases H with ⟨c9b0, H⟩ | ⟨c9b0, H⟩
       ·obtain ⟨y202, hy202⟩ : ∃ y_ : List (S45), y_ = (x3_1.set (x4_1 : Int).toNat (⟨t190, t191, t192, t193, t196, t199⟩ : S45)) := ⟨_, rfl⟩
        replace H : (laws_toInodeS.l0 k1 l0 y202 (wrap64 (x4_1 + 1))) = some r := by first | (rw [hy202]; with_reducible exact H) | (have H2_ := (Option.bind_some _ _).symm.trans H; rw [hy202]; with_reducible exact H2_) | (have H2_ := (Option.bind_some _ _).symm.trans H; with_reducible exact H2_) | with_reducible exact H | (rw [hy202]; exact H) | exact H
        have Ny202 := Aside0.mk hy202
        clear hy202
        have H' := Aside0.mk H
        clear H
        have p189 : (0 ≤ (x4_1 : Int)) = True := oT
        have q189 : (x4_1 < (l0.length : Int)) = True := oT
        obtain ⟨ad189, A189_3, c189_3, A189_4, c189_4, A189_5, c189_5, e189, hx189_0, hx189_1, hx189_2, hx189_3, hx189_4, hx189_5, hl189_3, hi189_3, hl189_4, hi189_4, hl189_5, hi189_5⟩ := at_T39 HR0.out x4_1 oa oa
        cases e189
        replace hx189_0 := cB HB hx189_0
        replace hx189_1 := cB HB hx189_1
        replace hx189_2 := cB HB hx189_2
        replace hx189_3 := cB HB hx189_3
        replace hx189_4 := cB HB hx189_4
        replace hx189_5 := cB HB hx189_5
        have HR189_3 := Aside0.mk hi189_3
        have HC189_3 := Aside0.mk hl189_3
        clear hi189_3 hl189_3
        have HR189_4 := Aside0.mk hi189_4
        have HC189_4 := Aside0.mk hl189_4
        clear hi189_4 hl189_4
        have HR189_5 := Aside0.mk hi189_5
        have HC189_5 := Aside0.mk hl189_5
        clear hi189_5 hl189_5
        go_wp2_with (first | ((with_reducible refine gate_callee (f := 30) rfl ?_); refine gl_ 20 Try.func30 (laws_toInode.calls k1 ((rd_T39 l0 x4_1).f0) ((rd_T39 l0 x4_1).f1) ((rd_T39 l0 x4_1).f2) _ _ ((rd_T39 l0 x4_1).f3) _ _ ((rd_T39 l0 x4_1).f4) _ _ ((rd_T39 l0 x4_1).f5) t190 t191 t192 t193 t196 t199 _ (kC HR189_3) HC189_3.out (kC HR189_4) HC189_4.out (kC HR189_5) HC189_5.out A8.out) ?_; rintro e w11 ⟨v194, v197, v200, rfl, ho0, ho1, ho2, hb⟩; refine ⟨_, rfl, ?_⟩; have HO195 := Aside0.mk (Kd.R_lower ho0 (below_size oB)); have HO198 := Aside0.mk (Kd.R_lower ho1 (below_size oB)); have HO201 := Aside0.mk (Kd.R_lower ho2 (below_size oB)); replace HO_3 := Aside0.mk (Kd.S_mono (Kd.S_told (Kd.S_told (Kd.S_told (Kd.S_old (by (with_reducible repeat (first | apply Kd.S_alloc | apply Kd.S_drewN | apply Kd.S_drew)); exact HO_3.out) hb) (Kd.R_base ho0)) (Kd.R_base ho1)) (Kd.R_base ho2)) (fun _ h_ => h_.1)); replace HB := Aside0.mk (below_step oB hb); (try clear hk); (try clear ho1); (try clear ho2); have p10 : 0 ≤ (x4_1 : Int) := oa; have q10 : (x4_1 : Int) < ((x3_1.length : Int) : Int) := oa; obtain ⟨go10, co10, eo10, gb10, gl10, cl10, HG10⟩ := Kd.S_form HO_3.out (by omega); (first | cases eo10 | (injection eo10 with ea_ en_ ec_; (first | subst ea_ | (injection ea_ with ea_; subst ea_)); subst ec_; clear en_)); have GB10 := Aside0.mk gb10; have GG10 := Aside0.mk HG10; clear gb10 gl10 HG10; obtain ⟨_, ce10, hcl10, hM10, hcc10, hfr10, _, _⟩ := Kd.S_elem HO_3.out z45 (x4_1 : Int) p10 q10; obtain ⟨ve10_3, ve10_4, ve10_5, rfl, ge10_3, ge10_4, ge10_5⟩ := k45_openM hM10; have hx10_0 : w11.cell? ⟨go10, (x4_1 : Int).toNat * 6, none⟩ = some (.int .i64 ((rd_T45 x3_1 x4_1).f0)) := hcc10 0 _ rfl; have hx10_1 : w11.cell? ⟨go10, (x4_1 : Int).toNat * 6 + 1, none⟩ = some (.int .i64 ((rd_T45 x3_1 x4_1).f1)) := hcc10 1 _ rfl; have hx10_2 : w11.cell? ⟨go10, (x4_1 : Int).toNat * 6 + 2, none⟩ = some (.int .i64 ((rd_T45 x3_1 x4_1).f2)) := hcc10 2 _ rfl; have hx10_3 : w11.cell? ⟨go10, (x4_1 : Int).toNat * 6 + 3, none⟩ = some (ve10_3) := hcc10 3 _ rfl; have hx10_4 : w11.cell? ⟨go10, (x4_1 : Int).toNat * 6 + 4, none⟩ = some (ve10_4) := hcc10 4 _ rfl; have hx10_5 : w11.cell? ⟨go10, (x4_1 : Int).toNat * 6 + 5, none⟩ = some (ve10_5) := hcc10 5 _ rfl; have hf10_0 : w11.frozen? ⟨go10, (x4_1 : Int).toNat * 6, none⟩ = false := hfr10 0; have hf10_1 : w11.frozen? ⟨go10, (x4_1 : Int).toNat * 6 + 1, none⟩ = false := hfr10 1; have hf10_2 : w11.frozen? ⟨go10, (x4_1 : Int).toNat * 6 + 2, none⟩ = false := hfr10 2; have hf10_3 : w11.frozen? ⟨go10, (x4_1 : Int).toNat * 6 + 3, none⟩ = false := hfr10 3; have hf10_4 : w11.frozen? ⟨go10, (x4_1 : Int).toNat * 6 + 4, none⟩ = false := hfr10 4; have hf10_5 : w11.frozen? ⟨go10, (x4_1 : Int).toNat * 6 + 5, none⟩ = false := hfr10 5; clear hcl10 hcc10 hfr10 hM10; replace p10 := eq_true p10; replace q10 := eq_true q10; have n_ := Aside0.mk (Kd.S_mono (ok' := (fun k_ => some k_ ≠ (v194 : Value).ownBlock ∧ some k_ ≠ (v197 : Value).ownBlock ∧ some k_ ≠ (v200 : Value).ownBlock)) HO_3.out (fun k_ hk => ⟨hk.1.1.2, ⟨hk.1.2, hk.2⟩⟩)); clear HO_3; have HO_3 := n_; clear n_; have HX12 := Aside0.mk (show Kd.S k45 45 w11 w.heap.size (fun k_ => ((fun _ => True)) k_ ∧ ¬ ((fun k_ => some k_ = (v194 : Value).ownBlock ∨ some k_ = (v197 : Value).ownBlock ∨ some k_ = (v200 : Value).ownBlock)) k_) (.slice (some ⟨go10, 0, none⟩) x3_1.length co10) x3_1 from (by (with_reducible repeat (first | apply Kd.S_alloc | apply Kd.S_drewN | apply Kd.S_drew)); exact Kd.S_mono HO_3.out (fun k_ hk => ⟨trivial, fun e_ => e_.elim (fun h_ => hk.1 h_) (fun h_ => h_.elim (fun h_ => hk.2.1 h_) (fun h_ => hk.2.2 h_))⟩))); obtain ⟨oki12, ce12, hcl12, hM12, hcc12, hfr12, hoki12, hH12⟩ := Kd.S_elem HX12.out z45 (x4_1 : Int) oa (by have h_ : (x4_1 : Int) < ((x3_1.length : Int) : Int) := oa; first | exact h_ | (have e_ := (Kd.S_reads' HO_3.out).1; omega) | simpa using h_); obtain ⟨ve12_3, ve12_4, ve12_5, rfl, ge12_3, ge12_4, ge12_5⟩ := k45_openM hM12; have HP12 := Kd.S_seg hH12 oa (by have h_ : (x4_1 : Int) < ((x3_1.length : Int) : Int) := oa; first | exact h_ | (have e_ := (Kd.S_reads' HO_3.out).1; omega) | simpa using h_) (seg := [.int .i64 t190, .int .i64 t191, .int .i64 t192, v194, v197, v200]) (j := 0) (show 6 ≤ 6 from by decide) (x' := (⟨t190, t191, t192, t193, t196, t199⟩ : S45)) (k45_mkM _ _ _ (⟨t190, t191, t192, t193, t196, t199⟩ : S45) (Kd.R_mono (Kd.R_tight rfl (Kd.R_mono (ok' := fun k_ => ((fun _ => True)) k_ ∧ k_ ≠ go10) (Kd.R_apart' (HO195.out) (Kd.S_typed HO_3.out) (by decide)) (fun k_ hk => ⟨trivial, fun e_ => (hk.2) (by rw [e_]; rfl)⟩))) (fun _ h_ => Or.inr (Or.inl h_))) (Kd.R_mono (Kd.R_tight rfl (Kd.R_mono (ok' := fun k_ => ((fun _ => True)) k_ ∧ k_ ≠ go10) (Kd.R_apart' (HO198.out) (Kd.S_typed HO_3.out) (by decide)) (fun k_ hk => ⟨trivial, fun e_ => (hk.2) (by rw [e_]; rfl)⟩))) (fun _ h_ => Or.inr (Or.inr (Or.inl h_)))) (Kd.R_mono (Kd.R_tight rfl (Kd.R_mono (ok' := fun k_ => ((fun _ => True)) k_ ∧ k_ ≠ go10) (Kd.R_apart' (HO201.out) (Kd.S_typed HO_3.out) (by decide)) (fun k_ hk => ⟨trivial, fun e_ => (hk.2) (by rw [e_]; rfl)⟩))) (fun _ h_ => Or.inr (Or.inr (Or.inr (h_)))))) (fun _ hk => hk) (fun k_ hk_ => hk_.elim (fun h_ => ((Kd.R_mono (ok' := fun k_ => ((fun _ => True)) k_ ∧ k_ ≠ go10) (Kd.R_apart' (HO195.out) (Kd.S_typed HO_3.out) (by decide)) (fun k_ hk => ⟨trivial, fun e_ => (hk.2) (by rw [e_]; rfl)⟩))).1 k_ h_.symm) (fun h_ => h_.elim (fun h_ => ((Kd.R_mono (ok' := fun k_ => ((fun _ => True)) k_ ∧ k_ ≠ go10) (Kd.R_apart' (HO198.out) (Kd.S_typed HO_3.out) (by decide)) (fun k_ hk => ⟨trivial, fun e_ => (hk.2) (by rw [e_]; rfl)⟩))).1 k_ h_.symm) (fun h_ => ((Kd.R_mono (ok' := fun k_ => ((fun _ => True)) k_ ∧ k_ ≠ go10) (Kd.R_apart' (HO201.out) (Kd.S_typed HO_3.out) (by decide)) (fun k_ hk => ⟨trivial, fun e_ => (hk.2) (by rw [e_]; rfl)⟩))).1 k_ h_.symm))); have hx12_0 := hcc12 0 _ rfl; (try simp only [show (k45).sz = 6 from rfl, Nat.mul_one, Nat.add_zero] at hx12_0); have hf12_0 := hfr12 0; (try simp only [show (k45).sz = 6 from rfl, Nat.mul_one, Nat.add_zero] at hf12_0); have hx12_1 := hcc12 1 _ rfl; (try simp only [show (k45).sz = 6 from rfl, Nat.mul_one, Nat.add_zero] at hx12_1); have hf12_1 := hfr12 1; (try simp only [show (k45).sz = 6 from rfl, Nat.mul_one, Nat.add_zero] at hf12_1); have hx12_2 := hcc12 2 _ rfl; (try simp only [show (k45).sz = 6 from rfl, Nat.mul_one, Nat.add_zero] at hx12_2); have hf12_2 := hfr12 2; (try simp only [show (k45).sz = 6 from rfl, Nat.mul_one, Nat.add_zero] at hf12_2); have hx12_3 := hcc12 3 _ rfl; (try simp only [show (k45).sz = 6 from rfl, Nat.mul_one, Nat.add_zero] at hx12_3); have hf12_3 := hfr12 3; (try simp only [show (k45).sz = 6 from rfl, Nat.mul_one, Nat.add_zero] at hf12_3); have hx12_4 := hcc12 4 _ rfl; (try simp only [show (k45).sz = 6 from rfl, Nat.mul_one, Nat.add_zero] at hx12_4); have hf12_4 := hfr12 4; (try simp only [show (k45).sz = 6 from rfl, Nat.mul_one, Nat.add_zero] at hf12_4); have hx12_5 := hcc12 5 _ rfl; (try simp only [show (k45).sz = 6 from rfl, Nat.mul_one, Nat.add_zero] at hx12_5); have hf12_5 := hfr12 5; (try simp only [show (k45).sz = 6 from rfl, Nat.mul_one, Nat.add_zero] at hf12_5); clear hcl12 hcc12 hfr12 hM12 hoki12 hH12) | ((with_reducible refine gate_store (t := 45) (p := 21) rfl ?_); refine store_event (t := 45) (p := 21) (v := ?vo_w13) (w1 := ((((((w11.setCell ⟨go10, (x4_1 : Int).toNat * 6, none⟩ (.int .i64 t190)).setCell ⟨go10, (x4_1 : Int).toNat * 6 + 1, none⟩ (.int .i64 t191)).setCell ⟨go10, (x4_1 : Int).toNat * 6 + 2, none⟩ (.int .i64 t192)).setCell ⟨go10, (x4_1 : Int).toNat * 6 + 3, none⟩ (v194)).setCell ⟨go10, (x4_1 : Int).toNat * 6 + 4, none⟩ (v197)).setCell ⟨go10, (x4_1 : Int).toNat * 6 + 5, none⟩ (v200))) ?hg ?ho ?hn ?hr ?_; (case ho => rfl); (case hg => rfl); (case hn => rfl); (case hr => have hs_v194 := fun (a_ : Addr) (m_ : Go.Mode) (W_ : World) => run_store Try.prog W_ a_ v194 m_ (by obtain ⟨A_, c_, e_⟩ := Kd.R_slice HO195.out; rw [e_]; rfl); have hs_v197 := fun (a_ : Addr) (m_ : Go.Mode) (W_ : World) => run_store Try.prog W_ a_ v197 m_ (by obtain ⟨A_, c_, e_⟩ := Kd.R_slice HO198.out; rw [e_]; rfl); have hs_v200 := fun (a_ : Addr) (m_ : Go.Mode) (W_ : World) => run_store Try.prog W_ a_ v200 m_ (by obtain ⟨A_, c_, e_⟩ := Kd.R_slice HO201.out; rw [e_]; rfl); first | (go_simp; done) | (go_simp; rfl)); intro w13 hw; have hg : w11.grownBy w13 (some go10) := (by rw [hw]; exact HP12.2); have hp_ : Kd.S k45 45 w13 w.heap.size (fun _ => True) (.slice (some ⟨go10, 0, none⟩) x3_1.length co10) y202 := (by rw [hw, Ny202.out]; exact HP12.1); clear HP12; replace HO_3 := Aside0.mk (hp_); replace HB := Aside0.mk ((by rw [hw]; exact below_set (below_set (below_set (below_set (below_set (below_set (HB.out) GB10.out) GB10.out) GB10.out) GB10.out) GB10.out) GB10.out : Below w.heap.size w w13)); clear HO195; clear HO198; clear HO201; clear hg hw hp_))
        go_roundg k1
        case measure => have := HK1.out; omega
        case rel => exact ⟨(y202), (wrap64 (x4_1 + 1)), oS, H', ⟨by have := HK1.out; omega⟩, ⟨by (with_reducible repeat (first | apply Kd.S_alloc | apply Kd.S_drewN | apply Kd.S_drew)); exact HO_3.out⟩, ⟨oB⟩⟩
       ·cases H
      ·cases H
     ·obtain rfl := Option.some.inj H
      go_wp2
      go_ret
      exact ⟨_, oE, by (with_reducible repeat (first | apply Kd.S_alloc | apply Kd.S_drewN | apply Kd.S_drew)); exact HO_3.out, oB⟩
  ·rw [if_neg c3] at H
   exact absurd H (by simp)
 ·rw [if_neg c2] at H
  exact absurd H (by simp)

/-! ### laws_toTab: function 35 -/
def laws_toTab.f (k : Nat) (l0_0 : List (S39)) (a0_1 : Int) : Option ((List (S45)) × Int) := (laws_toInodeS.f k l0_0).bind fun t206 => (some (t206, a0_1))
set_option maxHeartbeats 8000000 in
set_option maxRecDepth 100000 in
theorem laws_toTab.calls (k : Nat) (A0_0 : Option Addr) (c0_0 : Nat) (l0_0 : List (S39)) (a0_1 : Int) (r1 : List (S45)) (r2 : Int) (w : World) (hr0_0 : Kd.C k39 w A0_0 l0_0.length l0_0) (hc0_0 : l0_0.length ≤ c0_0) (h : laws_toTab.f k l0_0 a0_1 = some (r1, r2)) :
  Calls Try.prog 35 #[.agg #[.slice A0_0 l0_0.length c0_0, .int .i64 a0_1]] w fun e w' => ∃ v0_ : Value, e = .returned (.agg #[v0_, .int .i64 r2]) ∧ Kd.S k45 45 w' w.heap.size (fun _ => True) v0_ r1 ∧ Below w.heap.size w w' := by
 have hu50 := Try.underlying50
 have hu30 := Try.underlying30
 have HR0_0 := Aside0.mk hr0_0
 have HC0_0 := Aside0.mk hc0_0
 clear hr0_0 hc0_0
 have HB := Aside0.mk (Below.refl w.heap.size w)
 unfold laws_toTab.f at h
 have H := h
 clear h
 replace H := bA H
 obtain ⟨t206, A2, H⟩ := H
 try dsimp only at H
 simp only [Option.some.injEq, Prod.mk.injEq] at H
 obtain ⟨rfl, rfl⟩ := H
 go_enter Try.func35, Try.ntmps35
 go_wp2_with (first | ((with_reducible refine gate_dst (N := 1) rfl ?_); refine bx_ 1 #[.slice A0_0 l0_0.length c0_0, .int .i64 a0_1] 50 ?_; intro gb203 hg w3 hbox hb; have BK203 := Aside0.mk (hbox); have GW203 := gs_ hg; have GE203 := gs_ hg; replace HB := Aside0.mk (below_step oB hb); clear hb hbox hg) | ((with_reducible refine gate_dst (N := 2) rfl ?_); refine bx_ 2 #[.slice none 0 0, .int .i64 0] 30 ?_; intro gb204 hg w4 hbox hb; have BK204 := Aside0.mk (hbox); have GW204 := gs_ hg; have GE204 := gs_ hg; have NB203_204 := nl_ hg BK203; have NB204_203 := nr_ hg BK203; replace BK203 := kb_ BK203 hb; replace HB := Aside0.mk (below_step oB hb); clear hb hbox hg) | ((with_reducible refine gate_dst (N := 3) rfl ?_); refine bx_ 3 #[.slice none 0 0, .int .i64 0] 30 ?_; intro gb205 hg w5 hbox hb; have BK205 := Aside0.mk (hbox); have GW205 := gs_ hg; have GE205 := gs_ hg; have NB203_205 := nl_ hg BK203; have NB205_203 := nr_ hg BK203; have NB204_205 := nl_ hg BK204; have NB205_204 := nr_ hg BK204; replace BK203 := kb_ BK203 hb; replace BK204 := kb_ BK204 hb; replace HB := Aside0.mk (below_step oB hb); clear hb hbox hg; have hnb6 := NB203_204.out; have hnc6 := NB204_203.out; have hnb7 := NB203_205.out; have hnc7 := NB205_203.out; obtain ⟨⟨_, _⟩, _, _⟩ := z2 BK203) | ((with_reducible refine gate_callee (f := 86) rfl ?_); refine gl_ 6 Try.func86 (laws_toInodeS.calls k _ _ l0_0 t206 _ (kC HR0_0) HC0_0.out A2.out) ?_; rintro e w9 ⟨v207, rfl, ho0, hb⟩; refine ⟨_, rfl, ?_⟩; have HO208 := Aside0.mk (Kd.S_lower ho0 (below_size oB)); replace BK203 := kb_ BK203 hb; replace BK204 := kb_ BK204 hb; replace BK205 := kb_ BK205 hb; replace HB := Aside0.mk (below_step oB hb); obtain ⟨Ao10, co10, eo10⟩ := Kd.S_slice HO208.out; subst eo10; have hnb11 := NB205_204.out; have hnc11 := NB204_205.out; obtain ⟨⟨_, _⟩, _, _⟩ := z2 BK205; obtain ⟨⟨_, _⟩, _, _⟩ := z2 BK203; obtain ⟨⟨_, _⟩, _, _⟩ := z2 BK204))
 refine bodyPost_ret (results_cell_row rfl _ _ gb204 30 #[.slice Ao10 t206.length co10, .int .i64 a0_1] (0, 0) _ rfl (by (with_reducible repeat (first | refine blk_drewN ?_ _ | refine blk_drew ?_ | refine blk_alloc ?_ _)); refine blk_put (cs := #[.slice Ao10 t206.length co10, .int .i64 0]) ?_ 1 _ rfl; (with_reducible repeat (first | refine blk_drewN ?_ _ | refine blk_drew ?_ | refine blk_alloc ?_ _)); refine blk_put (cs := #[.slice none 0 0, .int .i64 0]) ?_ 0 _ rfl; (with_reducible repeat (first | refine blk_drewN ?_ _ | refine blk_drew ?_ | refine blk_alloc ?_ _)); refine blk_far ?_ NB204_205.out _; (with_reducible repeat (first | refine blk_drewN ?_ _ | refine blk_drew ?_ | refine blk_alloc ?_ _)); refine blk_far ?_ NB204_205.out _; (with_reducible repeat (first | refine blk_drewN ?_ _ | refine blk_drew ?_ | refine blk_alloc ?_ _)); exact BK204.out) Try.underlying30 rfl (by kernel_rfl)) rfl ?_
 exact ⟨_, oE, by (with_reducible repeat (first | apply Kd.S_alloc | apply Kd.S_drewN | apply Kd.S_drew)); exact Kd.S_mono (Kd.S_far (p := ⟨gb204, 1, none⟩) (Kd.S_far (p := ⟨gb204, 0, none⟩) (Kd.S_far (p := ⟨gb205, 1, none⟩) (Kd.S_far (p := ⟨gb205, 0, none⟩) (Kd.S_types (Kd.S_types HO208.out BK205.out (by decide)) BK204.out (by decide)) (fun _ hk => hk.1.2) (.slice Ao10 t206.length co10)) (fun _ hk => hk.1.2) (.int .i64 a0_1)) (fun _ hk => hk.2) (.slice Ao10 t206.length co10)) (fun _ hk => hk.2) (.int .i64 a0_1)) (fun _ hk => trivial), oB⟩

/-! ### laws_markInode: function 48 -/
def laws_markInode.f (k : Nat) (a0_0 : Int) (a0_1 : Int) (a0_2 : Int) (l0_3 : List Int) (l0_4 : List (S83)) (l0_5 : List (S85)) (a1 : Int) : Option (Int × List Int × (List (S83)) × (List (S85))) := (laws_markByteS.f k l0_3 a1).bind fun bt210 => ((laws_markEntS.f k l0_4 bt210.1).bind fun bt212 => ((laws_markAttrS.f k l0_5 bt212.1).bind fun bt214 => (some (bt214.1, bt210.2, bt212.2, bt214.2))))
set_option maxHeartbeats 8000000 in
set_option maxRecDepth 100000 in
theorem laws_markInode.calls (k : Nat) (a0_0 : Int) (a0_1 : Int) (a0_2 : Int) (P0_3_ : Nat → Prop) (u9000_ : Value) (l0_3 : List Int) (P0_4_ : Nat → Prop) (u9001_ : Value) (l0_4 : List (S83)) (P0_5_ : Nat → Prop) (u9002_ : Value) (l0_5 : List (S85)) (a1 : Int) (r1 : Int) (r2 : List Int) (r3 : List (S83)) (r4 : List (S85)) (w0 w : World) (hB : Below w0.heap.size w0 w) (ho0_3 : Kd.R (Kd.int .u8) 5 w w0.heap.size P0_3_ u9000_ l0_3) (ho0_4 : Kd.R k83 83 w w0.heap.size P0_4_ u9001_ l0_4) (ho0_5 : Kd.R k85 85 w w0.heap.size P0_5_ u9002_ l0_5) (h : laws_markInode.f k a0_0 a0_1 a0_2 l0_3 l0_4 l0_5 a1 = some (r1, r2, r3, r4)) :
  Calls Try.prog 48 #[.agg #[.int .i64 a0_0, .int .i64 a0_1, .int .i64 a0_2, u9000_, u9001_, u9002_], .int .i64 a1] w fun e w' => e = .returned (.int .i64 r1) ∧ Kd.R (Kd.int .u8) 5 w' w0.heap.size (fun k_ => ((P0_3_ k_ ∨ P0_4_ k_ ∨ P0_5_ k_) ∨ w.heap.size ≤ k_)) u9000_ r2 ∧ Kd.R k83 83 w' w0.heap.size (fun k_ => ((P0_3_ k_ ∨ P0_4_ k_ ∨ P0_5_ k_) ∨ w.heap.size ≤ k_)) u9001_ r3 ∧ Kd.R k85 85 w' w0.heap.size (fun k_ => ((P0_3_ k_ ∨ P0_4_ k_ ∨ P0_5_ k_) ∨ w.heap.size ≤ k_)) u9002_ r4 ∧ Below w0.heap.size w0 w' ∧ Kept w w' (fun k_ => P0_3_ k_ ∨ P0_4_ k_ ∨ P0_5_ k_) := by
 have hu45 := Try.underlying45
 have HO0_3 := Aside0.mk (show Kd.R (Kd.int .u8) 5 w w0.heap.size (fun k_ => ((P0_3_ k_ ∨ P0_4_ k_ ∨ P0_5_ k_) ∨ w.heap.size ≤ k_)) u9000_ l0_3 from Kd.R_mono ho0_3 (fun k_ hk => (.inl (.inl hk))))
 have HO0_4 := Aside0.mk (show Kd.R k83 83 w w0.heap.size (fun k_ => ((P0_3_ k_ ∨ P0_4_ k_ ∨ P0_5_ k_) ∨ w.heap.size ≤ k_)) u9001_ l0_4 from Kd.R_mono ho0_4 (fun k_ hk => (.inl (.inr (.inl hk)))))
 have HO0_5 := Aside0.mk (show Kd.R k85 85 w w0.heap.size (fun k_ => ((P0_3_ k_ ∨ P0_4_ k_ ∨ P0_5_ k_) ∨ w.heap.size ≤ k_)) u9002_ l0_5 from Kd.R_mono ho0_5 (fun k_ hk => (.inl (.inr (.inr hk)))))
 have HK := Aside0.mk (Kept.refl w (fun k_ => P0_3_ k_ ∨ P0_4_ k_ ∨ P0_5_ k_))
 have HW0 := Aside0.mk hB.size
 have HB := Aside0.mk hB
 clear hB
 unfold laws_markInode.f at h
 have H := h
 clear h
 replace H := bA H
 obtain ⟨⟨t210, t211⟩, A3, H⟩ := H
 try dsimp only at H
 replace H := bA H
 obtain ⟨⟨t212, t213⟩, A4, H⟩ := H
 try dsimp only at H
 replace H := bA H
 obtain ⟨⟨t214, t215⟩, A5, H⟩ := H
 try dsimp only at H
 simp only [Option.some.injEq, Prod.mk.injEq] at H
 obtain ⟨rfl, rfl, rfl, rfl⟩ := H
 obtain ⟨Ao6, co6, eo6⟩ := Kd.R_slice HO0_3.out
 subst eo6
 obtain ⟨Ao7, co7, eo7⟩ := Kd.R_slice HO0_4.out
 subst eo7
 obtain ⟨Ao8, co8, eo8⟩ := Kd.R_slice HO0_5.out
 subst eo8
 go_enter Try.func48, Try.ntmps48
 go_wp2_with (first | ((with_reducible refine gate_dst (N := 2) rfl ?_); refine bx_ 2 #[.int .i64 a0_0, .int .i64 a0_1, .int .i64 a0_2, .slice Ao6 l0_3.length co6, .slice Ao7 l0_4.length co7, .slice Ao8 l0_5.length co8] 45 ?_; intro gb209 hg w9 hbox hb; have BK209 := Aside0.mk (hbox); have GW209 := Aside0.mk ((by rw [hg]; exact (by first | exact HK.out.1 | exact (show Kept w _ (fun k_ => P0_3_ k_ ∨ P0_4_ k_ ∨ P0_5_ k_) from oK).1) : w.heap.size ≤ gb209)); have GE209 := Aside0.mk ((by rw [hg]; exact (below_size oB) : w0.heap.size ≤ gb209)); replace HO0_3 := kr_ HO0_3 hb; replace HO0_4 := kr_ HO0_4 hb; replace HO0_5 := kr_ HO0_5 hb; replace HK := Aside0.mk (Kept.below (S := (fun k_ => P0_3_ k_ ∨ P0_4_ k_ ∨ P0_5_ k_)) oK hb); replace HB := Aside0.mk (below_step oB hb); clear hb hbox hg; obtain ⟨⟨_, _, _, _, _, _⟩, _, _, _, _, _, _⟩ := z6 BK209) | ((with_reducible refine gate_callee (f := 49) rfl ?_); refine gl_ 8 Try.func49 (laws_markByteS.calls k (fun k_ => some k_ = (.slice Ao6 l0_3.length co6 : Value).ownBlock) (.slice Ao6 l0_3.length co6) l0_3 a1 t210 t211 w0 _ ?side1 ?side2 A3.out) ?_; (case side1 => repeat (first | (with_reducible first | exact HB.out | apply below_alloc | apply pw_below_drewN | apply below_drew1 | refine below_set ?_ GE209.out) | exact HB.out)); (case side2 => exact Kd.R_tight rfl HO0_3.out); rintro e w11 ⟨rfl, hy0, hb, hkp⟩; refine ⟨_, rfl, ?_⟩; replace HO0_4 := Aside0.mk (Kd.R_mono (ok' := fun k_ => ((P0_3_ k_ ∨ P0_4_ k_ ∨ P0_5_ k_) ∨ w.heap.size ≤ k_)) (Kd.R_keptB ((Kd.R_apart' HO0_4.out (Kd.R_typed HO0_3.out) (by decide))) hkp (fun k_ hk_ hs_ => (hk_.2) hs_)) (fun k_ hk_ => hk_.1.1)); replace HO0_5 := Aside0.mk (Kd.R_mono (ok' := fun k_ => ((P0_3_ k_ ∨ P0_4_ k_ ∨ P0_5_ k_) ∨ w.heap.size ≤ k_)) (Kd.R_keptB ((Kd.R_apart' HO0_5.out (Kd.R_typed HO0_3.out) (by decide))) hkp (fun k_ hk_ hs_ => (hk_.2) hs_)) (fun k_ hk_ => hk_.1.1)); replace BK209 := Aside0.mk (blk_kept (oF BK209) hkp (fun hs_ => (fun e_ => (Kd.R_ne HO0_3.out BK209.out (by decide)) e_) hs_)); replace HK := Aside0.mk (Kept.then_ (S := (fun k_ => P0_3_ k_ ∨ P0_4_ k_ ∨ P0_5_ k_)) oK hkp (fun k_ hs_ => (fun e_ => (HO0_3.out.1 k_ e_.symm)) hs_)); replace HO0_3 := Aside0.mk (Kd.R_reok rfl hy0 (fun k_ e_ => HO0_3.out.1 k_ e_)); replace HB := Aside0.mk (hb); (try clear hkp); (try clear hy0); obtain ⟨⟨_, _, _, _, _, _⟩, _, _, _, _, _, _⟩ := z6 BK209) | ((with_reducible refine gate_callee (f := 99) rfl ?_); refine gl_ 12 Try.func99 (laws_markEntS.calls k (fun k_ => some k_ = (.slice Ao7 l0_4.length co7 : Value).ownBlock) (.slice Ao7 l0_4.length co7) l0_4 t210 t212 t213 w0 _ ?side1 ?side2 A4.out) ?_; (case side1 => repeat (first | (with_reducible first | exact HB.out | apply below_alloc | apply pw_below_drewN | apply below_drew1 | refine below_set ?_ GE209.out) | exact HB.out)); (case side2 => exact Kd.R_tight rfl HO0_4.out); rintro e w13 ⟨rfl, hy0, hb, hkp⟩; refine ⟨_, rfl, ?_⟩; replace HO0_3 := Aside0.mk (Kd.R_mono (ok' := fun k_ => ((P0_3_ k_ ∨ P0_4_ k_ ∨ P0_5_ k_) ∨ w.heap.size ≤ k_)) (Kd.R_keptB ((Kd.R_apart' HO0_3.out (Kd.R_typed HO0_4.out) (by decide))) hkp (fun k_ hk_ hs_ => (hk_.2) hs_)) (fun k_ hk_ => hk_.1.1)); replace HO0_5 := Aside0.mk (Kd.R_mono (ok' := fun k_ => ((P0_3_ k_ ∨ P0_4_ k_ ∨ P0_5_ k_) ∨ w.heap.size ≤ k_)) (Kd.R_keptB ((Kd.R_apart' HO0_5.out (Kd.R_typed HO0_4.out) (by decide))) hkp (fun k_ hk_ hs_ => (hk_.2) hs_)) (fun k_ hk_ => hk_.1.1)); replace BK209 := Aside0.mk (blk_kept (oF BK209) hkp (fun hs_ => (fun e_ => (Kd.R_ne HO0_4.out BK209.out (by decide)) e_) hs_)); replace HK := Aside0.mk (Kept.then_ (S := (fun k_ => P0_3_ k_ ∨ P0_4_ k_ ∨ P0_5_ k_)) oK hkp (fun k_ hs_ => (fun e_ => (HO0_4.out.1 k_ e_.symm)) hs_)); replace HO0_4 := Aside0.mk (Kd.R_reok rfl hy0 (fun k_ e_ => HO0_4.out.1 k_ e_)); replace HB := Aside0.mk (hb); (try clear hkp); (try clear hy0); obtain ⟨⟨_, _, _, _, _, _⟩, _, _, _, _, _, _⟩ := z6 BK209) | ((with_reducible refine gate_callee (f := 100) rfl ?_); refine gl_ 16 Try.func100 (laws_markAttrS.calls k (fun k_ => some k_ = (.slice Ao8 l0_5.length co8 : Value).ownBlock) (.slice Ao8 l0_5.length co8) l0_5 t212 t214 t215 w0 _ ?side1 ?side2 A5.out) ?_; (case side1 => repeat (first | (with_reducible first | exact HB.out | apply below_alloc | apply pw_below_drewN | apply below_drew1 | refine below_set ?_ GE209.out) | exact HB.out)); (case side2 => exact Kd.R_tight rfl HO0_5.out); rintro e w15 ⟨rfl, hy0, hb, hkp⟩; refine ⟨_, rfl, ?_⟩; replace HO0_3 := Aside0.mk (Kd.R_mono (ok' := fun k_ => ((P0_3_ k_ ∨ P0_4_ k_ ∨ P0_5_ k_) ∨ w.heap.size ≤ k_)) (Kd.R_keptB ((Kd.R_apart' HO0_3.out (Kd.R_typed HO0_5.out) (by decide))) hkp (fun k_ hk_ hs_ => (hk_.2) hs_)) (fun k_ hk_ => hk_.1.1)); replace HO0_4 := Aside0.mk (Kd.R_mono (ok' := fun k_ => ((P0_3_ k_ ∨ P0_4_ k_ ∨ P0_5_ k_) ∨ w.heap.size ≤ k_)) (Kd.R_keptB ((Kd.R_apart' HO0_4.out (Kd.R_typed HO0_5.out) (by decide))) hkp (fun k_ hk_ hs_ => (hk_.2) hs_)) (fun k_ hk_ => hk_.1.1)); replace BK209 := Aside0.mk (blk_kept (oF BK209) hkp (fun hs_ => (fun e_ => (Kd.R_ne HO0_5.out BK209.out (by decide)) e_) hs_)); replace HK := Aside0.mk (Kept.then_ (S := (fun k_ => P0_3_ k_ ∨ P0_4_ k_ ∨ P0_5_ k_)) oK hkp (fun k_ hs_ => (fun e_ => (HO0_5.out.1 k_ e_.symm)) hs_)); replace HO0_5 := Aside0.mk (Kd.R_reok rfl hy0 (fun k_ e_ => HO0_5.out.1 k_ e_)); replace HB := Aside0.mk (hb); (try clear hkp); (try clear hy0)))
 go_ret
 exact ⟨oE, oR HO0_3, oR HO0_4, oR HO0_5, oB, oK⟩

/-! ### spec_l4At: function 101 -/
def spec_l4At.l0 : Nat → Int → Int → List (S45) → Int → Option (Int)
 | 0, _, _, _, _ => none
 | k + 1, x1, x5, x217000, x217001 => if x5 < (x217000.length : Int) then (if 0 ≤ x5 then (if ((rd_T45 x217000 x5).f0) = x1 then (some x5) else (spec_l4At.l0 k x1 (wrap64 (x5 + 1)) x217000 x217001)) else (none)) else (some (-1))
def spec_l4At.f (k : Nat) (l0_0 : List (S45)) (a0_1 : Int) (a1 : Int) : Option (Int) := spec_l4At.l0 k a1 0 l0_0 a0_1
set_option maxHeartbeats 8000000 in
set_option maxRecDepth 100000 in
theorem spec_l4At.calls (k : Nat) (A0_0 : Option Addr) (c0_0 : Nat) (l0_0 : List (S45)) (a0_1 : Int) (a1 : Int) (r : Int) (w : World) (hr0_0 : Kd.C k45 w A0_0 l0_0.length l0_0) (hc0_0 : l0_0.length ≤ c0_0) (h : spec_l4At.f k l0_0 a0_1 a1 = some r) :
  Calls Try.prog 101 #[.agg #[.slice A0_0 l0_0.length c0_0, .int .i64 a0_1], .int .i64 a1] w fun e w' => e = .returned (.int .i64 r) ∧ Below w.heap.size w w' := by
 have hu30 := Try.underlying30
 have HR0_0 := Aside0.mk hr0_0
 have HC0_0 := Aside0.mk hc0_0
 clear hr0_0 hc0_0
 have HB := Aside0.mk (Below.refl w.heap.size w)
 unfold spec_l4At.f at h
 have H := h
 clear h
 have H' := Aside0.mk H
 clear H
 go_enter Try.func101, Try.ntmps101
 go_wp2_with (first | ((with_reducible refine gate_dst (N := 2) rfl ?_); refine bx_ 2 #[.slice A0_0 l0_0.length c0_0, .int .i64 a0_1] 30 ?_; intro gb216 hg w3 hbox hb; have BK216 := Aside0.mk (hbox); have GW216 := gs_ hg; have GE216 := gs_ hg; replace HB := Aside0.mk (below_step oB hb); clear hb hbox hg))
 go_loopg [5] k (fun kq v5 w' => ∃ (x5_1 : Int), v5 = .int .i64 x5_1 ∧ Aside0 (spec_l4At.l0 kq a1 x5_1 l0_0 a0_1 = some r) ∧ Aside0 (kq ≤ k) ∧ Aside0 (w'.heap[gb216]? = some (.cells #[(.slice A0_0 l0_0.length c0_0), .int .i64 a0_1] 30 (0, 0))) ∧ Aside0 (Below w.heap.size w w'))
 case atStart => exact ⟨(0), oS, H', ⟨Nat.le_refl _⟩, ⟨oF BK216⟩, ⟨oB⟩⟩
 case round =>
  clear H'
  obtain ⟨x5_1, rfl, HA, HK1, BK216, HB⟩ := hrel
  cases gk with
  | zero => exact absurd HA.out (by simp [spec_l4At.l0])
  | succ k1 =>
   have H := HA.out
   clear HA
   simp only [spec_l4At.l0] at H
   replace H := itD H
   rcases H with ⟨c4b0, H⟩ | ⟨c4b0, H⟩
   ·replace H := itD H
    rcases H with ⟨c5b0, H⟩ | ⟨c5b0, H⟩
    ·by_cases c6 : ((rd_T45 l0_0 x5_1).f0) = a1
     ·rw [if_pos c6] at H
      have c6b0 : (((rd_T45 l0_0 x5_1).f0) == a1) = true := beq_iff_eq.mpr c6
      have c6b1 : (((rd_T45 l0_0 x5_1).f0) != a1) = false := bne_eq_false_iff_eq.mpr c6
      clear c6
      obtain rfl := Option.some.inj H
      obtain ⟨⟨_, _⟩, _, _⟩ := z2 BK216
      have p217 : (0 ≤ (x5_1 : Int)) = True := oT
      have q217 : (x5_1 < (l0_0.length : Int)) = True := oT
      obtain ⟨ad217, A217_3, c217_3, A217_4, c217_4, A217_5, c217_5, e217, hx217_0, hx217_1, hx217_2, hx217_3, hx217_4, hx217_5, hl217_3, hi217_3, hl217_4, hi217_4, hl217_5, hi217_5⟩ := at_T45 HR0_0.out x5_1 oa oa
      cases e217
      replace hx217_0 := cB HB hx217_0
      replace hx217_1 := cB HB hx217_1
      replace hx217_2 := cB HB hx217_2
      replace hx217_3 := cB HB hx217_3
      replace hx217_4 := cB HB hx217_4
      replace hx217_5 := cB HB hx217_5
      have HR217_3 := Aside0.mk hi217_3
      have HC217_3 := Aside0.mk hl217_3
      clear hi217_3 hl217_3
      have HR217_4 := Aside0.mk hi217_4
      have HC217_4 := Aside0.mk hl217_4
      clear hi217_4 hl217_4
      have HR217_5 := Aside0.mk hi217_5
      have HC217_5 := Aside0.mk hl217_5
      clear hi217_5 hl217_5
      go_wp2
      go_ret
      exact ⟨oE, oB⟩
     ·rw [if_neg c6] at H
      have c6b0 : (((rd_T45 l0_0 x5_1).f0) == a1) = false := beq_eq_false_iff_ne.mpr c6
      have c6b1 : (((rd_T45 l0_0 x5_1).f0) != a1) = true := bne_iff_ne.mpr c6
      have H' := Aside0.mk H
      clear H
      obtain ⟨⟨_, _⟩, _, _⟩ := z2 BK216
      have p217 : (0 ≤ (x5_1 : Int)) = True := oT
      have q217 : (x5_1 < (l0_0.length : Int)) = True := oT
      obtain ⟨ad217, A217_3, c217_3, A217_4, c217_4, A217_5, c217_5, e217, hx217_0, hx217_1, hx217_2, hx217_3, hx217_4, hx217_5, hl217_3, hi217_3, hl217_4, hi217_4, hl217_5, hi217_5⟩ := at_T45 HR0_0.out x5_1 oa oa
      cases e217
      replace hx217_0 := cB HB hx217_0
      replace hx217_1 := cB HB hx217_1
      replace hx217_2 := cB HB hx217_2
      replace hx217_3 := cB HB hx217_3
      replace hx217_4 := cB HB hx217_4
      replace hx217_5 := cB HB hx217_5
      have HR217_3 := Aside0.mk hi217_3
      have HC217_3 := Aside0.mk hl217_3
      clear hi217_3 hl217_3
      have HR217_4 := Aside0.mk hi217_4
      have HC217_4 := Aside0.mk hl217_4
      clear hi217_4 hl217_4
      have HR217_5 := Aside0.mk hi217_5
      have HC217_5 := Aside0.mk hl217_5
      clear hi217_5 hl217_5
      go_wp2
      go_roundg k1
      case measure => have := HK1.out; omega
      case rel => exact ⟨(wrap64 (x5_1 + 1)), oS, H', ⟨by have := HK1.out; omega⟩, ⟨oF BK216⟩, ⟨oB⟩⟩
    ·cases H
   ·obtain rfl := Option.some.inj H
    obtain ⟨⟨_, _⟩, _, _⟩ := z2 BK216
    go_wp2
    go_ret
    exact ⟨oE, oB⟩

/-! ### spec_l3Copy: function 102 -/
def spec_l3Copy.f (a0_0 : Int) (a0_1 : Int) (a0_2 : Int) (l0_3 : List Int) (l0_4 : List (S83)) (l0_5 : List (S85)) : Option (Int × Int × Int × List Int × (List (S83)) × (List (S85))) := (some (([] : List Int) : List Int)).bind fun y221 => (if y221.length + l0_3.length < 140737488355328 then ((some (([] : List (S83)) : List (S83))).bind fun y227 => (if y227.length + l0_4.length < 5864062014805 then ((some (([] : List (S85)) : List (S85))).bind fun y233 => (if y233.length + l0_5.length < 4398046511104 then (some (a0_0, a0_1, a0_2, (y221 ++ l0_3), (y227 ++ l0_4), (y233 ++ l0_5))) else (none))) else (none))) else (none))
set_option maxHeartbeats 8000000 in
set_option maxRecDepth 100000 in
theorem spec_l3Copy.calls (a0_0 : Int) (a0_1 : Int) (a0_2 : Int) (A0_3 : Option Addr) (c0_3 : Nat) (l0_3 : List Int) (A0_4 : Option Addr) (c0_4 : Nat) (l0_4 : List (S83)) (A0_5 : Option Addr) (c0_5 : Nat) (l0_5 : List (S85)) (r1 : Int) (r2 : Int) (r3 : Int) (r4 : List Int) (r5 : List (S83)) (r6 : List (S85)) (w : World) (hr0_3 : Kd.C (Kd.int .u8) w A0_3 l0_3.length l0_3) (hc0_3 : l0_3.length ≤ c0_3) (hr0_4 : Kd.C k83 w A0_4 l0_4.length l0_4) (hc0_4 : l0_4.length ≤ c0_4) (hr0_5 : Kd.C k85 w A0_5 l0_5.length l0_5) (hc0_5 : l0_5.length ≤ c0_5) (h : spec_l3Copy.f a0_0 a0_1 a0_2 l0_3 l0_4 l0_5 = some (r1, r2, r3, r4, r5, r6)) :
  Calls Try.prog 102 #[.agg #[.int .i64 a0_0, .int .i64 a0_1, .int .i64 a0_2, .slice A0_3 l0_3.length c0_3, .slice A0_4 l0_4.length c0_4, .slice A0_5 l0_5.length c0_5]] w fun e w' => ∃ v3_ v4_ v5_ : Value, e = .returned (.agg #[.int .i64 r1, .int .i64 r2, .int .i64 r3, v3_, v4_, v5_]) ∧ Kd.R (Kd.int .u8) 5 w' w.heap.size (fun _ => True) v3_ r4 ∧ Kd.R k83 83 w' w.heap.size (fun _ => True) v4_ r5 ∧ Kd.R k85 85 w' w.heap.size (fun _ => True) v5_ r6 ∧ Below w.heap.size w w' := by
 have hu45 := Try.underlying45
 have HR0_3 := Aside0.mk hr0_3
 have HC0_3 := Aside0.mk hc0_3
 clear hr0_3 hc0_3
 have HR0_4 := Aside0.mk hr0_4
 have HC0_4 := Aside0.mk hc0_4
 clear hr0_4 hc0_4
 have HR0_5 := Aside0.mk hr0_5
 have HC0_5 := Aside0.mk hc0_5
 clear hr0_5 hc0_5
 have HB := Aside0.mk (Below.refl w.heap.size w)
 unfold spec_l3Copy.f at h
 have H := h
 clear h
 obtain ⟨y221, hy221⟩ : ∃ y_ : List Int, y_ = (([] : List Int)) := ⟨_, rfl⟩
 replace H : (if y221.length + l0_3.length < 140737488355328 then ((some (([] : List (S83)) : List (S83))).bind fun y227 => (if y227.length + l0_4.length < 5864062014805 then ((some (([] : List (S85)) : List (S85))).bind fun y233 => (if y233.length + l0_5.length < 4398046511104 then (some (a0_0, a0_1, a0_2, (y221 ++ l0_3), (y227 ++ l0_4), (y233 ++ l0_5))) else (none))) else (none))) else (none)) = some (r1, r2, r3, r4, r5, r6) := by first | (rw [hy221]; with_reducible exact H) | (have H2_ := (Option.bind_some _ _).symm.trans H; rw [hy221]; with_reducible exact H2_) | (have H2_ := (Option.bind_some _ _).symm.trans H; with_reducible exact H2_) | with_reducible exact H | (rw [hy221]; exact H) | exact H
 have Ny221 := Aside0.mk hy221
 clear hy221
 by_cases c2 : y221.length + l0_3.length < 140737488355328
 ·rw [if_pos c2] at H
  have LMc2 := Aside0.mk c2
  clear c2
  obtain ⟨y224, hy224⟩ : ∃ y_ : List Int, y_ = (y221 ++ l0_3) := ⟨_, rfl⟩
  replace H : ((some (([] : List (S83)) : List (S83))).bind fun y227 => (if y227.length + l0_4.length < 5864062014805 then ((some (([] : List (S85)) : List (S85))).bind fun y233 => (if y233.length + l0_5.length < 4398046511104 then (some (a0_0, a0_1, a0_2, y224, (y227 ++ l0_4), (y233 ++ l0_5))) else (none))) else (none))) = some (r1, r2, r3, r4, r5, r6) := by first | (rw [hy224]; with_reducible exact H) | (have H2_ := (Option.bind_some _ _).symm.trans H; rw [hy224]; with_reducible exact H2_) | (have H2_ := (Option.bind_some _ _).symm.trans H; with_reducible exact H2_) | with_reducible exact H | (rw [hy224]; exact H) | exact H
  have Ny224 := Aside0.mk hy224
  clear hy224
  obtain ⟨y227, hy227⟩ : ∃ y_ : List (S83), y_ = (([] : List (S83))) := ⟨_, rfl⟩
  replace H : (if y227.length + l0_4.length < 5864062014805 then ((some (([] : List (S85)) : List (S85))).bind fun y233 => (if y233.length + l0_5.length < 4398046511104 then (some (a0_0, a0_1, a0_2, y224, (y227 ++ l0_4), (y233 ++ l0_5))) else (none))) else (none)) = some (r1, r2, r3, r4, r5, r6) := by first | (rw [hy227]; with_reducible exact H) | (have H2_ := (Option.bind_some _ _).symm.trans H; rw [hy227]; with_reducible exact H2_) | (have H2_ := (Option.bind_some _ _).symm.trans H; with_reducible exact H2_) | with_reducible exact H | (rw [hy227]; exact H) | exact H
  have Ny227 := Aside0.mk hy227
  clear hy227
  by_cases c3 : y227.length + l0_4.length < 5864062014805
  ·rw [if_pos c3] at H
   have LMc3 := Aside0.mk c3
   clear c3
   obtain ⟨y230, hy230⟩ : ∃ y_ : List (S83), y_ = (y227 ++ l0_4) := ⟨_, rfl⟩
   replace H : ((some (([] : List (S85)) : List (S85))).bind fun y233 => (if y233.length + l0_5.length < 4398046511104 then (some (a0_0, a0_1, a0_2, y224, y230, (y233 ++ l0_5))) else (none))) = some (r1, r2, r3, r4, r5, r6) := by first | (rw [hy230]; with_reducible exact H) | (have H2_ := (Option.bind_some _ _).symm.trans H; rw [hy230]; with_reducible exact H2_) | (have H2_ := (Option.bind_some _ _).symm.trans H; with_reducible exact H2_) | with_reducible exact H | (rw [hy230]; exact H) | exact H
   have Ny230 := Aside0.mk hy230
   clear hy230
   obtain ⟨y233, hy233⟩ : ∃ y_ : List (S85), y_ = (([] : List (S85))) := ⟨_, rfl⟩
   replace H : (if y233.length + l0_5.length < 4398046511104 then (some (a0_0, a0_1, a0_2, y224, y230, (y233 ++ l0_5))) else (none)) = some (r1, r2, r3, r4, r5, r6) := by first | (rw [hy233]; with_reducible exact H) | (have H2_ := (Option.bind_some _ _).symm.trans H; rw [hy233]; with_reducible exact H2_) | (have H2_ := (Option.bind_some _ _).symm.trans H; with_reducible exact H2_) | with_reducible exact H | (rw [hy233]; exact H) | exact H
   have Ny233 := Aside0.mk hy233
   clear hy233
   by_cases c4 : y233.length + l0_5.length < 4398046511104
   ·rw [if_pos c4] at H
    have LMc4 := Aside0.mk c4
    clear c4
    obtain ⟨y236, hy236⟩ : ∃ y_ : List (S85), y_ = (y233 ++ l0_5) := ⟨_, rfl⟩
    replace H : (some (a0_0, a0_1, a0_2, y224, y230, y236)) = some (r1, r2, r3, r4, r5, r6) := by first | (rw [hy236]; with_reducible exact H) | (have H2_ := (Option.bind_some _ _).symm.trans H; rw [hy236]; with_reducible exact H2_) | (have H2_ := (Option.bind_some _ _).symm.trans H; with_reducible exact H2_) | with_reducible exact H | (rw [hy236]; exact H) | exact H
    have Ny236 := Aside0.mk hy236
    clear hy236
    simp only [Option.some.injEq, Prod.mk.injEq] at H
    obtain ⟨rfl, rfl, rfl, rfl, rfl, rfl⟩ := H
    go_enter Try.func102, Try.ntmps102
    go_wp2_with (first | ((with_reducible refine gate_dst (N := 1) rfl ?_); refine bx_ 1 #[.int .i64 a0_0, .int .i64 a0_1, .int .i64 a0_2, .slice A0_3 l0_3.length c0_3, .slice A0_4 l0_4.length c0_4, .slice A0_5 l0_5.length c0_5] 45 ?_; intro gb218 hg w5 hbox hb; have BK218 := Aside0.mk (hbox); have GW218 := gs_ hg; have GE218 := gs_ hg; replace HB := Aside0.mk (below_step oB hb); clear hb hbox hg) | ((with_reducible refine gate_dst (N := 2) rfl ?_); refine bx_ 2 #[.int .i64 0, .int .i64 0, .int .i64 0, .slice none 0 0, .slice none 0 0, .slice none 0 0] 45 ?_; intro gb219 hg w6 hbox hb; have BK219 := Aside0.mk (hbox); have GW219 := gs_ hg; have GE219 := gs_ hg; have NB218_219 := nl_ hg BK218; have NB219_218 := nr_ hg BK218; replace BK218 := kb_ BK218 hb; replace HB := Aside0.mk (below_step oB hb); clear hb hbox hg; have hnb7 := NB218_219.out; have hnc7 := NB219_218.out; obtain ⟨⟨_, _, _, _, _, _⟩, _, _, _, _, _, _⟩ := z6 BK218) | ((with_reducible refine gate_dst (N := 3) rfl ?_); refine bx_ 3 #[.int .i64 0, .int .i64 0, .int .i64 0, .slice none 0 0, .slice none 0 0, .slice none 0 0] 45 ?_; intro gb220 hg w9 hbox hb; have BK220 := Aside0.mk (hbox); have GW220 := gs_ hg; have GE220 := gs_ hg; have NB218_220 := nl_ hg BK218; have NB220_218 := nr_ hg BK218; have NB219_220 := nl_ hg BK219; have NB220_219 := nr_ hg BK219; replace BK218 := kb_ BK218 hb; replace BK219 := kb_ BK219 hb; replace HB := Aside0.mk (below_step oB hb); clear hb hbox hg; have hnb10 := NB220_218.out; have hnc10 := NB218_220.out; have hnb11 := NB220_219.out; have hnc11 := NB219_220.out; obtain ⟨⟨_, _, _, _, _, _⟩, _, _, _, _, _, _⟩ := z6 BK220) | ((with_reducible refine gate_dst (N := 5) rfl ?_); refine Kd.R_lit (Kd.int .u8) _ 5 ?hg (N := 5) ?hd (xs := ([] : List Int)) (inner := []) (ok := fun _ => True) (okp := fun _ => True) ?hr ?hp (fun _ hk => hk) trivial (Below.refl _ _) (Nat.le_refl _) (by simp) ?_; (case hd => rfl); (case hg => rfl); (case hr => first | (go_simp; done) | (go_simp; rfl)); (case hp => exact (Reps.none _ _)); intro v222 w13 ho14 hb hg_ hnew_; clear hg_ hnew_; (first | rw [← Ny221.out] at ho14 | (simp only [Int.reduceToNat] at ho14; rw [← Ny221.out] at ho14)); have HO223 := Aside0.mk (Kd.R_lower ho14 (below_size oB)); replace BK218 := Aside0.mk (blk_below (g := gb218) (o := .cells #[.int .i64 a0_0, .int .i64 a0_1, .int .i64 a0_2, .slice A0_3 l0_3.length c0_3, .slice A0_4 l0_4.length c0_4, .slice A0_5 l0_5.length c0_5] 45 (0, 0)) (by (with_reducible repeat (first | refine blk_drewN ?_ _ | refine blk_drew ?_ | refine blk_alloc ?_ _)); refine blk_far ?_ NB218_220.out _; (with_reducible repeat (first | refine blk_drewN ?_ _ | refine blk_drew ?_ | refine blk_alloc ?_ _)); refine blk_far ?_ NB218_220.out _; (with_reducible repeat (first | refine blk_drewN ?_ _ | refine blk_drew ?_ | refine blk_alloc ?_ _)); refine blk_far ?_ NB218_220.out _; (with_reducible repeat (first | refine blk_drewN ?_ _ | refine blk_drew ?_ | refine blk_alloc ?_ _)); refine blk_far ?_ NB218_220.out _; (with_reducible repeat (first | refine blk_drewN ?_ _ | refine blk_drew ?_ | refine blk_alloc ?_ _)); refine blk_far ?_ NB218_220.out _; (with_reducible repeat (first | refine blk_drewN ?_ _ | refine blk_drew ?_ | refine blk_alloc ?_ _)); refine blk_far ?_ NB218_220.out _; (with_reducible repeat (first | refine blk_drewN ?_ _ | refine blk_drew ?_ | refine blk_alloc ?_ _)); exact BK218.out) hb); replace BK219 := Aside0.mk (blk_below (g := gb219) (o := .cells #[.int .i64 0, .int .i64 0, .int .i64 0, .slice none 0 0, .slice none 0 0, .slice none 0 0] 45 (0, 0)) (by (with_reducible repeat (first | refine blk_drewN ?_ _ | refine blk_drew ?_ | refine blk_alloc ?_ _)); refine blk_far ?_ NB219_220.out _; (with_reducible repeat (first | refine blk_drewN ?_ _ | refine blk_drew ?_ | refine blk_alloc ?_ _)); refine blk_far ?_ NB219_220.out _; (with_reducible repeat (first | refine blk_drewN ?_ _ | refine blk_drew ?_ | refine blk_alloc ?_ _)); refine blk_far ?_ NB219_220.out _; (with_reducible repeat (first | refine blk_drewN ?_ _ | refine blk_drew ?_ | refine blk_alloc ?_ _)); refine blk_far ?_ NB219_220.out _; (with_reducible repeat (first | refine blk_drewN ?_ _ | refine blk_drew ?_ | refine blk_alloc ?_ _)); refine blk_far ?_ NB219_220.out _; (with_reducible repeat (first | refine blk_drewN ?_ _ | refine blk_drew ?_ | refine blk_alloc ?_ _)); refine blk_far ?_ NB219_220.out _; (with_reducible repeat (first | refine blk_drewN ?_ _ | refine blk_drew ?_ | refine blk_alloc ?_ _)); exact BK219.out) hb); replace BK220 := Aside0.mk (blk_below (g := gb220) (o := .cells #[.int .i64 a0_0, .int .i64 a0_1, .int .i64 a0_2, .slice A0_3 l0_3.length c0_3, .slice A0_4 l0_4.length c0_4, .slice A0_5 l0_5.length c0_5] 45 (0, 0)) (by (with_reducible repeat (first | refine blk_drewN ?_ _ | refine blk_drew ?_ | refine blk_alloc ?_ _)); refine blk_put (cs := #[.int .i64 a0_0, .int .i64 a0_1, .int .i64 a0_2, .slice A0_3 l0_3.length c0_3, .slice A0_4 l0_4.length c0_4, .slice none 0 0]) ?_ 5 _ rfl; (with_reducible repeat (first | refine blk_drewN ?_ _ | refine blk_drew ?_ | refine blk_alloc ?_ _)); refine blk_put (cs := #[.int .i64 a0_0, .int .i64 a0_1, .int .i64 a0_2, .slice A0_3 l0_3.length c0_3, .slice none 0 0, .slice none 0 0]) ?_ 4 _ rfl; (with_reducible repeat (first | refine blk_drewN ?_ _ | refine blk_drew ?_ | refine blk_alloc ?_ _)); refine blk_put (cs := #[.int .i64 a0_0, .int .i64 a0_1, .int .i64 a0_2, .slice none 0 0, .slice none 0 0, .slice none 0 0]) ?_ 3 _ rfl; (with_reducible repeat (first | refine blk_drewN ?_ _ | refine blk_drew ?_ | refine blk_alloc ?_ _)); refine blk_put (cs := #[.int .i64 a0_0, .int .i64 a0_1, .int .i64 0, .slice none 0 0, .slice none 0 0, .slice none 0 0]) ?_ 2 _ rfl; (with_reducible repeat (first | refine blk_drewN ?_ _ | refine blk_drew ?_ | refine blk_alloc ?_ _)); refine blk_put (cs := #[.int .i64 a0_0, .int .i64 0, .int .i64 0, .slice none 0 0, .slice none 0 0, .slice none 0 0]) ?_ 1 _ rfl; (with_reducible repeat (first | refine blk_drewN ?_ _ | refine blk_drew ?_ | refine blk_alloc ?_ _)); refine blk_put (cs := #[.int .i64 0, .int .i64 0, .int .i64 0, .slice none 0 0, .slice none 0 0, .slice none 0 0]) ?_ 0 _ rfl; (with_reducible repeat (first | refine blk_drewN ?_ _ | refine blk_drew ?_ | refine blk_alloc ?_ _)); exact BK220.out) hb); replace HB := Aside0.mk (below_step oB hb); clear hb ho14; obtain ⟨⟨_, _, _, _, _, _⟩, _, _, _, _, _, _⟩ := z6 BK218) | ((with_reducible refine gate_builtin (b := .append) (xs := #[.tmp 5, .tmp 7]) rfl ?_); at_builtin; refine Kd.R_append_rows (Kd.int .u8) (w0 := w) w.heap.size rfl (.tmp 5) (.tmp 7) 35 5 (.int .u8 0) 1 rfl Try.underlying35 info5 rfl (by decide) (by omega) v222 y221 l0_3 _ _ _ (fun _ => True) (fun _ => False) rfl rfl ?aO ?aR (fun _ _ h => h) (fun _ h => h.elim) ?aF ?aB ?aS ?aL ?_; (case aR => repeat (first | exact (Kd.C_below HR0_3.out HB.out) | (with_reducible refine Kd.C_alloc ?_ _) | (with_reducible refine Kd.C_drewN ?_ _) | (with_reducible refine Kd.C_drew ?_))); (case aB => exact oB); (case aF => exact (fun _ _ => trivial)); (case aO => exact (oR HO223)); (case aS => exact (below_size oB)); (case aL => have := LMc2.out; omega); intro v225 w16 ho hb hg hat; rw [← Ny224.out] at ho; have HO226 := Aside0.mk (ho); replace BK218 := Aside0.mk (blk_grown (g := gb218) (o := .cells #[.int .i64 a0_0, .int .i64 a0_1, .int .i64 a0_2, .slice A0_3 l0_3.length c0_3, .slice A0_4 l0_4.length c0_4, .slice A0_5 l0_5.length c0_5] 45 (0, 0)) (oF BK218) hg (Kd.R_ne HO223.out BK218.out (by decide))); replace BK219 := Aside0.mk (blk_grown (g := gb219) (o := .cells #[.int .i64 0, .int .i64 0, .int .i64 0, .slice none 0 0, .slice none 0 0, .slice none 0 0] 45 (0, 0)) (oF BK219) hg (Kd.R_ne HO223.out BK219.out (by decide))); replace BK220 := Aside0.mk (blk_grown (g := gb220) (o := .cells #[.int .i64 a0_0, .int .i64 a0_1, .int .i64 a0_2, .slice A0_3 l0_3.length c0_3, .slice A0_4 l0_4.length c0_4, .slice A0_5 l0_5.length c0_5] 45 (0, 0)) (oF BK220) hg (Kd.R_ne HO223.out BK220.out (by decide))); replace HB := Aside0.mk (hb); clear HO223; clear ho hb hg hat; obtain ⟨Ao17, co17, eo17⟩ := Kd.R_slice HO226.out; subst eo17; obtain ⟨⟨_, _, _, _, _, _⟩, _, _, _, _, _, _⟩ := z6 BK220) | ((with_reducible refine gate_dst (N := 10) rfl ?_); refine Kd.R_lit k83 _ 83 ?hg (N := 10) ?hd (xs := ([] : List (S83))) (inner := []) (ok := fun _ => True) (okp := fun _ => True) ?hr ?hp (fun _ hk => hk) trivial (Below.refl _ _) (Nat.le_refl _) (by simp) ?_; (case hd => rfl); (case hg => rfl); (case hr => first | (go_simp; done) | (go_simp; rfl)); (case hp => exact (Reps.none _ _)); intro v228 w19 ho20 hb hg_ hnew_; clear hg_ hnew_; (first | rw [← Ny227.out] at ho20 | (simp only [Int.reduceToNat] at ho20; rw [← Ny227.out] at ho20)); have HO229 := Aside0.mk (Kd.R_lower ho20 (below_size oB)); replace HO226 := Aside0.mk (Kd.R_below (by (with_reducible repeat (first | apply Kd.R_alloc | apply Kd.R_drewN | apply Kd.R_drew)); exact (Kd.R_mono (Kd.R_far (p := ⟨gb220, 3, none⟩) (Kd.R_types HO226.out BK220.out (by decide)) (fun _ hk => hk.2) (.slice Ao17 y224.length co17)) (fun _ h_ => h_.1))) hb); replace BK218 := Aside0.mk (blk_below (g := gb218) (o := .cells #[.int .i64 a0_0, .int .i64 a0_1, .int .i64 a0_2, .slice A0_3 l0_3.length c0_3, .slice A0_4 l0_4.length c0_4, .slice A0_5 l0_5.length c0_5] 45 (0, 0)) (by (with_reducible repeat (first | refine blk_drewN ?_ _ | refine blk_drew ?_ | refine blk_alloc ?_ _)); refine blk_far ?_ NB218_220.out _; (with_reducible repeat (first | refine blk_drewN ?_ _ | refine blk_drew ?_ | refine blk_alloc ?_ _)); exact BK218.out) hb); replace BK219 := Aside0.mk (blk_below (g := gb219) (o := .cells #[.int .i64 0, .int .i64 0, .int .i64 0, .slice none 0 0, .slice none 0 0, .slice none 0 0] 45 (0, 0)) (by (with_reducible repeat (first | refine blk_drewN ?_ _ | refine blk_drew ?_ | refine blk_alloc ?_ _)); refine blk_far ?_ NB219_220.out _; (with_reducible repeat (first | refine blk_drewN ?_ _ | refine blk_drew ?_ | refine blk_alloc ?_ _)); exact BK219.out) hb); replace BK220 := Aside0.mk (blk_below (g := gb220) (o := .cells #[.int .i64 a0_0, .int .i64 a0_1, .int .i64 a0_2, .slice Ao17 y224.length co17, .slice A0_4 l0_4.length c0_4, .slice A0_5 l0_5.length c0_5] 45 (0, 0)) (by (with_reducible repeat (first | refine blk_drewN ?_ _ | refine blk_drew ?_ | refine blk_alloc ?_ _)); refine blk_put (cs := #[.int .i64 a0_0, .int .i64 a0_1, .int .i64 a0_2, .slice A0_3 l0_3.length c0_3, .slice A0_4 l0_4.length c0_4, .slice A0_5 l0_5.length c0_5]) ?_ 3 _ rfl; (with_reducible repeat (first | refine blk_drewN ?_ _ | refine blk_drew ?_ | refine blk_alloc ?_ _)); exact BK220.out) hb); replace HB := Aside0.mk (below_step oB hb); clear hb ho20; obtain ⟨⟨_, _, _, _, _, _⟩, _, _, _, _, _, _⟩ := z6 BK218) | ((with_reducible refine gate_builtin (b := .append) (xs := #[.tmp 10, .tmp 12]) rfl ?_); at_builtin; refine Kd.R_append_rows k83 (w0 := w) w.heap.size rfl (.tmp 10) (.tmp 12) 42 83 (.agg #[(.string ⟨#[]⟩), (.int .i64 0)]) 24 rfl Try.underlying42 info83 rfl (by decide) (by omega) v228 y227 l0_4 _ _ _ (fun _ => True) (fun _ => False) rfl rfl ?aO ?aR (fun _ _ h => h) (fun _ h => h.elim) ?aF ?aB ?aS ?aL ?_; (case aR => repeat (first | exact (Kd.C_below HR0_4.out HB.out) | (with_reducible refine Kd.C_alloc ?_ _) | (with_reducible refine Kd.C_drewN ?_ _) | (with_reducible refine Kd.C_drew ?_))); (case aB => exact oB); (case aF => exact (fun _ _ => trivial)); (case aO => exact (oR HO229)); (case aS => exact (below_size oB)); (case aL => have := LMc3.out; omega); intro v231 w22 ho hb hg hat; rw [← Ny230.out] at ho; have HO232 := Aside0.mk (ho); replace BK218 := Aside0.mk (blk_grown (g := gb218) (o := .cells #[.int .i64 a0_0, .int .i64 a0_1, .int .i64 a0_2, .slice A0_3 l0_3.length c0_3, .slice A0_4 l0_4.length c0_4, .slice A0_5 l0_5.length c0_5] 45 (0, 0)) (oF BK218) hg (Kd.R_ne HO229.out BK218.out (by decide))); replace BK219 := Aside0.mk (blk_grown (g := gb219) (o := .cells #[.int .i64 0, .int .i64 0, .int .i64 0, .slice none 0 0, .slice none 0 0, .slice none 0 0] 45 (0, 0)) (oF BK219) hg (Kd.R_ne HO229.out BK219.out (by decide))); replace BK220 := Aside0.mk (blk_grown (g := gb220) (o := .cells #[.int .i64 a0_0, .int .i64 a0_1, .int .i64 a0_2, .slice Ao17 y224.length co17, .slice A0_4 l0_4.length c0_4, .slice A0_5 l0_5.length c0_5] 45 (0, 0)) (oF BK220) hg (Kd.R_ne HO229.out BK220.out (by decide))); replace HO226 := Aside0.mk (Kd.R_over' (oR HO226) (Kd.R_typed (oR HO229)) (by decide) hg); replace HB := Aside0.mk (hb); clear HO229; clear ho hb hg hat; obtain ⟨Ao23, co23, eo23⟩ := Kd.R_slice HO232.out; subst eo23; obtain ⟨⟨_, _, _, _, _, _⟩, _, _, _, _, _, _⟩ := z6 BK220) | ((with_reducible refine gate_dst (N := 15) rfl ?_); refine Kd.R_lit k85 _ 85 ?hg (N := 15) ?hd (xs := ([] : List (S85))) (inner := []) (ok := fun _ => True) (okp := fun _ => True) ?hr ?hp (fun _ hk => hk) trivial (Below.refl _ _) (Nat.le_refl _) (by simp) ?_; (case hd => rfl); (case hg => rfl); (case hr => first | (go_simp; done) | (go_simp; rfl)); (case hp => exact (Reps.none _ _)); intro v234 w25 ho26 hb hg_ hnew_; clear hg_ hnew_; (first | rw [← Ny233.out] at ho26 | (simp only [Int.reduceToNat] at ho26; rw [← Ny233.out] at ho26)); have HO235 := Aside0.mk (Kd.R_lower ho26 (below_size oB)); replace HO226 := Aside0.mk (Kd.R_below (by (with_reducible repeat (first | apply Kd.R_alloc | apply Kd.R_drewN | apply Kd.R_drew)); exact (Kd.R_mono (Kd.R_far (p := ⟨gb220, 4, none⟩) (Kd.R_types HO226.out BK220.out (by decide)) (fun _ hk => hk.2) (.slice Ao23 y230.length co23)) (fun _ h_ => h_.1))) hb); replace HO232 := Aside0.mk (Kd.R_below (by (with_reducible repeat (first | apply Kd.R_alloc | apply Kd.R_drewN | apply Kd.R_drew)); exact (Kd.R_mono (Kd.R_far (p := ⟨gb220, 4, none⟩) (Kd.R_types HO232.out BK220.out (by decide)) (fun _ hk => hk.2) (.slice Ao23 y230.length co23)) (fun _ h_ => h_.1))) hb); replace BK218 := Aside0.mk (blk_below (g := gb218) (o := .cells #[.int .i64 a0_0, .int .i64 a0_1, .int .i64 a0_2, .slice A0_3 l0_3.length c0_3, .slice A0_4 l0_4.length c0_4, .slice A0_5 l0_5.length c0_5] 45 (0, 0)) (by (with_reducible repeat (first | refine blk_drewN ?_ _ | refine blk_drew ?_ | refine blk_alloc ?_ _)); refine blk_far ?_ NB218_220.out _; (with_reducible repeat (first | refine blk_drewN ?_ _ | refine blk_drew ?_ | refine blk_alloc ?_ _)); exact BK218.out) hb); replace BK219 := Aside0.mk (blk_below (g := gb219) (o := .cells #[.int .i64 0, .int .i64 0, .int .i64 0, .slice none 0 0, .slice none 0 0, .slice none 0 0] 45 (0, 0)) (by (with_reducible repeat (first | refine blk_drewN ?_ _ | refine blk_drew ?_ | refine blk_alloc ?_ _)); refine blk_far ?_ NB219_220.out _; (with_reducible repeat (first | refine blk_drewN ?_ _ | refine blk_drew ?_ | refine blk_alloc ?_ _)); exact BK219.out) hb); replace BK220 := Aside0.mk (blk_below (g := gb220) (o := .cells #[.int .i64 a0_0, .int .i64 a0_1, .int .i64 a0_2, .slice Ao17 y224.length co17, .slice Ao23 y230.length co23, .slice A0_5 l0_5.length c0_5] 45 (0, 0)) (by (with_reducible repeat (first | refine blk_drewN ?_ _ | refine blk_drew ?_ | refine blk_alloc ?_ _)); refine blk_put (cs := #[.int .i64 a0_0, .int .i64 a0_1, .int .i64 a0_2, .slice Ao17 y224.length co17, .slice A0_4 l0_4.length c0_4, .slice A0_5 l0_5.length c0_5]) ?_ 4 _ rfl; (with_reducible repeat (first | refine blk_drewN ?_ _ | refine blk_drew ?_ | refine blk_alloc ?_ _)); exact BK220.out) hb); replace HB := Aside0.mk (below_step oB hb); clear hb ho26; obtain ⟨⟨_, _, _, _, _, _⟩, _, _, _, _, _, _⟩ := z6 BK218) | ((with_reducible refine gate_builtin (b := .append) (xs := #[.tmp 15, .tmp 17]) rfl ?_); at_builtin; refine Kd.R_append_rows k85 (w0 := w) w.heap.size rfl (.tmp 15) (.tmp 17) 43 85 (.agg #[(.string ⟨#[]⟩), (.string ⟨#[]⟩)]) 32 rfl Try.underlying43 info85 rfl (by decide) (by omega) v234 y233 l0_5 _ _ _ (fun _ => True) (fun _ => False) rfl rfl ?aO ?aR (fun _ _ h => h) (fun _ h => h.elim) ?aF ?aB ?aS ?aL ?_; (case aR => repeat (first | exact (Kd.C_below HR0_5.out HB.out) | (with_reducible refine Kd.C_alloc ?_ _) | (with_reducible refine Kd.C_drewN ?_ _) | (with_reducible refine Kd.C_drew ?_))); (case aB => exact oB); (case aF => exact (fun _ _ => trivial)); (case aO => exact (oR HO235)); (case aS => exact (below_size oB)); (case aL => have := LMc4.out; omega); intro v237 w28 ho hb hg hat; rw [← Ny236.out] at ho; have HO238 := Aside0.mk (ho); replace BK218 := Aside0.mk (blk_grown (g := gb218) (o := .cells #[.int .i64 a0_0, .int .i64 a0_1, .int .i64 a0_2, .slice A0_3 l0_3.length c0_3, .slice A0_4 l0_4.length c0_4, .slice A0_5 l0_5.length c0_5] 45 (0, 0)) (oF BK218) hg (Kd.R_ne HO235.out BK218.out (by decide))); replace BK219 := Aside0.mk (blk_grown (g := gb219) (o := .cells #[.int .i64 0, .int .i64 0, .int .i64 0, .slice none 0 0, .slice none 0 0, .slice none 0 0] 45 (0, 0)) (oF BK219) hg (Kd.R_ne HO235.out BK219.out (by decide))); replace BK220 := Aside0.mk (blk_grown (g := gb220) (o := .cells #[.int .i64 a0_0, .int .i64 a0_1, .int .i64 a0_2, .slice Ao17 y224.length co17, .slice Ao23 y230.length co23, .slice A0_5 l0_5.length c0_5] 45 (0, 0)) (oF BK220) hg (Kd.R_ne HO235.out BK220.out (by decide))); replace HO226 := Aside0.mk (Kd.R_over' (oR HO226) (Kd.R_typed (oR HO235)) (by decide) hg); replace HO232 := Aside0.mk (Kd.R_over' (oR HO232) (Kd.R_typed (oR HO235)) (by decide) hg); replace HB := Aside0.mk (hb); clear HO235; clear ho hb hg hat; obtain ⟨Ao29, co29, eo29⟩ := Kd.R_slice HO238.out; subst eo29; obtain ⟨⟨_, _, _, _, _, _⟩, _, _, _, _, _, _⟩ := z6 BK220; obtain ⟨⟨_, _, _, _, _, _⟩, _, _, _, _, _, _⟩ := z6 BK219))
    refine bodyPost_ret (results_cell_row rfl _ _ gb219 45 #[.int .i64 a0_0, .int .i64 a0_1, .int .i64 a0_2, .slice Ao17 y224.length co17, .slice Ao23 y230.length co23, .slice Ao29 y236.length co29] (0, 0) _ rfl (by (with_reducible repeat (first | refine blk_drewN ?_ _ | refine blk_drew ?_ | refine blk_alloc ?_ _)); refine blk_put (cs := #[.int .i64 a0_0, .int .i64 a0_1, .int .i64 a0_2, .slice Ao17 y224.length co17, .slice Ao23 y230.length co23, .slice none 0 0]) ?_ 5 _ rfl; (with_reducible repeat (first | refine blk_drewN ?_ _ | refine blk_drew ?_ | refine blk_alloc ?_ _)); refine blk_put (cs := #[.int .i64 a0_0, .int .i64 a0_1, .int .i64 a0_2, .slice Ao17 y224.length co17, .slice none 0 0, .slice none 0 0]) ?_ 4 _ rfl; (with_reducible repeat (first | refine blk_drewN ?_ _ | refine blk_drew ?_ | refine blk_alloc ?_ _)); refine blk_put (cs := #[.int .i64 a0_0, .int .i64 a0_1, .int .i64 a0_2, .slice none 0 0, .slice none 0 0, .slice none 0 0]) ?_ 3 _ rfl; (with_reducible repeat (first | refine blk_drewN ?_ _ | refine blk_drew ?_ | refine blk_alloc ?_ _)); refine blk_put (cs := #[.int .i64 a0_0, .int .i64 a0_1, .int .i64 0, .slice none 0 0, .slice none 0 0, .slice none 0 0]) ?_ 2 _ rfl; (with_reducible repeat (first | refine blk_drewN ?_ _ | refine blk_drew ?_ | refine blk_alloc ?_ _)); refine blk_put (cs := #[.int .i64 a0_0, .int .i64 0, .int .i64 0, .slice none 0 0, .slice none 0 0, .slice none 0 0]) ?_ 1 _ rfl; (with_reducible repeat (first | refine blk_drewN ?_ _ | refine blk_drew ?_ | refine blk_alloc ?_ _)); refine blk_put (cs := #[.int .i64 0, .int .i64 0, .int .i64 0, .slice none 0 0, .slice none 0 0, .slice none 0 0]) ?_ 0 _ rfl; (with_reducible repeat (first | refine blk_drewN ?_ _ | refine blk_drew ?_ | refine blk_alloc ?_ _)); refine blk_far ?_ NB219_220.out _; (with_reducible repeat (first | refine blk_drewN ?_ _ | refine blk_drew ?_ | refine blk_alloc ?_ _)); exact BK219.out) Try.underlying45 rfl (by kernel_rfl)) rfl ?_
    exact ⟨_, _, _, oE, by (with_reducible repeat (first | apply Kd.R_alloc | apply Kd.R_drewN | apply Kd.R_drew)); exact Kd.R_mono (Kd.R_far (p := ⟨gb219, 5, none⟩) (Kd.R_far (p := ⟨gb219, 4, none⟩) (Kd.R_far (p := ⟨gb219, 3, none⟩) (Kd.R_far (p := ⟨gb219, 2, none⟩) (Kd.R_far (p := ⟨gb219, 1, none⟩) (Kd.R_far (p := ⟨gb219, 0, none⟩) (Kd.R_far (p := ⟨gb220, 5, none⟩) (Kd.R_types (Kd.R_types HO226.out BK220.out (by decide)) BK219.out (by decide)) (fun _ hk => hk.1.2) (.slice Ao29 y236.length co29)) (fun _ hk => hk.2) (.int .i64 a0_0)) (fun _ hk => hk.2) (.int .i64 a0_1)) (fun _ hk => hk.2) (.int .i64 a0_2)) (fun _ hk => hk.2) (.slice Ao17 y224.length co17)) (fun _ hk => hk.2) (.slice Ao23 y230.length co23)) (fun _ hk => hk.2) (.slice Ao29 y236.length co29)) (fun _ hk => trivial), by (with_reducible repeat (first | apply Kd.R_alloc | apply Kd.R_drewN | apply Kd.R_drew)); exact Kd.R_mono (Kd.R_far (p := ⟨gb219, 5, none⟩) (Kd.R_far (p := ⟨gb219, 4, none⟩) (Kd.R_far (p := ⟨gb219, 3, none⟩) (Kd.R_far (p := ⟨gb219, 2, none⟩) (Kd.R_far (p := ⟨gb219, 1, none⟩) (Kd.R_far (p := ⟨gb219, 0, none⟩) (Kd.R_far (p := ⟨gb220, 5, none⟩) (Kd.R_types (Kd.R_types HO232.out BK220.out (by decide)) BK219.out (by decide)) (fun _ hk => hk.1.2) (.slice Ao29 y236.length co29)) (fun _ hk => hk.2) (.int .i64 a0_0)) (fun _ hk => hk.2) (.int .i64 a0_1)) (fun _ hk => hk.2) (.int .i64 a0_2)) (fun _ hk => hk.2) (.slice Ao17 y224.length co17)) (fun _ hk => hk.2) (.slice Ao23 y230.length co23)) (fun _ hk => hk.2) (.slice Ao29 y236.length co29)) (fun _ hk => trivial), by (with_reducible repeat (first | apply Kd.R_alloc | apply Kd.R_drewN | apply Kd.R_drew)); exact Kd.R_mono (Kd.R_far (p := ⟨gb219, 5, none⟩) (Kd.R_far (p := ⟨gb219, 4, none⟩) (Kd.R_far (p := ⟨gb219, 3, none⟩) (Kd.R_far (p := ⟨gb219, 2, none⟩) (Kd.R_far (p := ⟨gb219, 1, none⟩) (Kd.R_far (p := ⟨gb219, 0, none⟩) (Kd.R_far (p := ⟨gb220, 5, none⟩) (Kd.R_types (Kd.R_types HO238.out BK220.out (by decide)) BK219.out (by decide)) (fun _ hk => hk.1.2) (.slice Ao29 y236.length co29)) (fun _ hk => hk.2) (.int .i64 a0_0)) (fun _ hk => hk.2) (.int .i64 a0_1)) (fun _ hk => hk.2) (.int .i64 a0_2)) (fun _ hk => hk.2) (.slice Ao17 y224.length co17)) (fun _ hk => hk.2) (.slice Ao23 y230.length co23)) (fun _ hk => hk.2) (.slice Ao29 y236.length co29)) (fun _ hk => trivial), oB⟩
   ·rw [if_neg c4] at H
    exact absurd H (by simp)
  ·rw [if_neg c3] at H
   exact absurd H (by simp)
 ·rw [if_neg c2] at H
  exact absurd H (by simp)

end Go.Proofs.Ytkknehgaebhbeaa.P
