/- FnFullAttrs returns true for every code: four attributes are the most, one of them can still change, and the usage is then what it was. No condition. -/
import Derived.Test.YtkcfmbggdkkfeaaGreatDoorQ
import Derived.Test.YtkcfmbggdkkfeaaGreatDoorPx0
import Derived.Test.YtkcfmbggdkkfeaaGreatDoorPx16
import Derived.Test.YtkcfmbggdkkfeaaGreatDoorPx3
set_option linter.unusedVariables false
set_option linter.unusedSimpArgs false
namespace Go.Proofs.YtkcfmbggdkkfeaaGreatDoor.Pure
open Go.RowKit Go.Proofs.YtkcfmbggdkkfeaaGreatDoor.P Go.Proofs.YtkcfmbggdkkfeaaGreatDoor.Q Go.Proofs.YtkcfmbggdkkfeaaGreatDoorW.PrintWords Go.Proofs.YtkcfmbggdkkfeaaGreatDoorW.PrintLast Go.Proofs.YtkcfmbggdkkfeaaGreatDoorW.PrintMore

theorem last_ev (l0 : List Int) (d z : List Int) (s r : Nat) (c : Int) (hs : s < 4) (hr : r < 4) (hd : d.length ≤ 100) (hz : z.length ≤ 100) (hc' : laws_at.f l0 5 = some c) (hc : Int.tmod c 4 = (r : Int)) :
    Ev (fun k => laws_FnFullAttrs.l0 k l0 true [(⟨#[97]⟩ : ByteArray), (⟨#[98]⟩ : ByteArray), (⟨#[99]⟩ : ByteArray), (⟨#[100]⟩ : ByteArray)] ((4 : Nat) : Int) (A d z s 4) 6) true := by
  have e := List.all_eq_true.1 (cE_all d z) s (List.mem_range.2 hs)
  have w := List.all_eq_true.1 (List.all_eq_true.1 (cW_all d z) s (List.mem_range.2 hs)) r (List.mem_range.2 hr)
  simp only [cE, Bool.and_eq_true, decide_eq_true_eq] at e
  simp only [cW, Bool.and_eq_true, decide_eq_true_eq] at w
  obtain ⟨⟨e1, e2⟩, e3⟩ := e
  obtain ⟨⟨⟨w1, w2⟩, w3⟩, w4⟩ := w
  have fA := fit _ _ (A_sh d z s 4 hs (by omega)) (dOk5 d z hd hz).1 e1
  have fW := fit _ _ (W_sh d z s r hs hr) (dOk5 d z hd hz).1 w1
  obtain ⟨n1, n2⟩ := nm_ok r hr
  have hrd : readyP (A d z s 4) 6 [pDir] = true := fA.r [pDir] (by simp [nOk_all.2.2.2.1])
  have hpd : pDir.size ≤ 1048576 := Nat.le_trans nOk_all.2.2.2.2 (by decide)
  have hw : setA (A d z s 4) 6 pDir (nm r) vW = (W d z s r, 6, 0) := by
    show _ = ((setA (A d z s 4) 6 pDir (nm r) vW).1, 6, 0)
    rw [← w2]
  have hu : usage (A d z s 4) ≤ 4611686018427387904 := by
    rw [A_use d z s hs]
    have : attrUse [⟨⟨#[97]⟩, vV⟩, ⟨⟨#[98]⟩, vV⟩, ⟨⟨#[99]⟩, vV⟩, ⟨⟨#[100]⟩, vV⟩] = 8 := rfl
    have h0 : attrUse [] = 0 := rfl
    simp only [usage, inoUse, List.map_cons, List.map_nil, List.sum_cons, List.sum_nil, this, h0, List.length_nil]
    omega
  have huw : usage (W d z s r) ≤ 4611686018427387904 := by rw [W_use d z s r hs hr]; exact hu
  have hue := W_use d z s r hs hr
  have hrn : rdOf ByteArray.empty [(⟨#[97]⟩ : ByteArray), (⟨#[98]⟩ : ByteArray), (⟨#[99]⟩ : ByteArray), (⟨#[100]⟩ : ByteArray)] (r : Int) = nm r := nm_rd r
  generalize A d z s 4 = TA at *
  generalize W d z s r = TW at *
  generalize nm r = n at *
  have he := impl_setA TA 6 pDir nE vV (Nat.lt_of_le_of_lt fA.l (by decide)) fA.s hpd (Nat.le_trans nOk_all.2.2.1 (by decide)) nOk_all.2.1 v_ok.1 v_ok.2.2.1 (Nat.lt_of_le_of_lt e3 (by decide)) hrd
  have hs2 := impl_setA TA 6 pDir n vW (Nat.lt_of_le_of_lt fA.l (by decide)) fA.s hpd n2 n1 v_ok.2.1 v_ok.2.2.2 (Nat.lt_of_le_of_lt e3 (by decide)) hrd
  rw [hw] at hs2
  have hg := impl_getAttr TW 6 pDir n (Nat.le_trans fW.l (by decide)) (fun x hx => (fW.s x hx).a) hpd
  have hua := impl_usage TA 6 (Nat.le_trans fA.l (by decide)) (fun x hx => ⟨(fA.s x hx).d, (fA.s x hx).t⟩) hu
  have hub := impl_usage TW 6 (Nat.le_trans fW.l (by decide)) (fun x hx => ⟨(fW.s x hx).d, (fW.s x hx).t⟩) huw
  apply evPre
  simp only [laws_FnFullAttrs.l0, hc', Option.bind_some, hc, hrn, nm_len]
  refine evN (by omega) ?_
  refine Ev.bind he ?_
  refine evP (by omega) (evP (by omega) ?_)
  refine Ev.bind hs2 ?_
  refine evP (by omega) (evP (by omega) ?_)
  refine Ev.bind hg ?_
  refine evP trivial (evP (by rw [e2]) (evP rfl (evP w3 (evP w4 (Ev.bind hub (Ev.bind hua ?_))))))
  exact evC (Ev.now _) (by rw [hue]; simp)
theorem step_ev (l0 : List Int) (T TB : List S51) (n : ByteArray) (i j : Nat) (b : Int) (hi : i < 4) (hj : j < 4) (f : Fit T) (n1 : nameOk n = true) (n2 : n.size ≤ 1048576) (hx : (statP T pDir).1.f5.length ≤ 1000)
    (hb' : laws_at.f l0 4 = some b) (hq : Int.tmod (wrap64 ((i : Int) + b)) 4 = (j : Int)) (hn : rdOf ByteArray.empty [(⟨#[97]⟩ : ByteArray), (⟨#[98]⟩ : ByteArray), (⟨#[99]⟩ : ByteArray), (⟨#[100]⟩ : ByteArray)] (j : Int) = n) (hk : setA T 6 pDir n vV = (TB, 6, 0))
    (h : Ev (fun k => laws_FnFullAttrs.l0 k l0 true [(⟨#[97]⟩ : ByteArray), (⟨#[98]⟩ : ByteArray), (⟨#[99]⟩ : ByteArray), (⟨#[100]⟩ : ByteArray)] ((i + 1 : Nat) : Int) TB 6) true) : Ev (fun k => laws_FnFullAttrs.l0 k l0 true [(⟨#[97]⟩ : ByteArray), (⟨#[98]⟩ : ByteArray), (⟨#[99]⟩ : ByteArray), (⟨#[100]⟩ : ByteArray)] ((i : Nat) : Int) T 6) true := by
  have hrd : readyP T 6 [pDir] = true := f.r [pDir] (by simp [nOk_all.2.2.2.1])
  have o1 : ((i : Nat) : Int) < 4 := by omega
  have o2 : 0 ≤ ((j : Nat) : Int) := by omega
  have o3 : ((j : Nat) : Int) < 4 := by omega
  have hs := impl_setA T 6 pDir n vV (Nat.lt_of_le_of_lt f.l (by decide)) f.s (Nat.le_trans nOk_all.2.2.2.2 (by decide)) n2 n1 v_ok.1 v_ok.2.2.1 (Nat.lt_of_le_of_lt hx (by decide)) hrd
  rw [hk] at hs
  apply evPre
  simp only [laws_FnFullAttrs.l0, hb', Option.bind_some, hq, hn, nm_len]
  rw [nxt i 4 hi (by omega)]
  exact evP o1 (evP o2 (evP o3 (Ev.bind hs (evP rfl h))))
theorem FnFullAttrs : laws_FnFullAttrs.Pure := by
  intro l0 _ hsz hb
  apply Ev.rounds
  unfold laws_FnFullAttrs.f
  have hb8 : ∀ x ∈ l0, 0 ≤ x ∧ x ≤ 255 := fun x hx => wf8 (hb x hx)
  have hl : l0.length ≤ 140737488351232 := by omega
  simp only [laws_big.f, Option.bind_some]
  refine evI' (fun _ => Ev.now _) (fun _ => ?_)
  obtain ⟨a, m, ha, ha0, ha1, hm, hg⟩ := grown_ev l0 hb8 hl
  obtain ⟨b, hb', hb0, hb1⟩ := at_ev l0 4 hb8 hl (by omega)
  obtain ⟨c, hc', hc0, hc1⟩ := at_ev l0 5 hb8 hl (by omega)
  rw [show ((4 : Nat) : Int) = 4 from rfl] at hb'
  rw [show ((5 : Nat) : Int) = 5 from rfl] at hc'
  obtain ⟨r, hr, hr4⟩ := tmod_nat c 4 hc0 (by decide)
  rw [show ((4 : Nat) : Int) = 4 from rfl] at hr
  obtain ⟨bn, rfl⟩ : ∃ n : Nat, b = n := ⟨b.toNat, by omega⟩
  refine Ev.bind hg ?_
  have hd : [a, 7].length ≤ 100 := by simp
  have hz : (List.replicate m (0 : Int) ++ [101, 110, 100]).length ≤ 100 := by simp; omega
  generalize [a, 7] = d at *
  generalize List.replicate m (0 : Int) ++ [101, 110, 100] = z at *
  have hs4 : bn % 4 < 4 := Nat.mod_lt _ (by decide)
  have key := down (n := 4) (P := fun i => Ev (fun k => laws_FnFullAttrs.l0 k l0 true [(⟨#[97]⟩ : ByteArray), (⟨#[98]⟩ : ByteArray), (⟨#[99]⟩ : ByteArray), (⟨#[100]⟩ : ByteArray)] (i : Nat) (A d z (bn % 4) i) 6) true)
    (last_ev l0 d z (bn % 4) r c hs4 hr4 hd hz hc' hr) (fun i hi h => by
      have e := List.all_eq_true.1 (List.all_eq_true.1 (cA_all d z) (bn % 4) (List.mem_range.2 hs4)) i (List.mem_range.2 hi)
      simp only [cA, Bool.and_eq_true, decide_eq_true_eq] at e
      obtain ⟨⟨e1, e2⟩, e3⟩ := e
      have f := fit _ _ (A_sh d z (bn % 4) i hs4 (by omega)) (dOk5 d z hd hz).1 e1
      obtain ⟨n1, n2⟩ := nm_ok ((bn % 4 + i) % 4) (Nat.mod_lt _ (by decide))
      have hq : Int.tmod (wrap64 ((i : Int) + (bn : Int))) 4 = (((bn % 4 + i) % 4 : Nat) : Int) := by
        rw [w64 (by omega) (by omega), Int.tmod_eq_emod_of_nonneg (by omega)]; omega
      have hk : setA (A d z (bn % 4) i) 6 pDir (nm ((bn % 4 + i) % 4)) vV = (A d z (bn % 4) (i + 1), 6, 0) := by
        show _ = ((setA (A d z (bn % 4) i) 6 pDir (nm ((bn % 4 + i) % 4)) vV).1, 6, 0)
        rw [← e2]
      exact step_ev l0 _ _ _ i ((bn % 4 + i) % 4) (bn : Int) hi (Nat.mod_lt _ (by decide)) f n1 n2 e3 hb' hq (nm_rd _) hk h)
  exact key
end Go.Proofs.YtkcfmbggdkkfeaaGreatDoor.Pure
