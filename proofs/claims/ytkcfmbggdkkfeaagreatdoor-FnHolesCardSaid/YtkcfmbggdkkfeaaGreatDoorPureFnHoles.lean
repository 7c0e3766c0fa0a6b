/- FnHoles returns true for every code: what stands ahead of a late write is zero. No condition. -/
import Derived.Test.YtkcfmbggdkkfeaaGreatDoorQ
import Derived.Test.YtkcfmbggdkkfeaaGreatDoorPx0
import Derived.Test.YtkcfmbggdkkfeaaGreatDoorPx1
import Derived.Test.YtkcfmbggdkkfeaaGreatDoorPx7
namespace Go.Proofs.YtkcfmbggdkkfeaaGreatDoor.Pure
open Go.RowKit Go.Proofs.YtkcfmbggdkkfeaaGreatDoor.P Go.Proofs.YtkcfmbggdkkfeaaGreatDoor.Q Go.Proofs.YtkcfmbggdkkfeaaGreatDoorW.PrintWords Go.Proofs.YtkcfmbggdkkfeaaGreatDoorW.PrintLast Go.Proofs.YtkcfmbggdkkfeaaGreatDoorW.PrintMore

theorem hole_at (n : Nat) : rd (List.replicate n (0 : Int) ++ [120]) (n : Int) = 120 := by
  have h : n < (List.replicate n (0 : Int) ++ [120]).length := by rw [List.length_append, List.length_replicate, List.length_singleton]; exact Nat.lt_succ_self n
  have e : rd (List.replicate n (0 : Int) ++ [120]) (n : Int) = (List.replicate n (0 : Int) ++ [120])[n] := getD_at _ _ n h
  rw [e]; simp
theorem hole_zero (n : Nat) : ∀ i, i < n → rd (List.replicate n (0 : Int) ++ [120]) (i : Int) = 0 := by
  intro i hi
  have h : i < (List.replicate n (0 : Int) ++ [120]).length := by rw [List.length_append, List.length_replicate, List.length_singleton]; exact Nat.lt_succ_of_lt hi
  have e : rd (List.replicate n (0 : Int) ++ [120]) (i : Int) = (List.replicate n (0 : Int) ++ [120])[i] := getD_at _ _ i h
  rw [e, List.getElem_append_left (by rw [List.length_replicate]; exact hi), List.getElem_replicate]
theorem FnHoles : laws_FnHoles.Pure := by
  intro l0 _ hsz hb
  apply Ev.rounds
  unfold laws_FnHoles.f
  have hb8 : ∀ x ∈ l0, 0 ≤ x ∧ x ≤ 255 := fun x hx => wf8 (hb x hx)
  have hl : l0.length ≤ 140737488351232 := by omega
  simp only [laws_big.f, Option.bind_some]
  refine evI' (fun _ => Ev.now _) (fun _ => ?_)
  obtain ⟨a, m, ha, ha0, ha1, hm, hg⟩ := grown_ev l0 hb8 hl
  simp only [ha, Option.bind_some]
  obtain ⟨n, hn⟩ : ∃ n : Nat, Int.tmod a 90 = n := ⟨(Int.tmod a 90).toNat, by rw [Int.tmod_eq_emod_of_nonneg ha0]; omega⟩
  have hn90 : n < 90 := by rw [Int.tmod_eq_emod_of_nonneg ha0] at hn; omega
  simp only [hn]
  refine Ev.bind hg ?_
  generalize hz : List.replicate m (0 : Int) ++ [101, 110, 100] = z
  have y1 : [a, 7].length ≤ 100 := by simp
  have y2 : ([] : List Int).length ≤ 100 := by decide
  have y3 : z.length ≤ 100 := by rw [← hz]; simp; omega
  have y4 : (List.replicate n (0 : Int) ++ [120]).length ≤ 100 := by simp; omega
  obtain ⟨b4, d4, e4⟩ := gT_small [a, 7] [] z y1 y2 y3
  obtain ⟨b5, d5, e5⟩ := gT_small [a, 7] (List.replicate n (0 : Int) ++ [120]) z y1 y4 y3
  have z3 : pTwo.size ≤ 1048576 := by decide
  have q1 : writeP (gT [a, 7] [] z) 6 pTwo (n : Int) [120] = (gT [a, 7] (List.replicate n 0 ++ [120]) z, 6, 0) := by
    rw [writeP_at _ _ _ _ _ _ (gT_ready [a, 7] [] z y1 y2 y3 [pTwo] p_split.2.1) (two_fileP ..) (by simp; omega), putD_nil]
    generalize List.replicate n (0 : Int) ++ [120] = x
    kernel_rfl
  refine Ev.bind (impl_write (gT [a, 7] [] z) 6 pTwo (n : Int) [120] (by omega) d4 z3 (by simp)) ?_
  rw [q1]
  have q2 : readP (gT [a, 7] (List.replicate n 0 ++ [120]) z) pTwo 0 1000 = (List.replicate n 0 ++ [120], 0) := by
    have h : statP (gT [a, 7] (List.replicate n 0 ++ [120]) z) pTwo = (⟨4, 1, 1, List.replicate n 0 ++ [120], [], []⟩, 0) := by
      generalize List.replicate n (0 : Int) ++ [120] = x
      kernel_rfl
    unfold readP
    rw [if_neg (by omega), h, if_pos rfl, if_pos rfl]
    have hr : readL (List.replicate n (0 : Int) ++ [120]) 0 1000 = List.replicate n 0 ++ [120] := by
      generalize hx : List.replicate n (0 : Int) ++ [120] = x at *
      have h1 : (mn 0 (x.length : Int)).toNat = 0 := by unfold mn; split <;> omega
      have h2 : (mn 1000 (x.length : Int)).toNat = x.length := by unfold mn; split <;> omega
      unfold readL
      rw [h1, List.drop_zero, h2, List.take_length]
    rw [hr]
  refine Ev.bind (impl_read (gT [a, 7] (List.replicate n 0 ++ [120]) z) 6 pTwo 0 1000 (by omega) (fun x hx => (d5 x hx).a) z3) ?_
  rw [q2]
  have hlen : ((List.replicate n (0 : Int) ++ [120]).length : Int) = (n : Int) + 1 := by simp
  have hw : wrap64 ((n : Int) + 1) = (n : Int) + 1 := w64 (by omega) (by omega)
  have hat := hole_at n
  have h0 := hole_zero n
  dsimp only
  generalize List.replicate n (0 : Int) ++ [120] = x at *
  clear q1 q2 b4 d4 e4 b5 d5 e5 hg y1 y2 y3 y4 hz hb hb8 hsz
  rw [hw]
  refine evP rfl (evP rfl (evP rfl (evP hlen (evP (Int.natCast_nonneg n) (evP (by rw [hlen]; omega) ?_)))))
  apply evPre
  simp only [laws_FnHoles.j0, hat]
  refine evN (by decide) ?_
  have key := down (n := n) (P := fun i => Ev (fun k => laws_FnHoles.l0 k (n : Int) x (i : Nat)) true) (by
      apply evPre
      simp only [laws_FnHoles.l0]
      exact evN (by omega) (Ev.now _)) (fun i hi h => by
      apply evPre
      simp only [laws_FnHoles.l0, h0 i hi]
      rw [nxt i n hi (by omega)]
      exact evP (by omega) (evP (by omega) (evP (by omega) (evP trivial h))))
  simpa using key
end Go.Proofs.YtkcfmbggdkkfeaaGreatDoor.Pure
