/- FnParents returns true for all bytes: a drawn path is its parent, a slash and its last name, and lies below its parent. No condition. -/
import Derived.Test.YtkfcmpalbhmmaaaDoorQpo
import Derived.Test.YtkfcmpalbhmmaaaDoorQbm
import Derived.Test.YtkfcmpalbhmmaaaDoorQds
import Derived.Test.YtkfcmpalbhmmaaaDoorPx1
import Derived.Test.YtkfcmpalbhmmaaaDoorPx2
namespace Go.Proofs.YtkfcmpalbhmmaaaDoor.Pure
open Go.RowKit Go.Proofs.YtkfcmpalbhmmaaaDoor.P Go.Proofs.YtkfcmpalbhmmaaaDoor.Q Go.Proofs.YtkfcmpalbhmmaaaDoorW.PrintWords Go.Proofs.YtkfcmpalbhmmaaaDoorW.PrintLast Go.Proofs.YtkfcmpalbhmmaaaDoorW.PrintMore

theorem good_take (l : List ByteArray) (n : Nat) (h : goodPath l = true) : goodPath (l.take n) = true := by
  unfold goodPath at h ⊢
  simp only [Bool.and_eq_true, decide_eq_true_eq] at h ⊢
  refine ⟨List.all_eq_true.2 fun x hx => List.all_eq_true.1 h.1 x (List.mem_of_mem_take hx), ?_⟩
  rw [List.length_take]; omega
theorem pathB_snoc (l : List ByteArray) (x : ByteArray) : pathB (l ++ [x]) = (pathB l ++ ⟨#[47]⟩) ++ x := by
  induction l with
  | nil => simp only [List.nil_append, pathB, app_nil, nil_app]
  | cons y l ih => simp only [List.cons_append, pathB, ih, ByteArray.append_assoc]
theorem FnParents : laws_FnParents.Pure := by
  intro l hl hm hw
  have hb : Byt l := fun x hx => wf8 (hw x hx)
  apply Ev.rounds
  unfold laws_FnParents.f laws_big.f
  simp only [Option.bind_some]
  refine evI' (fun _ => Ev.now _) (fun hbig => ?_)
  have hsm : l.length ≤ 1048576 := by simp at hbig; omega
  obtain ⟨s, e0, hs⟩ := drawSplit_ev l hb (by omega)
  have eD : Ev (fun k => spec_DrawParentOf.f k l) s := by
    unfold spec_DrawParentOf.f
    exact Ev.bind e0 (Ev.now _)
  refine Ev.bind eD (Ev.bind (impl_parent s (by omega)) (Ev.bind (spec_parent s (by omega)) (evN (by simp) ?_)))
  have hsz := splitP_size s
  by_cases c : (splitP s).2 = true ∧ (splitP s).1.length ≠ 0
  · obtain ⟨c1, c2⟩ := c
    have hg := splitP_good s c1
    have hps := path_split s c1
    have hP : parentP s = (joinQ ((splitP s).1.take ((splitP s).1.length - 1)), (splitP s).1.getD ((splitP s).1.length - 1) ⟨#[]⟩, true) := by
      unfold parentP; rw [if_pos c1, if_neg c2]
    rw [hP]
    have hspl : splitP s = ((splitP s).1, true) := by rw [← c1]
    generalize (splitP s).1 = L at *
    obtain ⟨M, x, rfl⟩ : ∃ M x, L = M ++ [x] := ⟨L.dropLast, L.getLast (fun h => c2 (by rw [h]; rfl)), (List.dropLast_concat_getLast _).symm⟩
    have e1 : (M ++ [x]).length - 1 = M.length := by simp
    have hgM := good_take _ M.length hg
    simp only [List.take_left] at hgM
    have hx : nameOk x = true := by
      unfold goodPath at hg
      simp only [List.all_append, List.all_cons, Bool.and_eq_true] at hg
      exact hg.1.2.1
    have hxs := (name_no x hx).2
    have hjs : s = pathB (M ++ [x]) := by
      rw [← hps]; unfold joinQ; rw [if_neg (by simp), if_pos hg]
    have hpM := pathB_size M
    have hps2 := congrArg ByteArray.size hjs
    rw [pathB_size, pathB_snoc] at *
    simp only [e1, List.take_left, List.getD_eq_getElem?_getD, List.getElem?_append_right (Nat.le_refl _), Nat.sub_self, List.getElem?_cons_zero, Option.getD_some, Bool.not_true]
    have hjM := joinQ_size M hgM
    have hdir : splitP (joinQ M) = (M, true) := splitP_join M hgM
    have hb1 : belowP (joinQ M) s = true := by
      unfold belowP; rw [hdir, hspl]; simp
    have hb2 : belowP s (joinQ M) = false := by
      unfold belowP; rw [hdir, hspl]; simp; intro h; omega
    have hb3 : belowP ⟨#[47]⟩ s = true := by
      unfold belowP; rw [splitP_root, hspl]; simp
    have hb4 : belowP s s = true := by
      unfold belowP; rw [hspl]; simp only [List.take_length, Nat.le_refl, true_and, decide_true, Bool.and_self]
    have hlen : M.length + 1 + strSz (M ++ [x]) ≤ 100 := by simp only [List.length_append, List.length_cons, List.length_nil] at hps2; omega
    have hsM : strSz (M ++ [x]) = strSz M + x.size := by unfold strSz; simp
    have fin : ∀ whole : ByteArray, whole = s → Ev (fun k => laws_FnParents.j1 k s (joinQ M) x whole) true := by
      rintro whole rfl
      apply evPre
      simp only [laws_FnParents.j1]
      refine evP trivial (Ev.bind (impl_name x (by omega)) (evP hx (Ev.bind (impl_below _ _ (by omega) (by omega)) (evP hb1 (Ev.bind (impl_below _ _ (by omega) (by omega)) (evN (by rw [hb2]; simp) (Ev.bind (impl_below _ _ (by decide) (by omega)) (evP hb3 (Ev.bind (impl_below _ _ (by omega) (by omega)) (evC (Ev.now _) hb4))))))))))
    apply evPre
    simp only [laws_FnParents.j0]
    have hq : (joinQ M ++ (⟨#[47]⟩ : ByteArray)).size = (joinQ M).size + 1 := by rw [ByteArray.size_append]; rfl
    refine evN (by simp) (evP (by omega) (evP (by rw [hq]; omega) ?_))
    by_cases c0 : M.length = 0
    · obtain rfl := List.eq_nil_of_length_eq_zero c0
      refine evP (by rw [toList_data]; rfl) (evP (by omega) (fin _ ?_))
      rw [hjs]
      simp only [pathB, nil_app]
    · refine evN ?_ (fin _ ?_)
      · unfold joinQ; rw [if_neg c0, if_pos hgM]; exact path_ne_root M hgM
      · rw [hjs]; unfold joinQ; rw [if_neg c0, if_pos hgM]
  · have hP : parentP s = (⟨#[]⟩, ⟨#[]⟩, false) := by
      unfold parentP
      split
      · rename_i c1
        split
        · rfl
        · rename_i c2; exact absurd ⟨c1, c2⟩ c
      · rfl
    rw [hP]
    apply evPre
    simp only [laws_FnParents.j0]
    exact evP (by simp) (evP (by simp) (evP (by rw [toList_data]) (evC (Ev.now _) (by simp [toList_data]))))
end Go.Proofs.YtkfcmpalbhmmaaaDoor.Pure
