/- Paths of names: what JoinPath answers. No condition. -/
import Derived.Test.YtkfcmpalbhmmaaaDoorQpp
import Derived.Test.YtkfcmpalbhmmaaaDoorPx1
import Derived.Test.YtkfcmpalbhmmaaaDoorPx2
namespace Go.Proofs.YtkfcmpalbhmmaaaDoor.Q
open Go.RowKit Go.Proofs.YtkfcmpalbhmmaaaDoor.P Go.Proofs.YtkfcmpalbhmmaaaDoorW.PrintWords Go.Proofs.YtkfcmpalbhmmaaaDoorW.PrintLast Go.Proofs.YtkfcmpalbhmmaaaDoorW.PrintMore

theorem joinB_path (l : List ByteArray) (h : l ≠ []) : (⟨#[47]⟩ ++ joinB l : ByteArray) = pathB l := by
  induction l with
  | nil => exact absurd rfl h
  | cons x l ih =>
    cases l with
    | nil =>
      simp only [pathB, app_nil]
      congr 1
      simp [joinB, Lib.join]
    | cons y l =>
      have := ih (by simp)
      rw [pathB, ← this]
      apply ByteArray.ext
      simp [joinB, Lib.join, ByteArray.data_append]
theorem impl_join (l : List ByteArray) (hl : l.length ≤ 1048576) (hz : strSz l ≤ 1048576) : Ev (fun k => impl_JoinPath.f k l) (if goodPath l = true then ⟨#[47]⟩ ++ joinB l else ⟨#[]⟩) := by
  have hs : ∀ x ∈ l, x.size ≤ 1048576 := fun x hx => Nat.le_trans (strSz_mem l x hx) hz
  have hj : (joinB l).size ≤ 3000000 := by
    cases l with
    | nil => decide
    | cons x l =>
      have h1 := joinB_path (x :: l) (by simp)
      have h2 := pathB_size (x :: l)
      rw [← h1, ByteArray.size_append] at h2
      omega
  have hn := impl_names l hs
  unfold impl_JoinPath.f
  refine Ev.bind hn ?_
  by_cases c : goodPath l = true
  · exact evP c (evP ⟨by omega, by omega⟩ (evC (Ev.now _) (by rw [if_pos c])))
  · exact evN c (evC (Ev.now _) (by rw [if_neg c]))
theorem spec_join (l : List ByteArray) (hl : l.length ≤ 1048576) (hz : strSz l ≤ 1048576) : Ev (fun k => spec_JoinPath.f k l) (if l.length = 0 then ⟨#[47]⟩ else if goodPath l = true then pathB l else ⟨#[]⟩) := by
  have hs : ∀ x ∈ l, x.size ≤ 1048576 := fun x hx => Nat.le_trans (strSz_mem l x hx) hz
  unfold spec_JoinPath.f
  by_cases c0 : l.length = 0
  · exact evP (by omega) (evC (Ev.now _) (by rw [if_pos c0]))
  · refine evN (by omega) ?_
    rw [if_neg c0]
    by_cases c : l.length ≤ 30
    · have key := downJ (n := l.length) (P := fun i => ∀ acc : ByteArray, acc.size + (l.length - i) + strSz (l.drop i) ≤ 3000000 → Ev (fun k => spec_JoinPath.l0 k l acc (i : Nat)) (if (l.drop i).all nameOk = true then acc ++ pathB (l.drop i) else ⟨#[]⟩)) (by
          intro acc _
          apply evPre
          simp only [spec_JoinPath.l0]
          refine evN (by omega) (evC (Ev.now _) ?_)
          rw [List.drop_length]
          simp [pathB, app_nil]) (by
          intro i hi ih acc hb
          have hd := strSz_drop l i hi
          have hx := spec_name l[i] (by have := hs l[i] (List.getElem_mem hi); omega)
          have h1 : (acc ++ (⟨#[47]⟩ : ByteArray)).size = acc.size + 1 := by rw [ByteArray.size_append]; rfl
          have ih := ih ((acc ++ (⟨#[47]⟩ : ByteArray)) ++ l[i]) (by rw [ByteArray.size_append, h1]; omega)
          apply evPre
          simp only [spec_JoinPath.l0, rdS l i hi]
          rw [nxtJ i l.length hi (by omega), List.drop_eq_getElem_cons hi, List.all_cons, pathB]
          refine evP (by omega) (evP (by omega) (Ev.bind hx ?_))
          by_cases cn : nameOk l[i] = true
          · refine evP cn (evN (by omega) (evP (by omega) (evP (by rw [h1]; omega) (evC ih ?_))))
            rw [cn, Bool.true_and]
            split
            · simp only [ByteArray.append_assoc]
            · rfl
          · exact evN cn (evC (Ev.now _) (by simp [cn])))
      refine evC (key ⟨#[]⟩ (by simp only [List.drop_zero]; have : (⟨#[]⟩ : ByteArray).size = 0 := rfl; omega)) ?_
      simp only [List.drop_zero, nil_app, goodPath, c, decide_true, Bool.and_true]
    · have hi : 0 < l.length := by omega
      have hx := spec_name l[0] (by have := hs l[0] (List.getElem_mem hi); omega)
      have hr : rdOf ByteArray.empty l (0 : Int) = l[0] := rdS l 0 hi
      apply evPre
      simp only [spec_JoinPath.l0, hr]
      refine evP (by omega) (evP (by omega) (Ev.bind hx ?_))
      have hgp : goodPath l = false := by simp [goodPath, c]
      rw [hgp]
      by_cases cn : nameOk l[0] = true
      · exact evP cn (evP (by omega) (Ev.now _))
      · exact evN cn (Ev.now _)
theorem impl_joinQ (l : List ByteArray) (hl : l.length ≤ 1048576) (hz : strSz l ≤ 1048576) : Ev (fun k => impl_JoinPath.f k l) (joinQ l) := by
  refine evC (impl_join l hl hz) ?_
  unfold joinQ
  by_cases c : l.length = 0
  · obtain rfl := List.eq_nil_of_length_eq_zero c
    rfl
  · rw [if_neg c]
    split
    · rw [joinB_path l (fun h => c (by rw [h]; rfl))]
    · rfl
end Go.Proofs.YtkfcmpalbhmmaaaDoor.Q
