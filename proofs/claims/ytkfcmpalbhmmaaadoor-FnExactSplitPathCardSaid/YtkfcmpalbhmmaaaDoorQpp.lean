/- Paths and their names, in plain words: each comes back of the other. No condition. -/
import Derived.Test.YtkfcmpalbhmmaaaDoorQsp
import Derived.Test.YtkfcmpalbhmmaaaDoorPx0
namespace Go.Proofs.YtkfcmpalbhmmaaaDoor.Q
open Go.RowKit Go.Proofs.YtkfcmpalbhmmaaaDoor.P Go.Proofs.YtkfcmpalbhmmaaaDoorW.PrintWords Go.Proofs.YtkfcmpalbhmmaaaDoorW.PrintLast Go.Proofs.YtkfcmpalbhmmaaaDoorW.PrintMore

theorem app_nil (b : ByteArray) : b ++ (⟨#[]⟩ : ByteArray) = b := ByteArray.ext (by rw [ByteArray.data_append]; simp)
theorem nil_app (b : ByteArray) : (⟨#[]⟩ : ByteArray) ++ b = b := ByteArray.ext (by rw [ByteArray.data_append]; simp)
/-- The path of these names. -/
def pathB : List ByteArray → ByteArray
  | [] => ⟨#[]⟩
  | x :: l => (⟨#[47]⟩ ++ x) ++ pathB l
theorem pathB_size (l : List ByteArray) : (pathB l).size = l.length + strSz l := by
  induction l with
  | nil => rfl
  | cons x l ih =>
    rw [pathB, ByteArray.size_append, ByteArray.size_append, ih]
    have : (⟨#[47]⟩ : ByteArray).size = 1 := rfl
    simp only [strSz, List.map_cons, List.sum_cons, List.length_cons] at *
    omega
theorem map_sum_le (l : List (List UInt8)) : strSz (l.map mkB) = (l.map List.length).sum := by
  unfold strSz
  rw [List.map_map]
  exact congrArg List.sum (List.map_congr_left fun x _ => mkB_size x)
theorem parts_tot (l : List UInt8) : ((parts l).map List.length).sum ≤ l.length := by
  induction l with
  | nil => simp [parts]
  | cons b l ih =>
    rw [parts]
    split
    · simp; omega
    · cases hX : parts l with
      | nil => exact absurd hX (parts_ne l)
      | cons q X => rw [hX] at ih; simp [consPre] at ih ⊢; omega
/-- The names of a path: right ones, not more than 30, in all not more than the path. -/
theorem splitP_good (s : ByteArray) (h : (splitP s).2 = true) : goodPath (splitP s).1 = true := by
  unfold splitP at h ⊢
  split
  · rfl
  · rename_i c0
    rw [if_neg c0] at h
    split
    · rename_i hX; rw [hX] at h; simp at h
    · rename_i x l hX
      rw [hX] at h
      simp only at h ⊢
      split
      · rename_i c; exact c.2.2
      · rename_i c; rw [if_neg c] at h; simp at h
theorem splitP_false (s : ByteArray) (h : (splitP s).2 = false) : (splitP s).1 = [] := by
  unfold splitP at h ⊢
  split
  · rfl
  · rename_i c0
    rw [if_neg c0] at h
    split
    · rfl
    · rename_i x l hX
      rw [hX] at h
      simp only at h ⊢
      split
      · rename_i c; rw [if_pos c] at h; simp at h
      · rfl
theorem splitP_size (s : ByteArray) : (splitP s).1.length ≤ s.size ∧ strSz (splitP s).1 ≤ s.size := by
  have h1 := parts_len s.data.toList
  have h2 := parts_tot s.data.toList
  rw [data_length] at h1 h2
  unfold splitP
  split
  · simp [strSz]
  · split
    · simp [strSz]
    · rename_i x l hX
      split
      · cases hP : parts s.data.toList with
        | nil => exact absurd hP (parts_ne _)
        | cons p ps =>
          rw [hP] at hX h1 h2
          simp only [List.map_cons, List.cons.injEq] at hX
          obtain ⟨_, rfl⟩ := hX
          simp only [List.length_map, map_sum_le]
          simp only [List.map_cons, List.sum_cons, List.length_cons] at h1 h2
          omega
      · simp [strSz]
theorem strSz_take (l : List ByteArray) (n : Nat) : strSz (l.take n) ≤ strSz l := by
  induction l generalizing n with
  | nil => simp
  | cons x l ih =>
    cases n with
    | zero => simp [strSz]
    | succ n => have := ih n; simp [strSz] at this ⊢; omega
/-- The path of a parent. -/
def joinQ (l : List ByteArray) : ByteArray := if l.length = 0 then ⟨#[47]⟩ else if goodPath l = true then pathB l else ⟨#[]⟩
theorem parts_pre (q r : List UInt8) (h : ∀ b ∈ q, b ≠ 47) : parts (q ++ r) = consPre q (parts r) := by
  induction q with
  | nil => rw [List.nil_append, consPre_nil _ (parts_ne _)]
  | cons b q ih =>
    rw [List.cons_append, parts, if_neg (h b (List.mem_cons_self ..)), ih (fun x hx => h x (List.mem_cons_of_mem _ hx)), consPre_app]
    rfl
theorem name_no (s : ByteArray) (h : nameOk s = true) : (∀ b ∈ s.data.toList, b ≠ 47) ∧ 1 ≤ s.size ∧ s.size ≤ 14 := by
  unfold nameOk nameEnd at h
  simp only [Bool.and_eq_true, decide_eq_true_eq] at h
  refine ⟨fun b hb e => ?_, h.2.1.1⟩
  have := List.all_eq_true.1 h.1 (b.toNat : Int) (by unfold bytesOf; exact List.mem_map.2 ⟨b, hb, rfl⟩)
  subst e
  exact absurd this (by decide)
theorem pathB_data (x : ByteArray) (l : List ByteArray) : (pathB (x :: l)).data.toList = 47 :: (x.data.toList ++ (pathB l).data.toList) := by
  simp [pathB, ByteArray.data_append]
theorem parts_path (l : List ByteArray) (h : l.all nameOk = true) : parts (pathB l).data.toList = [] :: l.map (·.data.toList) := by
  induction l with
  | nil => rfl
  | cons x l ih =>
    rw [List.all_cons, Bool.and_eq_true] at h
    rw [pathB_data, parts, if_pos rfl, parts_pre _ _ (name_no x h.1).1, ih h.2]
    simp [consPre]
theorem map_mk (l : List ByteArray) : (l.map (·.data.toList)).map mkB = l := by
  rw [List.map_map]
  conv => rhs; rw [← List.map_id l]
  exact List.map_congr_left fun x _ => mkB_data x
theorem splitP_root : splitP ⟨#[47]⟩ = ([], true) := by
  unfold splitP
  rw [if_pos (by rw [toList_data])]
theorem path_ne_root (l : List ByteArray) (hg : goodPath l = true) : (pathB l).toList ≠ ([47] : List UInt8) := by
  cases l with
  | nil => rw [toList_data]; simp [pathB]
  | cons x l =>
    rw [toList_data, pathB_data]
    have hx : nameOk x = true := by
      unfold goodPath at hg
      simp only [List.all_cons, Bool.and_eq_true] at hg
      exact hg.1.1
    have := (name_no x hx).2.1
    intro e
    simp only [List.cons.injEq, List.append_eq_nil_iff, true_and] at e
    rw [← data_length, e.1] at this
    simp at this
theorem splitP_path (l : List ByteArray) (hl : l ≠ []) (hg : goodPath l = true) : splitP (pathB l) = (l, true) := by
  have ha : l.all nameOk = true := by unfold goodPath at hg; simp only [Bool.and_eq_true] at hg; exact hg.1
  unfold splitP
  rw [if_neg (path_ne_root l hg), parts_path l ha, List.map_cons, map_mk]
  simp only
  rw [if_pos ⟨by rw [toList_data, data_mkB], hl, hg⟩]
theorem splitP_join (l : List ByteArray) (hg : goodPath l = true) : splitP (joinQ l) = (l, true) := by
  unfold joinQ
  by_cases c : l.length = 0
  · rw [if_pos c, splitP_root, List.eq_nil_of_length_eq_zero c]
  · rw [if_neg c, if_pos hg, splitP_path l (fun h => c (by rw [h]; rfl)) hg]
def glue : List (List UInt8) → List UInt8
  | [] => []
  | [p] => p
  | p :: q :: ps => p ++ 47 :: glue (q :: ps)
theorem glue_pre (q : List UInt8) (X : List (List UInt8)) (h : X ≠ []) : glue (consPre q X) = q ++ glue X := by
  match X, h with
  | [p], _ => rfl
  | p :: r :: ps, _ => simp [consPre, glue]
theorem glue_parts (l : List UInt8) : glue (parts l) = l := by
  induction l with
  | nil => rfl
  | cons b l ih =>
    rw [parts]
    split
    · rename_i h
      have hne := parts_ne l
      cases hX : parts l with
      | nil => exact absurd hX hne
      | cons p ps => rw [hX] at ih; rw [glue, ih, List.nil_append, h]
    · rw [glue_pre _ _ (parts_ne l), ih]; rfl
theorem glue_path (ps : List (List UInt8)) (h : ps ≠ []) : (pathB (ps.map mkB)).data.toList = 47 :: glue ps := by
  induction ps with
  | nil => exact absurd rfl h
  | cons p ps ih =>
    rw [List.map_cons, pathB_data, data_mkB]
    cases ps with
    | nil => simp [pathB, glue]
    | cons q ps => rw [ih (by simp), glue]
/-- A string that is a path is the path of its names. -/
theorem path_split (s : ByteArray) (h : (splitP s).2 = true) : joinQ (splitP s).1 = s := by
  have hg := splitP_good s h
  unfold splitP at h hg ⊢
  split
  · rename_i c
    rw [toList_data] at c
    apply ByteArray.ext
    apply Array.ext'
    rw [c]
    rfl
  · rename_i c0
    rw [if_neg c0] at h hg
    cases hX : parts s.data.toList with
    | nil => exact absurd hX (parts_ne _)
    | cons p ps =>
      rw [hX, List.map_cons] at h hg
      rw [List.map_cons]
      simp only at h hg ⊢
      by_cases c : (mkB p).toList = [] ∧ ps.map mkB ≠ [] ∧ goodPath (ps.map mkB) = true
      · rw [if_pos c] at hg
        rw [if_pos c]
        obtain ⟨c1, c2, c3⟩ := c
        rw [toList_data, data_mkB] at c1
        subst c1
        have hne : ps ≠ [] := fun e => c2 (by rw [e]; rfl)
        unfold joinQ
        rw [if_neg (fun e => c2 (List.eq_nil_of_length_eq_zero e)), if_pos c3]
        apply ByteArray.ext
        apply Array.ext'
        rw [glue_path ps hne]
        have := glue_parts s.data.toList
        rw [hX] at this
        cases ps with
        | nil => exact absurd rfl hne
        | cons q qs => rw [glue] at this; simpa using this
      · rw [if_neg c] at h
        simp at h
theorem strSz_pre (x y : List ByteArray) (h : x = y.take x.length) : strSz x ≤ strSz y := by rw [h]; exact strSz_take y _
theorem joinQ_size (l : List ByteArray) (hg : goodPath l = true) : (joinQ l).size = max 1 (l.length + strSz l) := by
  unfold joinQ
  by_cases c : l.length = 0
  · rw [if_pos c, List.eq_nil_of_length_eq_zero c]; rfl
  · rw [if_neg c, if_pos hg, pathB_size]; omega
end Go.Proofs.YtkfcmpalbhmmaaaDoor.Q
