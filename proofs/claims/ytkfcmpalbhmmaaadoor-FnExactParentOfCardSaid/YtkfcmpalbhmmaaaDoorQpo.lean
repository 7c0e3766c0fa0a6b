/- ParentOf: what the program's and the reference's functions answer, in plain words. No condition. -/
import Derived.Test.YtkfcmpalbhmmaaaDoorQsp
import Derived.Test.YtkfcmpalbhmmaaaDoorQjq
import Derived.Test.YtkfcmpalbhmmaaaDoorPx1
namespace Go.Proofs.YtkfcmpalbhmmaaaDoor.Q
open Go.RowKit Go.Proofs.YtkfcmpalbhmmaaaDoor.P Go.Proofs.YtkfcmpalbhmmaaaDoorW.PrintWords Go.Proofs.YtkfcmpalbhmmaaaDoorW.PrintLast Go.Proofs.YtkfcmpalbhmmaaaDoorW.PrintMore

theorem map_sum_le (l : List (List UInt8)) : strSz (l.map mkB) = (l.map List.length).sum := by
  unfold strSz
  rw [List.map_map]
  exact congrArg List.sum (List.map_congr_left fun x _ => mkB_size x)
theorem parts_tot (l : List UInt8) : ((parts l).map List.length).sum ≤ l.length := by
  induction l with
  | nil => simp [parts]
  | cons b l ih =>
    rw [parts]
    split
    · simp; omega
    · cases hX : parts l with
      | nil => exact absurd hX (parts_ne l)
      | cons q X => rw [hX] at ih; simp [consPre] at ih ⊢; omega
/-- The names of a path: right ones, not more than 30, in all not more than the path. -/
theorem splitP_good (s : ByteArray) (h : (splitP s).2 = true) : goodPath (splitP s).1 = true := by
  unfold splitP at h ⊢
  split
  · rfl
  · rename_i c0
    rw [if_neg c0] at h
    split
    · rename_i hX; rw [hX] at h; simp at h
    · rename_i x l hX
      rw [hX] at h
      simp only at h ⊢
      split
      · rename_i c; exact c.2.2
      · rename_i c; rw [if_neg c] at h; simp at h
theorem splitP_false (s : ByteArray) (h : (splitP s).2 = false) : (splitP s).1 = [] := by
  unfold splitP at h ⊢
  split
  · rfl
  · rename_i c0
    rw [if_neg c0] at h
    split
    · rfl
    · rename_i x l hX
      rw [hX] at h
      simp only at h ⊢
      split
      · rename_i c; rw [if_pos c] at h; simp at h
      · rfl
theorem splitP_size (s : ByteArray) : (splitP s).1.length ≤ s.size ∧ strSz (splitP s).1 ≤ s.size := by
  have h1 := parts_len s.data.toList
  have h2 := parts_tot s.data.toList
  rw [data_length] at h1 h2
  unfold splitP
  split
  · simp [strSz]
  · split
    · simp [strSz]
    · rename_i x l hX
      split
      · cases hP : parts s.data.toList with
        | nil => exact absurd hP (parts_ne _)
        | cons p ps =>
          rw [hP] at hX h1 h2
          simp only [List.map_cons, List.cons.injEq] at hX
          obtain ⟨_, rfl⟩ := hX
          simp only [List.length_map, map_sum_le]
          simp only [List.map_cons, List.sum_cons, List.length_cons] at h1 h2
          omega
      · simp [strSz]
theorem strSz_take (l : List ByteArray) (n : Nat) : strSz (l.take n) ≤ strSz l := by
  induction l generalizing n with
  | nil => simp
  | cons x l ih =>
    cases n with
    | zero => simp [strSz]
    | succ n => have := ih n; simp [strSz] at this ⊢; omega
/-- The path of a parent. -/
def joinQ (l : List ByteArray) : ByteArray := if l.length = 0 then ⟨#[47]⟩ else if goodPath l = true then pathB l else ⟨#[]⟩
theorem impl_joinQ (l : List ByteArray) (hl : l.length ≤ 1048576) (hz : strSz l ≤ 1048576) : Ev (fun k => impl_JoinPath.f k l) (joinQ l) := by
  refine evC (impl_join l hl hz) ?_
  unfold joinQ
  by_cases c : l.length = 0
  · obtain rfl := List.eq_nil_of_length_eq_zero c
    rfl
  · rw [if_neg c]
    split
    · rw [joinB_path l (fun h => c (by rw [h]; rfl))]
    · rfl
def parentP (s : ByteArray) : ByteArray × ByteArray × Bool :=
  if (splitP s).2 = true then (if (splitP s).1.length = 0 then (⟨#[]⟩, ⟨#[]⟩, false) else (joinQ ((splitP s).1.take ((splitP s).1.length - 1)), (splitP s).1.getD ((splitP s).1.length - 1) ⟨#[]⟩, true)) else (⟨#[]⟩, ⟨#[]⟩, false)
theorem impl_parent (s : ByteArray) (hs : s.size ≤ 1048576) : Ev (fun k => impl_ParentOf.f k s) (parentP s) := by
  unfold impl_ParentOf.f parentP
  refine Ev.bind (impl_split s hs) ?_
  obtain ⟨h1, h2⟩ := splitP_size s
  generalize splitP s = p at *
  refine evI (fun c => ?_) (fun _ => Ev.now _)
  by_cases c0 : p.1.length = 0
  · exact evP (by omega) (evC (Ev.now _) (by rw [if_pos c0]))
  · have ht := strSz_take p.1 (p.1.length - 1)
    have hw : wrap64 ((p.1.length : Int) - 1) = ((p.1.length - 1 : Nat) : Int) := by rw [w64 (by omega) (by omega)]; omega
    simp only [hw, Int.toNat_natCast]
    refine evN (by omega) (evP (by omega) (evP (by omega) (Ev.bind (impl_joinQ _ (by rw [List.length_take]; omega) (by omega)) (evP (by omega) (evC (Ev.now _) ?_)))))
    rw [if_neg c0]
    rfl
theorem spec_parent (s : ByteArray) (hs : s.size ≤ 1048576) : Ev (fun k => spec_ParentOf.f k s) (parentP s) := by
  unfold spec_ParentOf.f parentP
  refine Ev.bind (spec_split s hs) ?_
  obtain ⟨h1, h2⟩ := splitP_size s
  generalize splitP s = p at *
  refine evI (fun c => ?_) (fun _ => Ev.now _)
  by_cases c0 : p.1.length = 0
  · exact evP (by omega) (evC (Ev.now _) (by rw [if_pos c0]))
  · have ht := strSz_take p.1 (p.1.length - 1)
    have hw : wrap64 ((p.1.length : Int) - 1) = ((p.1.length - 1 : Nat) : Int) := by rw [w64 (by omega) (by omega)]; omega
    simp only [hw, Int.toNat_natCast]
    refine evN (by omega) (evP (by omega) (evP (by omega) (Ev.bind (spec_join _ (by rw [List.length_take]; omega) (by omega)) (evP (by omega) (evC (Ev.now _) ?_)))))
    rw [if_neg c0]
    rfl
end Go.Proofs.YtkfcmpalbhmmaaaDoor.Q
