/- JoinPath: what the laws' helpers, the program's and the reference's functions answer, in plain words. No condition. -/
import Derived.Test.YtkknehgaebhbeaaQb
import Derived.Test.YtkknehgaebhbeaaQh
import Derived.Test.YtkknehgaebhbeaaPx1
namespace Go.Proofs.Ytkknehgaebhbeaa.Q
open Go.RowKit Go.Proofs.Ytkknehgaebhbeaa.P Go.Proofs.YtkknehgaebhbeaaW.PrintWords Go.Proofs.YtkknehgaebhbeaaW.PrintLast Go.Proofs.YtkknehgaebhbeaaW.PrintMore

theorem nxtJ (i : Nat) (n : Nat) (hi : i < n) (hn : n ≤ 9223372036854775807) : wrap64 ((i : Int) + 1) = ((i + 1 : Nat) : Int) := by
  rw [w64 (by omega) (by omega)]; omega
theorem downJ {n : Nat} {P : Nat → Prop} (h1 : P n) (h2 : ∀ i, i < n → P (i + 1) → P i) : P 0 := by
  have key : ∀ m i : Nat, n - i = m → i ≤ n → P i := by
    intro m
    induction m with
    | zero => intro i hm hi; obtain rfl : i = n := by omega
              exact h1
    | succ m ih => intro i hm hi; exact h2 i (by omega) (ih (i + 1) (by omega) (by omega))
  exact key n 0 (by omega) (by omega)
theorem rdS (l : List ByteArray) (i : Nat) (h : i < l.length) : rdOf ByteArray.empty l (i : Int) = l[i] := getD_at l _ i h
def strSz (l : List ByteArray) : Nat := (l.map ByteArray.size).sum
theorem strSz_drop (l : List ByteArray) (i : Nat) (h : i < l.length) : strSz (l.drop i) = l[i].size + strSz (l.drop (i + 1)) := by
  unfold strSz; rw [List.drop_eq_getElem_cons h, List.map_cons, List.sum_cons]
theorem strSz_mem (l : List ByteArray) : ∀ x ∈ l, x.size ≤ strSz l := by
  induction l with
  | nil => intro x hx; cases hx
  | cons y l ih =>
    intro x hx
    unfold strSz at ih ⊢
    rw [List.map_cons, List.sum_cons]
    rcases List.mem_cons.1 hx with rfl | hx
    · omega
    · have := ih x hx; omega
theorem szStringS_ev (l : List ByteArray) (n : Int) (h0 : 0 ≤ n) (h1 : n ≤ 1048576) (hl : l.length ≤ 9223372036854775807) (hg : ∀ x ∈ l, x.size ≤ 9223372036854775807) :
    ∃ R, Ev (fun k => laws_szStringS.f k l n) R ∧ (0 ≤ R → R = n - l.length - strSz l) := by
  unfold laws_szStringS.f
  rw [w64 (by omega) (by omega)]
  by_cases h : n - (l.length : Int) < 0
  · exact ⟨-1, evP h (Ev.now _), fun h => by omega⟩
  · have key := downJ (n := l.length) (P := fun i => ∀ a : Int, 0 ≤ a → a ≤ 1048576 → ∃ R, Ev (fun k => laws_szStringS.l0 k l a (i : Nat)) R ∧ (0 ≤ R → R = a - strSz (l.drop i))) (by
        intro a ha hb
        refine ⟨a, evPre ?_, fun _ => by rw [List.drop_length]; simp [strSz]⟩
        simp only [laws_szStringS.l0]
        exact evN (by omega) (Ev.now _)) (by
        intro i hi ih a ha hb
        have hm := hg l[i] (List.getElem_mem hi)
        have hs := strSz_drop l i hi
        by_cases hlt : a - (l[i].size : Int) < 0
        · refine ⟨-1, evPre ?_, fun h => by omega⟩
          simp only [laws_szStringS.l0, rdS l i hi]
          rw [w64 (n := a - (l[i].size : Int)) (by omega) (by omega)]
          exact evP (by omega) (evP (by omega) (evP hlt (Ev.now _)))
        · obtain ⟨R, hR, hz⟩ := ih (a - (l[i].size : Int)) (by omega) (by omega)
          refine ⟨R, evPre ?_, fun h => by have := hz h; omega⟩
          simp only [laws_szStringS.l0, rdS l i hi]
          rw [w64 (n := a - (l[i].size : Int)) (by omega) (by omega), nxtJ i l.length hi hl]
          exact evP (by omega) (evP (by omega) (evN hlt hR)))
    obtain ⟨R, hR, hz⟩ := key (n - l.length) (by omega) (by omega)
    exact ⟨R, evN h hR, fun h => by have := hz h; simpa using this⟩
theorem toStringS_ev (l : List ByteArray) (hl : l.length ≤ 1048576) : Ev (fun k => laws_toStringS.f k l) l := by
  unfold laws_toStringS.f
  refine evP (by omega) (evP (by omega) ?_)
  rw [Int.toNat_natCast]
  have h := ev_copy (fun k ys i => laws_toStringS.l0 k l ys i) l (fun x => x) (⟨#[]⟩ : ByteArray) (fun ys => ?_) (fun i hi ys hy R h => ?_)
  · simpa using h
  · apply evPre
    simp only [laws_toStringS.l0]
    exact evN (by omega) (Ev.now _)
  · apply evPre
    simp only [laws_toStringS.l0]
    refine evP (by omega) (evP (by omega) (evP (by omega) ?_))
    rw [nxtJ i l.length hi (by omega), Int.toNat_natCast, rdS l i hi]
    exact h
theorem eqStringS_refl (l : List ByteArray) (hl : l.length ≤ 1048576) : Ev (fun k => laws_eqStringS.f k l l) true := by
  unfold laws_eqStringS.f
  refine evP rfl ?_
  refine ev_scan (fun k i => laws_eqStringS.l0 k l l i) l.length true ?_ (fun i hi h => ?_)
  · apply evPre
    simp only [laws_eqStringS.l0]
    exact evN (by omega) (Ev.now _)
  · apply evPre
    simp only [laws_eqStringS.l0]
    rw [nxtJ i l.length hi (by omega)]
    exact evP (by omega) (evP (by omega) (evP (by omega) (evP (by trivial) h)))
theorem app_nil (b : ByteArray) : b ++ (⟨#[]⟩ : ByteArray) = b := ByteArray.ext (by rw [ByteArray.data_append]; simp)
theorem nil_app (b : ByteArray) : (⟨#[]⟩ : ByteArray) ++ b = b := ByteArray.ext (by rw [ByteArray.data_append]; simp)
/-- The path of these names. -/
def pathB : List ByteArray → ByteArray
  | [] => ⟨#[]⟩
  | x :: l => (⟨#[47]⟩ ++ x) ++ pathB l
theorem pathB_size (l : List ByteArray) : (pathB l).size = l.length + strSz l := by
  induction l with
  | nil => rfl
  | cons x l ih =>
    rw [pathB, ByteArray.size_append, ByteArray.size_append, ih]
    have : (⟨#[47]⟩ : ByteArray).size = 1 := rfl
    simp only [strSz, List.map_cons, List.sum_cons, List.length_cons] at *
    omega
theorem joinB_path (l : List ByteArray) (h : l ≠ []) : (⟨#[47]⟩ ++ joinB l : ByteArray) = pathB l := by
  induction l with
  | nil => exact absurd rfl h
  | cons x l ih =>
    cases l with
    | nil =>
      simp only [pathB, app_nil]
      congr 1
      simp [joinB, Lib.join]
    | cons y l =>
      have := ih (by simp)
      rw [pathB, ← this]
      apply ByteArray.ext
      simp [joinB, Lib.join, ByteArray.data_append]
theorem badR_ev (l : List ByteArray) (hs : ∀ x ∈ l, x.size ≤ 1048576) : ∀ i : Nat, ∃ r, Ev (fun k => badR k l i) r ∧ (decide (0 ≤ r)) = !(l.all nameOk) := by
  induction l with
  | nil => intro i; exact ⟨-1, Ev.now _, rfl⟩
  | cons x l ih =>
    intro i
    have hx := impl_name x (by have := hs x (List.mem_cons_self ..); omega)
    by_cases c : nameOk x = true
    · obtain ⟨r, h1, h2⟩ := ih (fun y hy => hs y (List.mem_cons_of_mem _ hy)) (i + 1)
      refine ⟨r, ?_, by rw [h2, List.all_cons, c, Bool.true_and]⟩
      simp only [badR]
      exact Ev.bind hx (evP c h1)
    · refine ⟨(i : Int), ?_, by simp [c]⟩
      simp only [badR]
      exact Ev.bind hx (evN c (Ev.now _))
def goodPath (l : List ByteArray) : Bool := l.all nameOk && decide (l.length ≤ 30)
theorem impl_join (l : List ByteArray) (hl : l.length ≤ 1048576) (hz : strSz l ≤ 1048576) : Ev (fun k => impl_JoinPath.f k l) (if goodPath l = true then ⟨#[47]⟩ ++ joinB l else ⟨#[]⟩) := by
  have hs : ∀ x ∈ l, x.size ≤ 1048576 := fun x hx => Nat.le_trans (strSz_mem l x hx) hz
  have hj : (joinB l).size ≤ 3000000 := by
    cases l with
    | nil => decide
    | cons x l =>
      have h1 := joinB_path (x :: l) (by simp)
      have h2 := pathB_size (x :: l)
      rw [← h1, ByteArray.size_append] at h2
      omega
  have hn : Ev (fun k => impl_namesOk.f k l) (goodPath l) := by
    unfold impl_namesOk.f goodPath
    by_cases c : l.length ≤ 30
    · obtain ⟨r, h1, h2⟩ := badR_ev l hs 0
      refine evP c (Ev.bind h1 (evC (Ev.now _) ?_))
      rw [h2]; simp [c]
    · exact evN c (evC (Ev.now _) (by simp [c]))
  unfold impl_JoinPath.f
  refine Ev.bind hn ?_
  by_cases c : goodPath l = true
  · exact evP c (evP ⟨by omega, by omega⟩ (evC (Ev.now _) (by rw [if_pos c])))
  · exact evN c (evC (Ev.now _) (by rw [if_neg c]))
theorem spec_join (l : List ByteArray) (hl : l.length ≤ 1048576) (hz : strSz l ≤ 1048576) : Ev (fun k => spec_JoinPath.f k l) (if l.length = 0 then ⟨#[47]⟩ else if goodPath l = true then pathB l else ⟨#[]⟩) := by
  have hs : ∀ x ∈ l, x.size ≤ 1048576 := fun x hx => Nat.le_trans (strSz_mem l x hx) hz
  unfold spec_JoinPath.f
  by_cases c0 : l.length = 0
  · exact evP (by omega) (evC (Ev.now _) (by rw [if_pos c0]))
  · refine evN (by omega) ?_
    rw [if_neg c0]
    by_cases c : l.length ≤ 30
    · have key := downJ (n := l.length) (P := fun i => ∀ acc : ByteArray, acc.size + (l.length - i) + strSz (l.drop i) ≤ 3000000 → Ev (fun k => spec_JoinPath.l0 k l acc (i : Nat)) (if (l.drop i).all nameOk = true then acc ++ pathB (l.drop i) else ⟨#[]⟩)) (by
          intro acc _
          apply evPre
          simp only [spec_JoinPath.l0]
          refine evN (by omega) (evC (Ev.now _) ?_)
          rw [List.drop_length]
          simp [pathB, app_nil]) (by
          intro i hi ih acc hb
          have hd := strSz_drop l i hi
          have hx := spec_name l[i] (by have := hs l[i] (List.getElem_mem hi); omega)
          have h1 : (acc ++ (⟨#[47]⟩ : ByteArray)).size = acc.size + 1 := by rw [ByteArray.size_append]; rfl
          have ih := ih ((acc ++ (⟨#[47]⟩ : ByteArray)) ++ l[i]) (by rw [ByteArray.size_append, h1]; omega)
          apply evPre
          simp only [spec_JoinPath.l0, rdS l i hi]
          rw [nxtJ i l.length hi (by omega), List.drop_eq_getElem_cons hi, List.all_cons, pathB]
          refine evP (by omega) (evP (by omega) (Ev.bind hx ?_))
          by_cases cn : nameOk l[i] = true
          · refine evP cn (evN (by omega) (evP (by omega) (evP (by rw [h1]; omega) (evC ih ?_))))
            rw [cn, Bool.true_and]
            split
            · simp only [ByteArray.append_assoc]
            · rfl
          · exact evN cn (evC (Ev.now _) (by simp [cn])))
      refine evC (key ⟨#[]⟩ (by simp only [List.drop_zero]; have : (⟨#[]⟩ : ByteArray).size = 0 := rfl; omega)) ?_
      simp only [List.drop_zero, nil_app, goodPath, c, decide_true, Bool.and_true]
    · have hi : 0 < l.length := by omega
      have hx := spec_name l[0] (by have := hs l[0] (List.getElem_mem hi); omega)
      have hr : rdOf ByteArray.empty l (0 : Int) = l[0] := rdS l 0 hi
      apply evPre
      simp only [spec_JoinPath.l0, hr]
      refine evP (by omega) (evP (by omega) (Ev.bind hx ?_))
      have hgp : goodPath l = false := by simp [goodPath, c]
      rw [hgp]
      by_cases cn : nameOk l[0] = true
      · exact evP cn (evP (by omega) (Ev.now _))
      · exact evN cn (Ev.now _)
end Go.Proofs.Ytkknehgaebhbeaa.Q
