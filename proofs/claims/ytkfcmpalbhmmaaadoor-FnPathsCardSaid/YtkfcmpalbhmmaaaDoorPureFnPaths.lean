/- FnPaths returns true for all bytes: drawn names that are a path come back of it, and a path comes back of its names. No condition. -/
import Derived.Test.YtkfcmpalbhmmaaaDoorQjq
import Derived.Test.YtkfcmpalbhmmaaaDoorQds
import Derived.Test.YtkfcmpalbhmmaaaDoorPx1
import Derived.Test.YtkfcmpalbhmmaaaDoorPx2
namespace Go.Proofs.YtkfcmpalbhmmaaaDoor.Pure
open Go.RowKit Go.Proofs.YtkfcmpalbhmmaaaDoor.P Go.Proofs.YtkfcmpalbhmmaaaDoor.Q Go.Proofs.YtkfcmpalbhmmaaaDoorW.PrintWords Go.Proofs.YtkfcmpalbhmmaaaDoorW.PrintLast Go.Proofs.YtkfcmpalbhmmaaaDoorW.PrintMore

theorem sameTexts_refl (l : List ByteArray) (hl : l.length ≤ 1048576) : Ev (fun k => laws_sameTexts.f k l l) true := by
  unfold laws_sameTexts.f
  refine evP rfl ?_
  refine ev_scan (fun k i => laws_sameTexts.l0 k l l i) l.length true ?_ (fun i hi h => ?_)
  · apply evPre
    simp only [laws_sameTexts.l0]
    exact evN (by omega) (Ev.now _)
  · apply evPre
    simp only [laws_sameTexts.l0]
    rw [nxtJ i l.length hi (by omega)]
    exact evP (by omega) (evP (by omega) (evP (by omega) (evP (by trivial) h)))
theorem drawJoin_loop {b : List Int} (m : Int) (hm : m ≤ 31) (n : Nat) : ∀ (j : Nat) (acc : List ByteArray) (i h : Int), Cur b i → (m - j).toNat = n → (j : Int) ≤ m ∨ m ≤ 0 ∧ j = 0 → acc.length = j → (∀ x ∈ acc, x.size ≤ 5) →
    ∃ l, Ev (fun k => spec_DrawJoinPath.l0 k acc m (j : Nat) b i h) l ∧ l.length ≤ 31 ∧ ∀ x ∈ l, x.size ≤ 5 := by
  induction n with
  | zero =>
    intro j acc i h hc hn hj ha hx
    obtain ⟨t, i1, h1, e, hc1⟩ := l1Once_ev hc h 6
    by_cases c : m > 0
    · cases t with
      | true =>
        obtain ⟨s, i2, h2, e2, hs, hc2⟩ := l1Str_ev hc1 h1 [(⟨#[]⟩ : ByteArray), (⟨#[65]⟩ : ByteArray), (⟨#[46, 46]⟩ : ByteArray)] (by simp)
        refine ⟨acc.set 0 s, ?_, by rw [List.length_set]; omega, fun x hx' => ?_⟩
        · apply evPre
          simp only [spec_DrawJoinPath.l0, e, e2, Option.bind_some]
          exact evN (by omega) (evP c (evP trivial (evP (by omega) (Ev.now _))))
        · rcases List.mem_or_eq_of_mem_set hx' with h | rfl
          · exact hx x h
          · exact size_of_all _ 5 (by decide) x hs
      | false =>
        refine ⟨acc, ?_, by omega, hx⟩
        apply evPre
        simp only [spec_DrawJoinPath.l0, e, Option.bind_some]
        exact evN (by omega) (evP c (evN (by simp) (Ev.now _)))
    · refine ⟨acc, ?_, by omega, hx⟩
      apply evPre
      simp only [spec_DrawJoinPath.l0]
      exact evN (by omega) (evN c (Ev.now _))
  | succ n ih =>
    intro j acc i h hc hn hj ha hx
    obtain ⟨s, i1, h1, e, hs, hc1⟩ := l2Name_ev hc h
    obtain ⟨l, e2, hl, hx2⟩ := ih (j + 1) (acc ++ [s]) i1 h1 hc1 (by omega) (by omega) (by simp [ha]) (by
      intro x hx'
      rcases List.mem_append.1 hx' with h | h
      · exact hx x h
      · rw [List.mem_singleton.1 h]; exact hs)
    refine ⟨l, ?_, hl, hx2⟩
    apply evPre
    simp only [spec_DrawJoinPath.l0, e, Option.bind_some]
    rw [w64 (by omega) (by omega)]
    exact evP (by omega) (evP (by omega) (by simpa using e2))
theorem drawJoin_ev (l : List Int) (hb : Byt l) (hl : l.length ≤ 4611686018427387904) : ∃ t, Ev (fun k => spec_DrawJoinPath.f k l) t ∧ t.length ≤ 31 ∧ ∀ x ∈ t, x.size ≤ 5 := by
  obtain ⟨h1, e1, c1⟩ := l1New_ev l hb hl
  obtain ⟨x, i2, h2, e2, hx0, hx1, _, c2⟩ := l1Below_ev c1 h1 4
  have hx1 := hx1 (by omega)
  obtain ⟨t, i3, h3, e3, c3⟩ := l1Once_ev c2 h2 20
  have key : ∀ (m i h : Int), Cur l i → 0 ≤ m → m ≤ 31 → ∃ t, Ev (fun k => spec_DrawJoinPath.j0 k [] m l i h) t ∧ t.length ≤ 31 ∧ ∀ x ∈ t, x.size ≤ 5 := by
    intro m i h hc h0 h31
    obtain ⟨t, e, ht⟩ := drawJoin_loop m h31 m.toNat 0 [] i h hc (by omega) (by omega) rfl (fun x hx => by cases hx)
    refine ⟨t, ?_, ht⟩
    apply evPre
    simp only [spec_DrawJoinPath.j0]
    exact e
  unfold spec_DrawJoinPath.f
  cases t with
  | true =>
    obtain ⟨y, i4, h4, e4, hy0, hy1, _, c4⟩ := l1Below_ev c3 h3 2
    have hy1 := hy1 (by omega)
    obtain ⟨r, e5, hr⟩ := key (30 + y) i4 h4 c4 (by omega) (by omega)
    refine ⟨r, Ev.bind e1 ?_, hr⟩
    simp only [e2, e3, e4, Option.bind_some]
    rw [w64 (by omega) (by omega)]
    exact evP trivial e5
  | false =>
    obtain ⟨r, e5, hr⟩ := key x i3 h3 c3 (by omega) (by omega)
    refine ⟨r, Ev.bind e1 ?_, hr⟩
    simp only [e2, e3, Option.bind_some]
    exact evN (by simp) e5
theorem strSz_le (l : List ByteArray) (m : Nat) (h : ∀ x ∈ l, x.size ≤ m) : strSz l ≤ m * l.length := by
  induction l with
  | nil => simp [strSz]
  | cons x l ih =>
    have h1 := h x (List.mem_cons_self ..)
    have h2 := ih (fun y hy => h y (List.mem_cons_of_mem _ hy))
    simp only [strSz, List.map_cons, List.sum_cons, List.length_cons] at h2 ⊢
    rw [Nat.mul_add]; omega
theorem FnPaths : laws_FnPaths.Pure := by
  intro l hl hm hw
  have hb : Byt l := fun x hx => wf8 (hw x hx)
  apply Ev.rounds
  unfold laws_FnPaths.f laws_big.f
  simp only [Option.bind_some]
  refine evI' (fun _ => Ev.now _) (fun hbig => ?_)
  have hsm : l.length ≤ 1048576 := by simp at hbig; omega
  obtain ⟨t, eT, ht, htx⟩ := drawJoin_ev l hb (by omega)
  obtain ⟨s, eS, hs⟩ := drawSplit_ev l hb (by omega)
  have htz := strSz_le t 5 htx
  have hjs : (joinQ t).size ≤ 1000 := by
    unfold joinQ
    split
    · decide
    · split
      · rw [pathB_size]; omega
      · decide
  have hss := splitP_size s
  have hsj : Ev (fun k => spec_JoinPath.f k t) (joinQ t) := spec_join t (by omega) (by omega)
  have fin : Ev (fun k => if (joinQ t).toList = (joinQ t).toList then (if (joinQ t).toList = ([] : List UInt8) then some true else (if (splitP (joinQ t)).2 = true then ((laws_sameTexts.f k (splitP (joinQ t)).1 t).bind fun t253 => some t253) else some false)) else some false) true := by
    refine evP rfl (evI' (fun _ => Ev.now _) (fun hne => ?_))
    have hg : goodPath t = true := by
      by_cases c : goodPath t = true
      · exact c
      · exfalso
        apply hne
        unfold joinQ
        by_cases c0 : t.length = 0
        · exact absurd (by rw [List.eq_nil_of_length_eq_zero c0]; rfl) c
        · rw [if_neg c0, if_neg c, toList_data]
    rw [splitP_join t hg]
    exact evP rfl (Ev.bind (sameTexts_refl t (by omega)) (Ev.now _))
  refine Ev.bind eT (Ev.bind (impl_joinQ t (by omega) (by omega)) (Ev.bind (impl_split _ (by omega)) (Ev.bind eS (Ev.bind (impl_split s (by omega)) (Ev.bind (spec_split s (by omega)) (evN (by simp) ?_))))))
  refine evI' (fun c => ?_) (fun c => ?_)
  · refine Ev.bind (impl_joinQ _ (by omega) (by omega)) (evP (by rw [path_split s c]) (Ev.bind hsj fin))
  · exact Ev.bind hsj fin
end Go.Proofs.YtkfcmpalbhmmaaaDoor.Pure
