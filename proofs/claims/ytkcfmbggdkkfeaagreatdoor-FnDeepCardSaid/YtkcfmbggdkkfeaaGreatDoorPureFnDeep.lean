/- FnDeep returns true for every code: directories within directories go as deep as there are names, and not deeper. No condition. -/
import Derived.Test.YtkcfmbggdkkfeaaGreatDoorQ
import Derived.Test.YtkcfmbggdkkfeaaGreatDoorPx0
import Derived.Test.YtkcfmbggdkkfeaaGreatDoorPx10
import Derived.Test.YtkcfmbggdkkfeaaGreatDoorPx11
import Derived.Test.YtkcfmbggdkkfeaaGreatDoorPx13
import Derived.Test.YtkcfmbggdkkfeaaGreatDoorPx3
import Derived.Test.YtkcfmbggdkkfeaaGreatDoorPx4
import Derived.Test.YtkcfmbggdkkfeaaGreatDoorPx8
import Derived.Test.YtkcfmbggdkkfeaaGreatDoorPx9
set_option linter.unusedVariables false
set_option linter.unusedSimpArgs false
namespace Go.Proofs.YtkcfmbggdkkfeaaGreatDoor.Pure
open Go.RowKit Go.Proofs.YtkcfmbggdkkfeaaGreatDoor.P Go.Proofs.YtkcfmbggdkkfeaaGreatDoor.Q Go.Proofs.YtkcfmbggdkkfeaaGreatDoorW.PrintWords Go.Proofs.YtkcfmbggdkkfeaaGreatDoorW.PrintLast Go.Proofs.YtkcfmbggdkkfeaaGreatDoorW.PrintMore

def cA : ByteArray := ⟨#[97]⟩
def node (nm : Nat → ByteArray) (n j : Nat) : S51 := ⟨((j + 1 : Nat) : Int), 2, if j = 0 then 0 else 1, [], if j < n then [⟨nm j, ((j + 2 : Nat) : Int)⟩] else [], []⟩
/-- A chain of directories. -/
def ch (nm : Nat → ByteArray) (n : Nat) : List S51 := (List.range (n + 1)).map (node nm n)
def nms (nm : Nat → ByteArray) (n : Nat) : List ByteArray := (List.range n).map nm
structure Nm (nm : Nat → ByteArray) : Prop where
  ok : ∀ i, nameOk (nm i) = true
  sz : ∀ i, (nm i).size = 1
theorem ch_length (nm : Nat → ByteArray) (n : Nat) : (ch nm n).length = n + 1 := by simp [ch]
theorem ch_n (nm : Nat → ByteArray) (n : Nat) : nT (ch nm n) = ch (fun _ => cA) n := by
  unfold nT ch
  rw [List.map_map]
  refine List.map_congr_left fun j _ => ?_
  unfold Function.comp nI node
  by_cases h : j < n
  · simp [h, nE, cA]
  · simp [h]
theorem okA : nameOk ⟨#[97]⟩ = true := by decide +kernel
theorem ok_node (nm : Nat → ByteArray) (h : Nm nm) (n j : Nat) : inOk (nI (node nm n j)) = inOk (node nm n j) := by
  unfold nI node inOk inodeOk entsOk
  by_cases c : j < n
  · simp only [c, if_true, List.map_cons, List.map_nil, nE, entsR, h.ok j, okA]
    rfl
  · simp only [c, if_false, List.map_nil]
set_option maxRecDepth 100000 in
theorem tree_all : (List.range 30).all (fun n => treeOk (ch (fun _ => cA) n) ((n + 2 : Nat) : Int)) = true := by decide +kernel
theorem ch_tree (nm : Nat → ByteArray) (h : Nm nm) (n : Nat) (hn : n < 30) : treeOk (ch nm n) ((n + 2 : Nat) : Int) = true := by
  have := List.all_eq_true.1 tree_all n (List.mem_range.2 hn)
  rw [← ch_n nm n, treeOk_n] at this
  · exact this
  · intro x hx
    obtain ⟨j, _, rfl⟩ := List.mem_map.1 hx
    exact ok_node nm h n j
theorem ch_small (nm : Nat → ByteArray) (h : Nm nm) (n : Nat) : ∀ x ∈ ch nm n, InoT x := by
  intro x hx
  obtain ⟨j, _, rfl⟩ := List.mem_map.1 hx
  unfold node
  by_cases c : j < n
  · simp only [c, if_true]
    exact ⟨by simp, by simp, by simp, fun y hy => by rw [List.mem_singleton.1 hy]; show (nm j).size ≤ _; rw [h.sz]; omega, by simp⟩
  · simp only [c, if_false]
    exact ⟨by simp, by simp, by simp, by simp, by simp⟩
theorem ch_ents (nm : Nat → ByteArray) (n : Nat) : ∀ x ∈ ch nm n, x.f4.length < 1048576 := by
  intro x hx
  obtain ⟨j, _, rfl⟩ := List.mem_map.1 hx
  unfold node
  by_cases c : j < n
  · simp only [c, if_true]; show (1 : Nat) < 1048576; decide
  · simp only [c, if_false]; show (0 : Nat) < 1048576; decide
theorem place_ch (nm : Nat → ByteArray) (n j : Nat) : ∀ (m i : Nat), i ≤ j → j < i + m → ∀ k : Nat, placeR ((j + 1 : Nat) : Int) ((List.range' i m).map (node nm n)) k = ((k + (j - i) : Nat) : Int) := by
  intro m
  induction m with
  | zero => intro i h1 h2; omega
  | succ m ih =>
    intro i h1 h2 k
    show (if (((i + 1 : Nat) : Int)) = ((j + 1 : Nat) : Int) then (k : Int) else placeR _ ((List.range' (i + 1) m).map (node nm n)) (k + 1)) = _
    by_cases c : i = j
    · subst c
      rw [if_pos rfl]; simp
    · rw [if_neg (by omega), ih (i + 1) (by omega) (by omega) (k + 1)]
      congr 1; omega
theorem at_ch (nm : Nat → ByteArray) (n j : Nat) (hj : j ≤ n) : isAt (ch nm n) ((j + 1 : Nat) : Int) = true ∧ inoAt (ch nm n) ((j + 1 : Nat) : Int) = node nm n j := by
  have hp : placeR ((j + 1 : Nat) : Int) (ch nm n) 0 = ((j : Nat) : Int) := by
    have := place_ch nm n j (n + 1) 0 (by omega) (by omega) 0
    rw [← List.range_eq_range'] at this
    unfold ch
    rw [this]; congr 1; omega
  unfold isAt inoAt
  rw [hp]
  refine ⟨decide_eq_true (by omega), ?_⟩
  rw [if_neg (by omega)]
  have hrd : rd_T51 (ch nm n) (j : Int) = (ch nm n)[j]'(by rw [ch_length]; omega) := getD_at _ _ j (by rw [ch_length]; omega)
  rw [hrd]
  simp [ch]
theorem walk_ch (nm : Nat → ByteArray) (n d : Nat) (hd : d ≤ n) : ∀ m j : Nat, j + m = d → walkR (ch nm n) ((List.range' j m).map nm) ((j + 1 : Nat) : Int) = (((d + 1 : Nat) : Int), 0) := by
  intro m
  induction m with
  | zero => intro j h; obtain rfl : j = d := by omega
            rfl
  | succ m ih =>
    intro j h
    obtain ⟨h1, h2⟩ := at_ch nm n j (by omega)
    show (if isAt _ _ = true then (if (inoAt _ _).f1 = 2 then (if entOf (nm j) (inoAt _ _).f4 = 0 then _ else walkR _ ((List.range' (j + 1) m).map nm) (entOf (nm j) (inoAt _ _).f4)) else _) else _) = _
    rw [if_pos h1, h2]
    have he : entOf (nm j) (node nm n j).f4 = ((j + 2 : Nat) : Int) := by
      unfold node
      simp only [show j < n by omega, if_true, entOf]
    rw [he, if_pos (show (node nm n j).f1 = 2 from rfl), if_neg (by omega)]
    exact ih (j + 1) (by omega)
theorem nms_good (nm : Nat → ByteArray) (h : Nm nm) (n : Nat) (hn : n ≤ 30) : goodPath (nms nm n) = true := by
  unfold goodPath nms
  simp only [Bool.and_eq_true, List.all_eq_true, List.mem_map, decide_eq_true_eq, List.length_map, List.length_range]
  exact ⟨by rintro x ⟨i, _, rfl⟩; exact h.ok i, hn⟩
theorem nms_len (nm : Nat → ByteArray) (n : Nat) : (nms nm n).length = n := by simp [nms]
theorem pathB_snoc (l : List ByteArray) (x : ByteArray) : pathB (l ++ [x]) = pathB l ++ ((⟨#[47]⟩ : ByteArray) ++ x) := by
  induction l with
  | nil => show ((⟨#[47]⟩ ++ x) ++ (⟨#[]⟩ : ByteArray)) = (⟨#[]⟩ : ByteArray) ++ _; rw [app_nil, nil_app]
  | cons y l ih => show ((⟨#[47]⟩ ++ y) ++ pathB (l ++ [x])) = ((⟨#[47]⟩ ++ y) ++ pathB l) ++ _; rw [ih]; simp only [ByteArray.append_assoc]
theorem nms_snoc (nm : Nat → ByteArray) (n : Nat) : nms nm (n + 1) = nms nm n ++ [nm n] := by simp [nms, List.range_succ]
theorem pathB_nms_size (nm : Nat → ByteArray) (h : Nm nm) (n : Nat) : (pathB (nms nm n)).size = 2 * n := by
  induction n with
  | zero => rfl
  | succ n ih =>
    rw [nms_snoc, pathB_snoc, ByteArray.size_append, ByteArray.size_append, ih, h.sz]
    show 2 * n + (1 + 1) = _
    omega
theorem parent_ch (nm : Nat → ByteArray) (h : Nm nm) (n : Nat) (hn : n < 30) : parentP (pathB (nms nm (n + 1))) = (joinQ (nms nm n), nm n, true) := by
  have hs := splitP_path (nms nm (n + 1)) (by rw [nms_snoc]; simp) (nms_good nm h (n + 1) hn)
  unfold parentP
  rw [hs, nms_snoc]
  simp
theorem spot_ch (nm : Nat → ByteArray) (h : Nm nm) (n : Nat) (hn : n < 30) : spotP (ch nm n) (pathB (nms nm (n + 1))) = (node nm n n, nm n, 0) := by
  have hp := parent_ch nm h n hn
  have hsp := splitP_join (nms nm n) (nms_good nm h n (by omega))
  have hw : walkP (ch nm n) (joinQ (nms nm n)) = (((n + 1 : Nat) : Int), 0) := by
    unfold walkP
    rw [hsp, if_pos rfl]
    have := walk_ch nm n n (Nat.le_refl _) n 0 (by omega)
    rw [← List.range_eq_range'] at this
    exact this
  obtain ⟨h1, h2⟩ := at_ch nm n n (Nat.le_refl _)
  have hst : statP (ch nm n) (joinQ (nms nm n)) = (node nm n n, 0) := by
    unfold statP
    rw [hw, if_pos rfl, if_pos h1, h2]
  unfold spotP
  dsimp only
  rw [hp]
  dsimp only
  rw [hst, if_pos rfl, if_pos (show (node nm n n).f1 = 2 from rfl)]
set_option maxRecDepth 100000 in
theorem next_all (nm : Nat → ByteArray) : (List.range 29).map (fun n => setP ⟨((n + 2 : Nat) : Int), 2, 1, [], [], []⟩ (setP (withE (node nm n n) (insE (nm n) ((n + 2 : Nat) : Int) [])) (ch nm n))) = (List.range 29).map (fun n => ch nm (n + 1)) := by kernel_rfl
theorem ready_ch (nm : Nat → ByteArray) (h : Nm nm) (n m : Nat) (hn : n < 30) (hm : m ≤ 30) (hm0 : 0 < m) : readyP (ch nm n) ((n + 2 : Nat) : Int) [pathB (nms nm m)] = true := by
  have hs := splitP_path (nms nm m) (fun e => by have := congrArg List.length e; rw [nms_len] at this; simp at this; omega) (nms_good nm h m hm)
  unfold readyP
  rw [ch_tree nm h n hn]
  simp [hs]
theorem make_ch (nm : Nat → ByteArray) (h : Nm nm) (n : Nat) (hn : n < 29) : makeP (ch nm n) ((n + 2 : Nat) : Int) (pathB (nms nm (n + 1))) 2 = (ch nm (n + 1), ((n + 1 + 2 : Nat) : Int), 0) := by
  have hnext : setP ⟨((n + 2 : Nat) : Int), 2, 1, [], [], []⟩ (setP (withE (node nm n n) (insE (nm n) ((n + 2 : Nat) : Int) [])) (ch nm n)) = ch nm (n + 1) := by
    have := congrArg (·[n]?) (next_all nm)
    simpa [hn] using this
  have he : (node nm n n).f4 = [] := by unfold node; simp
  unfold makeP
  rw [if_pos ⟨ready_ch nm h n (n + 1) (by omega) (by omega) (by omega), path_ne_root _ (nms_good nm h (n + 1) (by omega))⟩, spot_ch nm h n (by omega)]
  dsimp only
  rw [if_pos rfl, he, if_pos (show entOf (nm n) [] = 0 from rfl), if_neg (by rw [ch_length]; simp; omega), hnext]
  refine Prod.ext rfl (Prod.ext ?_ rfl)
  show ((n + 2 : Nat) : Int) + 1 = ((n + 1 + 2 : Nat) : Int)
  omega
theorem full_ch (nm : Nat → ByteArray) (h : Nm nm) : (makeP (ch nm 29) ((29 + 2 : Nat) : Int) (pathB (nms nm 30)) 1).2.2 = 5 := by
  have he : (node nm 29 29).f4 = [] := by unfold node; simp
  unfold makeP
  rw [if_pos ⟨ready_ch nm h 29 30 (by omega) (by omega) (by omega), path_ne_root _ (nms_good nm h 30 (by omega))⟩, spot_ch nm h 29 (by omega)]
  dsimp only
  rw [if_pos rfl, he, if_pos (show entOf (nm 29) [] = 0 from rfl), if_pos (.inr (.inl (ch_length ..)))]
theorem split_long (nm : Nat → ByteArray) (h : Nm nm) : (splitP (pathB (nms nm 31))).2 = false := by
  have ha : (nms nm 31).all nameOk = true := by
    rw [List.all_eq_true]; intro x hx
    obtain ⟨i, _, rfl⟩ := List.mem_map.1 hx
    exact h.ok i
  have hg : ¬ goodPath (nms nm 31) = true := by
    unfold goodPath
    rw [nms_len]; simp
  have hne : (pathB (nms nm 31)).toList ≠ ([47] : List UInt8) := by
    intro e
    have h1 := congrArg List.length e
    rw [toList_data, data_length, pathB_nms_size nm h] at h1
    simp at h1
  unfold splitP
  rw [if_neg hne, parts_path _ ha, List.map_cons, map_mk]
  simp only
  rw [if_neg (fun hh => hg hh.2.2)]
theorem below_ch (nm : Nat → ByteArray) (h : Nm nm) (n : Nat) (hn : n < 30) : ∀ m j : Nat, j + m = n → ∀ p : ByteArray, p.size ≤ 1000 + 2 * j → ∃ l : List ByteArray, l.length = m ∧ Ev (fun k => impl_pathsBelow.f k (ch nm n) ((n + 2 : Nat) : Int) (node nm n j).f0 (node nm n j).f1 (node nm n j).f2 (node nm n j).f3 (node nm n j).f4 (node nm n j).f5 p) l := by
  have hA : ∀ x ∈ ch nm n, InoA x := fun x hx => (ch_small nm h n x hx).a
  intro m
  induction m with
  | zero =>
    intro j hj p hp
    refine ⟨[], rfl, ?_⟩
    have he : (node nm n j).f4 = [] := by unfold node; simp [show ¬ j < n by omega]
    apply evPre
    simp only [impl_pathsBelow.f]
    apply evPre
    simp only [impl_pathsBelow.l0, he]
    exact evN (by decide) (Ev.now _)
  | succ m ih =>
    intro j hj p hp
    have hsz := h.sz j
    obtain ⟨l, hl, hE⟩ := ih (j + 1) (by omega) ((p ++ (⟨#[47]⟩ : ByteArray)) ++ nm j) (by rw [ByteArray.size_append, ByteArray.size_append, hsz]; show p.size + 1 + 1 ≤ _; omega)
    refine ⟨[(p ++ (⟨#[47]⟩ : ByteArray)) ++ nm j] ++ l, by simp [hl], ?_⟩
    have he : (node nm n j).f4 = [⟨nm j, ((j + 2 : Nat) : Int)⟩] := by unfold node; simp [show j < n by omega]
    obtain ⟨h1, h2⟩ := at_ch nm n (j + 1) (by omega)
    have hia := impl_inodeAt (ch nm n) ((n + 2 : Nat) : Int) ((j + 1 + 1 : Nat) : Int) (by rw [ch_length]; omega) hA
    rw [h2] at hia
    have hps : (p ++ (⟨#[47]⟩ : ByteArray)).size = p.size + 1 := by rw [ByteArray.size_append]; rfl
    apply evPre
    simp only [impl_pathsBelow.f]
    apply evPre
    simp only [impl_pathsBelow.l0, he]
    have hr : rd_T65 [⟨nm j, ((j + 2 : Nat) : Int)⟩] 0 = ⟨nm j, ((j + 2 : Nat) : Int)⟩ := rfl
    have hlen : (([⟨nm j, ((j + 2 : Nat) : Int)⟩] : List S65).length : Int) = 1 := rfl
    simp only [hr, Option.bind_some, hps, hsz, hlen]
    refine evP (by decide) (evP (by decide) (evP (by decide) (evP (by omega) (evP (by omega) (evP (by decide) ?_)))))
    refine Ev.bind hia (Ev.bind hE (evP (by simp [hl]; omega) ?_))
    apply evPre
    simp only [impl_pathsBelow.l0]
    exact evN (by rw [w64 (by omega) (by omega)]; omega) (evC (Ev.now _) (by simp))
theorem paths_ch (nm : Nat → ByteArray) (h : Nm nm) : ∃ l : List ByteArray, l.length = 29 ∧ Ev (fun k => impl_PathsOf.f k (ch nm 29) ((29 + 2 : Nat) : Int)) l := by
  have hA : ∀ x ∈ ch nm 29, InoA x := fun x hx => (ch_small nm h 29 x hx).a
  obtain ⟨l, hl, hE⟩ := below_ch nm h 29 (by omega) 29 0 (by omega) (⟨#[]⟩ : ByteArray) (by decide)
  refine ⟨sortS l, by rw [sortS_length, hl], ?_⟩
  have ht : Ev (fun k => impl_TreeOk.f k (ch nm 29) ((29 + 2 : Nat) : Int)) true := evC (impl_treeOk (ch nm 29) ((29 + 2 : Nat) : Int) (by rw [ch_length]; omega) (ch_small nm h 29)) (ch_tree nm h 29 (by omega))
  obtain ⟨_, h2⟩ := at_ch nm 29 0 (by omega)
  have hia := impl_inodeAt (ch nm 29) ((29 + 2 : Nat) : Int) ((0 + 1 : Nat) : Int) (by rw [ch_length]; omega) hA
  rw [h2] at hia
  unfold impl_PathsOf.f
  refine Ev.bind ht (evP rfl (Ev.bind hia (Ev.bind hE (evP (by rw [hl]; omega) (Ev.now _)))))
set_option maxRecDepth 100000 in
theorem use_ch (nm : Nat → ByteArray) : usage (ch nm 29) = 960 := by kernel_rfl
theorem ltr_ok : (List.range 26).all (fun i => nameOk (ltr i) && decide ((ltr i).size = 1)) = true := by decide +kernel
theorem FnDeep : laws_FnDeep.Pure := by
  intro l0 _ hsz hb
  apply Ev.rounds
  unfold laws_FnDeep.f
  have hb8 : ∀ x ∈ l0, 0 ≤ x ∧ x ≤ 255 := fun x hx => wf8 (hb x hx)
  have hl : l0.length ≤ 140737488351232 := by omega
  simp only [laws_big.f, Option.bind_some]
  refine evI' (fun _ => Ev.now _) (fun _ => ?_)
  simp only [impl_TabNew.f, Option.bind_some]
  -- the names: letters out of the code; the last two are z
  have hex : ∀ i : Nat, ∃ j : Nat, j < 26 ∧ (i < 29 → ∃ b : Int, laws_at.f l0 ((i + 2 : Nat) : Int) = some b ∧ Int.tmod b 26 = (j : Int)) ∧ (¬ i < 29 → j = 25) := by
    intro i
    by_cases c : i < 29
    · obtain ⟨b, hb', hb0, hb1⟩ := at_ev l0 (i + 2) hb8 hl (by omega)
      obtain ⟨j, hj, hj26⟩ := tmod_nat b 26 hb0 (by decide)
      rw [show ((26 : Nat) : Int) = 26 from rfl] at hj
      exact ⟨j, hj26, fun _ => ⟨b, hb', hj⟩, fun h => absurd c h⟩
    · exact ⟨25, by omega, fun h => absurd h c, fun _ => rfl⟩
  obtain ⟨ix, hix⟩ := Classical.axiomOfChoice hex
  obtain ⟨nm, hnm⟩ : ∃ nm : Nat → ByteArray, nm = fun i => ltr (ix i) := ⟨_, rfl⟩
  have hN : Nm nm := by
    have key : ∀ i, nameOk (nm i) = true ∧ (nm i).size = 1 := by
      intro i
      have := List.all_eq_true.1 ltr_ok (ix i) (List.mem_range.2 (hix i).1)
      simp only [Bool.and_eq_true, decide_eq_true_eq] at this
      rw [hnm]; exact this
    exact ⟨fun i => (key i).1, fun i => (key i).2⟩
  have hz : ∀ i, ¬ i < 29 → nm i = ⟨#[122]⟩ := by
    intro i hi
    rw [hnm]
    show ltr (ix i) = _
    rw [(hix i).2.2 hi]
    decide +kernel
  have hslash : ∀ i : Nat, i < 29 → laws_slash.f l0 ((i + 2 : Nat) : Int) = some ((⟨#[47]⟩ : ByteArray) ++ nm i) := by
    intro i hi
    obtain ⟨b, hb', hj⟩ := (hix i).2.1 hi
    have hs1 : (strOfNums [((97 + ix i : Nat) : Int)]).size = 1 := by have := hN.sz i; rw [hnm] at this; exact this
    unfold laws_slash.f
    simp only [hb', Option.bind_some, ltr_num b 26 (ix i) hj (hix i).1]
    rw [hs1, if_pos (by decide), hnm]
    rfl
  clear hnm hix
  have h0 : [(⟨1, 2, 0, ([] : List Int), ([] : List S65), ([] : List S71)⟩ : S51)] = ch nm 0 := by simp [ch, node]
  rw [h0]
  have key := down (n := 29) (P := fun i => Ev (fun k => laws_FnDeep.l0 k l0 (pathB (nms nm i)) (i : Nat) (ch nm i) ((i + 2 : Nat) : Int)) true) (by
      have hp := pathB_nms_size nm hN 29
      have e1 : pathB (nms nm 29) ++ (⟨#[47, 122]⟩ : ByteArray) = pathB (nms nm 30) := by
        rw [nms_snoc nm 29, pathB_snoc, hz 29 (by omega)]; rfl
      have e2 : pathB (nms nm 29) ++ (⟨#[47, 122, 47, 122]⟩ : ByteArray) = pathB (nms nm 31) := by
        rw [nms_snoc nm 30, pathB_snoc, nms_snoc nm 29, pathB_snoc, hz 29 (by omega), hz 30 (by omega), ByteArray.append_assoc]; rfl
      have p30 := pathB_nms_size nm hN 30
      have p31 := pathB_nms_size nm hN 31
      apply evPre
      simp only [laws_FnDeep.l0, e1, e2, hp]
      have hT : (ch nm 29).length ≤ 1000 := by rw [ch_length]; omega
      have ht : Ev (fun k => impl_TreeOk.f k (ch nm 29) ((29 + 2 : Nat) : Int)) true := evC (impl_treeOk (ch nm 29) ((29 + 2 : Nat) : Int) (by omega) (ch_small nm hN 29)) (ch_tree nm hN 29 (by omega))
      have hm := impl_mkFile (ch nm 29) ((29 + 2 : Nat) : Int) (pathB (nms nm 30)) (by omega) (ch_small nm hN 29) (by omega) (ch_ents nm 29) (by omega)
      have f5 := full_ch nm hN
      have s1 := splitP_path (nms nm 30) (fun e => by have := congrArg List.length e; rw [nms_len] at this; simp at this) (nms_good nm hN 30 (by omega))
      have s2 := split_long nm hN
      obtain ⟨l, hl29, hP⟩ := paths_ch nm hN
      have hu := impl_usage (ch nm 29) ((29 + 2 : Nat) : Int) (by omega) (fun x hx => ⟨(ch_small nm hN 29 x hx).a.d, (ch_small nm hN 29 x hx).a.t⟩) (by rw [use_ch]; omega)
      rw [use_ch] at hu
      have n30 := nms_len nm 30
      refine evN (by decide) (evP (by decide) (Ev.bind hm (Ev.bind (impl_split _ (by omega)) (evP (by decide) (Ev.bind (impl_split _ (by omega)) ?_)))))
      rw [s1]
      refine evP f5 (evP rfl (evP (by rw [n30]; rfl) (evN (by rw [s2]; decide) (Ev.bind ht (evP rfl (Ev.bind hP (evP (by rw [hl29]; rfl) (Ev.bind hu (Ev.now _)))))))))
      )
    (fun i hi h => by
      have hp := pathB_nms_size nm hN i
      have hw : wrap64 ((i : Int) + 2) = ((i + 2 : Nat) : Int) := by rw [w64 (by omega) (by omega)]; omega
      have e1 : pathB (nms nm i) ++ ((⟨#[47]⟩ : ByteArray) ++ nm i) = pathB (nms nm (i + 1)) := by rw [nms_snoc nm i, pathB_snoc]
      have hs2 : ((⟨#[47]⟩ : ByteArray) ++ nm i).size = 2 := by rw [ByteArray.size_append, hN.sz]; rfl
      have p1 := pathB_nms_size nm hN (i + 1)
      apply evPre
      simp only [laws_FnDeep.l0, hw, hslash i hi, Option.bind_some, hs2, e1, hp]
      rw [nxt i 29 hi (by omega)]
      have hm := impl_mkDir (ch nm i) ((i + 2 : Nat) : Int) (pathB (nms nm (i + 1))) (by rw [ch_length]; omega) (ch_small nm hN i) (by omega) (ch_ents nm i) (by omega)
      rw [make_ch nm hN i hi] at hm
      exact evP (by omega) (evP (by omega) (Ev.bind hm (evP rfl h))))
  exact key
end Go.Proofs.YtkcfmbggdkkfeaaGreatDoor.Pure
