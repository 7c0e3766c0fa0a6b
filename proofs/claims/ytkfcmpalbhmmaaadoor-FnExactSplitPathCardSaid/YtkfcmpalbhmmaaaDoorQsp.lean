/- SplitPath: what the program's and the reference's functions answer, in plain words. No condition. -/
import Derived.Test.YtkfcmpalbhmmaaaDoorQnm
import Derived.Test.YtkfcmpalbhmmaaaDoorPx1
namespace Go.Proofs.YtkfcmpalbhmmaaaDoor.Q
open Go.RowKit Go.Proofs.YtkfcmpalbhmmaaaDoor.P Go.Proofs.YtkfcmpalbhmmaaaDoorW.PrintWords Go.Proofs.YtkfcmpalbhmmaaaDoorW.PrintLast Go.Proofs.YtkfcmpalbhmmaaaDoorW.PrintMore

def consPre (q : List UInt8) : List (List UInt8) → List (List UInt8)
  | [] => [q]
  | p :: ps => (q ++ p) :: ps
/-- The parts between slashes. -/
def parts : List UInt8 → List (List UInt8)
  | [] => [[]]
  | b :: l => if b = 47 then [] :: parts l else consPre [b] (parts l)
theorem parts_ne (l : List UInt8) : parts l ≠ [] := by
  cases l with
  | nil => simp [parts]
  | cons b l =>
    rw [parts]
    split
    · simp
    · cases parts l <;> simp [consPre]
theorem consPre_nil (X : List (List UInt8)) (h : X ≠ []) : consPre [] X = X := by
  cases X with
  | nil => exact absurd rfl h
  | cons p ps => rfl
theorem consPre_app (q r : List UInt8) (X : List (List UInt8)) : consPre q (consPre r X) = consPre (q ++ r) X := by
  cases X <;> simp [consPre]
theorem splitK_ne (k : Nat) (b : UInt8) (l : List UInt8) (h : b ≠ 47) : Lib.splitK [47] 0 k (b :: l) = consPre [b] (Lib.splitK [47] 0 k l) := by
  cases k with
  | zero => rfl
  | succ k =>
    have hp : ([47] : List UInt8).isPrefixOf (b :: l) = false := by simp [List.isPrefixOf, Ne.symm h]
    have hix : Lib.index (b :: l) [47] = if Lib.index l [47] == -1 then -1 else Lib.index l [47] + 1 := by rw [Lib.index, hp]; simp
    by_cases hm : Lib.index l [47] = -1
    · rw [Lib.splitK, Lib.splitK, hix, hm]; rfl
    · have hge := Lib.index_ge l [47]
      obtain ⟨j, hj⟩ : ∃ j : Nat, Lib.index l [47] = j := ⟨(Lib.index l [47]).toNat, by omega⟩
      have hix' : Lib.index (b :: l) [47] = ((j + 1 : Nat) : Int) := by rw [hix, if_neg (fun e => hm (beq_iff_eq.1 e)), hj]; omega
      have n1 : ¬ (((j + 1 : Nat) : Int) == -1) = true := fun e => by have := beq_iff_eq.1 e; omega
      have n2 : ¬ ((j : Int) == -1) = true := fun e => by have := beq_iff_eq.1 e; omega
      rw [Lib.splitK, Lib.splitK, hix', hj, if_neg n1, if_neg n2, Int.toNat_natCast, Int.toNat_natCast]
      simp [consPre]
theorem splitK_eq (k : Nat) (l : List UInt8) : Lib.splitK [47] 0 (k + 1) (47 :: l) = [] :: Lib.splitK [47] 0 k l := by
  have hix : Lib.index (47 :: l) [47] = 0 := by rw [Lib.index]; simp [List.isPrefixOf]
  rw [Lib.splitK, hix, if_neg (by decide)]
  simp
theorem splitK_parts (l : List UInt8) : Lib.splitK [47] 0 (Lib.count l [47]) l = parts l := by
  induction l with
  | nil => rw [Lib.count_miss (by simp [Lib.index])]; rfl
  | cons b l ih =>
    rw [parts]
    by_cases h : b = 47
    · subst h
      rw [if_pos rfl, Lib.count_cons_eq, Nat.add_comm, splitK_eq, ih]
    · rw [if_neg h, Lib.count_cons_ne b 47 l h, splitK_ne _ _ _ h, ih]
def mkB (l : List UInt8) : ByteArray := ⟨l.toArray⟩
theorem mkB_data (s : ByteArray) : mkB s.data.toList = s := by simp [mkB]
theorem mkB_size (l : List UInt8) : (mkB l).size = l.length := by rw [← data_length]; simp [mkB]
theorem data_mkB (l : List UInt8) : (mkB l).data.toList = l := by simp [mkB]
theorem splitB_parts (s : ByteArray) : Lib.splitB ⟨#[47]⟩ 0 (Lib.countB s ⟨#[47]⟩) s = (parts s.data.toList).map mkB := by
  have h := Lib.splitB_data ⟨#[47]⟩ 0 (Lib.countB s ⟨#[47]⟩) s
  have hc : Lib.countB s ⟨#[47]⟩ = Lib.count s.data.toList [47] := rfl
  rw [show (⟨#[47]⟩ : ByteArray).data.toList = [47] from rfl, hc, splitK_parts] at h
  rw [hc, ← h, List.map_map]
  conv => lhs; rw [← List.map_id (Lib.splitB _ _ _ _)]
  apply List.map_congr_left
  intro x _
  exact (mkB_data x).symm
theorem parts_sum (l : List UInt8) : ∀ p ∈ parts l, p.length ≤ l.length := by
  induction l with
  | nil => intro p hp; simp [parts] at hp; subst hp; simp
  | cons b l ih =>
    intro p hp
    rw [parts] at hp
    split at hp
    · rcases List.mem_cons.1 hp with rfl | hp
      · simp
      · have := ih p hp; simp; omega
    · cases hX : parts l with
      | nil => exact absurd hX (parts_ne l)
      | cons q X =>
        rw [hX] at hp ih
        rcases List.mem_cons.1 hp with rfl | hp
        · have := ih q (List.mem_cons_self ..); simp; omega
        · have := ih p (List.mem_cons_of_mem _ hp); simp; omega
theorem parts_len (l : List UInt8) : (parts l).length ≤ l.length + 1 := by
  induction l with
  | nil => simp [parts]
  | cons b l ih =>
    rw [parts]
    split
    · simp; omega
    · cases hX : parts l with
      | nil => simp [consPre]
      | cons q X => rw [hX] at ih; simp [consPre] at ih ⊢; omega
/-- The names of a path, and whether it is one. -/
def splitP (s : ByteArray) : List ByteArray × Bool :=
  if s.toList = ([47] : List UInt8) then ([], true) else
  match (parts s.data.toList).map mkB with
  | [] => ([], false)
  | x :: l => if x.toList = [] ∧ l ≠ [] ∧ goodPath l = true then (l, true) else ([], false)
theorem impl_split (s : ByteArray) (hs : s.size ≤ 1048576) : Ev (fun k => impl_SplitPath.f k s) (splitP s) := by
  unfold impl_SplitPath.f splitP
  refine evI (fun _ => Ev.now _) (fun _ => ?_)
  have h0 : strings_Split.f s ⟨#[47]⟩ = some ((parts s.data.toList).map mkB) := by
    unfold strings_Split.f
    rw [if_pos ⟨by omega, by decide⟩, splitB_parts]
  simp only [h0, Option.bind_some]
  have hps := parts_sum s.data.toList
  have hsz : s.data.toList.length = s.size := data_length s
  have hpl := parts_len s.data.toList
  cases hX : parts s.data.toList with
  | nil => exact absurd hX (parts_ne _)
  | cons p ps =>
    rw [hX] at hps hpl
    rw [List.map_cons]
    refine evP (by rw [List.length_cons]; omega) ?_
    have hr : rdOf ByteArray.empty (mkB p :: ps.map mkB) 0 = mkB p := rfl
    simp only [hr]
    by_cases c : (mkB p).toList = []
    · refine evP c ?_
      cases hq : ps with
      | nil => exact evP (by simp) (evC (Ev.now _) (by simp))
      | cons q qs =>
        rw [← hq]
        have hne : ps.map mkB ≠ [] := by rw [hq]; simp
        have hl : 0 < ps.length := by rw [hq]; simp
        refine evN (by simp; omega) (evP (by simp; omega) ?_)
        have hn := impl_names (ps.map mkB) (by
          intro x hx
          obtain ⟨y, hy, rfl⟩ := List.mem_map.1 hx
          rw [mkB_size]
          have := hps y (List.mem_cons_of_mem _ hy)
          omega)
        refine Ev.bind hn ?_
        by_cases g : goodPath (ps.map mkB) = true
        · exact evP g (evC (Ev.now _) (by rw [if_pos ⟨c, hne, g⟩]; rfl))
        · exact evN g (evC (Ev.now _) (by rw [if_neg (fun h => g h.2.2)]))
    · exact evN c (evC (Ev.now _) (by rw [if_neg (fun h => c h.1)]))
/-- Names that are taken one by one. -/
def proc : List ByteArray → List (List UInt8) → Option (List ByteArray)
  | out, [] => some out
  | out, p :: ps => if nameOk (mkB p) = true then (if out.length = 30 then none else proc (out ++ [mkB p]) ps) else none
theorem proc_eq (ps : List (List UInt8)) : ∀ out : List ByteArray, out.length ≤ 30 → proc out ps = if (ps.map mkB).all nameOk = true ∧ out.length + ps.length ≤ 30 then some (out ++ ps.map mkB) else none := by
  induction ps with
  | nil => intro out h; simp [proc, h]
  | cons p ps ih =>
    intro out h
    rw [proc]
    by_cases c : nameOk (mkB p) = true
    · rw [if_pos c]
      by_cases d : out.length = 30
      · rw [if_pos d, if_neg (by simp; omega)]
      · rw [if_neg d, ih _ (by simp; omega)]
        simp only [List.map_cons, List.all_cons, c, Bool.true_and, List.length_append, List.length_cons, List.length_nil, List.append_assoc, List.singleton_append]
        congr 1
        simp only [Nat.zero_add, Nat.add_assoc, Nat.add_comm 1]
    · rw [if_neg c, if_neg (by simp [c])]
def finS (s : ByteArray) : Option (List ByteArray) → List ByteArray × Bool
  | none => ([], false)
  | some out => if s.data.toList.head? = some 47 then (out, true) else ([], false)
theorem bt_data (s : ByteArray) (i : Nat) (h : i < s.size) : bt s (i : Int) = ((s.data.toList[i]'(by rw [data_length]; exact h)).toNat : Int) := by
  rw [← bt_at s (i : Int) (by rw [Int.toNat_natCast]; exact h)]
  simp only [Int.toNat_natCast]
  rfl
theorem u47 (b : UInt8) : ((b.toNat : Int) = 47) ↔ b = 47 := by
  constructor
  · intro h
    have : b.toNat = 47 := by omega
    exact UInt8.toNat_inj.1 (this.trans rfl)
  · rintro rfl; rfl
theorem spec_split_end (s : ByteArray) (out : List ByteArray) (i f : Int) (k : Nat) (h : ¬ i ≤ (s.size : Int)) : spec_SplitPath.l0 (k + 1) s out f i = some (finS s (some out)) := by
  simp only [spec_SplitPath.l0]
  rw [if_neg h]
  have hsz : s.data.toList.length = s.size := data_length s
  cases hd : s.data.toList with
  | nil =>
    rw [hd] at hsz
    rw [if_pos (by simp at hsz; omega)]
    simp [finS, hd]
  | cons b l =>
    have hl : 0 < s.size := by rw [← hsz, hd]; simp
    rw [if_neg (by omega), if_pos (by omega)]
    have hb := bt_data s 0 hl
    simp only [hd, List.getElem_cons_zero] at hb
    have hb' : bt s 0 = (b.toNat : Int) := hb
    rw [hb']
    by_cases c : b = 47
    · rw [if_pos ((u47 b).2 c)]; simp [finS, hd, c]
    · rw [if_neg (fun h => c ((u47 b).1 h))]; simp [finS, hd, c]
theorem drop_at (s : ByteArray) (i : Nat) (h : i < s.size) : s.data.toList.drop i = (s.data.toList[i]'(by rw [data_length]; exact h)) :: s.data.toList.drop (i + 1) := List.drop_eq_getElem_cons _
theorem spec_split_loop (s : ByteArray) (hs : s.size ≤ 1048576) : ∀ (n i f : Nat) (out : List ByteArray), 1 ≤ i → i ≤ s.size → f ≤ i → s.size - i = n → out.length ≤ 30 →
    Ev (fun k => spec_SplitPath.l0 k s out f i) (finS s (proc out (consPre ((s.data.toList.drop f).take (i - f)) (parts (s.data.toList.drop i))))) := by
  have hsz : s.data.toList.length = s.size := data_length s
  intro n
  induction n with
  | zero =>
    intro i f out h1 hi hf hn ho
    obtain rfl : i = s.size := by omega
    have hx : (s.extract f s.size) = mkB ((s.data.toList.drop f).take (s.size - f)) := by
      rw [← mkB_data (s.extract f s.size)]
      congr 1
      rw [Lib.extract_data]
    have hsl : (s.extract f s.size).size ≤ 9223372036854775807 := by rw [ByteArray.size_extract]; omega
    rw [List.drop_eq_nil_of_le (by omega : s.data.toList.length ≤ s.size)]
    have hnm := spec_name (s.extract f s.size) hsl
    apply evPre
    simp only [spec_SplitPath.l0]
    refine evP (by omega) (evN (by omega) ?_)
    apply evPre
    simp only [spec_SplitPath.j1]
    refine evN (by simp) (evP (by omega) (evP (by omega) (evP (by omega) (evP (by omega) ?_))))
    simp only [Int.toNat_natCast]
    refine Ev.bind hnm ?_
    rw [hx]
    simp only [parts, consPre, List.append_nil, proc]
    by_cases c : nameOk (mkB ((s.data.toList.drop f).take (s.size - f))) = true
    · refine evP c ?_
      rw [if_pos c]
      by_cases d : out.length = 30
      · rw [if_pos d]
        exact evP (by omega) (Ev.now _)
      · rw [if_neg d]
        refine evN (by omega) (evP (by omega) ?_)
        apply evPre
        rw [w64 (by omega) (by omega)]
        simp only [spec_split_end s _ _ _ _ (show ¬ ((s.size : Int) + 1) ≤ (s.size : Int) by omega)]
        exact Ev.now _
    · rw [if_neg c]
      exact evN c (Ev.now _)
  | succ n ih =>
    intro i f out h1 hi hf hn ho
    have hlt : i < s.size := by omega
    have hb := bt_data s i hlt
    have hd := drop_at s i hlt
    generalize hB : (s.data.toList[i]'(by rw [data_length]; exact hlt)) = B at hb hd
    have hnx : wrap64 ((i : Int) + 1) = ((i + 1 : Nat) : Int) := by rw [w64 (by omega) (by omega)]; omega
    have htk : (s.data.toList.drop f).take (i + 1 - f) = (s.data.toList.drop f).take (i - f) ++ [B] := by
      rw [show i + 1 - f = (i - f) + 1 by omega, List.take_succ_eq_append_getElem (by rw [List.length_drop]; omega)]
      congr 2
      rw [List.getElem_drop]
      simp only [show f + (i - f) = i by omega]
      exact hB
    apply evPre
    simp only [spec_SplitPath.l0]
    refine evP (by omega) (evP (by omega) (evP (by omega) ?_))
    apply evPre
    simp only [spec_SplitPath.j1]
    rw [hb, hnx]
    by_cases c : B = 47
    · have hx : (s.extract f i) = mkB ((s.data.toList.drop f).take (i - f)) := by
        rw [← mkB_data (s.extract f i)]
        congr 1
        rw [Lib.extract_data]
      have hsl : (s.extract f i).size ≤ 9223372036854775807 := by rw [ByteArray.size_extract]; omega
      have hnm := spec_name (s.extract f i) hsl
      rw [hd, parts, if_pos c]
      refine evN (by simp [(u47 B).2 c]) (evP (by omega) (evP (by omega) (evP (by omega) (evP (by omega) ?_))))
      simp only [Int.toNat_natCast]
      refine Ev.bind hnm ?_
      rw [hx]
      simp only [consPre, List.append_nil, proc]
      by_cases cn : nameOk (mkB ((s.data.toList.drop f).take (i - f))) = true
      · refine evP cn ?_
        rw [if_pos cn]
        by_cases d : out.length = 30
        · rw [if_pos d]
          exact evP (by omega) (Ev.now _)
        · rw [if_neg d]
          refine evN (by omega) (evP (by omega) ?_)
          have := ih (i + 1) (i + 1) (out ++ [mkB ((s.data.toList.drop f).take (i - f))]) (by omega) (by omega) (Nat.le_refl _) (by omega) (by simp; omega)
          rw [Nat.sub_self, List.take_zero, consPre_nil _ (parts_ne _)] at this
          exact this
      · rw [if_neg cn]
        exact evN cn (Ev.now _)
    · rw [hd, parts, if_neg c, consPre_app, ← htk]
      refine evP (by simpa using fun h => c ((u47 B).1 h)) ?_
      exact ih (i + 1) f out (by omega) (by omega) (by omega) (by omega) ho
theorem spec_split (s : ByteArray) (hs : s.size ≤ 1048576) : Ev (fun k => spec_SplitPath.f k s) (splitP s) := by
  have hsz : s.data.toList.length = s.size := data_length s
  unfold spec_SplitPath.f splitP
  simp only [Option.bind_some]
  refine evI (fun _ => Ev.now _) (fun _ => ?_)
  cases hd : s.data.toList with
  | nil =>
    rw [hd] at hsz
    have h0 : s.size = 0 := by simpa using hsz.symm
    apply evPre
    simp only [spec_SplitPath.l0]
    refine evP (by omega) (evN (by omega) ?_)
    apply evPre
    simp only [spec_SplitPath.j1]
    refine evN (by simp) (evN (by omega) ?_)
    apply evPre
    simp only [spec_split_end s _ _ _ _ (show ¬ (wrap64 (0 + 1)) ≤ (s.size : Int) by rw [h0, w64 (by omega) (by omega)]; omega)]
    exact evC (Ev.now _) (by simp [finS, hd, parts])
  | cons b l =>
    have hl : 0 < s.size := by rw [← hsz, hd]; simp
    have hb := bt_data s 0 hl
    simp only [hd, List.getElem_cons_zero] at hb
    have hb' : bt s 0 = (b.toNat : Int) := hb
    apply evPre
    simp only [spec_SplitPath.l0]
    refine evP (by omega) (evP (by omega) (evP (by omega) ?_))
    apply evPre
    simp only [spec_SplitPath.j1]
    rw [hb', show wrap64 (0 + 1) = ((1 : Nat) : Int) from w64 (by omega) (by omega)]
    by_cases c : b = 47
    · refine evN (by simp [(u47 b).2 c]) (evN (by omega) ?_)
      have := spec_split_loop s hs (s.size - 1) 1 1 [] (by omega) (by omega) (Nat.le_refl _) rfl (by simp)
      refine evC this ?_
      rw [Nat.sub_self, List.take_zero, consPre_nil _ (parts_ne _), proc_eq _ _ (by simp), hd, parts, if_pos c]
      simp only [List.drop_succ_cons, List.drop_zero, List.map_cons, List.length_nil, Nat.zero_add, List.nil_append]
      have hne : (parts l).map mkB ≠ [] := by
        intro h; exact parts_ne l (List.map_eq_nil_iff.1 h)
      have he : (mkB []).toList = [] := by rw [toList_data, data_mkB]
      by_cases g : goodPath ((parts l).map mkB) = true
      · have g' := g
        simp only [goodPath, List.length_map, Bool.and_eq_true, decide_eq_true_eq] at g'
        rw [if_pos g', if_pos ⟨he, hne, g⟩]
        simp [finS, hd, c]
      · have g' : ¬ (((parts l).map mkB).all nameOk = true ∧ (parts l).length ≤ 30) := by
          intro h; apply g; simp only [goodPath, List.length_map, Bool.and_eq_true, decide_eq_true_eq]; exact h
        rw [if_neg g', if_neg (fun h => g h.2.2)]
        rfl
    · refine evP (by simpa using fun h => c ((u47 b).1 h)) ?_
      have := spec_split_loop s hs (s.size - 1) 1 0 [] (by omega) (by omega) (by omega) rfl (by simp)
      refine evC this ?_
      have hf : ∀ x, finS s x = ([], false) := by
        intro x
        cases x with
        | none => rfl
        | some out => simp [finS, hd, c]
      rw [hf, parts, if_neg c]
      cases hX : parts l with
      | nil => exact absurd hX (parts_ne l)
      | cons p ps =>
        simp only [consPre, List.map_cons]
        rw [if_neg]
        intro h
        have := h.1
        rw [toList_data, data_mkB] at this
        simp at this
end Go.Proofs.YtkfcmpalbhmmaaaDoor.Q
