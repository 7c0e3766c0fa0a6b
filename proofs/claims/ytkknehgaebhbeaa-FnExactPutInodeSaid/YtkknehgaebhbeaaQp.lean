/- PutInode: what the program's and the reference's functions answer, in plain words; inodes marked. No condition. -/
import Derived.Test.YtkknehgaebhbeaaQk
import Derived.Test.YtkknehgaebhbeaaQpt
import Derived.Test.YtkknehgaebhbeaaQmk
import Derived.Test.YtkknehgaebhbeaaPx0
import Derived.Test.YtkknehgaebhbeaaPx10
import Derived.Test.YtkknehgaebhbeaaPx9
namespace Go.Proofs.Ytkknehgaebhbeaa.Q
open Go.RowKit Go.Proofs.Ytkknehgaebhbeaa.P Go.Proofs.YtkknehgaebhbeaaW.PrintWords Go.Proofs.YtkknehgaebhbeaaW.PrintLast Go.Proofs.YtkknehgaebhbeaaW.PrintMore

theorem strOfNums_size (l : List Int) : (strOfNums l).size = l.length := by
  simp [strOfNums, ByteArray.size]
theorem markText_loop (m : Nat) : ∀ (n : Int) (s : ByteArray), 0 ≤ n → n ≤ 9223372036854775807 → n < 10 ^ m → s.size + m ≤ 1000 → ∃ r, Ev (fun k => laws_markText.l0 k n s) r := by
  induction m with
  | zero =>
    intro n s h0 _ h1 hs
    refine ⟨(⟨#[109]⟩ : ByteArray) ++ s, evPre ?_⟩
    simp only [laws_markText.l0]
    exact evN (by omega) (evP (by omega) (Ev.now _))
  | succ m ih =>
    intro n s h0 hM h1 hs
    by_cases hn : n > 0
    · have hd : wrap64 (Int.tdiv n 10) = n / 10 := by rw [Int.tdiv_eq_ediv_of_nonneg h0]; exact w64 (by omega) (by omega)
      obtain ⟨r, hr⟩ := ih (n / 10) ((strOfNums [wrap64 (48 + Int.tmod n 10) % 256]) ++ s) (by omega) (by omega) (by rw [Int.pow_succ] at h1; omega) (by rw [ByteArray.size_append, strOfNums_size]; simp; omega)
      refine ⟨r, evPre ?_⟩
      simp only [laws_markText.l0, Option.bind_some, hd]
      exact evP hn (evP (by rw [strOfNums_size]; simp; omega) hr)
    · refine ⟨(⟨#[109]⟩ : ByteArray) ++ s, evPre ?_⟩
      simp only [laws_markText.l0]
      exact evN hn (evP (by omega) (Ev.now _))
theorem markText_ev (n : Int) (h0 : 1 ≤ n) (h1 : n ≤ 9223372036854775807) : ∃ r, Ev (fun k => laws_markText.f k n) r := by
  obtain ⟨r, h⟩ := markText_loop 19 n ⟨#[]⟩ (by omega) h1 (by omega) (by decide)
  exact ⟨r, by unfold laws_markText.f; exact evN (by omega) h⟩
theorem markEntS_ev (l : List S83) (x : Int) (h0 : 1 ≤ x) (h1 : x + 2 * l.length ≤ 4611686018427387904) : ∃ r, Ev (fun k => laws_markEntS.f k l x) r ∧ 1 ≤ r.1 ∧ r.1 ≤ x + 2 * l.length := by
  have key := down (n := l.length) (P := fun i => ∀ (y : List S83) (a : Int), y.length = l.length → 1 ≤ a → a + 2 * (l.length - i : Nat) ≤ x + 2 * l.length → ∃ r, Ev (fun k => laws_markEntS.l0 k y a (i : Nat)) r ∧ 1 ≤ r.1 ∧ r.1 ≤ x + 2 * l.length) (by
      intro y a hy ha hb
      refine ⟨(a, y), evPre ?_, ha, by dsimp only; omega⟩
      simp only [laws_markEntS.l0]
      exact evN (by omega) (Ev.now _)) (by
      intro i hi h y a hy ha hb
      obtain ⟨s, hs⟩ := markText_ev a ha (by omega)
      obtain ⟨r, hr, z1, z2⟩ := h (((y.set i (⟨s, (rd_T83 y (i : Nat)).f1⟩ : S83)).set i (⟨(rd_T83 (y.set i (⟨s, (rd_T83 y (i : Nat)).f1⟩ : S83)) (i : Nat)).f0, a + 1⟩ : S83))) (a + 1 + 1) (by simp [hy]) (by omega) (by omega)
      refine ⟨r, evPre ?_, z1, z2⟩
      simp only [laws_markEntS.l0, Option.bind_some]
      refine evP (by omega) (Ev.bind hs (evP (by omega) ?_))
      rw [w64 (n := a + 1) (by omega) (by omega), w64 (n := a + 1 + 1) (by omega) (by omega), nxt i l.length hi (by omega)]
      exact hr)
  obtain ⟨r, hr, z⟩ := key l x rfl h0 (by omega)
  exact ⟨r, by simpa [laws_markEntS.f] using hr, z⟩
theorem markAttrS_ev (l : List S85) (x : Int) (h0 : 1 ≤ x) (h1 : x + 2 * l.length ≤ 4611686018427387904) : ∃ r, Ev (fun k => laws_markAttrS.f k l x) r ∧ 1 ≤ r.1 ∧ r.1 ≤ x + 2 * l.length := by
  have key := down (n := l.length) (P := fun i => ∀ (y : List S85) (a : Int), y.length = l.length → 1 ≤ a → a + 2 * (l.length - i : Nat) ≤ x + 2 * l.length → ∃ r, Ev (fun k => laws_markAttrS.l0 k y a (i : Nat)) r ∧ 1 ≤ r.1 ∧ r.1 ≤ x + 2 * l.length) (by
      intro y a hy ha hb
      refine ⟨(a, y), evPre ?_, ha, by dsimp only; omega⟩
      simp only [laws_markAttrS.l0]
      exact evN (by omega) (Ev.now _)) (by
      intro i hi h y a hy ha hb
      obtain ⟨s, hs⟩ := markText_ev a ha (by omega)
      obtain ⟨s2, hs2⟩ := markText_ev (a + 1) (by omega) (by omega)
      obtain ⟨r, hr, z1, z2⟩ := h (((y.set i (⟨s, (rd_T85 y (i : Nat)).f1⟩ : S85)).set i (⟨(rd_T85 (y.set i (⟨s, (rd_T85 y (i : Nat)).f1⟩ : S85)) (i : Nat)).f0, s2⟩ : S85))) (a + 1 + 1) (by simp [hy]) (by omega) (by omega)
      refine ⟨r, evPre ?_, z1, z2⟩
      simp only [laws_markAttrS.l0, Option.bind_some]
      rw [w64 (n := a + 1) (by omega) (by omega), w64 (n := a + 1 + 1) (by omega) (by omega), nxt i l.length hi (by omega)]
      exact evP (by omega) (Ev.bind hs (evP (by omega) (Ev.bind hs2 hr))))
  obtain ⟨r, hr, z⟩ := key l x rfl h0 (by omega)
  exact ⟨r, by simpa [laws_markAttrS.f] using hr, z⟩
theorem markInode_ev (a b c : Int) (d : List Int) (e : List S83) (t : List S85) (x : Int) (h0 : 1 ≤ x) (hx : x ≤ 1152921504606846976) (hd : d.length ≤ 1048576) (he : e.length ≤ 1048576) (ht : t.length ≤ 1048576) :
    ∃ r, Ev (fun k => laws_markInode.f k a b c d e t x) r ∧ 1 ≤ r.1 ∧ r.1 ≤ x + 5242880 := by
  have h1 := markByteS_ev d x (by omega) (by omega)
  obtain ⟨r2, h2, z2, w2⟩ := markEntS_ev e (x + d.length) (by omega) (by omega)
  obtain ⟨r3, h3, z3, w3⟩ := markAttrS_ev t r2.1 z2 (by omega)
  refine ⟨(r3.1, marks d.length x, r2.2, r3.2), ?_, z3, by dsimp only; omega⟩
  unfold laws_markInode.f
  exact Ev.bind h1 (Ev.bind h2 (Ev.bind h3 (Ev.now _)))

def entB (b : List Int) (e : S83) : List Int := putNum (putText b e.f0) e.f1
def attB (b : List Int) (t : S85) : List Int := putText (putText b t.f0) t.f1
def entW (l : List S83) : Nat := (l.map fun e => e.f0.size + 8).sum
def attW (l : List S85) : Nat := (l.map fun t => t.f0.size + t.f1.size + 8).sum
theorem entW_drop (l : List S83) (j : Nat) (hj : j < l.length) : entW (l.drop j) = l[j].f0.size + 8 + entW (l.drop (j + 1)) := by
  unfold entW; rw [List.drop_eq_getElem_cons hj, List.map_cons, List.sum_cons]
theorem attW_drop (l : List S85) (j : Nat) (hj : j < l.length) : attW (l.drop j) = l[j].f0.size + l[j].f1.size + 8 + attW (l.drop (j + 1)) := by
  unfold attW; rw [List.drop_eq_getElem_cons hj, List.map_cons, List.sum_cons]
def endB (b : List Int) (t : List S85) : List Int := t.foldl attB (putNum b (t.length : Int))
def putIno (a b c : Int) (d : List Int) (e : List S83) (t : List S85) : List Int :=
  if inodeOk a b c d e t = true then endB (e.foldl entB (putNum (putText (putNum (putNum (putNum [] a) b) c) (strOfNums d)) (e.length : Int))) t else []
theorem entB_length (b : List Int) (e : S83) : (entB b e).length ≤ b.length + (e.f0.size + 8) := by
  have := putText_length b e.f0; have := putNum_length (putText b e.f0) e.f1; unfold entB; omega
theorem attB_length (b : List Int) (t : S85) : (attB b t).length ≤ b.length + (t.f0.size + t.f1.size + 8) := by
  have := putText_length b t.f0; have := putText_length (putText b t.f0) t.f1; unfold attB; omega
theorem foldE_length (e : List S83) : ∀ b : List Int, (e.foldl entB b).length ≤ b.length + entW e := by
  induction e with
  | nil => intro b; simp
  | cons x e ih => intro b; have := ih (entB b x); have := entB_length b x; simp only [List.foldl_cons, entW, List.map_cons, List.sum_cons] at *; omega
theorem foldA_length (t : List S85) : ∀ b : List Int, (t.foldl attB b).length ≤ b.length + attW t := by
  induction t with
  | nil => intro b; simp
  | cons x e ih => intro b; have := ih (attB b x); have := attB_length b x; simp only [List.foldl_cons, attW, List.map_cons, List.sum_cons] at *; omega

theorem spec_put_attrs (a b c : Int) (d : List Int) (e : List S83) (t : List S85) (ht : t.length ≤ 1048576) (xs : List Int) (hx : xs.length + attW t ≤ 4611686018000) :
    Ev (fun k => spec_PutInode.l1 k xs 0 a b c d e t) (t.foldl attB xs) := by
  have key := down (n := t.length) (P := fun i => ∀ xs : List Int, xs.length + attW (t.drop i) ≤ 4611686018000 → Ev (fun k => spec_PutInode.l1 k xs (i : Nat) a b c d e t) ((t.drop i).foldl attB xs)) (by
      intro xs _
      apply evPre
      simp only [spec_PutInode.l1, List.drop_length, List.foldl_nil]
      exact evN (by omega) (Ev.now _)) (by
      intro i hi h xs hx
      rw [attW_drop t i hi] at hx
      have hrd : rd_T85 t (i : Int) = t[i] := getD_at t _ i hi
      have l1 := putText_length xs t[i].f0
      have l2 := attB_length xs t[i]
      apply evPre
      simp only [spec_PutInode.l1, hrd]
      rw [List.drop_eq_getElem_cons hi, List.foldl_cons]
      refine evP (by omega) (evP (by omega) (Ev.bind (spec_putText xs (by omega) _ (by omega)) (Ev.bind (spec_putText _ (by omega) _ (by omega)) ?_)))
      rw [nxt i t.length hi (by omega)]
      exact h _ (by unfold attB at l2; omega))
  simpa using key xs (by simpa using hx)
theorem spec_put_ents (a b c : Int) (d : List Int) (e : List S83) (t : List S85) (he : e.length ≤ 1048576) (ht : t.length ≤ 1048576) (xs : List Int) (hx : xs.length + entW e + attW t ≤ 4611686017000) :
    Ev (fun k => spec_PutInode.l0 k xs 0 a b c d e t) (endB (e.foldl entB xs) t) := by
  have key := down (n := e.length) (P := fun i => ∀ xs : List Int, xs.length + entW (e.drop i) + attW t ≤ 4611686017000 → Ev (fun k => spec_PutInode.l0 k xs (i : Nat) a b c d e t) (endB ((e.drop i).foldl entB xs) t)) (by
      intro xs hx
      have l1 := putNum_length xs (t.length : Int)
      apply evPre
      simp only [spec_PutInode.l0, List.drop_length, List.foldl_nil]
      exact evN (by omega) (Ev.bind (spec_putNum xs (by omega) _) (spec_put_attrs a b c d e t ht _ (by omega)))) (by
      intro i hi h xs hx
      rw [entW_drop e i hi] at hx
      have hrd : rd_T83 e (i : Int) = e[i] := getD_at e _ i hi
      have l1 := putText_length xs e[i].f0
      have l2 := entB_length xs e[i]
      apply evPre
      simp only [spec_PutInode.l0, hrd]
      rw [List.drop_eq_getElem_cons hi, List.foldl_cons]
      refine evP (by omega) (evP (by omega) (Ev.bind (spec_putText xs (by omega) _ (by omega)) (Ev.bind (spec_putNum _ (by omega) _) ?_)))
      rw [nxt i e.length hi (by omega)]
      exact h _ (by unfold entB at l2; omega))
  simpa using key xs (by simpa using hx)
theorem impl_put_attrs (t : List S85) (ht : t.length ≤ 1048576) (xs : List Int) (hx : xs.length + attW t ≤ 4611686017900) :
    Ev (fun k => impl_putAttrs.f k xs t) (endB xs t) := by
  have key := down (n := t.length) (P := fun i => ∀ xs : List Int, xs.length + attW (t.drop i) ≤ 4611686018000 → Ev (fun k => impl_putAttrs.l0 k xs t (t.length : Int) (i : Nat)) ((t.drop i).foldl attB xs)) (by
      intro xs _
      apply evPre
      simp only [impl_putAttrs.l0, List.drop_length, List.foldl_nil]
      exact evN (by omega) (Ev.now _)) (by
      intro i hi h xs hx
      rw [attW_drop t i hi] at hx
      have hrd : rd_T85 t (i : Int) = t[i] := getD_at t _ i hi
      have l1 := putText_length xs t[i].f0
      have l2 := attB_length xs t[i]
      apply evPre
      simp only [impl_putAttrs.l0, hrd]
      rw [List.drop_eq_getElem_cons hi, List.foldl_cons]
      refine evP (by omega) (evP (by omega) (evP (by omega) (Ev.bind (impl_putText xs (by omega) _ (by omega)) (Ev.bind (impl_putText _ (by omega) _ (by omega)) ?_))))
      rw [nxt i t.length hi (by omega)]
      exact h _ (by unfold attB at l2; omega))
  have l1 := putNum_length xs (t.length : Int)
  unfold impl_putAttrs.f endB
  exact Ev.bind (impl_putNum xs (by omega) _) (by simpa using key (putNum xs (t.length : Int)) (by simp only [List.drop_zero]; omega))
theorem impl_put_ents (a b c : Int) (d : List Int) (e : List S83) (t : List S85) (he : e.length ≤ 1048576) (ht : t.length ≤ 1048576) (xs : List Int) (hx : xs.length + entW e + attW t ≤ 4611686017000) :
    Ev (fun k => impl_PutInode.l0 k xs e (e.length : Int) 0 a b c d e t) (endB (e.foldl entB xs) t) := by
  have key := down (n := e.length) (P := fun i => ∀ xs : List Int, xs.length + entW (e.drop i) + attW t ≤ 4611686017000 → Ev (fun k => impl_PutInode.l0 k xs e (e.length : Int) (i : Nat) a b c d e t) (endB ((e.drop i).foldl entB xs) t)) (by
      intro xs hx
      apply evPre
      simp only [impl_PutInode.l0, List.drop_length, List.foldl_nil]
      exact evN (by omega) (Ev.bind (impl_put_attrs t ht _ (by omega)) (Ev.now _))) (by
      intro i hi h xs hx
      rw [entW_drop e i hi] at hx
      have hrd : rd_T83 e (i : Int) = e[i] := getD_at e _ i hi
      have l1 := putText_length xs e[i].f0
      have l2 := entB_length xs e[i]
      apply evPre
      simp only [impl_PutInode.l0, hrd]
      rw [List.drop_eq_getElem_cons hi, List.foldl_cons]
      refine evP (by omega) (evP (by omega) (evP (by omega) (Ev.bind (impl_putText xs (by omega) _ (by omega)) (Ev.bind (impl_putNum _ (by omega) _) ?_))))
      rw [nxt i e.length hi (by omega)]
      exact h _ (by unfold entB at l2; omega))
  simpa using key xs (by simpa using hx)
theorem put_head (a b c : Int) (d : List Int) : (putText (putNum (putNum (putNum [] a) b) c) (strOfNums d)).length ≤ 16 + d.length := by
  have h1 := putNum_length [] a; have h2 := putNum_length (putNum [] a) b; have h3 := putNum_length (putNum (putNum [] a) b) c
  have h4 := putText_length (putNum (putNum (putNum [] a) b) c) (strOfNums d)
  rw [strOfNums_size] at h4
  simp only [List.length_nil] at h1
  omega
theorem spec_putInode (a b c : Int) (d : List Int) (e : List S83) (t : List S85) (hd : d.length ≤ 1048576) (he : e.length ≤ 1048576) (ht : t.length ≤ 1048576) (hen : ∀ x ∈ e, x.f0.size ≤ 1048576) (htn : ∀ x ∈ t, x.f0.size ≤ 1048576) (hw : entW e + attW t ≤ 4611680000000) :
    Ev (fun k => spec_PutInode.f k a b c d e t) (putIno a b c d e t) := by
  unfold spec_PutInode.f putIno
  have h1 := putNum_length [] a; have h2 := putNum_length (putNum [] a) b; have h3 := putNum_length (putNum (putNum [] a) b) c
  have h4 := put_head a b c d
  have h5 := putNum_length (putText (putNum (putNum (putNum [] a) b) c) (strOfNums d)) (e.length : Int)
  simp only [List.length_nil] at h1
  refine Ev.bind (spec_inodeOk a b c d e t he ht hen htn) (evI (fun _ => ?_) (fun _ => Ev.now _))
  exact Ev.bind (spec_putNum [] (by simp) a) (Ev.bind (spec_putNum _ (by omega) b) (Ev.bind (spec_putNum _ (by omega) c) (Ev.bind (spec_putText _ (by omega) _ (by rw [strOfNums_size]; omega)) (Ev.bind (spec_putNum _ (by omega) _) (spec_put_ents a b c d e t he ht _ (by omega))))))
theorem impl_putInode (a b c : Int) (d : List Int) (e : List S83) (t : List S85) (hd : d.length ≤ 1048576) (he : e.length ≤ 1048576) (ht : t.length ≤ 1048576) (hen : ∀ x ∈ e, x.f0.size ≤ 1048576) (htn : ∀ x ∈ t, x.f0.size ≤ 1048576) (hw : entW e + attW t ≤ 4611680000000) :
    Ev (fun k => impl_PutInode.f k a b c d e t) (putIno a b c d e t) := by
  unfold impl_PutInode.f putIno
  have h1 := putNum_length [] a; have h2 := putNum_length (putNum [] a) b; have h3 := putNum_length (putNum (putNum [] a) b) c
  have h4 := put_head a b c d
  have h5 := putNum_length (putText (putNum (putNum (putNum [] a) b) c) (strOfNums d)) (e.length : Int)
  simp only [List.length_nil] at h1
  refine Ev.bind (impl_inodeOk a b c d e t he ht hen htn) (evI (fun _ => ?_) (fun _ => Ev.now _))
  exact Ev.bind (impl_putNum [] (by simp) a) (Ev.bind (impl_putNum _ (by omega) b) (Ev.bind (impl_putNum _ (by omega) c) (Ev.bind (impl_putText _ (by omega) _ (by rw [strOfNums_size]; omega)) (Ev.bind (impl_putNum _ (by omega) _) (impl_put_ents a b c d e t he ht _ (by omega))))))
theorem putIno_length (a b c : Int) (d : List Int) (e : List S83) (t : List S85) : (putIno a b c d e t).length ≤ 24 + d.length + entW e + attW t := by
  unfold putIno
  split
  · have h4 := put_head a b c d
    have h5 := putNum_length (putText (putNum (putNum (putNum [] a) b) c) (strOfNums d)) (e.length : Int)
    have h6 := foldE_length e (putNum (putText (putNum (putNum (putNum [] a) b) c) (strOfNums d)) (e.length : Int))
    have h7 := putNum_length (e.foldl entB (putNum (putText (putNum (putNum (putNum [] a) b) c) (strOfNums d)) (e.length : Int))) (t.length : Int)
    have h8 := foldA_length t (putNum (e.foldl entB (putNum (putText (putNum (putNum (putNum [] a) b) c) (strOfNums d)) (e.length : Int))) (t.length : Int))
    unfold endB; omega
  · simp
end Go.Proofs.Ytkknehgaebhbeaa.Q
