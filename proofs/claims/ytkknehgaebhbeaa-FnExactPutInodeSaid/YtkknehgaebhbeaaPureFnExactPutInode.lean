/- FnExactPutInode returns true for every inode: the program's PutInode and the reference's answer alike, the inode is left as it was, and the answer is new memory. No condition. -/
import Derived.Test.YtkknehgaebhbeaaAskFnExactPutInode
import Derived.Test.YtkknehgaebhbeaaQp
import Derived.Test.YtkknehgaebhbeaaPx0
import Derived.Test.YtkknehgaebhbeaaPx10
namespace Go.Proofs.Ytkknehgaebhbeaa.Pure
open Go.RowKit Go.Proofs.Ytkknehgaebhbeaa.P Go.Proofs.Ytkknehgaebhbeaa.Q Go.Proofs.Ytkknehgaebhbeaa.Kinds Go.Proofs.YtkknehgaebhbeaaW.PrintWords Go.Proofs.YtkknehgaebhbeaaW.PrintLast Go.Proofs.YtkknehgaebhbeaaW.PrintMore

theorem entW_map (e : List S125) : entW (e.map iEnt) = entSz e + 8 * e.length := by
  unfold entW entSz
  induction e with
  | nil => rfl
  | cons x e ih => simp only [List.map_cons, List.sum_cons, List.length_cons] at *; simp only [iEnt] at *; omega
theorem attW_map (t : List S127) : attW (t.map iAttr) = attrSz t + 8 * t.length := by
  unfold attW attrSz
  induction t with
  | nil => rfl
  | cons x e ih => simp only [List.map_cons, List.sum_cons, List.length_cons] at *; simp only [iAttr] at *; omega
theorem FnExactPutInode : AskFnExactPutInode.Pure := by
  rintro x ⟨_, _, _, ⟨hd, _⟩, ⟨he, hE⟩, ⟨ht, hT⟩⟩
  have hM : maxLen = 9223372036854775807 := rfl
  simp only [hM] at hd he ht
  apply Ev.rounds
  unfold laws_FnExactPutInode.f
  obtain ⟨R, hR, hz, hle⟩ := szInode_ev x.f0 x.f1 x.f2 x.f3 x.f4 x.f5 1048576 (by omega) (by omega) hd he ht (fun e m => by have := (hE e m).1; simpa [hM] using this) (fun e m => by have := hT e m; simpa [hM, g127] using this)
  refine Ev.bind hR (evI' (fun _ => Ev.now _) (fun h => ?_))
  have hz := hz (by omega)
  have hsz : inoSz x ≤ 1048576 := by unfold inoSz; omega
  have hS := inoS_of x hsz
  unfold inoSz inodeSz at hsz
  have hd1 := hS.d
  have he1 := hS.e
  have ht1 := hS.t
  have we := entW_map x.f4
  have wt := attW_map x.f5
  have tx := toInode_ev x.f0 x.f1 x.f2 x.f3 x.f4 x.f5 hS.d hS.e hS.t
  have hen : ∀ y ∈ x.f4.map iEnt, y.f0.size ≤ 1048576 := by
    intro y hy; obtain ⟨z, hz, rfl⟩ := List.mem_map.1 hy; exact hS.en z hz
  have htn : ∀ y ∈ x.f5.map iAttr, y.f0.size ≤ 1048576 := by
    intro y hy; obtain ⟨z, hz, rfl⟩ := List.mem_map.1 hy; exact (hS.tn z hz).1
  have ps := spec_putInode x.f0 x.f1 x.f2 x.f3 (x.f4.map iEnt) (x.f5.map iAttr) hd1 (by simpa using he1) (by simpa using ht1) hen htn (by omega)
  have pi := impl_putInode x.f0 x.f1 x.f2 x.f3 (x.f4.map iEnt) (x.f5.map iAttr) hd1 (by simpa using he1) (by simpa using ht1) hen htn (by omega)
  have pl := putIno_length x.f0 x.f1 x.f2 x.f3 (x.f4.map iEnt) (x.f5.map iAttr)
  generalize putIno x.f0 x.f1 x.f2 x.f3 (x.f4.map iEnt) (x.f5.map iAttr) = B at ps pi pl
  have eqB := eqByteS_ev B B (by omega)
  have hmk := markByteS_ev B 1 (by omega) (by omega)
  have hhd := heldByteS_ev B.length 1 (by omega) (by omega)
  obtain ⟨r, hr, hr1, _⟩ := markInode_ev x.f0 x.f1 x.f2 x.f3 (x.f4.map iEnt) (x.f5.map iAttr) 1 (by omega) (by omega) hd1 (by simpa using he1) (by simpa using ht1)
  apply evPre
  simp only [laws_FnExactPutInode.j0]
  refine Ev.bind tx (Ev.bind ps (Ev.bind tx (Ev.bind pi (Ev.bind eqB (evP (by simp) ?_)))))
  apply evPre
  simp only [laws_FnExactPutInode.j1]
  refine Ev.bind tx (Ev.bind (eqInode_refl _ _ _ _ _ _ (by omega) (by simp; omega) (by simp; omega)) (evP rfl ?_))
  apply evPre
  simp only [laws_FnExactPutInode.j2]
  refine Ev.bind hr (evN (by omega) (Ev.bind eqB ?_))
  apply evPre
  simp only [laws_FnExactPutInode.j3]
  refine evN (by simp) ?_
  apply evPre
  simp only [laws_FnExactPutInode.j4]
  refine Ev.bind hmk (Ev.bind hhd (evN (by omega) ?_))
  apply evPre
  simp only [laws_FnExactPutInode.j5]
  refine evP (by simp) ?_
  apply evPre
  simp only [laws_FnExactPutInode.j6]
  refine Ev.bind tx (Ev.bind pi (Ev.bind eqB (evP (by simp) ?_)))
  apply evPre
  simp only [laws_FnExactPutInode.j7]
  exact Ev.bind hhd (evN (by omega) (evP rfl (Ev.now _)))

end Go.Proofs.Ytkknehgaebhbeaa.Pure
