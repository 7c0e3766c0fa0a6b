/- Inodes: what the laws' own helpers answer (copies, sizes, what is compared with itself); EntOf. No condition. -/
import Derived.Test.YtkfcmpalbhmmaaaDoorQc
import Derived.Test.YtkfcmpalbhmmaaaDoorQh
import Derived.Test.YtkfcmpalbhmmaaaDoorPx0
import Derived.Test.YtkfcmpalbhmmaaaDoorPx1
import Derived.Test.YtkfcmpalbhmmaaaDoorPx2
namespace Go.Proofs.YtkfcmpalbhmmaaaDoor.Q
open Go.RowKit Go.Proofs.YtkfcmpalbhmmaaaDoor.P Go.Proofs.YtkfcmpalbhmmaaaDoorW.PrintWords Go.Proofs.YtkfcmpalbhmmaaaDoorW.PrintLast Go.Proofs.YtkfcmpalbhmmaaaDoorW.PrintMore

def iEnt (x : S141) : S91 := ⟨x.f0, x.f1⟩
def iAttr (x : S143) : S87 := ⟨x.f0, x.f1⟩
theorem nxt (i : Nat) (n : Nat) (hi : i < n) (hn : n ≤ 9223372036854775807) : wrap64 ((i : Int) + 1) = ((i + 1 : Nat) : Int) := by
  rw [w64 (by omega) (by omega)]; omega
theorem toEntS_ev (l : List S141) (hl : l.length ≤ 11728124029610) : Ev (fun k => laws_toEntS.f k l) (l.map iEnt) := by
  unfold laws_toEntS.f
  refine evP (by omega) (evP (by omega) ?_)
  rw [Int.toNat_natCast]
  refine ev_copy (fun k ys i => laws_toEntS.l0 k l ys i) l iEnt _ (fun ys => ?_) (fun i hi ys hy R h => ?_)
  · apply evPre
    simp only [laws_toEntS.l0]
    exact evN (by omega) (Ev.now _)
  · apply evPre
    simp only [laws_toEntS.l0, laws_toEnt.f, Option.bind_some]
    refine evP (by omega) (evP (by omega) (evP (by omega) ?_))
    rw [nxt i l.length hi (by omega), Int.toNat_natCast]
    simp only [rd_T141, getD_at l _ i hi]
    exact h
theorem toAttrS_ev (l : List S143) (hl : l.length ≤ 8796093022208) : Ev (fun k => laws_toAttrS.f k l) (l.map iAttr) := by
  unfold laws_toAttrS.f
  refine evP (by omega) (evP (by omega) ?_)
  rw [Int.toNat_natCast]
  refine ev_copy (fun k ys i => laws_toAttrS.l0 k l ys i) l iAttr _ (fun ys => ?_) (fun i hi ys hy R h => ?_)
  · apply evPre
    simp only [laws_toAttrS.l0]
    exact evN (by omega) (Ev.now _)
  · apply evPre
    simp only [laws_toAttrS.l0, laws_toAttr.f, Option.bind_some]
    refine evP (by omega) (evP (by omega) (evP (by omega) ?_))
    rw [nxt i l.length hi (by omega), Int.toNat_natCast]
    simp only [rd_T143, getD_at l _ i hi]
    exact h
theorem toInode_ev (a b c : Int) (d : List Int) (e : List S141) (t : List S143) (hd : d.length ≤ 1048576) (he : e.length ≤ 1048576) (ht : t.length ≤ 1048576) :
    Ev (fun k => laws_toInode.f k a b c d e t) (a, b, c, d, e.map iEnt, t.map iAttr) := by
  unfold laws_toInode.f
  exact Ev.bind (toByteS_ev d (by omega)) (Ev.bind (toEntS_ev e (by omega)) (Ev.bind (toAttrS_ev t (by omega)) (Ev.now _)))
theorem eqEntS_refl (l : List S91) (hl : l.length ≤ 9223372036854775807) : Ev (fun k => laws_eqEntS.f k l l) true := by
  unfold laws_eqEntS.f
  refine evP rfl (ev_scan (fun k i => laws_eqEntS.l0 k l l i) l.length true ?_ (fun i hi h => ?_))
  · apply evPre
    simp only [laws_eqEntS.l0]
    exact evN (by omega) (Ev.now _)
  · apply evPre
    simp only [laws_eqEntS.l0, laws_eqEnt.f, if_true, Option.bind_some]
    refine evP (by omega) (evP (by omega) (evP (by omega) ?_))
    rw [nxt i l.length hi hl]
    exact h
theorem eqAttrS_refl (l : List S87) (hl : l.length ≤ 9223372036854775807) : Ev (fun k => laws_eqAttrS.f k l l) true := by
  unfold laws_eqAttrS.f
  refine evP rfl (ev_scan (fun k i => laws_eqAttrS.l0 k l l i) l.length true ?_ (fun i hi h => ?_))
  · apply evPre
    simp only [laws_eqAttrS.l0]
    exact evN (by omega) (Ev.now _)
  · apply evPre
    simp only [laws_eqAttrS.l0, laws_eqAttr.f, if_true, Option.bind_some]
    refine evP (by omega) (evP (by omega) (evP (by omega) ?_))
    rw [nxt i l.length hi hl]
    exact h
theorem eqInode_refl (a b c : Int) (d : List Int) (e : List S91) (t : List S87) (hd : d.length ≤ 9223372036854775807) (he : e.length ≤ 9223372036854775807) (ht : t.length ≤ 9223372036854775807) :
    Ev (fun k => laws_eqInode.f k a b c d e t a b c d e t) true := by
  unfold laws_eqInode.f
  refine evP rfl (evP rfl (evP rfl (Ev.bind (eqByteS_ev d d hd) (evP (by simp) (Ev.bind (eqEntS_refl e he) (evP rfl (Ev.bind (eqAttrS_refl t ht) (evP rfl (Ev.now _)))))))))

/-- What is left of a size, and is not below 0, bounds what was counted. -/
theorem szByteS_ev (d : List Int) (n : Int) (h0 : 0 ≤ n) (h1 : n ≤ 1048576) (hd : d.length ≤ 9223372036854775807) : ∃ R, laws_szByteS.f d n = some R ∧ (0 ≤ R → R = n - d.length) ∧ R ≤ n := by
  unfold laws_szByteS.f
  rw [w64 (by omega) (by omega)]
  by_cases h : n - (d.length : Int) < 0
  · rw [if_pos h]; exact ⟨_, rfl, fun h => by omega, by omega⟩
  · rw [if_neg h]; exact ⟨_, rfl, fun _ => rfl, by omega⟩
def entSz (l : List S141) : Nat := (l.map fun e => e.f0.size).sum
def attrSz (l : List S143) : Nat := (l.map fun e => e.f0.size + e.f1.size).sum
theorem sum_take {α : Type} (f : α → Nat) (l : List α) (i : Nat) (hi : i < l.length) : ((l.take (i + 1)).map f).sum = ((l.take i).map f).sum + f l[i] := by
  rw [List.take_succ_eq_append_getElem hi, List.map_append, List.sum_append]; simp
theorem szEntS_ev (l : List S141) (n : Int) (h0 : 0 ≤ n) (h1 : n ≤ 1048576) (hl : l.length ≤ 9223372036854775807) (hg : ∀ e ∈ l, e.f0.size ≤ 9223372036854775807) :
    ∃ R, Ev (fun k => laws_szEntS.f k l n) R ∧ (0 ≤ R → R = n - l.length - entSz l) ∧ R ≤ n := by
  unfold laws_szEntS.f
  rw [w64 (by omega) (by omega)]
  by_cases h : n - (l.length : Int) < 0
  · exact ⟨-1, evP h (Ev.now _), fun h => by omega, by omega⟩
  · obtain ⟨R, hR, hZ⟩ := ev_carry (fun k a i => laws_szEntS.l0 k l a i) l.length (fun i a => 0 ≤ a ∧ a = n - l.length - ((l.take i).map fun e => e.f0.size).sum) (fun R => (0 ≤ R → R = n - l.length - entSz l) ∧ R ≤ n)
      (fun a ha => ⟨a, by
        apply evPre
        simp only [laws_szEntS.l0]
        exact evN (by omega) (Ev.now _), fun _ => by rw [ha.2, List.take_length]; rfl, by omega⟩)
      (fun i a hi ha => by
        have hm := hg l[i] (List.getElem_mem hi)
        have hs := sum_take (fun e : S141 => e.f0.size) l i hi
        by_cases hlt : a - (l[i].f0.size : Int) < 0
        · refine .inl ⟨-1, ?_, fun h => by omega, by omega⟩
          apply evPre
          simp only [laws_szEntS.l0, laws_szEnt.f, rd_T141, getD_at l _ i hi]
          rw [w64 (n := a - (l[i].f0.size : Int)) (by omega) (by omega), if_pos hlt]
          simp only [Option.bind_some]
          exact evP (by omega) (evP (by omega) (evP (by omega) (Ev.now _)))
        · refine .inr ⟨a - (l[i].f0.size : Int), ⟨by omega, by rw [hs]; omega⟩, fun R h => ?_⟩
          apply evPre
          simp only [laws_szEntS.l0, laws_szEnt.f, rd_T141, getD_at l _ i hi]
          rw [w64 (n := a - (l[i].f0.size : Int)) (by omega) (by omega), if_neg hlt]
          simp only [Option.bind_some]
          refine evP (by omega) (evP (by omega) (evN (by omega) ?_))
          rw [nxt i l.length hi hl]
          exact h) (n - l.length) ⟨by omega, by simp⟩
    exact ⟨R, evN h hR, hZ⟩
theorem szAttrS_ev (l : List S143) (n : Int) (h0 : 0 ≤ n) (h1 : n ≤ 1048576) (hl : l.length ≤ 9223372036854775807) (hg : ∀ e ∈ l, e.f0.size ≤ 9223372036854775807 ∧ e.f1.size ≤ 9223372036854775807) :
    ∃ R, Ev (fun k => laws_szAttrS.f k l n) R ∧ (0 ≤ R → R = n - l.length - attrSz l) ∧ R ≤ n := by
  unfold laws_szAttrS.f
  rw [w64 (by omega) (by omega)]
  by_cases h : n - (l.length : Int) < 0
  · exact ⟨-1, evP h (Ev.now _), fun h => by omega, by omega⟩
  · obtain ⟨R, hR, hZ⟩ := ev_carry (fun k a i => laws_szAttrS.l0 k l a i) l.length (fun i a => 0 ≤ a ∧ a = n - l.length - ((l.take i).map fun e => e.f0.size + e.f1.size).sum) (fun R => (0 ≤ R → R = n - l.length - attrSz l) ∧ R ≤ n)
      (fun a ha => ⟨a, by
        apply evPre
        simp only [laws_szAttrS.l0]
        exact evN (by omega) (Ev.now _), fun _ => by rw [ha.2, List.take_length]; rfl, by omega⟩)
      (fun i a hi ha => by
        have hm := hg l[i] (List.getElem_mem hi)
        have hs := sum_take (fun e : S143 => e.f0.size + e.f1.size) l i hi
        by_cases hlt : a - (l[i].f0.size : Int) < 0
        · refine .inl ⟨-1, ?_, fun h => by omega, by omega⟩
          apply evPre
          simp only [laws_szAttrS.l0, laws_szAttr.f, rd_T143, getD_at l _ i hi]
          rw [w64 (n := a - (l[i].f0.size : Int)) (by omega) (by omega), if_pos hlt]
          simp only [Option.bind_some]
          exact evP (by omega) (evP (by omega) (evP (by omega) (Ev.now _)))
        · by_cases hlt2 : a - (l[i].f0.size : Int) - (l[i].f1.size : Int) < 0
          · refine .inl ⟨-1, ?_, fun h => by omega, by omega⟩
            apply evPre
            simp only [laws_szAttrS.l0, laws_szAttr.f, rd_T143, getD_at l _ i hi]
            rw [w64 (n := a - (l[i].f0.size : Int)) (by omega) (by omega), if_neg hlt, w64 (n := a - (l[i].f0.size : Int) - (l[i].f1.size : Int)) (by omega) (by omega), if_pos hlt2]
            simp only [Option.bind_some]
            exact evP (by omega) (evP (by omega) (evP (by omega) (Ev.now _)))
          · refine .inr ⟨a - (l[i].f0.size : Int) - (l[i].f1.size : Int), ⟨by omega, by rw [hs]; omega⟩, fun R h => ?_⟩
            apply evPre
            simp only [laws_szAttrS.l0, laws_szAttr.f, rd_T143, getD_at l _ i hi]
            rw [w64 (n := a - (l[i].f0.size : Int)) (by omega) (by omega), if_neg hlt, w64 (n := a - (l[i].f0.size : Int) - (l[i].f1.size : Int)) (by omega) (by omega), if_neg hlt2]
            simp only [Option.bind_some]
            refine evP (by omega) (evP (by omega) (evN (by omega) ?_))
            rw [nxt i l.length hi hl]
            exact h) (n - l.length) ⟨by omega, by simp⟩
    exact ⟨R, evN h hR, hZ⟩
def inodeSz (d : List Int) (e : List S141) (t : List S143) : Nat := d.length + e.length + entSz e + t.length + attrSz t
theorem szInode_ev (a b c : Int) (d : List Int) (e : List S141) (t : List S143) (n : Int) (h0 : 0 ≤ n) (h1 : n ≤ 1048576) (hd : d.length ≤ 9223372036854775807) (he : e.length ≤ 9223372036854775807) (ht : t.length ≤ 9223372036854775807)
    (ge : ∀ x ∈ e, x.f0.size ≤ 9223372036854775807) (gt : ∀ x ∈ t, x.f0.size ≤ 9223372036854775807 ∧ x.f1.size ≤ 9223372036854775807) :
    ∃ R, Ev (fun k => laws_szInode.f k a b c d e t n) R ∧ (0 ≤ R → R = n - inodeSz d e t) ∧ R ≤ n := by
  unfold laws_szInode.f
  obtain ⟨R1, e1, z1, l1⟩ := szByteS_ev d n h0 h1 hd
  simp only [e1, Option.bind_some]
  by_cases c1 : R1 < 0
  · exact ⟨-1, evP c1 (Ev.now _), fun h => by omega, by omega⟩
  obtain ⟨R2, e2, z2, l2⟩ := szEntS_ev e R1 (by omega) (by omega) he ge
  by_cases c2 : R2 < 0
  · exact ⟨-1, evN c1 (Ev.bind e2 (evP c2 (Ev.now _))), fun h => by omega, by omega⟩
  obtain ⟨R3, e3, z3, l3⟩ := szAttrS_ev t R2 (by omega) (by omega) ht gt
  by_cases c3 : R3 < 0
  · exact ⟨-1, evN c1 (Ev.bind e2 (evN c2 (Ev.bind e3 (evP c3 (Ev.now _))))), fun h => by omega, by omega⟩
  · refine ⟨R3, evN c1 (Ev.bind e2 (evN c2 (Ev.bind e3 (evN c3 (Ev.now _))))), fun h => ?_, by omega⟩
    have := z1 (by omega)
    have := z2 (by omega)
    have := z3 (by omega)
    unfold inodeSz
    omega
end Go.Proofs.YtkfcmpalbhmmaaaDoor.Q
