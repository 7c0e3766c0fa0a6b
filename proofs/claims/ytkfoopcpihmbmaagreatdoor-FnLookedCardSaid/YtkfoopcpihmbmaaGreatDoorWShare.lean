-- Words of the kit's print, trimmed to what this seat's texts use (wip/trim.py). No condition.
import Derived.Test.YtkfoopcpihmbmaaGreatDoorWKept
namespace Go.Proofs.ab.av
open Go.RowKit
def kA (P:World→Prop) (W:World) (ok:Nat→Prop):Prop:=∀W':World,(∀k,ok k→k<W.heap.size→W'.heap[k]? =W.heap[k]?)→P W'
theorem aby {W W1:World}{k:Nat}(h:W1.heap[k]? =W.heap[k]?) (hlt:k<W.heap.size):k<W1.heap.size:=by
 rw[Array.getElem?_eq_getElem hlt]at h;exact(Array.getElem?_eq_some_iff.1 h).1
namespace kA
variable {P Q:World→Prop}{W W1:World}{ok ok':Nat→Prop}
theorem now (h:kA P W ok):P W:=h W (fun _ _ _=>rfl)
theorem mono (h:kA P W ok) (hok:∀k,ok k→ok' k):kA P W ok':=fun W' hW=>h W' (fun k hk hlt=>hW k (hok k hk) hlt)
theorem bound (h:kA P W ok):kA P W (fun k=>ok k∧k<W.heap.size):=fun W' hW=>h W' (fun k hk hlt=>hW k ⟨hk,hlt⟩ hlt)
theorem step (h:kA P W ok) (hm:∀k,ok k→k<W.heap.size→W1.heap[k]? =W.heap[k]?):kA P W1 ok:=fun W' hW=>h W' (fun k hk hlt=>(hW k hk (aby (hm k hk hlt) hlt)).trans (hm k hk hlt))
theorem imp (h:kA P W ok) (hi:∀W',P W'→Q W'):kA Q W ok:=fun W' hW=>hi W' (h W' hW)
theorem old (h:kA P W ok) (hb:Below W.heap.size W W1):kA P W1 (fun k=>ok k∧k<W.heap.size):=(h.bound).step (fun k _ hlt=>hb.block k hlt)
end kA
namespace Kd
def F {α:Type}(d:Kd α) (W:World) (ok:Nat→Prop) (A:Option Addr) (n:Nat) (xs:List α):Prop:=kA (fun W=>d.C W A n xs) W ok
def FK {α:Type}(d:Kd α) (W:World) (ok:Nat→Prop) (x:α) (c:List Value):Prop:=kA (fun W=>d.K W x c) W ok
section
variable {α β:Type}{d:Kd α}{e base n n' cc g N:Nat}{ok ok' fw S:Nat→Prop}{w w0 w1 W W1:World}{A A':Option Addr}{u v v1:Value}{xs:List α}{xs':List β}{d':Kd β}{x:α}{c:List Value}
theorem aaz (h:F d W ok A n xs):d.C W A n xs:=kA.now h
theorem tb (h:F d W ok A n xs) (hok:∀k,ok k→ok' k):F d W ok' A n xs:=kA.mono h hok
theorem abz (h:F d W ok A n xs):F d W (fun k=>ok k∧k<W.heap.size) A n xs:=kA.bound h
theorem acw (h:F d W ok A n xs) (hm:∀k,ok k→k<W.heap.size→W1.heap[k]? =W.heap[k]?):F d W1 ok A n xs:=kA.step h hm
theorem abZ (h:F d W ok A n xs) (hi:∀W',d.C W' A n xs→d'.C W' A' n' xs'):F d' W ok A' n' xs':=kA.imp h hi
theorem acx (h:F d W ok A n xs) (hk:aI W W1 g none) (hok:∀k,ok k→k≠g):F d W1 ok A n xs:=acw h (fun k ho hlt=>hk.2 k hlt (hok k ho) (by simp))
theorem adb (d:Kd α) (W:World) (ok:Nat→Prop):F d W ok none ([]:List α).length []:=fun W' _=>wQ d W'
theorem aaA (h:F d W ok A n xs) (hbase:∀k,v.ownBlock=some k→W.heap.size≤k) (hb:Below W.heap.size W W1):F d W1 (fun k=>ok k∧some k≠v.ownBlock) A n xs:=
 tb (kA.old h hb) (fun k hk=>⟨hk.1,fun he=>by have:=hbase k he.symm;have:=hk.2;omega⟩)
theorem abA (h:F d W (fun k=>ok k∧some k≠v.ownBlock) A n xs) (hg:W.grownBy W1 v.ownBlock) (hat:v1.ownBlock=v.ownBlock∨∃b,v1.ownBlock=some b∧W.heap.size≤b):F d W1 (fun k=>ok k∧some k≠v1.ownBlock) A n xs:=by
 refine tb (kA.step (abz h) (fun k hk hlt=>hg.block k hlt hk.1.2)) (fun k hk=>⟨hk.1.1,?_⟩);rcases hat with hat|⟨b,hb,hle⟩
 ·rw[hat];exact hk.1.2
 ·rw[hb];intro he;injection he with he;have:=hk.2
  omega
theorem ade (h:F d W ok A n xs) (hb:Below W.heap.size W W1):F d W1 (fun k=>ok k∧k<W.heap.size) A n xs:=kA.old h hb
theorem acy (h:F d W1 (fun k=>ok k∧k<N) A n xs) (hbase:∀k,v.ownBlock=some k→N≤k):F d W1 (fun k=>(ok k∧some k≠v.ownBlock)∧k<N) A n xs:=
 tb h (fun k hk=>⟨⟨hk.1,fun he=>Nat.lt_irrefl _ (Nat.lt_of_lt_of_le hk.2 (hbase k he.symm))⟩,hk.2⟩)
theorem vI (h:d.R e W base ok (.slice A n cc) xs):F d W ok A n xs:=fun W' hW=>by
 have h2:=aU (qc h hW);rw[h2.1];exact h2.2.2
theorem kW (h:FK d W ok x c):d.K W x c:=kA.now h
theorem oA (h:FK d W ok x c) (hok:∀k,ok k→ok' k):FK d W ok' x c:=kA.mono h hok
theorem rr (h:FK d W ok x c):FK d W (fun k=>ok k∧k<W.heap.size) x c:=kA.bound h
theorem pF (h:FK d W ok x c) (hm:∀k,ok k→k<W.heap.size→W1.heap[k]? =W.heap[k]?):FK d W1 ok x c:=kA.step h hm
theorem abB (h:d.M W base ok x c):FK d W ok x c:=fun _ hW=>d.fT (aap h hW)
theorem emptied (W:World) (g:Nat):∃W':World,(∀k,k≠g→W'.heap[k]? =W.heap[k]?)∧∀a:Addr,a.block=g→W'.cell? a=none:=by
 refine⟨{W with heap:=W.heap.setIfInBounds g (.cells #[] 0)},fun k hk=>by simp[Ne.symm hk],fun a ha=> ?_⟩;subst ha
 by_cases hlt:a.block<W.heap.size
 ·simp[World.cell?,hlt]
 ·simp[World.cell?,hlt]
end
end Kd
end Go.Proofs.ab.av
