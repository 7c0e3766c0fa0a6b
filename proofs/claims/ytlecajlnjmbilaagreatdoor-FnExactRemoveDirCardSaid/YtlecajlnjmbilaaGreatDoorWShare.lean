-- Words of the kit's print, trimmed to what this seat's texts use (wip/trim.py). No condition.
import Derived.Test.YtlecajlnjmbilaaGreatDoorWKept
namespace Go.Proofs.ab.ao
open Go.RowKit
def lu (P:World→Prop) (W:World) (ok:Nat→Prop):Prop:=∀W':World,(∀k,ok k→k<W.heap.size→W'.heap[k]? =W.heap[k]?)→P W'
theorem ab0 {W W1:World}{k:Nat}(h:W1.heap[k]? =W.heap[k]?) (hlt:k<W.heap.size):k<W1.heap.size:=by
 rw[Array.getElem?_eq_getElem hlt]at h;exact(Array.getElem?_eq_some_iff.1 h).1
namespace lu
variable {P Q:World→Prop}{W W1:World}{ok ok':Nat→Prop}
theorem now (h:lu P W ok):P W:=h W (fun _ _ _=>rfl)
theorem mono (h:lu P W ok) (hok:∀k,ok k→ok' k):lu P W ok':=fun W' hW=>h W' (fun k hk hlt=>hW k (hok k hk) hlt)
theorem bound (h:lu P W ok):lu P W (fun k=>ok k∧k<W.heap.size):=fun W' hW=>h W' (fun k hk hlt=>hW k ⟨hk,hlt⟩ hlt)
theorem step (h:lu P W ok) (hm:∀k,ok k→k<W.heap.size→W1.heap[k]? =W.heap[k]?):lu P W1 ok:=fun W' hW=>h W' (fun k hk hlt=>(hW k hk (ab0 (hm k hk hlt) hlt)).trans (hm k hk hlt))
theorem imp (h:lu P W ok) (hi:∀W',P W'→Q W'):lu Q W ok:=fun W' hW=>hi W' (h W' hW)
theorem old (h:lu P W ok) (hb:Below W.heap.size W W1):lu P W1 (fun k=>ok k∧k<W.heap.size):=(h.bound).step (fun k _ hlt=>hb.block k hlt)
end lu
namespace Kd
def F {α:Type}(d:Kd α) (W:World) (ok:Nat→Prop) (A:Option Addr) (n:Nat) (xs:List α):Prop:=lu (fun W=>d.C W A n xs) W ok
def FK {α:Type}(d:Kd α) (W:World) (ok:Nat→Prop) (x:α) (c:List Value):Prop:=lu (fun W=>d.K W x c) W ok
section
variable {α β:Type}{d:Kd α}{e base n n' cc g N:Nat}{ok ok' fU S:Nat→Prop}{w w0 w1 W W1:World}{A A':Option Addr}{u v v1:Value}{xs:List α}{xs':List β}{d':Kd β}{x:α}{c:List Value}
theorem acv (h:F d W ok A n xs):d.C W A n xs:=lu.now h
theorem tO (h:F d W ok A n xs) (hok:∀k,ok k→ok' k):F d W ok' A n xs:=lu.mono h hok
theorem ab1 (h:F d W ok A n xs):F d W (fun k=>ok k∧k<W.heap.size) A n xs:=lu.bound h
theorem adi (h:F d W ok A n xs) (hm:∀k,ok k→k<W.heap.size→W1.heap[k]? =W.heap[k]?):F d W1 ok A n xs:=lu.step h hm
theorem acw (h:F d W ok A n xs) (hi:∀W',d.C W' A n xs→d'.C W' A' n' xs'):F d' W ok A' n' xs':=lu.imp h hi
theorem tP (h:F d W ok A n xs) (hb:Below W.heap.size W W1):F d W1 ok A n xs:=adi h (fun k _ hlt=>hb.block k hlt)
theorem ab2 (h:F d W ok A n xs) (o:Obj):F d (W.alloc o) ok A n xs:=tP h (aK (Below.refl _ _) o)
theorem adj (h:F d W ok A n xs):F d W.drew ok A n xs:=tP h (lr (Below.refl _ _))
theorem ab3 (h:F d W ok A n xs) (m:Nat):F d (W.drewN m) ok A n xs:=tP h (aQ (Below.refl _ _) m)
theorem adV (d:Kd α) (W:World) (ok:Nat→Prop):F d W ok none ([]:List α).length []:=fun W' _=>adM d W'
theorem aaI (h:F d W ok A n xs) (hbase:∀k,v.ownBlock=some k→W.heap.size≤k) (hb:Below W.heap.size W W1):F d W1 (fun k=>ok k∧some k≠v.ownBlock) A n xs:=
 tO (lu.old h hb) (fun k hk=>⟨hk.1,fun he=>by have:=hbase k he.symm;have:=hk.2;omega⟩)
theorem ab4 (h:F d W (fun k=>ok k∧some k≠v.ownBlock) A n xs) (hg:W.grownBy W1 v.ownBlock) (hat:v1.ownBlock=v.ownBlock∨∃b,v1.ownBlock=some b∧W.heap.size≤b):F d W1 (fun k=>ok k∧some k≠v1.ownBlock) A n xs:=by
 refine tO (lu.step (ab1 h) (fun k hk hlt=>hg.block k hlt hk.1.2)) (fun k hk=>⟨hk.1.1,?_⟩);rcases hat with hat|⟨b,hb,hle⟩
 ·rw[hat];exact hk.1.2
 ·rw[hb];intro he;injection he with he;have:=hk.2
  omega
theorem adW (h:F d W ok A n xs) (hb:Below W.heap.size W W1):F d W1 (fun k=>ok k∧k<W.heap.size) A n xs:=lu.old h hb
theorem adk (h:F d W1 (fun k=>ok k∧k<N) A n xs) (hbase:∀k,v.ownBlock=some k→N≤k):F d W1 (fun k=>(ok k∧some k≠v.ownBlock)∧k<N) A n xs:=
 tO h (fun k hk=>⟨⟨hk.1,fun he=>Nat.lt_irrefl _ (Nat.lt_of_lt_of_le hk.2 (hbase k he.symm))⟩,hk.2⟩)
theorem R_F (h:d.R e W base ok (.slice A n cc) xs):F d W ok A n xs:=fun W' hW=>by
 have h2:=bm (nB h hW);rw[h2.1];exact h2.2.2
theorem lH (h:FK d W ok x c):d.K W x c:=lu.now h
theorem oJ (h:FK d W ok x c) (hok:∀k,ok k→ok' k):FK d W ok' x c:=lu.mono h hok
theorem rE (h:FK d W ok x c):FK d W (fun k=>ok k∧k<W.heap.size) x c:=lu.bound h
theorem pP (h:FK d W ok x c) (hm:∀k,ok k→k<W.heap.size→W1.heap[k]? =W.heap[k]?):FK d W1 ok x c:=lu.step h hm
theorem ab5 (h:d.M W base ok x c):FK d W ok x c:=fun _ hW=>d.eQ (od h hW)
theorem emptied (W:World) (g:Nat):∃W':World,(∀k,k≠g→W'.heap[k]? =W.heap[k]?)∧∀a:Addr,a.block=g→W'.cell? a=none:=by
 refine⟨{W with heap:=W.heap.setIfInBounds g (.cells #[] 0)},fun k hk=>by simp[Ne.symm hk],fun a ha=> ?_⟩;subst ha
 by_cases hlt:a.block<W.heap.size
 ·simp[World.cell?,hlt]
 ·simp[World.cell?,hlt]
end
end Kd
end Go.Proofs.ab.ao
