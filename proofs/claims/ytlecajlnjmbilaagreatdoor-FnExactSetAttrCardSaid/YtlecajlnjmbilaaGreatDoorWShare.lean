-- Words of the kit's print, trimmed to what this seat's texts use (wip/trim.py). No condition.
import Derived.Test.YtlecajlnjmbilaaGreatDoorWKept
namespace Go.Proofs.ab.aq
open Go.RowKit
def kW (P:World→Prop) (W:World) (ok:Nat→Prop):Prop:=∀W':World,(∀k,ok k→k<W.heap.size→W'.heap[k]? =W.heap[k]?)→P W'
theorem ab8 {W W1:World}{k:Nat}(h:W1.heap[k]? =W.heap[k]?) (hlt:k<W.heap.size):k<W1.heap.size:=by
 rw[Array.getElem?_eq_getElem hlt]at h;exact(Array.getElem?_eq_some_iff.1 h).1
namespace kW
variable {P Q:World→Prop}{W W1:World}{ok ok':Nat→Prop}
theorem now (h:kW P W ok):P W:=h W (fun _ _ _=>rfl)
theorem mono (h:kW P W ok) (hok:∀k,ok k→ok' k):kW P W ok':=fun W' hW=>h W' (fun k hk hlt=>hW k (hok k hk) hlt)
theorem bound (h:kW P W ok):kW P W (fun k=>ok k∧k<W.heap.size):=fun W' hW=>h W' (fun k hk hlt=>hW k ⟨hk,hlt⟩ hlt)
theorem step (h:kW P W ok) (hm:∀k,ok k→k<W.heap.size→W1.heap[k]? =W.heap[k]?):kW P W1 ok:=fun W' hW=>h W' (fun k hk hlt=>(hW k hk (ab8 (hm k hk hlt) hlt)).trans (hm k hk hlt))
theorem imp (h:kW P W ok) (hi:∀W',P W'→Q W'):kW Q W ok:=fun W' hW=>hi W' (h W' hW)
theorem old (h:kW P W ok) (hb:Below W.heap.size W W1):kW P W1 (fun k=>ok k∧k<W.heap.size):=(h.bound).step (fun k _ hlt=>hb.block k hlt)
end kW
namespace Kd
def F {α:Type}(d:Kd α) (W:World) (ok:Nat→Prop) (A:Option Addr) (n:Nat) (xs:List α):Prop:=kW (fun W=>d.C W A n xs) W ok
def FK {α:Type}(d:Kd α) (W:World) (ok:Nat→Prop) (x:α) (c:List Value):Prop:=kW (fun W=>d.K W x c) W ok
section
variable {α β:Type}{d:Kd α}{e base n n' cc g N:Nat}{ok ok' ft S:Nat→Prop}{w w0 w1 W W1:World}{A A':Option Addr}{u v v1:Value}{xs:List α}{xs':List β}{d':Kd β}{x:α}{c:List Value}
theorem acF (h:F d W ok A n xs):d.C W A n xs:=kW.now h
theorem tF (h:F d W ok A n xs) (hok:∀k,ok k→ok' k):F d W ok' A n xs:=kW.mono h hok
theorem ab9 (h:F d W ok A n xs):F d W (fun k=>ok k∧k<W.heap.size) A n xs:=kW.bound h
theorem adp (h:F d W ok A n xs) (hm:∀k,ok k→k<W.heap.size→W1.heap[k]? =W.heap[k]?):F d W1 ok A n xs:=kW.step h hm
theorem acG (h:F d W ok A n xs) (hi:∀W',d.C W' A n xs→d'.C W' A' n' xs'):F d' W ok A' n' xs':=kW.imp h hi
theorem tG (h:F d W ok A n xs) (hb:Below W.heap.size W W1):F d W1 ok A n xs:=adp h (fun k _ hlt=>hb.block k hlt)
theorem ab_ (h:F d W ok A n xs) (o:Obj):F d (W.alloc o) ok A n xs:=tG h (aX (Below.refl _ _) o)
theorem adq (h:F d W ok A n xs):F d W.drew ok A n xs:=tG h (kU (Below.refl _ _))
theorem aca (h:F d W ok A n xs) (m:Nat):F d (W.drewN m) ok A n xs:=tG h (aJ (Below.refl _ _) m)
theorem ad3 (d:Kd α) (W:World) (ok:Nat→Prop):F d W ok none ([]:List α).length []:=fun W' _=>adV d W'
theorem aaG (h:F d W ok A n xs) (hbase:∀k,v.ownBlock=some k→W.heap.size≤k) (hb:Below W.heap.size W W1):F d W1 (fun k=>ok k∧some k≠v.ownBlock) A n xs:=
 tF (kW.old h hb) (fun k hk=>⟨hk.1,fun he=>by have:=hbase k he.symm;have:=hk.2;omega⟩)
theorem acb (h:F d W (fun k=>ok k∧some k≠v.ownBlock) A n xs) (hg:W.grownBy W1 v.ownBlock) (hat:v1.ownBlock=v.ownBlock∨∃b,v1.ownBlock=some b∧W.heap.size≤b):F d W1 (fun k=>ok k∧some k≠v1.ownBlock) A n xs:=by
 refine tF (kW.step (ab9 h) (fun k hk hlt=>hg.block k hlt hk.1.2)) (fun k hk=>⟨hk.1.1,?_⟩);rcases hat with hat|⟨b,hb,hle⟩
 ·rw[hat];exact hk.1.2
 ·rw[hb];intro he;injection he with he;have:=hk.2
  omega
theorem ad4 (h:F d W ok A n xs) (hb:Below W.heap.size W W1):F d W1 (fun k=>ok k∧k<W.heap.size) A n xs:=kW.old h hb
theorem adr (h:F d W1 (fun k=>ok k∧k<N) A n xs) (hbase:∀k,v.ownBlock=some k→N≤k):F d W1 (fun k=>(ok k∧some k≠v.ownBlock)∧k<N) A n xs:=
 tF h (fun k hk=>⟨⟨hk.1,fun he=>Nat.lt_irrefl _ (Nat.lt_of_lt_of_le hk.2 (hbase k he.symm))⟩,hk.2⟩)
theorem R_F (h:d.R e W base ok (.slice A n cc) xs):F d W ok A n xs:=fun W' hW=>by
 have h2:=aH (ny h hW);rw[h2.1];exact h2.2.2
theorem lv (h:FK d W ok x c):d.K W x c:=kW.now h
theorem oA (h:FK d W ok x c) (hok:∀k,ok k→ok' k):FK d W ok' x c:=kW.mono h hok
theorem rA (h:FK d W ok x c):FK d W (fun k=>ok k∧k<W.heap.size) x c:=kW.bound h
theorem pK (h:FK d W ok x c) (hm:∀k,ok k→k<W.heap.size→W1.heap[k]? =W.heap[k]?):FK d W1 ok x c:=kW.step h hm
theorem acd (h:d.M W base ok x c):FK d W ok x c:=fun _ hW=>d.eI (nT h hW)
theorem emptied (W:World) (g:Nat):∃W':World,(∀k,k≠g→W'.heap[k]? =W.heap[k]?)∧∀a:Addr,a.block=g→W'.cell? a=none:=by
 refine⟨{W with heap:=W.heap.setIfInBounds g (.cells #[] 0)},fun k hk=>by simp[Ne.symm hk],fun a ha=> ?_⟩;subst ha
 by_cases hlt:a.block<W.heap.size
 ·simp[World.cell?,hlt]
 ·simp[World.cell?,hlt]
end
end Kd
end Go.Proofs.ab.aq
