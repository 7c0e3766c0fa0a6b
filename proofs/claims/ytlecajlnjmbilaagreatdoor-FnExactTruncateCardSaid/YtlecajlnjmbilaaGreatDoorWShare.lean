-- Words of the kit's print, trimmed to what this seat's texts use (wip/trim.py). No condition.
import Derived.Test.YtlecajlnjmbilaaGreatDoorWKept
namespace Go.Proofs.ab.ar
open Go.RowKit
def kK (P:World→Prop) (W:World) (ok:Nat→Prop):Prop:=∀W':World,(∀k,ok k→k<W.heap.size→W'.heap[k]? =W.heap[k]?)→P W'
theorem abX {W W1:World}{k:Nat}(h:W1.heap[k]? =W.heap[k]?) (hlt:k<W.heap.size):k<W1.heap.size:=by
 rw[Array.getElem?_eq_getElem hlt]at h;exact(Array.getElem?_eq_some_iff.1 h).1
namespace kK
variable {P Q:World→Prop}{W W1:World}{ok ok':Nat→Prop}
theorem now (h:kK P W ok):P W:=h W (fun _ _ _=>rfl)
theorem mono (h:kK P W ok) (hok:∀k,ok k→ok' k):kK P W ok':=fun W' hW=>h W' (fun k hk hlt=>hW k (hok k hk) hlt)
theorem bound (h:kK P W ok):kK P W (fun k=>ok k∧k<W.heap.size):=fun W' hW=>h W' (fun k hk hlt=>hW k ⟨hk,hlt⟩ hlt)
theorem step (h:kK P W ok) (hm:∀k,ok k→k<W.heap.size→W1.heap[k]? =W.heap[k]?):kK P W1 ok:=fun W' hW=>h W' (fun k hk hlt=>(hW k hk (abX (hm k hk hlt) hlt)).trans (hm k hk hlt))
theorem imp (h:kK P W ok) (hi:∀W',P W'→Q W'):kK Q W ok:=fun W' hW=>hi W' (h W' hW)
theorem old (h:kK P W ok) (hb:Below W.heap.size W W1):kK P W1 (fun k=>ok k∧k<W.heap.size):=(h.bound).step (fun k _ hlt=>hb.block k hlt)
end kK
namespace Kd
def F {α:Type}(d:Kd α) (W:World) (ok:Nat→Prop) (A:Option Addr) (n:Nat) (xs:List α):Prop:=kK (fun W=>d.C W A n xs) W ok
def FK {α:Type}(d:Kd α) (W:World) (ok:Nat→Prop) (x:α) (c:List Value):Prop:=kK (fun W=>d.K W x c) W ok
section
variable {α β:Type}{d:Kd α}{e base n n' cc g N:Nat}{ok ok' fj S:Nat→Prop}{w w0 w1 W W1:World}{A A':Option Addr}{u v v1:Value}{xs:List α}{xs':List β}{d':Kd β}{x:α}{c:List Value}
theorem acm (h:F d W ok A n xs):d.C W A n xs:=kK.now h
theorem sL (h:F d W ok A n xs) (hok:∀k,ok k→ok' k):F d W ok' A n xs:=kK.mono h hok
theorem abY (h:F d W ok A n xs):F d W (fun k=>ok k∧k<W.heap.size) A n xs:=kK.bound h
theorem ac_ (h:F d W ok A n xs) (hm:∀k,ok k→k<W.heap.size→W1.heap[k]? =W.heap[k]?):F d W1 ok A n xs:=kK.step h hm
theorem acn (h:F d W ok A n xs) (hi:∀W',d.C W' A n xs→d'.C W' A' n' xs'):F d' W ok A' n' xs':=kK.imp h hi
theorem sM (h:F d W ok A n xs) (hb:Below W.heap.size W W1):F d W1 ok A n xs:=ac_ h (fun k _ hlt=>hb.block k hlt)
theorem abZ (h:F d W ok A n xs) (o:Obj):F d (W.alloc o) ok A n xs:=sM h (aT (Below.refl _ _) o)
theorem ada (h:F d W ok A n xs):F d W.drew ok A n xs:=sM h (kJ (Below.refl _ _))
theorem ab0 (h:F d W ok A n xs) (m:Nat):F d (W.drewN m) ok A n xs:=sM h (aI (Below.refl _ _) m)
theorem adL (d:Kd α) (W:World) (ok:Nat→Prop):F d W ok none ([]:List α).length []:=fun W' _=>adC d W'
theorem aaL (h:F d W ok A n xs) (hbase:∀k,v.ownBlock=some k→W.heap.size≤k) (hb:Below W.heap.size W W1):F d W1 (fun k=>ok k∧some k≠v.ownBlock) A n xs:=
 sL (kK.old h hb) (fun k hk=>⟨hk.1,fun he=>by have:=hbase k he.symm;have:=hk.2;omega⟩)
theorem ab1 (h:F d W (fun k=>ok k∧some k≠v.ownBlock) A n xs) (hg:W.grownBy W1 v.ownBlock) (hat:v1.ownBlock=v.ownBlock∨∃b,v1.ownBlock=some b∧W.heap.size≤b):F d W1 (fun k=>ok k∧some k≠v1.ownBlock) A n xs:=by
 refine sL (kK.step (abY h) (fun k hk hlt=>hg.block k hlt hk.1.2)) (fun k hk=>⟨hk.1.1,?_⟩);rcases hat with hat|⟨b,hb,hle⟩
 ·rw[hat];exact hk.1.2
 ·rw[hb];intro he;injection he with he;have:=hk.2
  omega
theorem adM (h:F d W ok A n xs) (hb:Below W.heap.size W W1):F d W1 (fun k=>ok k∧k<W.heap.size) A n xs:=kK.old h hb
theorem adb (h:F d W1 (fun k=>ok k∧k<N) A n xs) (hbase:∀k,v.ownBlock=some k→N≤k):F d W1 (fun k=>(ok k∧some k≠v.ownBlock)∧k<N) A n xs:=
 sL h (fun k hk=>⟨⟨hk.1,fun he=>Nat.lt_irrefl _ (Nat.lt_of_lt_of_le hk.2 (hbase k he.symm))⟩,hk.2⟩)
theorem R_F (h:d.R e W base ok (.slice A n cc) xs):F d W ok A n xs:=fun W' hW=>by
 have h2:=bu (kH h hW);rw[h2.1];exact h2.2.2
theorem kW (h:FK d W ok x c):d.K W x c:=kK.now h
theorem nQ (h:FK d W ok x c) (hok:∀k,ok k→ok' k):FK d W ok' x c:=kK.mono h hok
theorem qR (h:FK d W ok x c):FK d W (fun k=>ok k∧k<W.heap.size) x c:=kK.bound h
theorem pf (h:FK d W ok x c) (hm:∀k,ok k→k<W.heap.size→W1.heap[k]? =W.heap[k]?):FK d W1 ok x c:=kK.step h hm
theorem ab2 (h:d.M W base ok x c):FK d W ok x c:=fun _ hW=>d.ey (nA h hW)
theorem emptied (W:World) (g:Nat):∃W':World,(∀k,k≠g→W'.heap[k]? =W.heap[k]?)∧∀a:Addr,a.block=g→W'.cell? a=none:=by
 refine⟨{W with heap:=W.heap.setIfInBounds g (.cells #[] 0)},fun k hk=>by simp[Ne.symm hk],fun a ha=> ?_⟩;subst ha
 by_cases hlt:a.block<W.heap.size
 ·simp[World.cell?,hlt]
 ·simp[World.cell?,hlt]
end
end Kd
end Go.Proofs.ab.ar
