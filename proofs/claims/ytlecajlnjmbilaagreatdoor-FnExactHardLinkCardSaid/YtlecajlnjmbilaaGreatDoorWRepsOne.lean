-- Words of the kit's print, trimmed to what this seat's texts use (wip/trim.py). No condition.
import Derived.Test.YtlecajlnjmbilaaGreatDoorWWords
namespace Go.Proofs.ab.ar
theorem cS.one {α:Type}{R:α→List Value→Prop}{ps:List α}{cs:List Value}{p:α}{v:Value}(hp:R p [v]) (h:cS R 1 ps cs):cS R 1 (p::ps) (v::cs):=by
 refine⟨by simp[h.1],fun j q hq=> ?_⟩
 cases j with
 |zero=>
  simp only[List.getElem?_cons_zero,Option.some.injEq]at hq;subst hq
  simpa using hp
 |succ j=>
  simp only[List.getElem?_cons_succ]at hq;have h1:=h.2 j q hq
  simpa [Nat.mul_one]using h1
theorem cS.front {α:Type}{R:α→List Value→Prop}{size:Nat}{ps:List α}{cs c all:List Value}{p:α}(hp:R p c) (hc:c.length=size) (h:cS R size ps cs) (ha:c++cs=all):cS R size (p::ps) all:=by
 subst ha;refine⟨by rw[List.length_append,hc,h.1,List.length_cons,Nat.succ_mul,Nat.add_comm],fun j q hq=> ?_⟩
 cases j with
 |zero=>
  simp only[List.getElem?_cons_zero,Option.some.injEq]at hq;subst hq;rw[Nat.zero_mul,List.drop_zero,List.take_append_of_le_length (by omega),List.take_of_length_le (by omega)];exact hp
 |succ j=>
  simp only[List.getElem?_cons_succ]at hq;have h1:=h.2 j q hq;rw[Nat.succ_mul,List.drop_append,List.drop_of_length_le (by rw[hc];exact Nat.le_add_left _ _),List.nil_append,hc,Nat.add_sub_cancel];exact h1
theorem cS.c2 {α:Type}{R:α→List Value→Prop}{ps:List α}{cs:List Value}{p:α}{va vb:Value}(hp:R p [va,vb]) (h:cS R 2 ps cs):cS R 2 (p::ps) (va::vb::cs):=cS.front hp rfl h rfl
theorem cS.c3 {α:Type}{R:α→List Value→Prop}{ps:List α}{cs:List Value}{p:α}{va vb vc:Value}(hp:R p [va,vb,vc]) (h:cS R 3 ps cs):cS R 3 (p::ps) (va::vb::vc::cs):=cS.front hp rfl h rfl
theorem cS.c4 {α:Type}{R:α→List Value→Prop}{ps:List α}{cs:List Value}{p:α}{va vb vc vd:Value}(hp:R p [va,vb,vc,vd]) (h:cS R 4 ps cs):cS R 4 (p::ps) (va::vb::vc::vd::cs):=cS.front hp rfl h rfl
theorem cS.c5 {α:Type}{R:α→List Value→Prop}{ps:List α}{cs:List Value}{p:α}{va vb vc vd ve:Value}(hp:R p [va,vb,vc,vd,ve]) (h:cS R 5 ps cs):cS R 5 (p::ps) (va::vb::vc::vd::ve::cs):=cS.front hp rfl h rfl
theorem cS.c6 {α:Type}{R:α→List Value→Prop}{ps:List α}{cs:List Value}{p:α}{va vb vc vd ve vf:Value}(hp:R p [va,vb,vc,vd,ve,vf]) (h:cS R 6 ps cs):cS R 6 (p::ps) (va::vb::vc::vd::ve::vf::cs):=cS.front hp rfl h rfl
theorem cS.c7 {α:Type}{R:α→List Value→Prop}{ps:List α}{cs:List Value}{p:α}{va vb vc vd ve vf vg:Value}(hp:R p [va,vb,vc,vd,ve,vf,vg]) (h:cS R 7 ps cs):cS R 7 (p::ps) (va::vb::vc::vd::ve::vf::vg::cs):=cS.front hp rfl h rfl
theorem cS.c8 {α:Type}{R:α→List Value→Prop}{ps:List α}{cs:List Value}{p:α}{va vb vc vd ve vf vg vh:Value}(hp:R p [va,vb,vc,vd,ve,vf,vg,vh]) (h:cS R 8 ps cs):cS R 8 (p::ps) (va::vb::vc::vd::ve::vf::vg::vh::cs):=cS.front hp rfl h rfl
theorem cS.c9 {α:Type}{R:α→List Value→Prop}{ps:List α}{cs:List Value}{p:α}{va vb vc vd ve vf vg vh vi:Value}(hp:R p [va,vb,vc,vd,ve,vf,vg,vh,vi]) (h:cS R 9 ps cs):cS R 9 (p::ps) (va::vb::vc::vd::ve::vf::vg::vh::vi::cs):=cS.front hp rfl h rfl
theorem cS.c10 {α:Type}{R:α→List Value→Prop}{ps:List α}{cs:List Value}{p:α}{va vb vc vd ve vf vg vh vi vj:Value}(hp:R p [va,vb,vc,vd,ve,vf,vg,vh,vi,vj]) (h:cS R 10 ps cs):cS R 10 (p::ps) (va::vb::vc::vd::ve::vf::vg::vh::vi::vj::cs):=cS.front hp rfl h rfl
end Go.Proofs.ab.ar
