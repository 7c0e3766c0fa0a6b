-- Words of the kit's print, trimmed to what this seat's texts use (wip/trim.py). No condition.
import Derived.Test.YtkfoopcpihmbmaaGreatDoorWWords
namespace Go.Proofs.ab.av
theorem bp.one {α:Type}{R:α→List Value→Prop}{ps:List α}{cs:List Value}{p:α}{v:Value}(hp:R p [v]) (h:bp R 1 ps cs):bp R 1 (p::ps) (v::cs):=by
 refine⟨by simp[h.1],fun j q hq=> ?_⟩
 cases j with
 |zero=>
  simp only[List.getElem?_cons_zero,Option.some.injEq]at hq;subst hq
  simpa using hp
 |succ j=>
  simp only[List.getElem?_cons_succ]at hq;have h1:=h.2 j q hq
  simpa [Nat.mul_one]using h1
theorem bp.front {α:Type}{R:α→List Value→Prop}{size:Nat}{ps:List α}{cs c all:List Value}{p:α}(hp:R p c) (hc:c.length=size) (h:bp R size ps cs) (ha:c++cs=all):bp R size (p::ps) all:=by
 subst ha;refine⟨by rw[List.length_append,hc,h.1,List.length_cons,Nat.succ_mul,Nat.add_comm],fun j q hq=> ?_⟩
 cases j with
 |zero=>
  simp only[List.getElem?_cons_zero,Option.some.injEq]at hq;subst hq;rw[Nat.zero_mul,List.drop_zero,List.take_append_of_le_length (by omega),List.take_of_length_le (by omega)];exact hp
 |succ j=>
  simp only[List.getElem?_cons_succ]at hq;have h1:=h.2 j q hq;rw[Nat.succ_mul,List.drop_append,List.drop_of_length_le (by rw[hc];exact Nat.le_add_left _ _),List.nil_append,hc,Nat.add_sub_cancel];exact h1
theorem bp.c2 {α:Type}{R:α→List Value→Prop}{ps:List α}{cs:List Value}{p:α}{va vb:Value}(hp:R p [va,vb]) (h:bp R 2 ps cs):bp R 2 (p::ps) (va::vb::cs):=bp.front hp rfl h rfl
theorem bp.c3 {α:Type}{R:α→List Value→Prop}{ps:List α}{cs:List Value}{p:α}{va vb vc:Value}(hp:R p [va,vb,vc]) (h:bp R 3 ps cs):bp R 3 (p::ps) (va::vb::vc::cs):=bp.front hp rfl h rfl
theorem bp.c4 {α:Type}{R:α→List Value→Prop}{ps:List α}{cs:List Value}{p:α}{va vb vc vd:Value}(hp:R p [va,vb,vc,vd]) (h:bp R 4 ps cs):bp R 4 (p::ps) (va::vb::vc::vd::cs):=bp.front hp rfl h rfl
theorem bp.c5 {α:Type}{R:α→List Value→Prop}{ps:List α}{cs:List Value}{p:α}{va vb vc vd ve:Value}(hp:R p [va,vb,vc,vd,ve]) (h:bp R 5 ps cs):bp R 5 (p::ps) (va::vb::vc::vd::ve::cs):=bp.front hp rfl h rfl
theorem bp.c6 {α:Type}{R:α→List Value→Prop}{ps:List α}{cs:List Value}{p:α}{va vb vc vd ve vf:Value}(hp:R p [va,vb,vc,vd,ve,vf]) (h:bp R 6 ps cs):bp R 6 (p::ps) (va::vb::vc::vd::ve::vf::cs):=bp.front hp rfl h rfl
theorem bp.c7 {α:Type}{R:α→List Value→Prop}{ps:List α}{cs:List Value}{p:α}{va vb vc vd ve vf vg:Value}(hp:R p [va,vb,vc,vd,ve,vf,vg]) (h:bp R 7 ps cs):bp R 7 (p::ps) (va::vb::vc::vd::ve::vf::vg::cs):=bp.front hp rfl h rfl
theorem bp.c8 {α:Type}{R:α→List Value→Prop}{ps:List α}{cs:List Value}{p:α}{va vb vc vd ve vf vg vh:Value}(hp:R p [va,vb,vc,vd,ve,vf,vg,vh]) (h:bp R 8 ps cs):bp R 8 (p::ps) (va::vb::vc::vd::ve::vf::vg::vh::cs):=bp.front hp rfl h rfl
theorem bp.c9 {α:Type}{R:α→List Value→Prop}{ps:List α}{cs:List Value}{p:α}{va vb vc vd ve vf vg vh vi:Value}(hp:R p [va,vb,vc,vd,ve,vf,vg,vh,vi]) (h:bp R 9 ps cs):bp R 9 (p::ps) (va::vb::vc::vd::ve::vf::vg::vh::vi::cs):=bp.front hp rfl h rfl
theorem bp.c10 {α:Type}{R:α→List Value→Prop}{ps:List α}{cs:List Value}{p:α}{va vb vc vd ve vf vg vh vi vj:Value}(hp:R p [va,vb,vc,vd,ve,vf,vg,vh,vi,vj]) (h:bp R 10 ps cs):bp R 10 (p::ps) (va::vb::vc::vd::ve::vf::vg::vh::vi::vj::cs):=bp.front hp rfl h rfl
end Go.Proofs.ab.av
