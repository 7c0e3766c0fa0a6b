-- Words of the kit's print, trimmed to what this seat's texts use (wip/trim.py). No condition.
import Derived.Test.YtlecajlnjmbilaaGreatDoorWWords
namespace Go.Proofs.ab.aq
open Go.RowKit
namespace Kd
theorem uG {α:Type}{R:α→List Value→Prop}{size:Nat}{ps:List α}{cs:List Value}(h:cK R size ps cs) (hs0:0<size) (hR:∀p c,R p c→∀u∈c,u.oneCell'=true):∀u∈cs,u.oneCell'=true:=by
 intro u hu;obtain⟨q,hq,rfl⟩:=List.mem_iff_getElem.1 hu
 have hql:q/size<ps.length:=by
  rw[Nat.div_lt_iff_lt_mul hs0,←h.1];exact hq
 refine hR _ _ (h.2 (q/size) _ (List.getElem?_eq_getElem hql)) _ ?_;rw[List.mem_iff_getElem?];refine⟨q%size,?_⟩;rw[List.getElem?_take,if_pos (Nat.mod_lt _ hs0),List.getElem?_drop,Nat.mul_comm,Nat.div_add_mod,List.getElem?_eq_getElem hq]
section
variable {α:Type}{n:Nat}{enc:α→Value}{h1:∀x,(enc x).oneCell'=true}{hs:0<(scalar enc h1).sz}{w:World}{base:Nat}{ok:Nat→Prop}{xs:List α}{cs:List Value}
theorem xV (h:cK (fun(x:α) (cs:List Value)=>cs=[enc x]) 1 xs cs):cs=encs enc xs:=by
 apply List.ext_getElem?
 intro j;have hl:=h.1;rw[Nat.mul_one]at hl;rcases Nat.lt_or_ge j xs.length with hj|hj
 ·have h2:=h.2 j _ (List.getElem?_eq_getElem hj)
  have hj':j<cs.length:=by omega
  rw[Nat.mul_one,List.drop_eq_getElem_cons hj']at h2;have h5:=congrArg List.head? h2;rw[List.take_succ_cons]at h5;have h4:cs[j]=enc xs[j]:=Option.some.inj h5;rw[List.getElem?_eq_getElem hj',h4];simp[encs,List.getElem?_eq_getElem hj]
 ·rw[List.getElem?_eq_none (by omega),List.getElem?_eq_none (by rw[nR];omega)]
end
end Kd
end Go.Proofs.ab.aq
