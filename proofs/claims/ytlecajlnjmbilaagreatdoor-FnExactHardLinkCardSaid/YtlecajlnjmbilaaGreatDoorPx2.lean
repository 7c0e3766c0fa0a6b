-- Printed walks.
import Derived.Test.YtlecajlnjmbilaaGreatDoorPx0
set_option linter.all false
set_option maxHeartbeats 8000000
set_option maxRecDepth 100000
namespace Go.Proofs.YtlecajlnjmbilaaGreatDoor.P
open Go.RowKit Go.Proofs.ab.ar Go.Proofs.ab.aH Go.Proofs.ab.aN Go.Proofs.Tryz
attribute [local go_sem] ib ic jc jd fU fV ie ig

/-- copy of elements of several cells. -/
theorem lp {P:Program}(w:World) (dT sT ty elem:TypeId) (b o dLen dCap:Nat) (a:Addr) (sLen sCap n:Nat) (cs:List Value)
  (hu:P.underlying dT=some (.slice elem)) (hs:(P.info? elem).map (·.size)=some 6) (hm:Nat.min sLen dLen=n) (hn:cs.length=n*6)
  (hsrc:∀j v,cs[j]? =some v→w.cell? (a.add j)=some v) (hc:∀j,j<cs.length→(w.cell? ⟨b,o+j,none⟩).isSome=true) (hf:∀j,j<cs.length→w.frozen? ⟨b,o+j,none⟩=false) (h1:∀v∈cs,v.oneCell'=true):
  (Builtin.copy_ #[dT,sT] ty #[.slice (some ⟨b,o,none⟩) dLen dCap,.slice (some a) sLen sCap]).run P w= .ok (goInt n) (w.setCells b o cs):=by
 have hl:=run_loadCells_list (P:=P) w a cs hsrc;have hst:=run_storeCells_cells (P:=P) b o cs 0 w (by simpa using hc) (by simpa using hf) h1
 cases hq:P.info? elem with
 |none=>simp[hq]at hs
 |some i=>
  have hi:i.size=6:=by simpa [hq]using hs
  simp[Builtin.copy_,run_underlying hu,Builtin.lenOf,Builtin.firstCells,sizeOf,typeInfo,hq,hi,hm,←hn,hl,hst]
theorem nw {P:Program}(w:World) {ops:Array Oper}{rest:List Oper}{o:Oper}{a:Act}{Q:Exit→Act→World→Prop}(hgd:o.guard=none) (d s:Operand) (t t':TypeId)
  (ho:o.op= .call {callee:= .builtin .copy,args:= #[d,s],argTypes:= #[t,t']}) (v u:Value) (hd:a.eval d=v) (hs:a.eval s=u) {v':Value}{w':World}
  (hr:(Builtin.copy_ #[t,t'] o.type #[v,u]).run P w= .ok v' w') (h:wpList P ops Q rest (a.put o.dst v') w'):wpList P ops Q (o::rest) a w:=
 wpList_plain hgd fun K hK=>by
  unfold Oper.wp execOp;simp only[ho,resolve,invoke,builtin,Sem.run_bind,Sem.run_pure,Result.andThen_ok,List.map_toArray,List.map_cons,List.map_nil,hd,hs,hr];exact hK _ _ h
theorem oz {P:Program}{ops:Array Oper}{o:Oper}{a:Act}{w:World}{K:Act→World→Prop}{Q:Exit→Act→World→Prop}{E:Prop}
  (hg:o.guard=none) (d x:Operand) (dT sT:TypeId) (hop:o.op=Op.call {callee:=Callee.builtin Builtin.copy,args:= #[d,x],argTypes:= #[dT,sT]})
  (v u:Value) (hd:a.eval d=v) (hx:a.eval x=u) {v':Value}{w':World}(hr:(Builtin.copy_ #[dT,sT] o.type #[v,u]).run P w= .ok v' w') (hK:K (a.put o.dst v') w'):
  if Region.wanted o (yielded ops a.tmps)=true then Oper.wp P o a w K Q else E:=by
 have hw:Region.wanted o (yielded ops a.tmps)=true:=by simp[Region.wanted,hg]
 rw[if_pos hw];unfold Oper.wp;simp[execOp,hop,resolve,invoke,builtin,hd,hx,hr,Result.andThen];exact hK
theorem sD.calls (g n c i vb:Nat) (cur:Array Value) (inner vs:List Value) (w:World) (hi:i<n) (hroom:n+1≤c) (hc63:c≤9223372036854775807) (hvb:vb≠g)
  (hb:w.heap[g]? =some (.cells cur 58 (0,0))) (hcs:cur.size=c*6) (hin:cur.toList.take (n*6)=inner) (hv:w.heap[vb]? =some (.cells vs.toArray 58 (0,0))) (hvl:vs.length=6)
  (h1c:∀u∈inner,u.oneCell'=true) (h1v:∀u∈vs,u.oneCell'=true):
  Calls Tryz.prog 102 #[.slice (some ⟨g,0,none⟩) n c,.int .i64 i,.slice (some ⟨vb,0,none⟩) 1 1] w fun e w'=>
   e= .returned (.slice (some ⟨g,0,none⟩) (n+1) c)∧w'=(w.drew.setCells g ((i+1)*6) (inner.drop (i*6))).setCells g (i*6) vs:=by
 have hu:=underlying26
 have mixed:Tryz.prog.follows .mixedOrders=true:=by kernel_rfl
 have b7:¬((1:Int)=0):=by omega
 have b8:¬((i:Int)=(n:Int)):=by omega
 have hsz:(Tryz.prog.info? 58).map (·.size)=some 6:=by kernel_rfl
 have hil:inner.length=n*6:=by rw[←hin,List.length_take,Array.length_toList];omega
 have hdl:(inner.drop (i*6)).length=(n-i)*6:=by rw[List.length_drop,hil];omega
 have hcur:∀j,w.cell? ⟨g,j,none⟩=cur[j]? :=fun j=>aq hb j
 have hcell:∀j u,inner[j]? =some u→w.cell? ⟨g,j,none⟩=some u:=fun j u hj=>by
  rw[hcur,←hj,←hin,List.getElem?_take];have:j<inner.length:=(List.getElem?_eq_some_iff.1 hj).1;rw[if_pos (by omega),Array.getElem?_toList]
 have hsp:∀j,j<(n+1)*6→(w.cell? ⟨g,j,none⟩).isSome=true:=fun j hj=>by rw[hcur,Array.getElem?_eq_getElem (by omega)];rfl
 have hfz:∀j,w.frozen? ⟨g,j,none⟩=false:=fun j=>ay hb j
 have hvc:∀j u,vs[j]? =some u→w.cell? ⟨vb,j,none⟩=some u:=fun j u hj=>by rw[aq hv j,List.getElem?_toArray,hj]
 have hov:∀lb cb,(callFunc 128 #[.slice (some ⟨vb,0,none⟩) 1 1,.slice (some ⟨g,(i+1)*6,none⟩) lb cb]).run Tryz.prog w= .ok (.value (.bool false)) w:=fun lb cb=>by
  rw[run_callFunc_extern func128 (by kernel_rfl) (by kernel_rfl) (by kernel_rfl) (e:=Extern.SlicesOverlaps.overlaps #[26,26] #[4]) (by kernel_rfl),
   Lib.run_overlaps_apart w 26 4 58 underlying26 6 Tryz.sizeOf58 ⟨vb,0,none⟩ ⟨g,(i+1)*6,none⟩ 1 1 lb cb hvb 58 58 vs.length cur.size (by simp[World.shape?,hv]) (by simp[World.shape?,hb]) (by omega) (ay hv 0) (ay hv _)]
  rfl
 have b9:IntKind.i64.wrap ((i:Int)+(1:Int))=(i:Int)+(1:Int):=by rw[IntKind.wrap_i64];omega
 have bB:IntKind.i64.wrap ((n:Int)+(1:Int))=(n:Int)+(1:Int):=by rw[IntKind.wrap_i64];omega
 have bC:(0:Int)≤(i:Int)+(1:Int):=by omega
 have hin':i≤n:=by omega
 have htn:((i:Int)+(1:Int)).toNat=i+1:=by omega
 have b6:((n:Int)+(1:Int)).toNat=n+1:=by omega
 have bD:¬(c=i+1):=by omega
 have bE:(i:Int)≤(n:Int)+(1:Int):=by omega
 have bF:¬(c=i):=by omega
 have b2:∀ty dl dc sl sc,dl=n-i→sl=n+1-i→(Builtin.copy_ #[26,26] ty #[.slice (some ⟨g,(i+1)*6,none⟩) dl dc,.slice (some ⟨g,i*6,none⟩) sl sc]).run Tryz.prog w.drew= .ok (goInt ((n-i:Nat):Int)) (w.drew.setCells g ((i+1)*6) (inner.drop (i*6))):=fun ty dl dc sl sc adj aaL=>
  lp w.drew _ _ ty 58 g ((i+1)*6) dl dc ⟨g,i*6,none⟩ sl sc (n-i) (inner.drop (i*6)) underlying26 hsz (by simp only[Nat.min_def];split<;>omega) hdl
   (fun j v hj=>by rw[Addr.add_lit];exact hcell (i*6+j) v (by rwa [List.getElem?_drop]at hj))
   (fun j hj=>hsp _ (by omega)) (fun j hj=>hfz _) (fun v hv=>h1c v (List.mem_of_mem_drop hv))
 obtain⟨W1,b1⟩:∃W1,W1=w.drew.setCells g ((i+1)*6) (inner.drop (i*6)):=⟨_,rfl⟩;obtain⟨b3,b4,bG,_⟩:=eT (inner.drop (i*6)) ((i+1)*6) w.drew cur hb (by omega)
 have b5:∀(W:World),W.heap=W1.heap→∀ty dc,(Builtin.copy_ #[26,26] ty #[.slice (some ⟨g,i*6,none⟩) (n+1-i) dc,.slice (some ⟨vb,0,none⟩) 1 1]).run Tryz.prog W= .ok (goInt 1) (W.setCells g (i*6) vs):=fun W hWh ty dc=>
  lp W _ _ ty 58 g (i*6) (n+1-i) dc ⟨vb,0,none⟩ 1 1 1 vs underlying26 hsz (by simp only[Nat.min_def];split<;>omega) (by omega)
   (fun j v hj=>by
    rw[Addr.add_lit,Nat.zero_add];rw[show W.cell? ⟨vb,j,none⟩=w.cell? ⟨vb,j,none⟩from by rw[aq (w:=W) (g:=vb) (cs:=vs.toArray) (t:=58) (by rw[hWh,b1,fA _ _ _ hvb];exact hv) j,aq hv j]]
    exact hvc j v hj)
   (fun j hj=>by rw[aq (w:=W) (g:=g) (cs:=b3) (t:=58) (by rw[hWh,b1];exact b4),Array.getElem?_eq_getElem (by omega)];rfl) (fun j hj=>ay (w:=W) (g:=g) (cs:=b3) (t:=58) (by rw[hWh,b1];exact b4) _) h1v
 rw[←b1]at b2
 go_enter func102,ntmps102
 go_wp2_with (simp only[hov])
 go_region_law_o (refine oz rfl _ _ 26 26 rfl (.slice (some ⟨g,(i+1)*6,none⟩) (n+1-(i+1)) (c-(i+1))) (.slice (some ⟨g,i*6,none⟩) (n+1-i) (c-i)) (by simp[Act.eval,Act.put]) (by simp[Act.eval,Act.put]) (b2 _ _ _ _ _ (by omega) (by omega)) ?_)
 go_wp2_with (at_builtin;refine nw _ rfl _ _ 26 26 rfl _ _ rfl rfl (b5 _ rfl _ _) ?_)
 go_ret
 first|exact⟨rfl,rfl⟩|exact⟨rfl,by rw[b1]⟩
theorem qU:(Tryz.prog.info? 58).map (fun i=>(i.zero,i.size,i.bytes))=some (some (Value.agg #[.int .i64 0,.int .i64 0,.int .i64 0,.slice none 0 0,.slice none 0 0,.slice none 0 0]),6,96):=by kernel_rfl
theorem aaM (w:World) (vb:Nat) (vs:List Value) (hv:w.heap[vb]? =some (.cells vs.toArray 58 (0,0))) (hvl:vs.length=6) (h1v:∀u∈vs,u.oneCell'=true):fo ((Kd.raw 6).K w) 6 w (some ⟨vb,0,none⟩) 1 [vs]:=by
 refine⟨rfl,by decide,fun _=>⟨⟨vb,0,none⟩,rfl,fun j p hj=> ?_⟩⟩
 cases j with
 |zero=>
  obtain rfl:vs=p:=by simpa using hj
  refine⟨vs,hvl,⟨rfl,hvl,h1v⟩,fun i u hu=> ?_⟩;rw[Nat.zero_mul,Nat.zero_add,Addr.add_lit,Nat.zero_add,aq hv i,List.getElem?_toArray,hu]
 |succ j=>simp at hj
theorem uD.calls (A:Option Addr) (n c vb base:Nat) (rows:List (List Value)) (vs:List Value) (w0 w:World) (hn:rows.length=n)
  (hr:(Kd.raw 6).R 58 w base (fun k=>some k=(Value.slice A n c).ownBlock∨w.heap.size≤k) (.slice A n c) rows) (hv:w.heap[vb]? =some (.cells vs.toArray 58 (0,0))) (hvl:vs.length=6) (h1v:∀u∈vs,u.oneCell'=true)
  (hB:Below base w0 w) (hbase:base≤w.heap.size) (hbig:(n+1)*96≤140737488355328):
  Calls Tryz.prog 102 #[.slice A n c,.int .i64 n,.slice (some ⟨vb,0,none⟩) 1 1] w fun e w'=>∃v',e= .returned v'∧(Kd.raw 6).R 58 w' base (fun k=>some k=(Value.slice A n c).ownBlock∨w.heap.size≤k) v' (rows++[vs])∧
   Below base w0 w'∧w.grownBy w' (Value.slice A n c).ownBlock∧(v'.ownBlock=(Value.slice A n c).ownBlock∨∃b,v'.ownBlock=some b∧w.heap.size≤b):=by
 have hu:=underlying26
 have b1:¬((1:Int)=0):=by omega
 have ho:=aaM w vb vs hv hvl h1v;have hr':=hr;obtain⟨hok,inner,hown,hrep⟩:=hr'
 go_enter func102,ntmps102
 rcases A with _|ad
 ·obtain⟨rfl,rfl⟩:n=0∧c=0:=by
   rcases hown.2 with⟨h1,h2⟩|⟨g',cap',cur,h1,_⟩
   ·injection h1 with _ a b;exact⟨a,b⟩
   ·cases h1
  go_wp2_with (at_builtin;refine Kd.fk (Kd.raw 6) (Rr:=(Kd.raw 6).K w) (w0:=w0) base rfl _ _ 26 58 (Value.agg #[.int .i64 0,.int .i64 0,.int .i64 0,.slice none 0 0,.slice none 0 0,.slice none 0 0]) 96 rfl hu qU rfl (by decide) (by decide) _ rows [vs] (some ⟨vb,0,none⟩) 1 1 _ (fun _=>False) rfl rfl hr ho (fun x cs h=>h) (fun _ h=>h.elim) (fun k hk=> .inr hk) hB hbase (by omega) ?_;intro v1 w1 h1 h2 h3 h4)
  go_ret
  exact⟨_,rfl,h1,h2,h3,h4⟩
 ·obtain⟨g,rfl⟩:=Kd.uy hr;have hnc:n≤c:=(Kd.bd hr).2.1
  go_wp2_with (at_builtin;refine Kd.fk (Kd.raw 6) (Rr:=(Kd.raw 6).K w) (w0:=w0) base rfl _ _ 26 58 (Value.agg #[.int .i64 0,.int .i64 0,.int .i64 0,.slice none 0 0,.slice none 0 0,.slice none 0 0]) 96 rfl hu qU rfl (by decide) (by decide) _ rows [vs] (some ⟨vb,0,none⟩) 1 1 _ (fun _=>False) rfl rfl hr ho (fun x cs h=>h) (fun _ h=>h.elim) (fun k hk=> .inr hk) hB hbase (by omega) ?_;intro v1 w1 h1 h2 h3 h4)
  all_goals(go_ret;exact⟨_,rfl,h1,h2,h3,h4⟩)
theorem tw.calls (g n c i vb:Nat) (cur:Array Value) (inner vs:List Value) (w:World) (hi:i<n) (hnc:n≤c) (hroom:c<n+1) (hbig:(n+1)*96≤140737488355328)
  (hb:w.heap[g]? =some (.cells cur 58 (0,0))) (hcs:cur.size=c*6) (hin:cur.toList.take (n*6)=inner) (hv:w.heap[vb]? =some (.cells vs.toArray 58 (0,0))) (hvl:vs.length=6)
  (h1c:∀u∈inner,u.oneCell'=true) (h1v:∀u∈vs,u.oneCell'=true):
  Calls Tryz.prog 102 #[.slice (some ⟨g,0,none⟩) n c,.int .i64 i,.slice (some ⟨vb,0,none⟩) 1 1] w fun e w'=>∃(G:Nat) (ROW:Array Value),n+1≤G∧G≤9223372036854775807∧ROW.size=G*6∧ROW.toList.take (i*6)=inner.take (i*6)∧
   e= .returned (.slice (some ⟨w.heap.size,0,none⟩) (n+1) G)∧w'=(((w.alloc (.cells ROW 58)).drew.setCells w.heap.size (i*6) vs).drew).setCells w.heap.size ((i+1)*6) (inner.drop (i*6)):=by
 have hu:=underlying26
 have mixed:Tryz.prog.follows .mixedOrders=true:=by kernel_rfl
 obtain⟨i0,b3,b5,hzs,hzb⟩:=info_parts qU
 have hsz:(Tryz.prog.info? 58).map (·.size)=some 6:=by rw[b3];simp[hzs]
 have b7:¬((1:Int)=0):=by omega
 have b8:¬((i:Int)=(n:Int)):=by omega
 have b9:(c:Int)<(n:Int)+(1:Int):=by omega
 have hil:inner.length=n*6:=by rw[←hin,List.length_take,Array.length_toList];omega
 have hdl:(inner.drop (i*6)).length=(n-i)*6:=by rw[List.length_drop,hil];omega
 have hgw:g<w.heap.size:=fM hb;have hvw:vb<w.heap.size:=fM hv
 have hcell:∀j u,inner[j]? =some u→w.cell? ⟨g,j,none⟩=some u:=fun j u hj=>by
  rw[aq hb j,←hj,←hin,List.getElem?_take];have:j<inner.length:=(List.getElem?_eq_some_iff.1 hj).1;rw[if_pos (by omega),Array.getElem?_toList]
 have hvc:∀j u,vs[j]? =some u→w.cell? ⟨vb,j,none⟩=some u:=fun j u hj=>by rw[aq hv j,List.getElem?_toArray,hj]
 have hkk:(n:Int)+(1:Int)-(i:Int)=((n+1-i:Nat):Int):=by omega
 have hik:i+(n+1-i)=n+1:=by omega
 have hold:(Builtin.firstCells i0.size i (.slice (some ⟨g,0,none⟩) i c)).run Tryz.prog w.drew= .ok (inner.take (i*6)).toArray w.drew:=by
  rw[hzs]
  exact run_firstCells_some w.drew 6 i ⟨g,0,none⟩ i c (inner.take (i*6)) (by rw[List.length_take];omega) (fun j v hj=>by
   rw[Addr.add_lit,Nat.zero_add];rw[List.getElem?_take]at hj
   split at hj
   ·exact hcell j v hj
   ·cases hj)
 have hrz:∀ty,(Builtin.append_ #[26,3] ty #[.slice (some ⟨g,0,none⟩) i c,.int .i64 ((n:Int)+(1:Int)-(i:Int))]).run Tryz.prog w=
   .ok (.slice (some ⟨w.heap.size,0,none⟩) (n+1) (grownCap w (n+1) c 58)) (w.drew.alloc (.cells ((inner.take (i*6)).toArray++Builtin.zeroCells (Value.agg #[.int .i64 0,.int .i64 0,.int .i64 0,.slice none 0 0,.slice none 0 0,.slice none 0 0]).cells (n+1-i)++Builtin.zeroCells (Value.agg #[.int .i64 0,.int .i64 0,.int .i64 0,.slice none 0 0,.slice none 0 0,.slice none 0 0]).cells (grownCap w (n+1) c 58-(n+1))) 58)):=fun ty=>by
  have h:=Lib.run_append_grow_zeros w 26 3 ty 58 i0 _ .i64 .i64 hu underlying3 b3 b5 (some ⟨g,0,none⟩) i c (inner.take (i*6)) hold (n+1-i) (by omega) (by omega) (by omega) (by omega) (by rw[hzb];omega) (by rw[hzb,hik];exact growslice_fits hroom hbig);rw[hik]at h;rw[hkk];exact h
 obtain⟨G,hG⟩:∃G,G=grownCap w (n+1) c 58:=⟨_,rfl⟩
 have hGn:n+1≤G:=by rw[hG];exact grownCap_ge w _ _ _
 have b4:G≤9223372036854775807:=by
  have:=grownCap_le_maxLen w (n+1) c 58 (by unfold maxLen;omega);rw[←hG]at this;unfold maxLen at this
  omega
 obtain⟨ROW,hROW⟩:∃ROW:Array Value,ROW=(inner.take (i*6)).toArray++Builtin.zeroCells (Value.agg #[.int .i64 0,.int .i64 0,.int .i64 0,.slice none 0 0,.slice none 0 0,.slice none 0 0]).cells (n+1-i)++Builtin.zeroCells (Value.agg #[.int .i64 0,.int .i64 0,.int .i64 0,.slice none 0 0,.slice none 0 0,.slice none 0 0]).cells (G-(n+1)):=⟨_,rfl⟩;rw[←hG]at hrz;rw[←hROW]at hrz;have hzc:(Value.agg #[.int .i64 0,.int .i64 0,.int .i64 0,.slice none 0 0,.slice none 0 0,.slice none 0 0]).cells.size=6:=rfl
 have hRl:ROW.size=G*6:=by
  rw[hROW];simp only[Array.size_append,List.size_toArray,List.length_take,Builtin.zeroCells,Array.size_map,Array.size_range,hzc]
  omega
 have hRt:ROW.toList.take (i*6)=inner.take (i*6):=by
  rw[hROW,Array.toList_append,Array.toList_append,List.append_assoc,List.take_append_of_le_length (by rw[List.length_take];omega),List.take_of_length_le (by rw[List.length_take];omega)]
 have hblk:∀W:World,W.heap=(w.drew.alloc (.cells ROW 58)).heap→W.heap[w.heap.size]? =some (.cells ROW 58 (0,0)):=fun W h=>by rw[h];exact jg w.drew _
 have hcpA:∀(W:World),W.heap=(w.drew.alloc (.cells ROW 58)).heap→∀ty dc,(Builtin.copy_ #[26,26] ty #[.slice (some ⟨w.heap.size,i*6,none⟩) (n+1-i) dc,.slice (some ⟨vb,0,none⟩) 1 1]).run Tryz.prog W= .ok (goInt 1) (W.setCells w.heap.size (i*6) vs):=fun W hWh ty dc=>
  lp W _ _ ty 58 w.heap.size (i*6) (n+1-i) dc ⟨vb,0,none⟩ 1 1 1 vs hu hsz (by simp only[Nat.min_def];split<;>omega) (by omega)
   (fun j v hj=>by
    rw[Addr.add_lit,Nat.zero_add,aq (w:=W) (g:=vb) (cs:=vs.toArray) (t:=58) (by rw[hWh];exact aC (au hv) _) j,List.getElem?_toArray,hj])
   (fun j hj=>by rw[aq (hblk W hWh),Array.getElem?_eq_getElem (by omega)];rfl) (fun j hj=>ay (hblk W hWh) _) h1v
 obtain⟨b1,b2,b6,_⟩:=eT vs (i*6) (w.drew.alloc (.cells ROW 58)) ROW (jg w.drew _) (by omega)
 have hcpB:∀(W:World),W.heap=((w.drew.alloc (.cells ROW 58)).setCells w.heap.size (i*6) vs).heap→∀ty dl dc sl sc,dl=n-i→sl=n-i→(Builtin.copy_ #[26,26] ty #[.slice (some ⟨w.heap.size,(i+1)*6,none⟩) dl dc,.slice (some ⟨g,i*6,none⟩) sl sc]).run Tryz.prog W= .ok (goInt ((n-i:Nat):Int)) (W.setCells w.heap.size ((i+1)*6) (inner.drop (i*6))):=fun W hWh ty dl dc sl sc adj aaL=>
  lp W _ _ ty 58 w.heap.size ((i+1)*6) dl dc ⟨g,i*6,none⟩ sl sc (n-i) (inner.drop (i*6)) hu hsz (by simp only[Nat.min_def];split<;>omega) hdl
   (fun j v hj=>by
    rw[Addr.add_lit];have h2:=hcell (i*6+j) v (by rwa [List.getElem?_drop]at hj);rw[aq hb]at h2;rw[aq (w:=W) (g:=g) (cs:=cur) (t:=58) (by rw[hWh,fA _ _ _ (by omega)];exact aC (au hb) _)]
    exact h2)
   (fun j hj=>by rw[aq (w:=W) (g:=w.heap.size) (cs:=b1) (t:=58) (by rw[hWh];exact b2),Array.getElem?_eq_getElem (by omega)];rfl) (fun j hj=>ay (w:=W) (g:=w.heap.size) (cs:=b1) (t:=58) (by rw[hWh];exact b2) _) (fun v hv=>h1c v (List.mem_of_mem_drop hv))
 have hGi:¬(G=i):=by omega
 have hGim:¬(G=i+1):=by omega
 have hci:¬(c=i):=by omega
 have bB:IntKind.i64.wrap ((i:Int)+(1:Int))=(i:Int)+(1:Int):=by rw[IntKind.wrap_i64];omega
 have bC:IntKind.i64.wrap ((n:Int)+(1:Int))=(n:Int)+(1:Int):=by rw[IntKind.wrap_i64];omega
 have bD:IntKind.i64.wrap ((n:Int)+(1:Int)-(i:Int))=(n:Int)+(1:Int)-(i:Int):=by rw[IntKind.wrap_i64];omega
 have bE:(0:Int)≤(i:Int)+(1:Int):=by omega
 have hin':i≤n:=by omega
 have htn:((i:Int)+(1:Int)).toNat=i+1:=by omega
 have bF:(i:Int)≤(n:Int):=by omega
 clear hkk hik hold hROW hG hblk b2 b6
 go_enter func102,ntmps102
 go_wp2_with (first
  |(at_builtin;refine Lib.wpList_append_run _ rfl _ _ _ _ rfl _ _ rfl rfl _ _ (hrz _) ?_)
  |(refine nw _ rfl _ _ 26 26 rfl _ _ rfl rfl (hcpA _ rfl _ _) ?_))
 go_region_law_o (refine oz rfl _ _ 26 26 rfl (.slice (some ⟨w.heap.size,(i+1)*6,none⟩) (n+1-(i+1)) (G-(i+1))) (.slice (some ⟨g,i*6,none⟩) (n-i) (c-i)) (by simp[Act.eval,Act.put]) (by simp[Act.eval,Act.put]) (hcpB ((((w.alloc (.cells ROW 58)).drew).setCells w.heap.size (i*6) vs).drew) (by rfl) _ _ _ _ _ (by omega) (by omega)) ?_)
 go_wp2
 go_ret
 exact⟨G,ROW,hGn,b4,hRl,hRt,rfl,rfl⟩
/-- slices.Insert of one element: the row with it. -/
theorem vL.calls (A:Option Addr) (n c i vb base:Nat) (ok:Nat→Prop) (rows:List (List Value)) (vs:List Value) (w0 w:World) (hi:i≤n) (hn:rows.length=n) (hr:(Kd.raw 6).R 58 w base ok (.slice A n c) rows)
  (hv:w.heap[vb]? =some (.cells vs.toArray 58 (0,0))) (hvb:some vb≠(Value.slice A n c).ownBlock) (hvl:vs.length=6) (h1v:∀u∈vs,u.oneCell'=true) (hB:Below base w0 w) (hbase:base≤w.heap.size) (hbig:(n+1)*96≤140737488355328):
  Calls Tryz.prog 102 #[.slice A n c,.int .i64 i,.slice (some ⟨vb,0,none⟩) 1 1] w fun e w'=>∃v',e= .returned v'∧(Kd.raw 6).R 58 w' base (fun k=>some k=(Value.slice A n c).ownBlock∨w.heap.size≤k) v' (rows.take i++[vs]++rows.drop i)∧
   Below base w0 w'∧w.grownBy w' (Value.slice A n c).ownBlock∧(v'.ownBlock=(Value.slice A n c).ownBlock∨∃b,v'.ownBlock=some b∧w.heap.size≤b):=by
 have hr':(Kd.raw 6).R 58 w base (fun k=>some k=(Value.slice A n c).ownBlock∨w.heap.size≤k) (.slice A n c) rows:=⟨fun k hk=> .inl hk.symm,hr.2⟩;rcases Nat.lt_or_ge i n with hlt|hge
 case inr=>
  obtain rfl:i=n:=by omega
  rw[List.take_of_length_le (by omega),List.drop_of_length_le (by omega),List.append_nil];exact uD.calls A i c vb base rows vs w0 w hn hr' hv hvl h1v hB hbase hbig
 case inl=>
 obtain⟨hok,inner,⟨hil,hown⟩,hrep⟩:=hr';rcases hown with⟨he,h0⟩|⟨g,cap,cur,he,hbg,hh,hnc,hcm,hcs,hin⟩
 ·omega
 injection he with ha hnn hcc;subst ha;subst hcc;subst hnn;rw[show(Kd.raw 6).sz=6 from rfl]at hil hcs hin hrep;have b2:∀u∈inner,u.oneCell'=true:=Kd.vG hrep (by decide) (fun p c h=>h.2.2);have hrI:=vz (i:=i) hrep (by omega) hvl h1v
 have hgv:vb≠g:=fun he=>hvb (by rw[he];rfl)
 have hpl:i*6≤inner.length:=by rw[hil];omega
 have b1:(rows.take i++[vs]++rows.drop i).length=rows.length+1:=by simp only[List.length_append,List.length_take,List.length_drop,List.length_singleton];omega
 rcases Nat.lt_or_ge c (rows.length+1)with hg|hroom
 ·refine(tw.calls g rows.length c i vb cur inner vs w hlt hnc hg hbig hh hcs hin hv hvl b2 h1v).mono ?_;rintro e w' ⟨G,ROW,hGn,b3,hRl,hRt,rfl,rfl⟩;refine⟨_,rfl,?_,?_,kP w _ _ _ _ _ _,.inr ⟨_,rfl,Nat.le_refl _⟩⟩
  ·obtain⟨c1,k1,k2,k3⟩:=eT (e:=58) vs (i*6) (w.alloc (.cells ROW 58)).drew ROW (au (jg w _)) (by omega);obtain⟨c2,l1,l2,l3⟩:=eT (inner.drop (i*6)) ((i+1)*6) _ c1 (au k1) (by rw[List.length_drop,k2,hil,hRl];omega);have hm:G≤maxLen:=b3;rw[b1.symm];refine rR l1 (by rw[l2,k2,hRl]) (by omega) hm (by omega) (.inr (Nat.le_refl _)) rfl ?_;rw[l3];have:=tH ROW.toList inner vs (i*6) 6 hvl hpl hRt c1.toList (by rw[Array.length_toList];omega) k3;rw[show(i+1)*6=i*6+6 by omega,show(rows.take i++[vs]++rows.drop i).length*6=inner.length+6 by rw[b1,hil];omega,this];exact hrI
  ·exact hB.grown (kP w _ _ _ _ _ none) hbase (fun k e=>by cases e)
 ·refine(sD.calls g rows.length c i vb cur inner vs w hlt hroom (by unfold maxLen at hcm;omega) hgv hh hcs hin hv hvl b2 h1v).mono ?_;rintro e w' ⟨rfl,rfl⟩;refine⟨_,rfl,?_,?_,po w g _ _ _ _,.inl rfl⟩
  ·obtain⟨c1,k1,k2,k3⟩:=eT (inner.drop (i*6)) ((i+1)*6) w.drew cur (au hh) (by rw[List.length_drop,hil,hcs];omega);obtain⟨c2,l1,l2,l3⟩:=eT vs (i*6) _ c1 k1 (by rw[k2,hcs];omega);rw[b1.symm];refine rR l1 (by rw[l2,k2,hcs]) (by omega) hcm hbg (.inl rfl) rfl ?_;rw[l3];have:=vy cur.toList inner vs (i*6) 6 hvl hpl (by rw[←hin,List.take_take,Nat.min_eq_left (by omega)]) (by rw[Array.length_toList,hcs];omega) c1.toList (by rw[k3,show(i+1)*6=i*6+6 by omega]);rw[show(rows.take i++[vs]++rows.drop i).length*6=inner.length+6 by rw[b1,hil];omega,this];exact hrI
  ·exact hB.grown (po w g _ _ _ _) hbase (fun k e=>by injection e with e;omega)
/-- copy of elements of several cells. -/
theorem mj {P:Program}(w:World) (dT sT ty elem:TypeId) (b o dLen dCap:Nat) (a:Addr) (sLen sCap n:Nat) (cs:List Value)
  (hu:P.underlying dT=some (.slice elem)) (hs:(P.info? elem).map (·.size)=some 2) (hm:Nat.min sLen dLen=n) (hn:cs.length=n*2)
  (hsrc:∀j v,cs[j]? =some v→w.cell? (a.add j)=some v) (hc:∀j,j<cs.length→(w.cell? ⟨b,o+j,none⟩).isSome=true) (hf:∀j,j<cs.length→w.frozen? ⟨b,o+j,none⟩=false) (h1:∀v∈cs,v.oneCell'=true):
  (Builtin.copy_ #[dT,sT] ty #[.slice (some ⟨b,o,none⟩) dLen dCap,.slice (some a) sLen sCap]).run P w= .ok (goInt n) (w.setCells b o cs):=by
 have hl:=run_loadCells_list (P:=P) w a cs hsrc;have hst:=run_storeCells_cells (P:=P) b o cs 0 w (by simpa using hc) (by simpa using hf) h1
 cases hq:P.info? elem with
 |none=>simp[hq]at hs
 |some i=>
  have hi:i.size=2:=by simpa [hq]using hs
  simp[Builtin.copy_,run_underlying hu,Builtin.lenOf,Builtin.firstCells,sizeOf,typeInfo,hq,hi,hm,←hn,hl,hst]
theorem oA {P:Program}(w:World) {ops:Array Oper}{rest:List Oper}{o:Oper}{a:Act}{Q:Exit→Act→World→Prop}(hgd:o.guard=none) (d s:Operand) (t t':TypeId)
  (ho:o.op= .call {callee:= .builtin .copy,args:= #[d,s],argTypes:= #[t,t']}) (v u:Value) (hd:a.eval d=v) (hs:a.eval s=u) {v':Value}{w':World}
  (hr:(Builtin.copy_ #[t,t'] o.type #[v,u]).run P w= .ok v' w') (h:wpList P ops Q rest (a.put o.dst v') w'):wpList P ops Q (o::rest) a w:=
 wpList_plain hgd fun K hK=>by
  unfold Oper.wp execOp;simp only[ho,resolve,invoke,builtin,Sem.run_bind,Sem.run_pure,Result.andThen_ok,List.map_toArray,List.map_cons,List.map_nil,hd,hs,hr];exact hK _ _ h
theorem pK {P:Program}{ops:Array Oper}{o:Oper}{a:Act}{w:World}{K:Act→World→Prop}{Q:Exit→Act→World→Prop}{E:Prop}
  (hg:o.guard=none) (d x:Operand) (dT sT:TypeId) (hop:o.op=Op.call {callee:=Callee.builtin Builtin.copy,args:= #[d,x],argTypes:= #[dT,sT]})
  (v u:Value) (hd:a.eval d=v) (hx:a.eval x=u) {v':Value}{w':World}(hr:(Builtin.copy_ #[dT,sT] o.type #[v,u]).run P w= .ok v' w') (hK:K (a.put o.dst v') w'):
  if Region.wanted o (yielded ops a.tmps)=true then Oper.wp P o a w K Q else E:=by
 have hw:Region.wanted o (yielded ops a.tmps)=true:=by simp[Region.wanted,hg]
 rw[if_pos hw];unfold Oper.wp;simp[execOp,hop,resolve,invoke,builtin,hd,hx,hr,Result.andThen];exact hK
theorem uE.calls (g n c i vb:Nat) (cur:Array Value) (inner vs:List Value) (w:World) (hi:i<n) (hroom:n+1≤c) (hc63:c≤9223372036854775807) (hvb:vb≠g)
  (hb:w.heap[g]? =some (.cells cur 75 (0,0))) (hcs:cur.size=c*2) (hin:cur.toList.take (n*2)=inner) (hv:w.heap[vb]? =some (.cells vs.toArray 75 (0,0))) (hvl:vs.length=2)
  (h1c:∀u∈inner,u.oneCell'=true) (h1v:∀u∈vs,u.oneCell'=true):
  Calls Tryz.prog 105 #[.slice (some ⟨g,0,none⟩) n c,.int .i64 i,.slice (some ⟨vb,0,none⟩) 1 1] w fun e w'=>
   e= .returned (.slice (some ⟨g,0,none⟩) (n+1) c)∧w'=(w.drew.setCells g ((i+1)*2) (inner.drop (i*2))).setCells g (i*2) vs:=by
 have hu:=underlying55
 have mixed:Tryz.prog.follows .mixedOrders=true:=by kernel_rfl
 have b7:¬((1:Int)=0):=by omega
 have b8:¬((i:Int)=(n:Int)):=by omega
 have hsz:(Tryz.prog.info? 75).map (·.size)=some 2:=by kernel_rfl
 have hil:inner.length=n*2:=by rw[←hin,List.length_take,Array.length_toList];omega
 have hdl:(inner.drop (i*2)).length=(n-i)*2:=by rw[List.length_drop,hil];omega
 have hcur:∀j,w.cell? ⟨g,j,none⟩=cur[j]? :=fun j=>aq hb j
 have hcell:∀j u,inner[j]? =some u→w.cell? ⟨g,j,none⟩=some u:=fun j u hj=>by
  rw[hcur,←hj,←hin,List.getElem?_take];have:j<inner.length:=(List.getElem?_eq_some_iff.1 hj).1;rw[if_pos (by omega),Array.getElem?_toList]
 have hsp:∀j,j<(n+1)*2→(w.cell? ⟨g,j,none⟩).isSome=true:=fun j hj=>by rw[hcur,Array.getElem?_eq_getElem (by omega)];rfl
 have hfz:∀j,w.frozen? ⟨g,j,none⟩=false:=fun j=>ay hb j
 have hvc:∀j u,vs[j]? =some u→w.cell? ⟨vb,j,none⟩=some u:=fun j u hj=>by rw[aq hv j,List.getElem?_toArray,hj]
 have hov:∀lb cb,(callFunc 130 #[.slice (some ⟨vb,0,none⟩) 1 1,.slice (some ⟨g,(i+1)*2,none⟩) lb cb]).run Tryz.prog w= .ok (.value (.bool false)) w:=fun lb cb=>by
  rw[run_callFunc_extern func130 (by kernel_rfl) (by kernel_rfl) (by kernel_rfl) (e:=Extern.SlicesOverlaps.overlaps #[55,55] #[4]) (by kernel_rfl),
   Lib.run_overlaps_apart w 55 4 75 underlying55 2 Tryz.sizeOf75 ⟨vb,0,none⟩ ⟨g,(i+1)*2,none⟩ 1 1 lb cb hvb 75 75 vs.length cur.size (by simp[World.shape?,hv]) (by simp[World.shape?,hb]) (by omega) (ay hv 0) (ay hv _)]
  rfl
 have b9:IntKind.i64.wrap ((i:Int)+(1:Int))=(i:Int)+(1:Int):=by rw[IntKind.wrap_i64];omega
 have bB:IntKind.i64.wrap ((n:Int)+(1:Int))=(n:Int)+(1:Int):=by rw[IntKind.wrap_i64];omega
 have bC:(0:Int)≤(i:Int)+(1:Int):=by omega
 have hin':i≤n:=by omega
 have htn:((i:Int)+(1:Int)).toNat=i+1:=by omega
 have b6:((n:Int)+(1:Int)).toNat=n+1:=by omega
 have bD:¬(c=i+1):=by omega
 have bE:(i:Int)≤(n:Int)+(1:Int):=by omega
 have bF:¬(c=i):=by omega
 have b2:∀ty dl dc sl sc,dl=n-i→sl=n+1-i→(Builtin.copy_ #[55,55] ty #[.slice (some ⟨g,(i+1)*2,none⟩) dl dc,.slice (some ⟨g,i*2,none⟩) sl sc]).run Tryz.prog w.drew= .ok (goInt ((n-i:Nat):Int)) (w.drew.setCells g ((i+1)*2) (inner.drop (i*2))):=fun ty dl dc sl sc adj aaL=>
  mj w.drew _ _ ty 75 g ((i+1)*2) dl dc ⟨g,i*2,none⟩ sl sc (n-i) (inner.drop (i*2)) underlying55 hsz (by simp only[Nat.min_def];split<;>omega) hdl
   (fun j v hj=>by rw[Addr.add_lit];exact hcell (i*2+j) v (by rwa [List.getElem?_drop]at hj))
   (fun j hj=>hsp _ (by omega)) (fun j hj=>hfz _) (fun v hv=>h1c v (List.mem_of_mem_drop hv))
 obtain⟨W1,b1⟩:∃W1,W1=w.drew.setCells g ((i+1)*2) (inner.drop (i*2)):=⟨_,rfl⟩;obtain⟨b3,b4,bG,_⟩:=eT (inner.drop (i*2)) ((i+1)*2) w.drew cur hb (by omega)
 have b5:∀(W:World),W.heap=W1.heap→∀ty dc,(Builtin.copy_ #[55,55] ty #[.slice (some ⟨g,i*2,none⟩) (n+1-i) dc,.slice (some ⟨vb,0,none⟩) 1 1]).run Tryz.prog W= .ok (goInt 1) (W.setCells g (i*2) vs):=fun W hWh ty dc=>
  mj W _ _ ty 75 g (i*2) (n+1-i) dc ⟨vb,0,none⟩ 1 1 1 vs underlying55 hsz (by simp only[Nat.min_def];split<;>omega) (by omega)
   (fun j v hj=>by
    rw[Addr.add_lit,Nat.zero_add];rw[show W.cell? ⟨vb,j,none⟩=w.cell? ⟨vb,j,none⟩from by rw[aq (w:=W) (g:=vb) (cs:=vs.toArray) (t:=75) (by rw[hWh,b1,fA _ _ _ hvb];exact hv) j,aq hv j]]
    exact hvc j v hj)
   (fun j hj=>by rw[aq (w:=W) (g:=g) (cs:=b3) (t:=75) (by rw[hWh,b1];exact b4),Array.getElem?_eq_getElem (by omega)];rfl) (fun j hj=>ay (w:=W) (g:=g) (cs:=b3) (t:=75) (by rw[hWh,b1];exact b4) _) h1v
 rw[←b1]at b2
 go_enter func105,ntmps105
 go_wp2_with (simp only[hov])
 go_region_law_o (refine pK rfl _ _ 55 55 rfl (.slice (some ⟨g,(i+1)*2,none⟩) (n+1-(i+1)) (c-(i+1))) (.slice (some ⟨g,i*2,none⟩) (n+1-i) (c-i)) (by simp[Act.eval,Act.put]) (by simp[Act.eval,Act.put]) (b2 _ _ _ _ _ (by omega) (by omega)) ?_)
 go_wp2_with (at_builtin;refine oA _ rfl _ _ 55 55 rfl _ _ rfl rfl (b5 _ rfl _ _) ?_)
 go_ret
 first|exact⟨rfl,rfl⟩|exact⟨rfl,by rw[b1]⟩
theorem uF:(Tryz.prog.info? 75).map (fun i=>(i.zero,i.size,i.bytes))=some (some (Value.agg #[.string ⟨#[]⟩,.int .i64 0]),2,24):=by kernel_rfl
theorem adk (w:World) (vb:Nat) (vs:List Value) (hv:w.heap[vb]? =some (.cells vs.toArray 75 (0,0))) (hvl:vs.length=2) (h1v:∀u∈vs,u.oneCell'=true):fo ((Kd.raw 2).K w) 2 w (some ⟨vb,0,none⟩) 1 [vs]:=by
 refine⟨rfl,by decide,fun _=>⟨⟨vb,0,none⟩,rfl,fun j p hj=> ?_⟩⟩
 cases j with
 |zero=>
  obtain rfl:vs=p:=by simpa using hj
  refine⟨vs,hvl,⟨rfl,hvl,h1v⟩,fun i u hu=> ?_⟩;rw[Nat.zero_mul,Nat.zero_add,Addr.add_lit,Nat.zero_add,aq hv i,List.getElem?_toArray,hu]
 |succ j=>simp at hj
theorem xp.calls (A:Option Addr) (n c vb base:Nat) (rows:List (List Value)) (vs:List Value) (w0 w:World) (hn:rows.length=n)
  (hr:(Kd.raw 2).R 75 w base (fun k=>some k=(Value.slice A n c).ownBlock∨w.heap.size≤k) (.slice A n c) rows) (hv:w.heap[vb]? =some (.cells vs.toArray 75 (0,0))) (hvl:vs.length=2) (h1v:∀u∈vs,u.oneCell'=true)
  (hB:Below base w0 w) (hbase:base≤w.heap.size) (hbig:(n+1)*24≤140737488355328):
  Calls Tryz.prog 105 #[.slice A n c,.int .i64 n,.slice (some ⟨vb,0,none⟩) 1 1] w fun e w'=>∃v',e= .returned v'∧(Kd.raw 2).R 75 w' base (fun k=>some k=(Value.slice A n c).ownBlock∨w.heap.size≤k) v' (rows++[vs])∧
   Below base w0 w'∧w.grownBy w' (Value.slice A n c).ownBlock∧(v'.ownBlock=(Value.slice A n c).ownBlock∨∃b,v'.ownBlock=some b∧w.heap.size≤b):=by
 have hu:=underlying55
 have b1:¬((1:Int)=0):=by omega
 have ho:=adk w vb vs hv hvl h1v;have hr':=hr;obtain⟨hok,inner,hown,hrep⟩:=hr'
 go_enter func105,ntmps105
 rcases A with _|ad
 ·obtain⟨rfl,rfl⟩:n=0∧c=0:=by
   rcases hown.2 with⟨h1,h2⟩|⟨g',cap',cur,h1,_⟩
   ·injection h1 with _ a b;exact⟨a,b⟩
   ·cases h1
  go_wp2_with (at_builtin;refine Kd.fk (Kd.raw 2) (Rr:=(Kd.raw 2).K w) (w0:=w0) base rfl _ _ 55 75 (Value.agg #[.string ⟨#[]⟩,.int .i64 0]) 24 rfl hu uF rfl (by decide) (by decide) _ rows [vs] (some ⟨vb,0,none⟩) 1 1 _ (fun _=>False) rfl rfl hr ho (fun x cs h=>h) (fun _ h=>h.elim) (fun k hk=> .inr hk) hB hbase (by omega) ?_;intro v1 w1 h1 h2 h3 h4)
  go_ret
  exact⟨_,rfl,h1,h2,h3,h4⟩
 ·obtain⟨g,rfl⟩:=Kd.uy hr;have hnc:n≤c:=(Kd.bd hr).2.1
  go_wp2_with (at_builtin;refine Kd.fk (Kd.raw 2) (Rr:=(Kd.raw 2).K w) (w0:=w0) base rfl _ _ 55 75 (Value.agg #[.string ⟨#[]⟩,.int .i64 0]) 24 rfl hu uF rfl (by decide) (by decide) _ rows [vs] (some ⟨vb,0,none⟩) 1 1 _ (fun _=>False) rfl rfl hr ho (fun x cs h=>h) (fun _ h=>h.elim) (fun k hk=> .inr hk) hB hbase (by omega) ?_;intro v1 w1 h1 h2 h3 h4)
  all_goals(go_ret;exact⟨_,rfl,h1,h2,h3,h4⟩)
theorem vM.calls (g n c i vb:Nat) (cur:Array Value) (inner vs:List Value) (w:World) (hi:i<n) (hnc:n≤c) (hroom:c<n+1) (hbig:(n+1)*24≤140737488355328)
  (hb:w.heap[g]? =some (.cells cur 75 (0,0))) (hcs:cur.size=c*2) (hin:cur.toList.take (n*2)=inner) (hv:w.heap[vb]? =some (.cells vs.toArray 75 (0,0))) (hvl:vs.length=2)
  (h1c:∀u∈inner,u.oneCell'=true) (h1v:∀u∈vs,u.oneCell'=true):
  Calls Tryz.prog 105 #[.slice (some ⟨g,0,none⟩) n c,.int .i64 i,.slice (some ⟨vb,0,none⟩) 1 1] w fun e w'=>∃(G:Nat) (ROW:Array Value),n+1≤G∧G≤9223372036854775807∧ROW.size=G*2∧ROW.toList.take (i*2)=inner.take (i*2)∧
   e= .returned (.slice (some ⟨w.heap.size,0,none⟩) (n+1) G)∧w'=(((w.alloc (.cells ROW 75)).drew.setCells w.heap.size (i*2) vs).drew).setCells w.heap.size ((i+1)*2) (inner.drop (i*2)):=by
 have hu:=underlying55
 have mixed:Tryz.prog.follows .mixedOrders=true:=by kernel_rfl
 obtain⟨i0,b3,b5,hzs,hzb⟩:=info_parts uF
 have hsz:(Tryz.prog.info? 75).map (·.size)=some 2:=by rw[b3];simp[hzs]
 have b7:¬((1:Int)=0):=by omega
 have b8:¬((i:Int)=(n:Int)):=by omega
 have b9:(c:Int)<(n:Int)+(1:Int):=by omega
 have hil:inner.length=n*2:=by rw[←hin,List.length_take,Array.length_toList];omega
 have hdl:(inner.drop (i*2)).length=(n-i)*2:=by rw[List.length_drop,hil];omega
 have hgw:g<w.heap.size:=fM hb;have hvw:vb<w.heap.size:=fM hv
 have hcell:∀j u,inner[j]? =some u→w.cell? ⟨g,j,none⟩=some u:=fun j u hj=>by
  rw[aq hb j,←hj,←hin,List.getElem?_take];have:j<inner.length:=(List.getElem?_eq_some_iff.1 hj).1;rw[if_pos (by omega),Array.getElem?_toList]
 have hvc:∀j u,vs[j]? =some u→w.cell? ⟨vb,j,none⟩=some u:=fun j u hj=>by rw[aq hv j,List.getElem?_toArray,hj]
 have hkk:(n:Int)+(1:Int)-(i:Int)=((n+1-i:Nat):Int):=by omega
 have hik:i+(n+1-i)=n+1:=by omega
 have hold:(Builtin.firstCells i0.size i (.slice (some ⟨g,0,none⟩) i c)).run Tryz.prog w.drew= .ok (inner.take (i*2)).toArray w.drew:=by
  rw[hzs]
  exact run_firstCells_some w.drew 2 i ⟨g,0,none⟩ i c (inner.take (i*2)) (by rw[List.length_take];omega) (fun j v hj=>by
   rw[Addr.add_lit,Nat.zero_add];rw[List.getElem?_take]at hj
   split at hj
   ·exact hcell j v hj
   ·cases hj)
 have hrz:∀ty,(Builtin.append_ #[55,3] ty #[.slice (some ⟨g,0,none⟩) i c,.int .i64 ((n:Int)+(1:Int)-(i:Int))]).run Tryz.prog w=
   .ok (.slice (some ⟨w.heap.size,0,none⟩) (n+1) (grownCap w (n+1) c 75)) (w.drew.alloc (.cells ((inner.take (i*2)).toArray++Builtin.zeroCells (Value.agg #[.string ⟨#[]⟩,.int .i64 0]).cells (n+1-i)++Builtin.zeroCells (Value.agg #[.string ⟨#[]⟩,.int .i64 0]).cells (grownCap w (n+1) c 75-(n+1))) 75)):=fun ty=>by
  have h:=Lib.run_append_grow_zeros w 55 3 ty 75 i0 _ .i64 .i64 hu underlying3 b3 b5 (some ⟨g,0,none⟩) i c (inner.take (i*2)) hold (n+1-i) (by omega) (by omega) (by omega) (by omega) (by rw[hzb];omega) (by rw[hzb,hik];exact growslice_fits hroom hbig);rw[hik]at h;rw[hkk];exact h
 obtain⟨G,hG⟩:∃G,G=grownCap w (n+1) c 75:=⟨_,rfl⟩
 have hGn:n+1≤G:=by rw[hG];exact grownCap_ge w _ _ _
 have b4:G≤9223372036854775807:=by
  have:=grownCap_le_maxLen w (n+1) c 75 (by unfold maxLen;omega);rw[←hG]at this;unfold maxLen at this
  omega
 obtain⟨ROW,hROW⟩:∃ROW:Array Value,ROW=(inner.take (i*2)).toArray++Builtin.zeroCells (Value.agg #[.string ⟨#[]⟩,.int .i64 0]).cells (n+1-i)++Builtin.zeroCells (Value.agg #[.string ⟨#[]⟩,.int .i64 0]).cells (G-(n+1)):=⟨_,rfl⟩;rw[←hG]at hrz;rw[←hROW]at hrz;have hzc:(Value.agg #[.string ⟨#[]⟩,.int .i64 0]).cells.size=2:=rfl
 have hRl:ROW.size=G*2:=by
  rw[hROW];simp only[Array.size_append,List.size_toArray,List.length_take,Builtin.zeroCells,Array.size_map,Array.size_range,hzc]
  omega
 have hRt:ROW.toList.take (i*2)=inner.take (i*2):=by
  rw[hROW,Array.toList_append,Array.toList_append,List.append_assoc,List.take_append_of_le_length (by rw[List.length_take];omega),List.take_of_length_le (by rw[List.length_take];omega)]
 have hblk:∀W:World,W.heap=(w.drew.alloc (.cells ROW 75)).heap→W.heap[w.heap.size]? =some (.cells ROW 75 (0,0)):=fun W h=>by rw[h];exact jg w.drew _
 have hcpA:∀(W:World),W.heap=(w.drew.alloc (.cells ROW 75)).heap→∀ty dc,(Builtin.copy_ #[55,55] ty #[.slice (some ⟨w.heap.size,i*2,none⟩) (n+1-i) dc,.slice (some ⟨vb,0,none⟩) 1 1]).run Tryz.prog W= .ok (goInt 1) (W.setCells w.heap.size (i*2) vs):=fun W hWh ty dc=>
  mj W _ _ ty 75 w.heap.size (i*2) (n+1-i) dc ⟨vb,0,none⟩ 1 1 1 vs hu hsz (by simp only[Nat.min_def];split<;>omega) (by omega)
   (fun j v hj=>by
    rw[Addr.add_lit,Nat.zero_add,aq (w:=W) (g:=vb) (cs:=vs.toArray) (t:=75) (by rw[hWh];exact aC (au hv) _) j,List.getElem?_toArray,hj])
   (fun j hj=>by rw[aq (hblk W hWh),Array.getElem?_eq_getElem (by omega)];rfl) (fun j hj=>ay (hblk W hWh) _) h1v
 obtain⟨b1,b2,b6,_⟩:=eT vs (i*2) (w.drew.alloc (.cells ROW 75)) ROW (jg w.drew _) (by omega)
 have hcpB:∀(W:World),W.heap=((w.drew.alloc (.cells ROW 75)).setCells w.heap.size (i*2) vs).heap→∀ty dl dc sl sc,dl=n-i→sl=n-i→(Builtin.copy_ #[55,55] ty #[.slice (some ⟨w.heap.size,(i+1)*2,none⟩) dl dc,.slice (some ⟨g,i*2,none⟩) sl sc]).run Tryz.prog W= .ok (goInt ((n-i:Nat):Int)) (W.setCells w.heap.size ((i+1)*2) (inner.drop (i*2))):=fun W hWh ty dl dc sl sc adj aaL=>
  mj W _ _ ty 75 w.heap.size ((i+1)*2) dl dc ⟨g,i*2,none⟩ sl sc (n-i) (inner.drop (i*2)) hu hsz (by simp only[Nat.min_def];split<;>omega) hdl
   (fun j v hj=>by
    rw[Addr.add_lit];have h2:=hcell (i*2+j) v (by rwa [List.getElem?_drop]at hj);rw[aq hb]at h2;rw[aq (w:=W) (g:=g) (cs:=cur) (t:=75) (by rw[hWh,fA _ _ _ (by omega)];exact aC (au hb) _)]
    exact h2)
   (fun j hj=>by rw[aq (w:=W) (g:=w.heap.size) (cs:=b1) (t:=75) (by rw[hWh];exact b2),Array.getElem?_eq_getElem (by omega)];rfl) (fun j hj=>ay (w:=W) (g:=w.heap.size) (cs:=b1) (t:=75) (by rw[hWh];exact b2) _) (fun v hv=>h1c v (List.mem_of_mem_drop hv))
 have hGi:¬(G=i):=by omega
 have hGim:¬(G=i+1):=by omega
 have hci:¬(c=i):=by omega
 have bB:IntKind.i64.wrap ((i:Int)+(1:Int))=(i:Int)+(1:Int):=by rw[IntKind.wrap_i64];omega
 have bC:IntKind.i64.wrap ((n:Int)+(1:Int))=(n:Int)+(1:Int):=by rw[IntKind.wrap_i64];omega
 have bD:IntKind.i64.wrap ((n:Int)+(1:Int)-(i:Int))=(n:Int)+(1:Int)-(i:Int):=by rw[IntKind.wrap_i64];omega
 have bE:(0:Int)≤(i:Int)+(1:Int):=by omega
 have hin':i≤n:=by omega
 have htn:((i:Int)+(1:Int)).toNat=i+1:=by omega
 have bF:(i:Int)≤(n:Int):=by omega
 clear hkk hik hold hROW hG hblk b2 b6
 go_enter func105,ntmps105
 go_wp2_with (first
  |(at_builtin;refine Lib.wpList_append_run _ rfl _ _ _ _ rfl _ _ rfl rfl _ _ (hrz _) ?_)
  |(refine oA _ rfl _ _ 55 55 rfl _ _ rfl rfl (hcpA _ rfl _ _) ?_))
 go_region_law_o (refine pK rfl _ _ 55 55 rfl (.slice (some ⟨w.heap.size,(i+1)*2,none⟩) (n+1-(i+1)) (G-(i+1))) (.slice (some ⟨g,i*2,none⟩) (n-i) (c-i)) (by simp[Act.eval,Act.put]) (by simp[Act.eval,Act.put]) (hcpB ((((w.alloc (.cells ROW 75)).drew).setCells w.heap.size (i*2) vs).drew) (by rfl) _ _ _ _ _ (by omega) (by omega)) ?_)
 go_wp2
 go_ret
 exact⟨G,ROW,hGn,b4,hRl,hRt,rfl,rfl⟩
/-- slices.Insert of one element: the row with it. -/
theorem adl.calls (A:Option Addr) (n c i vb base:Nat) (ok:Nat→Prop) (rows:List (List Value)) (vs:List Value) (w0 w:World) (hi:i≤n) (hn:rows.length=n) (hr:(Kd.raw 2).R 75 w base ok (.slice A n c) rows)
  (hv:w.heap[vb]? =some (.cells vs.toArray 75 (0,0))) (hvb:some vb≠(Value.slice A n c).ownBlock) (hvl:vs.length=2) (h1v:∀u∈vs,u.oneCell'=true) (hB:Below base w0 w) (hbase:base≤w.heap.size) (hbig:(n+1)*24≤140737488355328):
  Calls Tryz.prog 105 #[.slice A n c,.int .i64 i,.slice (some ⟨vb,0,none⟩) 1 1] w fun e w'=>∃v',e= .returned v'∧(Kd.raw 2).R 75 w' base (fun k=>some k=(Value.slice A n c).ownBlock∨w.heap.size≤k) v' (rows.take i++[vs]++rows.drop i)∧
   Below base w0 w'∧w.grownBy w' (Value.slice A n c).ownBlock∧(v'.ownBlock=(Value.slice A n c).ownBlock∨∃b,v'.ownBlock=some b∧w.heap.size≤b):=by
 have hr':(Kd.raw 2).R 75 w base (fun k=>some k=(Value.slice A n c).ownBlock∨w.heap.size≤k) (.slice A n c) rows:=⟨fun k hk=> .inl hk.symm,hr.2⟩;rcases Nat.lt_or_ge i n with hlt|hge
 case inr=>
  obtain rfl:i=n:=by omega
  rw[List.take_of_length_le (by omega),List.drop_of_length_le (by omega),List.append_nil];exact xp.calls A i c vb base rows vs w0 w hn hr' hv hvl h1v hB hbase hbig
 case inl=>
 obtain⟨hok,inner,⟨hil,hown⟩,hrep⟩:=hr';rcases hown with⟨he,h0⟩|⟨g,cap,cur,he,hbg,hh,hnc,hcm,hcs,hin⟩
 ·omega
 injection he with ha hnn hcc;subst ha;subst hcc;subst hnn;rw[show(Kd.raw 2).sz=2 from rfl]at hil hcs hin hrep;have b2:∀u∈inner,u.oneCell'=true:=Kd.vG hrep (by decide) (fun p c h=>h.2.2);have hrI:=vz (i:=i) hrep (by omega) hvl h1v
 have hgv:vb≠g:=fun he=>hvb (by rw[he];rfl)
 have hpl:i*2≤inner.length:=by rw[hil];omega
 have b1:(rows.take i++[vs]++rows.drop i).length=rows.length+1:=by simp only[List.length_append,List.length_take,List.length_drop,List.length_singleton];omega
 rcases Nat.lt_or_ge c (rows.length+1)with hg|hroom
 ·refine(vM.calls g rows.length c i vb cur inner vs w hlt hnc hg hbig hh hcs hin hv hvl b2 h1v).mono ?_;rintro e w' ⟨G,ROW,hGn,b3,hRl,hRt,rfl,rfl⟩;refine⟨_,rfl,?_,?_,kP w _ _ _ _ _ _,.inr ⟨_,rfl,Nat.le_refl _⟩⟩
  ·obtain⟨c1,k1,k2,k3⟩:=eT (e:=75) vs (i*2) (w.alloc (.cells ROW 75)).drew ROW (au (jg w _)) (by omega);obtain⟨c2,l1,l2,l3⟩:=eT (inner.drop (i*2)) ((i+1)*2) _ c1 (au k1) (by rw[List.length_drop,k2,hil,hRl];omega);have hm:G≤maxLen:=b3;rw[b1.symm];refine rR l1 (by rw[l2,k2,hRl]) (by omega) hm (by omega) (.inr (Nat.le_refl _)) rfl ?_;rw[l3];have:=tH ROW.toList inner vs (i*2) 2 hvl hpl hRt c1.toList (by rw[Array.length_toList];omega) k3;rw[show(i+1)*2=i*2+2 by omega,show(rows.take i++[vs]++rows.drop i).length*2=inner.length+2 by rw[b1,hil];omega,this];exact hrI
  ·exact hB.grown (kP w _ _ _ _ _ none) hbase (fun k e=>by cases e)
 ·refine(uE.calls g rows.length c i vb cur inner vs w hlt hroom (by unfold maxLen at hcm;omega) hgv hh hcs hin hv hvl b2 h1v).mono ?_;rintro e w' ⟨rfl,rfl⟩;refine⟨_,rfl,?_,?_,po w g _ _ _ _,.inl rfl⟩
  ·obtain⟨c1,k1,k2,k3⟩:=eT (inner.drop (i*2)) ((i+1)*2) w.drew cur (au hh) (by rw[List.length_drop,hil,hcs];omega);obtain⟨c2,l1,l2,l3⟩:=eT vs (i*2) _ c1 k1 (by rw[k2,hcs];omega);rw[b1.symm];refine rR l1 (by rw[l2,k2,hcs]) (by omega) hcm hbg (.inl rfl) rfl ?_;rw[l3];have:=vy cur.toList inner vs (i*2) 2 hvl hpl (by rw[←hin,List.take_take,Nat.min_eq_left (by omega)]) (by rw[Array.length_toList,hcs];omega) c1.toList (by rw[k3,show(i+1)*2=i*2+2 by omega]);rw[show(rows.take i++[vs]++rows.drop i).length*2=inner.length+2 by rw[b1,hil];omega,this];exact hrI
  ·exact hB.grown (po w g _ _ _ _) hbase (fun k e=>by injection e with e;omega)
def et.l0:Nat→ByteArray→Int→Int→Int→Int→List Int→List (cA)→List (eu)→Option (Int)
 |0,_,_,_,_,_,_,_,_=>none
 |k+1,x1,x5,b2,b3,b4,b5,b1,b6=>if x5<(b1.length:Int)then(if 0≤x5 then(if((al b1 x5).f0).toList=x1.toList then(some ((al b1 x5).f1))else(et.l0 k x1 (wrap64 (x5+1)) b2 b3 b4 b5 b1 b6))else(none))else(some 0)
def et.f (k:Nat) (bo:Int) (ak:Int) (cE:Int) (ch:List Int) (aG:List (cA)) (cp:List (eu)) (a1:ByteArray):Option (Int):=et.l0 k a1 0 bo ak cE ch aG cp
theorem et.calls (k:Nat) (bo:Int) (ak:Int) (cE:Int) (fP:Option Addr) (fQ:Nat) (ch:List Int) (fE:Option Addr) (fF:Nat) (aG:List (cA)) (fG:Option Addr) (fH:Nat) (cp:List (eu)) (a1:ByteArray) (r:Int) (w:World) (iL:Kd.C (Kd.int .u8) w fP ch.length ch) (iM:ch.length≤fQ) (iN:Kd.C fI w fE aG.length aG) (iO:aG.length≤fF) (iP:Kd.C jl w fG cp.length cp) (iQ:cp.length≤fH) (h:et.f k bo ak cE ch aG cp a1=some r):
  Calls Tryz.prog 98 #[.agg #[.int .i64 bo,.int .i64 ak,.int .i64 cE,.slice fP ch.length fQ,.slice fE aG.length fF,.slice fG cp.length fH],.string a1] w fun e w'=>e= .returned (.int .i64 r)∧Below w.heap.size w w':=by
 have bQ:=underlying58;have bK:=ae.mk iL;have bL:=ae.mk iM;clear iL iM;have b5:=ae.mk iN;have bM:=ae.mk iO;clear iN iO;have bN:=ae.mk iP;have bO:=ae.mk iQ;clear iP iQ;have HB:=am (Below.refl w.heap.size w);unfold et.f at h;have H:=h;clear h;have H':=ae.mk H;clear H
 go_enter func98,ntmps98
 go_wp2_with (first|((with_reducible refine aj (N:=2) rfl ?_);refine cO 2 #[.int .i64 bo,.int .i64 ak,.int .i64 cE,.slice fP ch.length fQ,.slice fE aG.length fF,.slice fG cp.length fH] 58 ?_;intro bB hg w3 hbox hb;have b2:=am (hbox);have bP:=cN hg;replace HB:=hB HB hb;clear hb hbox hg))
 go_loopg [5] k (fun kq v5 w'=>∃(b1:Int),v5= .int .i64 b1∧ae (et.l0 kq a1 b1 bo ak cE ch aG cp=some r)∧ae (kq≤k)∧ae (w'.heap[bB]? =some (.cells #[.int .i64 bo,.int .i64 ak,.int .i64 cE,(.slice fP ch.length fQ),(.slice fE aG.length fF),(.slice fG cp.length fH)] 58 (0,0)))∧ae (Below w.heap.size w w'))
 case atStart=>exact⟨(0),oS,H',⟨Nat.le_refl _⟩,⟨oF b2⟩,⟨oB⟩⟩
 case round=>
  clear H';obtain⟨b1,rfl,HA,bD,b2,HB⟩:=hrel
  cases gk with
  |zero=>exact absurd HA.out (by simp[et.l0])
  |succ k1=>
   have H:=HA.out;clear HA;simp only[et.l0]at H;replace H:=jm H;rcases H with⟨bE,H⟩|⟨bE,H⟩;rotate_left
   ·obtain rfl:=Option.some.inj H;obtain⟨⟨_,_,_,_,_,_⟩,_,_,_,_,_,_⟩:=z6 b2
    go_wp2
    go_ret
    exact⟨oE,oB⟩
   obtain⟨bR,H⟩:=cU H
   by_cases c6:((al aG b1).f0).toList=a1.toList
   rotate_left
   ·rw[if_neg c6]at H;have bF:(((al aG b1).f0).toList==a1.toList)=false:=beq_eq_false_iff_ne.mpr c6;have bG:(((al aG b1).f0).toList !=a1.toList)=true:=bne_iff_ne.mpr c6;have H':=ae.mk H;clear H;obtain⟨⟨_,_,_,_,_,_⟩,_,_,_,_,_,_⟩:=z6 b2;have bH:(0≤(b1:Int))=True:=oT;have bI:(b1<(aG.length:Int))=True:=oT;obtain⟨b7,b6,b8,b9⟩:=kT b5 HB b1 oa oa
    cases b6
    go_wp2
    go_roundg k1
    case measure=>have:=bD.out;omega
    case rel=>exact⟨(wrap64 (b1+1)),oS,H',⟨by have:=bD.out;omega⟩,⟨oF b2⟩,⟨oB⟩⟩
   rw[if_pos c6]at H;have bF:(((al aG b1).f0).toList==a1.toList)=true:=beq_iff_eq.mpr c6;have bG:(((al aG b1).f0).toList !=a1.toList)=false:=bne_eq_false_iff_eq.mpr c6;clear c6;obtain rfl:=Option.some.inj H;obtain⟨⟨_,_,_,_,_,_⟩,_,_,_,_,_,_⟩:=z6 b2;have bH:(0≤(b1:Int))=True:=oT;have bI:(b1<(aG.length:Int))=True:=oT;obtain⟨b7,b6,b8,b9⟩:=kT b5 HB b1 oa oa
   cases b6
   have bS:(0≤(b1:Int))=True:=oT;have bT:(b1<(aG.length:Int))=True:=oT;obtain⟨bC,bJ,b3,b4⟩:=cV b5.out b1 oa oa;obtain rfl:b7=bC:=(by injection bJ);replace b3:=cB HB b3;replace b4:=cB HB b4
   go_wp2
   go_ret
   exact⟨oE,oB⟩

def dq.l0:Nat→List Int→List Int→Int→Option (Bool)
 |0,_,_,_=>none
 |k+1,x0,x1,x5=>if x5<(x0.length:Int)then(if 0≤x5 then(if x5<(x1.length:Int)then(if(rd x0 x5)=(rd x1 x5)then(dq.l0 k x0 x1 (wrap64 (x5+1)))else(some false))else(none))else(none))else(some true)
def dq.f (k:Nat) (l0:List Int) (l1:List Int):Option (Bool):=if(l0.length:Int)=(l1.length:Int)then(dq.l0 k l0 l1 0)else(some false)
theorem dq.calls (k:Nat) (A0:Option Addr) (c0:Nat) (l0:List Int) (A1:Option Addr) (c1:Nat) (l1:List Int) (r:Bool) (w:World) (hr0:Kd.C (Kd.int .u8) w A0 l0.length l0) (hc0:l0.length≤c0) (hr1:Kd.C (Kd.int .u8) w A1 l1.length l1) (hc1:l1.length≤c1) (h:dq.f k l0 l1=some r):
  Calls Tryz.prog 26 #[.slice A0 l0.length c0,.slice A1 l1.length c1] w fun e w'=>e= .returned (.bool r)∧fC w w':=by
 have b8:=ae.mk hr0;have bO:=ae.mk hc0;clear hr0 hc0;have b9:=ae.mk hr1;have bP:=ae.mk hc1;clear hr1 hc1;unfold dq.f at h;have H:=h;clear h
 by_cases c3:(l0.length:Int)=(l1.length:Int)
 rotate_left
 ·rw[if_neg c3]at H;have bC:((l0.length:Int)==(l1.length:Int))=false:=beq_eq_false_iff_ne.mpr c3;have bD:((l0.length:Int) !=(l1.length:Int))=true:=bne_iff_ne.mpr c3
  have bE:(l0.length==l1.length)=false:=by first|simpa using c3|(simp at c3⊢;omega)
  obtain rfl:=Option.some.inj H
  go_enter func26,ntmps26
  go_wp2
  repeat(go_quiet (fail);try go_wp2)
  go_ret
  exact⟨oS,oD⟩
 rw[if_pos c3]at H;have bC:((l0.length:Int)==(l1.length:Int))=true:=beq_iff_eq.mpr c3;have bD:((l0.length:Int) !=(l1.length:Int))=false:=bne_eq_false_iff_eq.mpr c3
 have bE:(l0.length==l1.length)=true:=by first|simpa using c3|(simp at c3⊢;omega)
 clear c3;have H':=ae.mk H;clear H
 go_enter func26,ntmps26
 go_wp2
 repeat(go_quiet (fail);try go_wp2)
 go_loopg [5] k (fun kq v5 w'=>∃(b1:Int),v5= .int .i64 b1∧ae (dq.l0 kq l0 l1 b1=some r)∧ae (kq≤k)∧fC w w')
 case atStart=>exact⟨(0),oS,H',⟨Nat.le_refl _⟩,oD⟩
 case round=>
  clear H'
  try clear c1
  try clear c3
  obtain⟨b1,rfl,HA,bB,⟨m1,rfl⟩⟩:=hrel
  cases gk with
  |zero=>exact absurd HA.out (by simp[dq.l0])
  |succ k1=>
   have H:=HA.out;clear HA;simp only[dq.l0]at H;replace H:=jm H;rcases H with⟨bF,H⟩|⟨bF,H⟩;rotate_left
   ·obtain rfl:=Option.some.inj H
    go_wp2
    repeat(go_quiet (fail);try go_wp2)
    go_ret
    exact⟨oS,oD⟩
   obtain⟨bM,H⟩:=cU H;obtain⟨bN,H⟩:=cU H
   by_cases c7:(rd l0 b1)=(rd l1 b1)
   rotate_left
   ·rw[if_neg c7]at H;have bG:((rd l0 b1)==(rd l1 b1))=false:=beq_eq_false_iff_ne.mpr c7;have bH:((rd l0 b1) !=(rd l1 b1))=true:=bne_iff_ne.mpr c7;obtain rfl:=Option.some.inj H;have bI:(0≤(b1:Int))=True:=oT;have bJ:(b1<(l0.length:Int))=True:=oT;obtain⟨b6,b2,b4⟩:=Kd.kA b8.out b1 oa oa
    cases b2
    have bK:(0≤(b1:Int))=True:=oT;have bL:(b1<(l1.length:Int))=True:=oT;obtain⟨b7,b3,b5⟩:=Kd.kA b9.out b1 oa oa
    cases b3
    go_wp2
    repeat(go_quiet (fail);try go_wp2)
    go_ret
    exact⟨oS,oD⟩
   rw[if_pos c7]at H;have bG:((rd l0 b1)==(rd l1 b1))=true:=beq_iff_eq.mpr c7;have bH:((rd l0 b1) !=(rd l1 b1))=false:=bne_eq_false_iff_eq.mpr c7;clear c7;have H':=ae.mk H;clear H;have bI:(0≤(b1:Int))=True:=oT;have bJ:(b1<(l0.length:Int))=True:=oT;obtain⟨b6,b2,b4⟩:=Kd.kA b8.out b1 oa oa
   cases b2
   have bK:(0≤(b1:Int))=True:=oT;have bL:(b1<(l1.length:Int))=True:=oT;obtain⟨b7,b3,b5⟩:=Kd.kA b9.out b1 oa oa
   cases b3
   go_wp2
   repeat(go_quiet (fail);try go_wp2)
   go_roundg k1
   case measure=>have:=bB.out;omega
   case rel=>exact⟨(wrap64 (b1+1)),oS,H',⟨by have:=bB.out;omega⟩,oD⟩

def cH.l0:Nat→Int→Int→List (aX)→Int→Option (Int)
 |0,_,_,_,_=>none
 |k+1,x1,x5,b1,b2=>if x5<(b1.length:Int)then(if 0≤x5 then(if((af b1 x5).f0)=x1 then(some x5)else(cH.l0 k x1 (wrap64 (x5+1)) b1 b2))else(none))else(some (-1))
def cH.f (k:Nat) (ag:List (aX)) (ak:Int) (a1:Int):Option (Int):=cH.l0 k a1 0 ag ak
theorem cH.calls (k:Nat) (bh:Option Addr) (aT:Nat) (ag:List (aX)) (ak:Int) (a1:Int) (r:Int) (w:World) (cj:Kd.C gh w bh ag.length ag) (ck:ag.length≤aT) (h:cH.f k ag ak a1=some r):
  Calls Tryz.prog 82 #[.agg #[.slice bh ag.length aT,.int .i64 ak],.int .i64 a1] w fun e w'=>e= .returned (.int .i64 r)∧Below w.heap.size w w':=by
 have bY:=underlying28;have b4:=ae.mk cj;have bW:=ae.mk ck;clear cj ck;have HB:=am (Below.refl w.heap.size w);unfold cH.f at h;have H:=h;clear h;have H':=ae.mk H;clear H
 go_enter func82,ntmps82
 go_wp2_with (first|((with_reducible refine aj (N:=2) rfl ?_);refine cO 2 #[.slice bh ag.length aT,.int .i64 ak] 28 ?_;intro bO hg w3 hbox hb;have b2:=am (hbox);have bX:=cN hg;replace HB:=hB HB hb;clear hb hbox hg))
 go_loopg [5] k (fun kq v5 w'=>∃(b1:Int),v5= .int .i64 b1∧ae (cH.l0 kq a1 b1 ag ak=some r)∧ae (kq≤k)∧ae (w'.heap[bO]? =some (.cells #[(.slice bh ag.length aT),.int .i64 ak] 28 (0,0)))∧ae (Below w.heap.size w w'))
 case atStart=>exact⟨(0),oS,H',⟨Nat.le_refl _⟩,⟨oF b2⟩,⟨oB⟩⟩
 case round=>
  clear H';obtain⟨b1,rfl,HA,bQ,b2,HB⟩:=hrel
  cases gk with
  |zero=>exact absurd HA.out (by simp[cH.l0])
  |succ k1=>
   have H:=HA.out;clear HA;simp only[cH.l0]at H;replace H:=jm H;rcases H with⟨bR,H⟩|⟨bR,H⟩;rotate_left
   ·obtain rfl:=Option.some.inj H;obtain⟨⟨_,_⟩,_,_⟩:=z2 b2
    go_wp2
    go_ret
    exact⟨oE,oB⟩
   obtain⟨bZ,H⟩:=cU H
   by_cases c6:((af ag b1).f0)=a1
   ·rw[if_pos c6]at H;have bS:(((af ag b1).f0)==a1)=true:=beq_iff_eq.mpr c6;have bT:(((af ag b1).f0) !=a1)=false:=bne_eq_false_iff_eq.mpr c6;clear c6;obtain rfl:=Option.some.inj H;obtain⟨⟨_,_⟩,_,_⟩:=z2 b2;have bU:(0≤(b1:Int))=True:=oT;have bV:(b1<(ag.length:Int))=True:=oT;obtain⟨bP,bI,bJ,bK,bL,bM,bN,b3,b5,b6,b7,b8,b9,bB,bC,bD,bE,bF,bG,bH⟩:=fN b4 HB b1 oa oa
    cases b3
    go_wp2
    go_ret
    exact⟨oE,oB⟩
   rw[if_neg c6]at H;have bS:(((af ag b1).f0)==a1)=false:=beq_eq_false_iff_ne.mpr c6;have bT:(((af ag b1).f0) !=a1)=true:=bne_iff_ne.mpr c6;have H':=ae.mk H;clear H;obtain⟨⟨_,_⟩,_,_⟩:=z2 b2;have bU:(0≤(b1:Int))=True:=oT;have bV:(b1<(ag.length:Int))=True:=oT;obtain⟨bP,bI,bJ,bK,bL,bM,bN,b3,b5,b6,b7,b8,b9,bB,bC,bD,bE,bF,bG,bH⟩:=fN b4 HB b1 oa oa
   cases b3
   go_wp2
   go_roundg k1
   case measure=>have:=bQ.out;omega
   case rel=>exact⟨(wrap64 (b1+1)),oS,H',⟨by have:=bQ.out;omega⟩,⟨oF b2⟩,⟨oB⟩⟩

def eA.l0:Nat→ByteArray→List (cA)→Int→Int→Option (Int)
 |0,_,_,_,_=>none
 |k+1,x1,x8,x9,b1=>if b1<x9 then(if 0≤b1 then(if b1<(x8.length:Int)then(if((al x8 b1).f0).toList=x1.toList then(some ((al x8 b1).f1))else(eA.l0 k x1 x8 x9 (wrap64 (b1+1))))else(none))else(none))else(some 0)
def eA.f (k:Nat) (bo:Int) (ak:Int) (cE:Int) (ch:List Int) (aG:List (cA)) (cp:List (eu)) (a1:ByteArray):Option (Int):=eA.l0 k a1 aG (aG.length:Int) 0
theorem eA.calls (k:Nat) (bo:Int) (ak:Int) (cE:Int) (fP:Option Addr) (fQ:Nat) (ch:List Int) (fE:Option Addr) (fF:Nat) (aG:List (cA)) (fG:Option Addr) (fH:Nat) (cp:List (eu)) (a1:ByteArray) (r:Int) (w:World) (iL:Kd.C (Kd.int .u8) w fP ch.length ch) (iM:ch.length≤fQ) (iN:Kd.C fI w fE aG.length aG) (iO:aG.length≤fF) (iP:Kd.C jl w fG cp.length cp) (iQ:cp.length≤fH) (h:eA.f k bo ak cE ch aG cp a1=some r):
  Calls Tryz.prog 57 #[.agg #[.int .i64 bo,.int .i64 ak,.int .i64 cE,.slice fP ch.length fQ,.slice fE aG.length fF,.slice fG cp.length fH],.string a1] w fun e w'=>e= .returned (.int .i64 r)∧Below w.heap.size w w':=by
 have bW:=underlying58;have bX:=underlying75;have bM:=ae.mk iL;have bN:=ae.mk iM;clear iL iM;have b7:=ae.mk iN;have bO:=ae.mk iO;clear iN iO;have bP:=ae.mk iP;have bQ:=ae.mk iQ;clear iP iQ;have HB:=am (Below.refl w.heap.size w);unfold eA.f at h;have H:=h;clear h;have H':=ae.mk H;clear H
 go_enter func57,ntmps57
 go_wp2_with (first|((with_reducible refine aj (N:=2) rfl ?_);refine cO 2 #[.int .i64 bo,.int .i64 ak,.int .i64 cE,.slice fP ch.length fQ,.slice fE aG.length fF,.slice fG cp.length fH] 58 ?_;intro bB hg w3 hbox hb;have b2:=am (hbox);have bR:=cN hg;replace HB:=hB HB hb;clear hb hbox hg;obtain⟨⟨_,_,_,_,_,_⟩,_,_,_,_,_,_⟩:=z6 b2))
 go_loopg [10] k (fun kq bL w'=>∃(b1:Int),bL= .int .i64 b1∧ae (eA.l0 kq a1 aG (aG.length:Int) b1=some r)∧ae (kq≤k)∧ae (w'.heap[bB]? =some (.cells #[.int .i64 bo,.int .i64 ak,.int .i64 cE,(.slice fP ch.length fQ),(.slice fE aG.length fF),(.slice fG cp.length fH)] 58 (0,0)))∧ae (Below w.heap.size w w'))
 case atStart=>exact⟨(0),oS,H',⟨Nat.le_refl _⟩,⟨oF b2⟩,⟨oB⟩⟩
 case round=>
  clear H';obtain⟨b1,rfl,HA,bF,b2,HB⟩:=hrel
  cases gk with
  |zero=>exact absurd HA.out (by simp[eA.l0])
  |succ k1=>
   have H:=HA.out;clear HA;simp only[eA.l0]at H;replace H:=jm H;rcases H with⟨bG,H⟩|⟨bG,H⟩;rotate_left
   ·obtain rfl:=Option.some.inj H
    go_wp2
    go_ret
    exact⟨oE,oB⟩
   obtain⟨bY,H⟩:=cU H;obtain⟨bZ,H⟩:=cU H
   by_cases c8:((al aG b1).f0).toList=a1.toList
   ·rw[if_pos c8]at H;have bH:(((al aG b1).f0).toList==a1.toList)=true:=beq_iff_eq.mpr c8;have bI:(((al aG b1).f0).toList !=a1.toList)=false:=bne_eq_false_iff_eq.mpr c8;clear c8;obtain rfl:=Option.some.inj H;have bJ:(0≤(b1:Int))=True:=oT;have bK:(b1<(aG.length:Int))=True:=oT;obtain⟨bC,b6,b8,b9⟩:=kT b7 HB b1 oa oa
    cases b6
    go_wp2_with (first|((with_reducible refine aj (N:=6) rfl ?_);refine cO 6 #[.string (⟨#[]⟩:ByteArray),.int .i64 0] 75 ?_;intro bD hg w9 hbox hb;have b5:=am (hbox);have bE:=cN hg;have b3:=dm hg b2;have b4:=dn hg b2;replace b2:=aJ b2 hb;replace HB:=hB HB hb;clear hb hbox hg;have bS:=b4.out;have bT:=b3.out;obtain⟨⟨_,_⟩,_,_⟩:=z2 b5))
    go_ret
    exact⟨oE,oB⟩
   rw[if_neg c8]at H;have bH:(((al aG b1).f0).toList==a1.toList)=false:=beq_eq_false_iff_ne.mpr c8;have bI:(((al aG b1).f0).toList !=a1.toList)=true:=bne_iff_ne.mpr c8;have H':=ae.mk H;clear H;have bJ:(0≤(b1:Int))=True:=oT;have bK:(b1<(aG.length:Int))=True:=oT;obtain⟨bC,b6,b8,b9⟩:=kT b7 HB b1 oa oa
   cases b6
   go_wp2_with (first|((with_reducible refine aj (N:=6) rfl ?_);refine cO 6 #[.string (⟨#[]⟩:ByteArray),.int .i64 0] 75 ?_;intro bD hg d1 hbox hb;have b5:=am (hbox);have bE:=cN hg;have b3:=dm hg b2;have b4:=dn hg b2;replace b2:=aJ b2 hb;replace HB:=hB HB hb;clear hb hbox hg;have bU:=b4.out;have bV:=b3.out;obtain⟨⟨_,_⟩,_,_⟩:=z2 b5))
   go_roundg k1
   case measure=>have:=bF.out;omega
   case rel=>exact⟨(wrap64 (b1+1)),oS,H',⟨by have:=bF.out;omega⟩,⟨oF b2⟩,⟨oB⟩⟩

def d_.l0:Nat→List Int→List Int→Int→Option (List Int)
 |0,_,_,_=>none
 |k+1,x0,x3,x4=>if x4<(x0.length:Int)then(if 0≤x4 then(if x4<(x3.length:Int)then(d_.l0 k x0 (x3.set (x4:Int).toNat (rd x0 x4)) (wrap64 (x4+1)))else(none))else(none))else(some x3)
def d_.f (k:Nat) (l0:List Int):Option (List Int):=if 0≤(l0.length:Int)then(if((l0.length:Int):Int).toNat≤281474976710656 then(d_.l0 k l0 (List.replicate ((l0.length:Int):Int).toNat 0) 0)else(none))else(none)
theorem d_.calls (k:Nat) (A0:Option Addr) (c0:Nat) (l0:List Int) (r:List Int) (w:World) (hr0:Kd.C (Kd.int .u8) w A0 l0.length l0) (hc0:l0.length≤c0) (h:d_.f k l0=some r):
  Calls Tryz.prog 24 #[.slice A0 l0.length c0] w fun e w'=>∃jx:Value,e= .returned (jx)∧Kd.R (Kd.int .u8) 5 w' w.heap.size (fun _=>True) jx r∧Below w.heap.size w w':=by
 have bO:=ae.mk hr0;have d2:=ae.mk hc0;clear hr0 hc0;have HB:=am (Below.refl w.heap.size w);unfold d_.f at h;have H:=h;clear h;obtain⟨c2,H⟩:=lC H;have bJ:=eq_true c2;have bK:decide (0≤(l0.length:Int))=true:=decide_eq_true c2;clear c2;obtain⟨c3,H⟩:=lC H;have bV:=eq_true c3;have bW:decide (((l0.length:Int):Int).toNat≤281474976710656)=true:=decide_eq_true c3;clear c3;obtain⟨b9,da⟩:∃y_:List Int,y_=(List.replicate ((l0.length:Int):Int).toNat 0):=⟨_,rfl⟩;replace H:(d_.l0 k l0 b9 0)=some r:=oY;have b8:=ae.mk da;clear da;have H':=ae.mk H;clear H
 go_enter func24,ntmps24
 go_wp2_with (first|((with_reducible refine aj (N:=7) rfl ?_);refine Kd.ur (Kd.int .u8) _ 5 rfl (N:=7) rfl 39 _ _ rfl (l0.length:Int) rfl rfl underlying39 (.int .u8 0) 1 info5 rfl (by decide) (by omega) 0 (ok:=fun _=>True) (fY:=fun _=>True) rfl (fun _ hk=>hk) trivial oa (Nat.le_trans (Nat.mul_le_mul_right _ (oa:(l0.length:Int).toNat≤281474976710656)) (by omega)) (Below.refl _ _) (Nat.le_refl _) ?_;intro bL w4 b5 hb kX ek;clear kX ek;(first|rw[←b8.out]at b5|(simp only[Int.reduceToNat]at b5;rw[←b8.out]at b5));have bD:=am (Kd.an b5 (ah oB));replace HB:=hB HB hb;clear hb b5))
 go_loopg [4] k (fun kq v4 w'=>∃(b2:List Int) (b1:Int),v4= .int .i64 b1∧ae (d_.l0 kq l0 b2 b1=some r)∧ae (kq≤k)∧ae (Kd.R (Kd.int .u8) 5 w' w.heap.size (fun _=>True) bL b2)∧ae (Below w.heap.size w w'))
 case atStart=>exact⟨(b9),(0),oS,H',⟨Nat.le_refl _⟩,⟨oR bD⟩,⟨oB⟩⟩
 case round=>
  clear H'
  try clear c2
  try clear bJ
  try clear bK
  try clear c3
  obtain⟨b2,b1,rfl,HA,bF,b3,HB⟩:=hrel
  cases gk with
  |zero=>exact absurd HA.out (by simp[d_.l0])
  |succ k1=>
   have H:=HA.out;clear HA;simp only[d_.l0]at H;replace H:=jm H;rcases H with⟨bM,H⟩|⟨bM,H⟩;rotate_left
   ·obtain rfl:=Option.some.inj H
    go_wp2
    go_ret
    exact⟨_,oE,oR b3,oB⟩
   obtain⟨bX,H⟩:=cU H;obtain⟨bY,H⟩:=cU H;obtain⟨b6,da⟩:∃y_:List Int,y_=(b2.set (b1:Int).toNat (rd l0 b1)):=⟨_,rfl⟩;replace H:(d_.l0 k1 l0 b6 (wrap64 (b1+1)))=some r:=oY;have bE:=ae.mk da;clear da;have H':=ae.mk H;clear H;have bZ:(0≤(b1:Int))=True:=oT;have d1:(b1<(l0.length:Int))=True:=oT;obtain⟨bS,bN,b4⟩:=Kd.kA bO.out b1 oa oa
   cases bN
   replace b4:=cB HB b4;have p9:0≤(b1:Int):=oa;have q9:(b1:Int)<((b2.length:Int):Int):=oa;obtain⟨bB,bP,bG,bH,bQ,d3,bI⟩:=Kd.ll b3.out (by omega)
   (first|cases bG|(injection bG with iF oc od;(first|subst iF|(injection iF with iF;subst iF));subst od;clear oc))
   have bR:=ae.mk bH;have d4:=ae.mk bI;clear bH bQ bI;obtain⟨bT,bU⟩:=Kd.qq 0 b3.out (b1:Int) p9 q9;replace p9:=eq_true p9;replace q9:=eq_true q9;have b7:=Kd.sn b3.out (b1:Int) (rd l0 b1)
   go_wp2_with (first|((with_reducible refine fu (t:=5) (p:=20) rfl ?_);refine fj (t:=5) (p:=20) (v:= ?adm) (w1:=(wr.setCell ⟨bB,(b1:Int).toNat,none⟩ (.int .u8 (rd l0 b1)))) ?hg ?ho ?hn ?hr ?_;(case ho=>rfl);(case hg=>rfl);(case hn=>rfl);(case hr=>first|(go_simp;done)|(go_simp;rfl));intro bC hw;have hg:wr.grownBy bC (some bB):=(by rw[hw];exact b7.2);have ny:Kd.R (Kd.int .u8) 5 bC w.heap.size (fun _=>True) (.slice (some ⟨bB,0,none⟩) b2.length bP) b6:=(by rw[hw,bE.out];exact b7.1);clear b7;replace b3:=am (ny);replace HB:=am ((by rw[hw];exact aI (HB.out) bR.out:Below w.heap.size w bC));clear hg hw ny))
   go_roundg k1
   case measure=>have:=bF.out;omega
   case rel=>exact⟨(b6),(wrap64 (b1+1)),oS,H',⟨by have:=bF.out;omega⟩,⟨oR b3⟩,⟨oB⟩⟩

def bg.l0:Nat→Int→ByteArray→Option (ByteArray)
 |0,_,_=>none
 |k+1,x0,x3=>if x0>0 then((some (([(wrap64 (48+(Int.tmod x0 10)))%256]:List Int):List Int)).bind fun b1=>(if(strOfNums b1).size+x3.size≤9223372036854775807 then(bg.l0 k (wrap64 (Int.tdiv x0 10)) ((strOfNums b1)++x3))else(none)))else(if 1+x3.size≤9223372036854775807 then(some ((⟨#[109]⟩:ByteArray)++x3))else(none))
def bg.f (k:Nat) (a0:Int):Option (ByteArray):=if a0≤0 then(some (⟨#[109,48]⟩:ByteArray))else(bg.l0 k a0 (⟨#[]⟩:ByteArray))
theorem bg.calls (k:Nat) (a0:Int) (r:ByteArray) (w:World) (h:bg.f k a0=some r):
  Calls Tryz.prog 115 #[.int .i64 a0] w fun e w'=>e= .returned (.string r)∧Below w.heap.size w w':=by
 have HB:=am (Below.refl w.heap.size w);unfold bg.f at h;have H:=h;clear h;replace H:=jm H;rcases H with⟨b6,H⟩|⟨b6,H⟩
 ·obtain rfl:=Option.some.inj H
  go_enter func115,ntmps115
  go_wp2
  go_ret
  exact⟨oE,oB⟩
 have H':=ae.mk H;clear H
 go_enter func115,ntmps115
 go_wp2
 go_loopg [0,3] k (fun kq v0 v3 w'=>∃(b1:Int) (b2:ByteArray),v0= .int .i64 b1∧v3= .string b2∧ae (bg.l0 kq b1 b2=some r)∧ae (kq≤k)∧ae (Below w.heap.size w w'))
 case atStart=>exact⟨(a0),((⟨#[]⟩:ByteArray)),oS,oS,H',⟨Nat.le_refl _⟩,⟨oB⟩⟩
 case round=>
  clear H'
  try clear b6
  obtain⟨b1,b2,rfl,rfl,HA,b8,HB⟩:=hrel
  cases gk with
  |zero=>exact absurd HA.out (by simp[bg.l0])
  |succ k1=>
   have H:=HA.out;clear HA;simp only[bg.l0]at H;replace H:=AA H;rcases H with⟨b9,H⟩|⟨b9,H⟩;rotate_left
   ·obtain⟨c8,H⟩:=lC H;have bB:=eq_true c8;have bC:decide (1+b2.size≤9223372036854775807)=true:=decide_eq_true c8
    try have bD:(9223372036854775807<1+b2.size)=False:=eq_false (Nat.not_lt.2 c8)
    obtain rfl:=Option.some.inj H
    go_wp2
    go_ret
    exact⟨oE,oB⟩
   obtain⟨b3,da⟩:∃y_:List Int,y_=(([(wrap64 (48+(Int.tmod b1 10)))%256]:List Int)):=⟨_,rfl⟩;replace H:(if(strOfNums b3).size+b2.size≤9223372036854775807 then(bg.l0 k1 (wrap64 (Int.tdiv b1 10)) ((strOfNums b3)++b2))else(none))=some r:=oY;have b5:=ae.mk da;clear da;obtain⟨c4,H⟩:=lC H;have bE:=eq_true c4;have bF:decide ((strOfNums b3).size+b2.size≤9223372036854775807)=true:=decide_eq_true c4
   try have bG:(9223372036854775807<(strOfNums b3).size+b2.size)=False:=eq_false (Nat.not_lt.2 c4)
   have H':=ae.mk H;clear H
   go_wp2_with (first|((with_reducible refine aj (N:=12) rfl ?_);refine Kd.kM (Kd.int .u8) _ 5 ?hg (N:=12) ?hd (xs:=([(wrap64 (48+(Int.tmod b1 10)))%256]:List Int)) (inner:=[.int .u8 ((wrap64 (48+(Int.tmod b1 10)))%256)]) (ok:=fun _=>True) (fY:=fun _=>True) ?hr ?hp (fun _ hk=>hk) trivial (Below.refl _ _) (Nat.le_refl _) (by simp) ?_;(case hd=>rfl);(case hg=>rfl);(case hr=>first|(go_simp;done)|(go_simp;rfl));(case hp=>exact(cS.one (show Kd.M (Kd.int .u8) _ _ _ ((wrap64 (48+(Int.tmod b1 10)))%256) [.int .u8 ((wrap64 (48+(Int.tmod b1 10)))%256)]from rfl) (cS.none _ _)));intro bH w5 b4 hb kX ek;clear kX ek;(first|rw[←b5.out]at b4|(simp only[Int.reduceToNat]at b4;rw[←b5.out]at b4));have b7:=am (Kd.an b4 (ah oB));replace HB:=hB HB hb;clear hb b4;have bI:=xa (P:=Tryz.prog) underlying39 underlying5 underlying9 (Kd.sg b7.out)))
   go_roundg k1
   case measure=>have:=b8.out;omega
   case rel=>exact⟨(wrap64 (Int.tdiv b1 10)),((strOfNums b3)++b2),oS,oS,H',⟨by have:=b8.out;omega⟩,⟨oB⟩⟩

def eY.l0:Nat→List Int→Int→Int→Option (Bool)
 |0,_,_,_=>none
 |k+1,x0,x1,x5=>if x5<(x0.length:Int)then(if 0≤x5 then(if(rd x0 x5)=x1 then(some true)else(eY.l0 k x0 x1 (wrap64 (x5+1))))else(none))else(some false)
def eY.f (k:Nat) (l0:List Int) (a1:Int):Option (Bool):=eY.l0 k l0 a1 0
theorem eY.calls (k:Nat) (A0:Option Addr) (c0:Nat) (l0:List Int) (a1:Int) (r:Bool) (w:World) (hr0:Kd.C (Kd.int .i64) w A0 l0.length l0) (hc0:l0.length≤c0) (h:eY.f k l0 a1=some r):
  Calls Tryz.prog 152 #[.slice A0 l0.length c0,.int .i64 a1] w fun e w'=>e= .returned (.bool r)∧fC w w':=by
 have b5:=ae.mk hr0;have bE:=ae.mk hc0;clear hr0 hc0;unfold eY.f at h;have H:=h;clear h;have H':=ae.mk H;clear H
 go_enter func152,ntmps152
 go_wp2
 go_loopg [5] k (fun kq v5 w'=>∃(b1:Int),v5= .int .i64 b1∧ae (eY.l0 kq l0 a1 b1=some r)∧ae (kq≤k)∧fC w w')
 case atStart=>exact⟨(0),oS,H',⟨Nat.le_refl _⟩,oD⟩
 case round=>
  clear H';obtain⟨b1,rfl,HA,b6,⟨m1,rfl⟩⟩:=hrel
  cases gk with
  |zero=>exact absurd HA.out (by simp[eY.l0])
  |succ k1=>
   have H:=HA.out;clear HA;simp only[eY.l0]at H;replace H:=jm H;rcases H with⟨b7,H⟩|⟨b7,H⟩;rotate_left
   ·obtain rfl:=Option.some.inj H
    go_wp2
    go_ret
    exact⟨oS,oD⟩
   obtain⟨bD,H⟩:=cU H
   by_cases c5:(rd l0 b1)=a1
   ·rw[if_pos c5]at H;have b8:((rd l0 b1)==a1)=true:=beq_iff_eq.mpr c5;have b9:((rd l0 b1) !=a1)=false:=bne_eq_false_iff_eq.mpr c5;clear c5;obtain rfl:=Option.some.inj H;have bB:(0≤(b1:Int))=True:=oT;have bC:(b1<(l0.length:Int))=True:=oT;obtain⟨b4,b2,b3⟩:=Kd.kA b5.out b1 oa oa
    cases b2
    go_wp2
    go_ret
    exact⟨oS,oD⟩
   rw[if_neg c5]at H;have b8:((rd l0 b1)==a1)=false:=beq_eq_false_iff_ne.mpr c5;have b9:((rd l0 b1) !=a1)=true:=bne_iff_ne.mpr c5;have H':=ae.mk H;clear H;have bB:(0≤(b1:Int))=True:=oT;have bC:(b1<(l0.length:Int))=True:=oT;obtain⟨b4,b2,b3⟩:=Kd.kA b5.out b1 oa oa
   cases b2
   go_wp2
   go_roundg k1
   case measure=>have:=b6.out;omega
   case rel=>exact⟨(wrap64 (b1+1)),oS,H',⟨by have:=b6.out;omega⟩,oD⟩

def db.l0:Nat→List Int→Int→Int→Option (Int×List Int)
 |0,_,_,_=>none
 |k+1,x0,x1,x5=>if x5<(x0.length:Int)then(if 0≤x5 then(db.l0 k (x0.set (x5:Int).toNat ((x1)%256)) (wrap64 (x1+1)) (wrap64 (x5+1)))else(none))else(some (x1,x0))
def db.f (k:Nat) (l0:List Int) (a1:Int):Option (Int×List Int):=db.l0 k l0 a1 0
theorem db.calls (k:Nat) (lx:Nat→Prop) (ja:Value) (l0:List Int) (a1:Int) (r1:Int) (r2:List Int) (w0 w:World) (hB:Below w0.heap.size w0 w) (ho0:Kd.R (Kd.int .u8) 5 w w0.heap.size lx ja l0) (h:db.f k l0 a1=some (r1,r2)):
  Calls Tryz.prog 27 #[ja,.int .i64 a1] w fun e w'=>e= .returned (.int .i64 r1)∧Kd.R (Kd.int .u8) 5 w' w0.heap.size (fun k_=>(lx k_∨w.heap.size≤k_)) ja r2∧Below w0.heap.size w0 w'∧Kept w w' (fun k_=>lx k_):=by
 have bF:=am (show Kd.R (Kd.int .u8) 5 w w0.heap.size (fun k_=>(lx k_∨w.heap.size≤k_)) ja l0 from Kd.aZ ho0 (fun k_ hk=>(.inl hk)));have HK:=am (Kept.refl w (fun k_=>lx k_));have HW0:=ae.mk hB.size;have HB:=ae.mk hB;clear hB;unfold db.f at h;have H:=h;clear h;have H':=ae.mk H;clear H
 go_enter func27,ntmps27
 go_wp2
 go_loopg [1,5] k (fun kq v1 v5 w'=>∃(b4:List Int) (b3:Int) (b1:Int),v1= .int .i64 b3∧v5= .int .i64 b1∧ae (db.l0 kq b4 b3 b1=some (r1,r2))∧ae (kq≤k)∧ae (Kd.R (Kd.int .u8) 5 w' w0.heap.size (fun k_=>(lx k_∨w.heap.size≤k_)) ja b4)∧ae (Kept w w' (fun k_=>lx k_))∧ae (Below w0.heap.size w0 w'))
 case atStart=>exact⟨(l0),(a1),(0),oS,oS,H',⟨Nat.le_refl _⟩,⟨oR bF⟩,⟨oK⟩,⟨oB⟩⟩
 case round=>
  clear H';obtain⟨b4,b3,b1,rfl,rfl,HA,b9,b2,HK,HB⟩:=hrel
  cases gk with
  |zero=>exact absurd HA.out (by simp[db.l0])
  |succ k1=>
   have H:=HA.out;clear HA;simp only[db.l0]at H;replace H:=jm H;rcases H with⟨bE,H⟩|⟨bE,H⟩;rotate_left
   ·simp only[Option.some.injEq,Prod.mk.injEq]at H;obtain⟨rfl,rfl⟩:=H;obtain⟨bP,bQ,bG⟩:=Kd.ao b2.out;subst bG
    go_wp2
    go_ret
    exact⟨oE,oR b2,oB,oK⟩
   obtain⟨bO,H⟩:=cU H;obtain⟨b6,da⟩:∃y_:List Int,y_=(b4.set (b1:Int).toNat ((b3)%256)):=⟨_,rfl⟩;replace H:(db.l0 k1 b6 (wrap64 (b3+1)) (wrap64 (b1+1)))=some (r1,r2):=oY;have b8:=ae.mk da;clear da;have H':=ae.mk H;clear H;obtain⟨bR,bH,bI⟩:=Kd.ao b2.out;subst bI;have p5:0≤(b1:Int):=oa;have q5:(b1:Int)<((b4.length:Int):Int):=oa;obtain⟨b5,bS,bB,bC,bJ,bT,bD⟩:=Kd.ll b2.out (by omega)
   (first|cases bB|(injection bB with iF oc od;(first|subst iF|(injection iF with iF;subst iF));subst od;clear oc))
   have bK:=ae.mk bC;have bU:=ae.mk bD;clear bC bJ bD;have bL:=am (show(lx b5∨w.heap.size≤b5)from(b2.out.1 _ rfl));obtain⟨bM,bN⟩:=Kd.qq 0 b2.out (b1:Int) p5 q5;replace p5:=eq_true p5;replace q5:=eq_true q5;have b7:=Kd.sn b2.out (b1:Int) ((b3)%256)
   go_wp2_with (first|((with_reducible refine fu (t:=5) (p:=16) rfl ?_);refine fj (t:=5) (p:=16) (v:= ?vo_w8) (w1:=(wr.setCell ⟨b5,(b1:Int).toNat,none⟩ (.int .u8 ((b3)%256)))) ?hg ?ho ?hn ?hr ?_;(case ho=>rfl);(case hg=>rfl);(case hn=>rfl);(case hr=>first|(go_simp;done)|(go_simp;rfl));intro w8 hw;have hg:wr.grownBy w8 (some b5):=(by rw[hw];exact b7.2);have ny:Kd.R (Kd.int .u8) 5 w8 w0.heap.size (fun k_=>(lx k_∨w.heap.size≤k_)) (.slice (some ⟨b5,0,none⟩) b4.length bH) b6:=(by rw[hw,b8.out];exact b7.1);clear b7;replace b2:=am (ny);replace HK:=am (Kept.na (S:=(fun k_=>lx k_)) hg oK (fun k_ e_=>(b2.out.1 k_ e_)));replace HB:=am ((by rw[hw];exact aI (HB.out) bK.out:Below w0.heap.size w0 w8));clear hg hw ny))
   go_roundg k1
   case measure=>have:=b9.out;omega
   case rel=>exact⟨(b6),(wrap64 (b3+1)),(wrap64 (b1+1)),oS,oS,H',⟨by have:=b9.out;omega⟩,⟨oR b2⟩,⟨oK⟩,⟨oB⟩⟩

def dk.l0:Nat→List Int→Int→Int→Option (Int)
 |0,_,_,_=>none
 |k+1,x0,x1,x5=>if x5<(x0.length:Int)then(if 0≤x5 then(if(rd x0 x5)=((x1)%256)then(dk.l0 k x0 (wrap64 (x1+1)) (wrap64 (x5+1)))else(some (-1)))else(none))else(some x1)
def dk.f (k:Nat) (l0:List Int) (a1:Int):Option (Int):=dk.l0 k l0 a1 0
theorem dk.calls (k:Nat) (A0:Option Addr) (c0:Nat) (l0:List Int) (a1:Int) (r:Int) (w:World) (hr0:Kd.C (Kd.int .u8) w A0 l0.length l0) (hc0:l0.length≤c0) (h:dk.f k l0 a1=some r):
  Calls Tryz.prog 75 #[.slice A0 l0.length c0,.int .i64 a1] w fun e w'=>e= .returned (.int .i64 r)∧fC w w':=by
 have b6:=ae.mk hr0;have bF:=ae.mk hc0;clear hr0 hc0;unfold dk.f at h;have H:=h;clear h;have H':=ae.mk H;clear H
 go_enter func75,ntmps75
 go_wp2
 go_loopg [1,5] k (fun kq v1 v5 w'=>∃(b2:Int) (b1:Int),v1= .int .i64 b2∧v5= .int .i64 b1∧ae (dk.l0 kq l0 b2 b1=some r)∧ae (kq≤k)∧fC w w')
 case atStart=>exact⟨(a1),(0),oS,oS,H',⟨Nat.le_refl _⟩,oD⟩
 case round=>
  clear H';obtain⟨b2,b1,rfl,rfl,HA,b7,⟨m1,rfl⟩⟩:=hrel
  cases gk with
  |zero=>exact absurd HA.out (by simp[dk.l0])
  |succ k1=>
   have H:=HA.out;clear HA;simp only[dk.l0]at H;replace H:=jm H;rcases H with⟨b8,H⟩|⟨b8,H⟩;rotate_left
   ·obtain rfl:=Option.some.inj H
    go_wp2
    go_ret
    exact⟨oS,oD⟩
   obtain⟨bE,H⟩:=cU H
   by_cases c5:(rd l0 b1)=((b2)%256)
   rotate_left
   ·rw[if_neg c5]at H;have b9:((rd l0 b1)==((b2)%256))=false:=beq_eq_false_iff_ne.mpr c5;have bB:((rd l0 b1) !=((b2)%256))=true:=bne_iff_ne.mpr c5;obtain rfl:=Option.some.inj H;have bC:(0≤(b1:Int))=True:=oT;have bD:(b1<(l0.length:Int))=True:=oT;obtain⟨b5,b3,b4⟩:=Kd.kA b6.out b1 oa oa
    cases b3
    go_wp2
    go_ret
    exact⟨oS,oD⟩
   rw[if_pos c5]at H;have b9:((rd l0 b1)==((b2)%256))=true:=beq_iff_eq.mpr c5;have bB:((rd l0 b1) !=((b2)%256))=false:=bne_eq_false_iff_eq.mpr c5;clear c5;have H':=ae.mk H;clear H;have bC:(0≤(b1:Int))=True:=oT;have bD:(b1<(l0.length:Int))=True:=oT;obtain⟨b5,b3,b4⟩:=Kd.kA b6.out b1 oa oa
   cases b3
   go_wp2
   go_roundg k1
   case measure=>have:=b7.out;omega
   case rel=>exact⟨(wrap64 (b2+1)),(wrap64 (b1+1)),oS,oS,H',⟨by have:=b7.out;omega⟩,oD⟩

def ct (ino:Int):List aX→Nat→Int
 |[],_=> -1
 |x::l,i=>if x.f0=ino then(i:Int)else ct ino l (i+1)
theorem vN.calls (ino a b c:Int) (A3 A4 A5:Option Addr) (n3 c3 n4 c4 n5 c5:Nat) (B:Nat) (W:World) (hB:B<W.heap.size) (hc:W.cell? ⟨B,0,none⟩=some (.int .i64 ino)):
  Calls Tryz.prog 127 #[.agg #[.int .i64 a,.int .i64 b,.int .i64 c,.slice A3 n3 c3,.slice A4 n4 c4,.slice A5 n5 c5],.pointer (some ⟨B,0,none⟩)] W fun e w'=>e= .returned (.bool (a==ino))∧Below W.heap.size W w':=by
 have hne:B≠W.heap.size:=by omega
 go_enter func127,ntmps127
 go_wp2
 all_goals(go_ret;exact⟨by simp_all,(Below.refl _ W).alloc (Nat.le_refl _) _⟩)
theorem vO (ino:Int) (l:List aX) (i:Nat) (h:∀x∈l,x.f0≠ino):ct ino l i= -1:=by
 induction l generalizing i with
 |nil=>rfl
 |cons x l ih=>rw[ct,if_neg (h x (List.mem_cons_self ..))];exact ih (i+1) (fun y hy=>h y (List.mem_cons_of_mem _ hy))
theorem yw (l:List aX) (k:Nat) (h:k<l.length):af l (k:Int)=l[k]:=by
 simp[af,List.getD_eq_getElem?_getD,List.getElem?_eq_getElem h]
theorem xq (ino:Int) (l:List aX) (k j:Nat) (h:k<l.length) (hit:(af l (k:Int)).f0=ino):ct ino (l.drop k) j=(j:Int):=by
 rw[List.drop_eq_getElem_cons h,ct,if_pos (by rw[←yw l k h];exact hit)]
theorem vP (ino:Int) (l:List aX) (k j:Nat) (h:k<l.length) (hit:(af l (k:Int)).f0≠ino):ct ino (l.drop k) j=ct ino (l.drop (k+1)) (j+1):=by
 rw[List.drop_eq_getElem_cons h,ct,if_neg (by rw[←yw l k h];exact hit)]
theorem aaN.calls (ino:Int) (A0:Option Addr) (c0:Nat) (l:List aX) (B:Nat) (w:World) (hr:gh.C w A0 l.length l) (hB:B<w.heap.size) (hc:w.cell? ⟨B,0,none⟩=some (.int .i64 ino)) (hl:l.length≤9223372036854775807):
  Calls Tryz.prog 100 #[.slice A0 l.length c0,.func (.func 127) #[] #[.pointer (some ⟨B,0,none⟩)]] w fun e w'=>e= .returned (.int .i64 (ct ino l 0))∧Below w.heap.size w w':=by
 go_enter func100,ntmps100
 go_wp2
 go_loopg [5,8] l.length (fun gg _ s8 wr=>∃kk:Nat,kk≤l.length∧l.length-kk≤gg∧s8= .int .i64 kk∧ae (Below w.heap.size w wr)∧ae (ct ino l 0=ct ino (l.drop kk) kk))
 case atStart=>exact⟨0,Nat.zero_le _,by omega,rfl,⟨Below.refl _ w⟩,⟨rfl⟩⟩
 case round=>
  obtain⟨kk,hkk,hg,rfl,BW,A⟩:=hrel
  by_cases hlt:kk<l.length
  rotate_left
  ·have hltz:¬(kk:Int)<(l.length:Int):=by omega
   obtain rfl:kk=l.length:=by omega
   go_wp2
   go_ret
   exact⟨by rw[A.out,List.drop_length];rfl,BW.out⟩
  have hltz:(kk:Int)<(l.length:Int):=by omega
  obtain⟨ad,A3,c3,A4,c4,A5,c5,e0,h0,h1,h2,h3,h4,h5,_⟩:=gi (Kd.cY hr BW.out) (kk:Int) (by omega) hltz
  cases e0
  rw[Int.toNat_natCast]at h0 h1 h2 h3 h4 h5;have hBw:B<wr.heap.size:=Nat.lt_of_lt_of_le hB BW.out.size;have hcw:wr.cell? ⟨B,0,none⟩=some (.int .i64 ino):=(BW.out.cell (p:=⟨B,0,none⟩) hB).trans hc
  by_cases hit:(af l (kk:Int)).f0=ino
  ·have hq:((af l (kk:Int)).f0==ino)=true:=by simpa using hit
   go_wp2_with (go_at_call 127;refine(vN.calls ino _ _ _ _ _ _ _ _ _ _ _ _ B wr hBw hcw).mono ?_;rintro e w' ⟨rfl,hb'⟩)
   go_ret
   exact⟨by rw[A.out,xq ino l kk kk hlt hit];rfl,iy BW.out BW.out.size hb'⟩
  have hq:((af l (kk:Int)).f0==ino)=false:=by simpa using hit
  go_wp2_with (go_at_call 127;refine(vN.calls ino _ _ _ _ _ _ _ _ _ _ _ _ B wr hBw hcw).mono ?_;rintro e w' ⟨rfl,hb'⟩)
  go_roundg (l.length-(kk+1))
  case measure=>omega
  case rel=>exact⟨kk+1,by omega,by omega,by go_num,⟨iy BW.out BW.out.size hb'⟩,⟨by rw[A.out,vP ino l kk kk hlt hit]⟩⟩
def eH.f (k:Nat) (ag:List aX) (ak a1:Int):Option Int:=if(ag.length:Int)≤9223372036854775807 then some (ct a1 ag 0)else none
theorem eH.calls (k:Nat) (bh:Option Addr) (aT:Nat) (ag:List aX) (ak a1:Int) (r:Int) (w:World) (cj:Kd.C gh w bh ag.length ag) (ck:ag.length≤aT) (h:eH.f k ag ak a1=some r):
  Calls Tryz.prog 99 #[.agg #[.slice bh ag.length aT,.int .i64 ak],.int .i64 a1] w fun e w'=>e= .returned (.int .i64 r)∧Below w.heap.size w w':=by
 unfold eH.f at h
 split at h
 case isFalse=>cases h
 case isTrue hl=>
 obtain rfl:=Option.some.inj h;clear h;have b1:Below w.heap.size w (w.alloc (.cells #[.slice bh ag.length aT,.int .i64 ak] 28)):=(Below.refl _ w).alloc (Nat.le_refl _) _;have b2:Below w.heap.size w ((w.alloc (.cells #[.slice bh ag.length aT,.int .i64 ak] 28)).alloc (.cells #[.int .i64 a1] 3)):=b1.alloc (by simp) _;have hcon:=aaN.calls a1 bh aT ag (w.heap.size+1) ((w.alloc (.cells #[.slice bh ag.length aT,.int .i64 ak] 28)).alloc (.cells #[.int .i64 a1] 3)) (Kd.cY cj b2) (by simp) (by simp) (by omega);clear cj b1
 go_enter func99,ntmps99
 go_wp2_with (go_at_call 100;refine hcon.mono ?_;rintro e w' ⟨rfl,hb'⟩)
 go_ret
 exact⟨rfl,iy b2 (by simp only[World.size_alloc];omega) hb'⟩
def dv.f (bo:Int) (ak:Int) (cE:Int) (ch:List Int) (aG:List (cA)) (cp:List (eu)):Option (Int×Int×Int×List Int×(List (cA))×(List (eu))):=(some (([]:List Int):List Int)).bind fun b1=>(if b1.length+ch.length<140737488355328 then((some (([]:List (cA)):List (cA))).bind fun b2=>(if b2.length+aG.length<5864062014805 then((some (([]:List (eu)):List (eu))).bind fun b3=>(if b3.length+cp.length<4398046511104 then(some (bo,ak,cE,(b1++ch),(b2++aG),(b3++cp)))else(none)))else(none)))else(none))
theorem dv.calls (bo:Int) (ak:Int) (cE:Int) (fP:Option Addr) (fQ:Nat) (ch:List Int) (fE:Option Addr) (fF:Nat) (aG:List (cA)) (fG:Option Addr) (fH:Nat) (cp:List (eu)) (r1:Int) (r2:Int) (r3:Int) (r4:List Int) (r5:List (cA)) (r6:List (eu)) (w:World) (iL:Kd.C (Kd.int .u8) w fP ch.length ch) (iM:ch.length≤fQ) (iN:Kd.C fI w fE aG.length aG) (iO:aG.length≤fF) (iP:Kd.C jl w fG cp.length cp) (iQ:cp.length≤fH) (h:dv.f bo ak cE ch aG cp=some (r1,r2,r3,r4,r5,r6)):
  Calls Tryz.prog 83 #[.agg #[.int .i64 bo,.int .i64 ak,.int .i64 cE,.slice fP ch.length fQ,.slice fE aG.length fF,.slice fG cp.length fH]] w fun e w'=>∃pL pM pN:Value,e= .returned (.agg #[.int .i64 r1,.int .i64 r2,.int .i64 r3,pL,pM,pN])∧Kd.R (Kd.int .u8) 5 w' w.heap.size (fun _=>True) pL r4∧Kd.R fI 75 w' w.heap.size (fun _=>True) pM r5∧Kd.R jl 82 w' w.heap.size (fun _=>True) pN r6∧Below w.heap.size w w':=by
 have dS:=underlying58;have bX:=ae.mk iL;have dG:=ae.mk iM;clear iL iM;have bY:=ae.mk iN;have dH:=ae.mk iO;clear iN iO;have bZ:=ae.mk iP;have dI:=ae.mk iQ;clear iP iQ;have HB:=am (Below.refl w.heap.size w);unfold dv.f at h;have H:=h;clear h;obtain⟨bH,da⟩:∃y_:List Int,y_=(([]:List Int)):=⟨_,rfl⟩;replace H:(if bH.length+ch.length<140737488355328 then((some (([]:List (cA)):List (cA))).bind fun b6=>(if b6.length+aG.length<5864062014805 then((some (([]:List (eu)):List (eu))).bind fun b4=>(if b4.length+cp.length<4398046511104 then(some (bo,ak,cE,(bH++ch),(b6++aG),(b4++cp)))else(none)))else(none)))else(none))=some (r1,r2,r3,r4,r5,r6):=oY;have bQ:=ae.mk da;clear da;obtain⟨c2,H⟩:=lC H;have d5:=ae.mk c2;clear c2;obtain⟨b8,da⟩:∃y_:List Int,y_=(bH++ch):=⟨_,rfl⟩;replace H:((some (([]:List (cA)):List (cA))).bind fun b6=>(if b6.length+aG.length<5864062014805 then((some (([]:List (eu)):List (eu))).bind fun b4=>(if b4.length+cp.length<4398046511104 then(some (bo,ak,cE,b8,(b6++aG),(b4++cp)))else(none)))else(none)))=some (r1,r2,r3,r4,r5,r6):=oY;have d1:=ae.mk da;clear da;obtain⟨b6,da⟩:∃y_:List (cA),y_=(([]:List (cA))):=⟨_,rfl⟩;replace H:(if b6.length+aG.length<5864062014805 then((some (([]:List (eu)):List (eu))).bind fun b4=>(if b4.length+cp.length<4398046511104 then(some (bo,ak,cE,b8,(b6++aG),(b4++cp)))else(none)))else(none))=some (r1,r2,r3,r4,r5,r6):=oY;have bR:=ae.mk da;clear da;obtain⟨c3,H⟩:=lC H;have d6:=ae.mk c3;clear c3;obtain⟨bD,da⟩:∃y_:List (cA),y_=(b6++aG):=⟨_,rfl⟩;replace H:((some (([]:List (eu)):List (eu))).bind fun b4=>(if b4.length+cp.length<4398046511104 then(some (bo,ak,cE,b8,bD,(b4++cp)))else(none)))=some (r1,r2,r3,r4,r5,r6):=oY;have d2:=ae.mk da;clear da;obtain⟨b4,da⟩:∃y_:List (eu),y_=(([]:List (eu))):=⟨_,rfl⟩;replace H:(if b4.length+cp.length<4398046511104 then(some (bo,ak,cE,b8,bD,(b4++cp)))else(none))=some (r1,r2,r3,r4,r5,r6):=oY;have bS:=ae.mk da;clear da;obtain⟨c4,H⟩:=lC H;have d7:=ae.mk c4;clear c4;obtain⟨bU,da⟩:∃y_:List (eu),y_=(b4++cp):=⟨_,rfl⟩;replace H:(some (bo,ak,cE,b8,bD,bU))=some (r1,r2,r3,r4,r5,r6):=oY;have d3:=ae.mk da;clear da;simp only[Option.some.injEq,Prod.mk.injEq]at H;obtain⟨rfl,rfl,rfl,rfl,rfl,rfl⟩:=H
 go_enter func83,ntmps83
 go_wp2_with (first|((with_reducible refine aj (N:=1) rfl ?_);refine cO 1 #[.int .i64 bo,.int .i64 ak,.int .i64 cE,.slice fP ch.length fQ,.slice fE aG.length fF,.slice fG cp.length fH] 58 ?_;intro dJ hg w5 hbox hb;have b1:=am (hbox);have dK:=cN hg;replace HB:=hB HB hb;clear hb hbox hg)|((with_reducible refine aj (N:=2) rfl ?_);refine cO 2 #[.int .i64 0,.int .i64 0,.int .i64 0,.slice none 0 0,.slice none 0 0,.slice none 0 0] 58 ?_;intro d4 hg w6 hbox hb;have b3:=am (hbox);have dL:=cN hg;have bI:=dm hg b1;have bJ:=dn hg b1;replace b1:=aJ b1 hb;replace HB:=hB HB hb;clear hb hbox hg;have dT:=bI.out;have dU:=bJ.out;obtain⟨⟨_,_,_,_,_,_⟩,_,_,_,_,_,_⟩:=z6 b1)|((with_reducible refine aj (N:=3) rfl ?_);refine cO 3 #[.int .i64 0,.int .i64 0,.int .i64 0,.slice none 0 0,.slice none 0 0,.slice none 0 0] 58 ?_;intro dM hg w9 hbox hb;have b2:=am (hbox);have dN:=cN hg;have bK:=dm hg b1;have bL:=dn hg b1;have bM:=dm hg b3;have bN:=dn hg b3;replace b1:=aJ b1 hb;replace b3:=aJ b3 hb;replace HB:=hB HB hb;clear hb hbox hg;have dO:=bL.out;have dP:=bK.out;have dQ:=bN.out;have dR:=bM.out;obtain⟨⟨_,_,_,_,_,_⟩,_,_,_,_,_,_⟩:=z6 b2)|((with_reducible refine aj (N:=5) rfl ?_);refine Kd.kM (Kd.int .u8) _ 5 ?hg (N:=5) ?hd (xs:=([]:List Int)) (inner:=[]) (ok:=fun _=>True) (fY:=fun _=>True) ?hr ?hp (fun _ hk=>hk) trivial (Below.refl _ _) (Nat.le_refl _) (by simp) ?_;(case hd=>rfl);(case hg=>rfl);(case hr=>first|(go_simp;done)|(go_simp;rfl));(case hp=>exact(cS.none _ _));intro d8 dY bE hb kX ek;clear kX ek;(first|rw[←bQ.out]at bE|(simp only[Int.reduceToNat]at bE;rw[←bQ.out]at bE));have bC:=am (Kd.an bE (ah oB));replace b1:=aJ b1 hb;replace b3:=aJ b3 hb;replace b2:=pl #[.int .i64 bo,.int .i64 ak,.int .i64 cE,.slice fP ch.length fQ,.slice fE aG.length fF,.slice fG cp.length fH] b2 hb;replace HB:=hB HB hb;clear hb bE;obtain⟨⟨_,_,_,_,_,_⟩,_,_,_,_,_,_⟩:=z6 b1)|((with_reducible refine eU (b:= .append) (xs:= #[.tmp 5,.tmp 7]) rfl ?_);at_builtin;refine Kd.fk (Kd.int .u8) (w0:=w) w.heap.size rfl (.tmp 5) (.tmp 7) 39 5 (.int .u8 0) 1 rfl underlying39 info5 rfl (by decide) (by omega) d8 bH ch _ _ _ (fun _=>True) (fun _=>False) rfl rfl ?aO ?aR (fun _ _ h=>h) (fun _ h=>h.elim) ?aF ?aB ?aS ?aL ?_;(case aR=>repeat(first|exact(Kd.cY bX.out HB.out)|(with_reducible refine Kd.eF ?_ _)|(with_reducible refine Kd.eG ?_ _)|(with_reducible refine Kd.ft ?_)));(case aB=>exact oB);(case aF=>exact(fun _ _=>trivial));(case aO=>exact(oR bC));(case aS=>exact(ah oB));(case aL=>have:=d5.out;omega);intro dV dZ ho hb hg hat;rw[←d1.out]at ho;have b5:=am (ho);replace b1:=lM b1 hg (Kd.nX bC.out b1.out (by decide));replace b3:=lM b3 hg (Kd.nX bC.out b3.out (by decide));replace b2:=lM b2 hg (Kd.nX bC.out b2.out (by decide));replace HB:=am (hb);clear bC;clear ho hb hg hat;obtain⟨bO,bP,d9⟩:=Kd.ao b5.out;subst d9;obtain⟨⟨_,_,_,_,_,_⟩,_,_,_,_,_,_⟩:=z6 b2)|((with_reducible refine aj (N:=10) rfl ?_);refine Kd.kM fI _ 75 ?hg (N:=10) ?hd (xs:=([]:List (cA))) (inner:=[]) (ok:=fun _=>True) (fY:=fun _=>True) ?hr ?hp (fun _ hk=>hk) trivial (Below.refl _ _) (Nat.le_refl _) (by simp) ?_;(case hd=>rfl);(case hg=>rfl);(case hr=>first|(go_simp;done)|(go_simp;rfl));(case hp=>exact(cS.none _ _));intro dA gA bF hb kX ek;clear kX ek;(first|rw[←bR.out]at bF|(simp only[Int.reduceToNat]at bF;rw[←bR.out]at bF));have b9:=am (Kd.an bF (ah oB));replace b5:=ga b5 b2 hb;replace b1:=aJ b1 hb;replace b3:=aJ b3 hb;replace b2:=pl #[.int .i64 bo,.int .i64 ak,.int .i64 cE,.slice bO b8.length bP,.slice fE aG.length fF,.slice fG cp.length fH] b2 hb;replace HB:=hB HB hb;clear hb bF;obtain⟨⟨_,_,_,_,_,_⟩,_,_,_,_,_,_⟩:=z6 b1)|((with_reducible refine eU (b:= .append) (xs:= #[.tmp 10,.tmp 12]) rfl ?_);at_builtin;refine Kd.fk fI (w0:=w) w.heap.size rfl (.tmp 10) (.tmp 12) 55 75 (.agg #[(.string ⟨#[]⟩),(.int .i64 0)]) 24 rfl underlying55 pX rfl (by decide) (by omega) dA b6 aG _ _ _ (fun _=>True) (fun _=>False) rfl rfl ?aO ?aR (fun _ _ h=>h) (fun _ h=>h.elim) ?aF ?aB ?aS ?aL ?_;(case aR=>repeat(first|exact(Kd.cY bY.out HB.out)|(with_reducible refine Kd.eF ?_ _)|(with_reducible refine Kd.eG ?_ _)|(with_reducible refine Kd.ft ?_)));(case aB=>exact oB);(case aF=>exact(fun _ _=>trivial));(case aO=>exact(oR b9));(case aS=>exact(ah oB));(case aL=>have:=d6.out;omega);intro dW gB ho hb hg hat;rw[←d2.out]at ho;have bB:=am (ho);replace b1:=lM b1 hg (Kd.nX b9.out b1.out (by decide));replace b3:=lM b3 hg (Kd.nX b9.out b3.out (by decide));replace b2:=lM b2 hg (Kd.nX b9.out b2.out (by decide));replace b5:=am (Kd.ku (oR b5) (Kd.iC (oR b9)) (by decide) hg);replace HB:=am (hb);clear b9;clear ho hb hg hat;obtain⟨bV,bW,dB⟩:=Kd.ao bB.out;subst dB;obtain⟨⟨_,_,_,_,_,_⟩,_,_,_,_,_,_⟩:=z6 b2)|((with_reducible refine aj (N:=15) rfl ?_);refine Kd.kM jl _ 82 ?hg (N:=15) ?hd (xs:=([]:List (eu))) (inner:=[]) (ok:=fun _=>True) (fY:=fun _=>True) ?hr ?hp (fun _ hk=>hk) trivial (Below.refl _ _) (Nat.le_refl _) (by simp) ?_;(case hd=>rfl);(case hg=>rfl);(case hr=>first|(go_simp;done)|(go_simp;rfl));(case hp=>exact(cS.none _ _));intro dC gC bG hb kX ek;clear kX ek;(first|rw[←bS.out]at bG|(simp only[Int.reduceToNat]at bG;rw[←bS.out]at bG));have b7:=am (Kd.an bG (ah oB));replace b5:=ga b5 b2 hb;replace bB:=ga bB b2 hb;replace b1:=aJ b1 hb;replace b3:=aJ b3 hb;replace b2:=pl #[.int .i64 bo,.int .i64 ak,.int .i64 cE,.slice bO b8.length bP,.slice bV bD.length bW,.slice fG cp.length fH] b2 hb;replace HB:=hB HB hb;clear hb bG;obtain⟨⟨_,_,_,_,_,_⟩,_,_,_,_,_,_⟩:=z6 b1)|((with_reducible refine eU (b:= .append) (xs:= #[.tmp 15,.tmp 17]) rfl ?_);at_builtin;refine Kd.fk jl (w0:=w) w.heap.size rfl (.tmp 15) (.tmp 17) 56 82 (.agg #[(.string ⟨#[]⟩),(.string ⟨#[]⟩)]) 32 rfl underlying56 wZ rfl (by decide) (by omega) dC b4 cp _ _ _ (fun _=>True) (fun _=>False) rfl rfl ?aO ?aR (fun _ _ h=>h) (fun _ h=>h.elim) ?aF ?aB ?aS ?aL ?_;(case aR=>repeat(first|exact(Kd.cY bZ.out HB.out)|(with_reducible refine Kd.eF ?_ _)|(with_reducible refine Kd.eG ?_ _)|(with_reducible refine Kd.ft ?_)));(case aB=>exact oB);(case aF=>exact(fun _ _=>trivial));(case aO=>exact(oR b7));(case aS=>exact(ah oB));(case aL=>have:=d7.out;omega);intro dX gD ho hb hg hat;rw[←d3.out]at ho;have bT:=am (ho);replace b1:=lM b1 hg (Kd.nX b7.out b1.out (by decide));replace b3:=lM b3 hg (Kd.nX b7.out b3.out (by decide));replace b2:=lM b2 hg (Kd.nX b7.out b2.out (by decide));replace b5:=am (Kd.ku (oR b5) (Kd.iC (oR b7)) (by decide) hg);replace bB:=am (Kd.ku (oR bB) (Kd.iC (oR b7)) (by decide) hg);replace HB:=am (hb);clear b7;clear ho hb hg hat;obtain⟨dD,dE,dF⟩:=Kd.ao bT.out;subst dF;obtain⟨⟨_,_,_,_,_,_⟩,_,_,_,_,_,_⟩:=z6 b2;obtain⟨⟨_,_,_,_,_,_⟩,_,_,_,_,_,_⟩:=z6 b3))
 refine bodyPost_ret (results_cell_row rfl _ _ d4 58 #[.int .i64 bo,.int .i64 ak,.int .i64 cE,.slice bO b8.length bP,.slice bV bD.length bW,.slice dD bU.length dE] (0,0) _ rfl (oP b3) underlying58 rfl (by kernel_rfl)) rfl ?_;exact⟨_,_,_,oE,pB b5 b2 b3,pB bB b2 b3,pB bT b2 b3,oB⟩

def cG.f (l0:List (cA)):Option ((List (cA))):=(some (([]:List (cA)):List (cA))).bind fun b1=>(if b1.length+l0.length<5864062014805 then(some (b1++l0))else(none))
theorem cG.ng (a0_:Addr) (c0:Nat) (l0:List (cA)) (r:List (cA)) (w:World) (hr0:Kd.C fI w (some a0_) l0.length l0) (hc0:l0.length≤c0) (h:cG.f l0=some r):
  Calls Tryz.prog 96 #[.slice (some a0_) l0.length c0] w fun e w'=>∃jx:Value,e= .returned (jx)∧Kd.R fI 75 w' w.heap.size (fun _=>True) jx r∧Below w.heap.size w w':=by
 have bB:=ae.mk hr0;have bD:=ae.mk hc0;clear hr0 hc0;have HB:=am (Below.refl w.heap.size w);unfold cG.f at h;have H:=h;clear h;obtain⟨b1,da⟩:∃y_:List (cA),y_=(([]:List (cA))):=⟨_,rfl⟩;replace H:(if b1.length+l0.length<5864062014805 then(some (b1++l0))else(none))=some r:=oY;have b3:=ae.mk da;clear da
 by_cases c2:b1.length+l0.length<5864062014805
 rotate_left
 ·rw[if_neg c2]at H;exact absurd H (by simp)
 rw[if_pos c2]at H;have b7:=ae.mk c2;clear c2;obtain⟨b8,da⟩:∃y_:List (cA),y_=(b1++l0):=⟨_,rfl⟩;replace H:(some b8)=some r:=oY;have b5:=ae.mk da;clear da;obtain rfl:=Option.some.inj H;have hq_:=Lib.run_eql_slice_nil (P:=Tryz.prog) w 55 75 (some a0_) l0.length c0 0 0 (by kernel_rfl)
 go_enter func96,ntmps96
 go_wp2_with (first|((with_reducible refine aj (N:=5) rfl ?_);refine Kd.kM fI _ 75 ?hg (N:=5) ?hd (xs:=([]:List (cA))) (inner:=[]) (ok:=fun _=>True) (fY:=fun _=>True) ?hr ?hp (fun _ hk=>hk) trivial (Below.refl _ _) (Nat.le_refl _) (by simp) ?_;(case hd=>rfl);(case hg=>rfl);(case hr=>first|(go_simp;done)|(go_simp;rfl));(case hp=>exact(cS.none _ _));intro b9 w3 b2 hb kX ek;clear kX ek;(first|rw[←b3.out]at b2|(simp only[Int.reduceToNat]at b2;rw[←b3.out]at b2));have b4:=am (Kd.an b2 (ah oB));replace HB:=hB HB hb;clear hb b2)|((with_reducible refine eU (b:= .append) (xs:= #[.tmp 5,.tmp 6]) rfl ?_);at_builtin;refine Kd.fk fI (w0:=w) w.heap.size rfl (.tmp 5) (.tmp 6) 55 75 (.agg #[(.string ⟨#[]⟩),(.int .i64 0)]) 24 rfl underlying55 pX rfl (by decide) (by omega) b9 b1 l0 _ _ _ (fun _=>True) (fun _=>False) rfl rfl ?aO ?aR (fun _ _ h=>h) (fun _ h=>h.elim) ?aF ?aB ?aS ?aL ?_;(case aR=>repeat(first|exact(Kd.cY bB.out HB.out)|(with_reducible refine Kd.eF ?_ _)|(with_reducible refine Kd.eG ?_ _)|(with_reducible refine Kd.ft ?_)));(case aB=>exact oB);(case aF=>exact(fun _ _=>trivial));(case aO=>exact(oR b4));(case aS=>exact(ah oB));(case aL=>have:=b7.out;omega);intro bC w5 ho hb hg hat;rw[←b5.out]at ho;have b6:=am (ho);replace HB:=am (hb);clear b4;clear ho hb hg hat))
 go_ret
 exact⟨_,oE,oR b6,oB⟩
theorem cG.calls (A0:Option Addr) (c0:Nat) (l0:List (cA)) (r:List (cA)) (w:World) (hr0:Kd.C fI w A0 l0.length l0) (hc0:l0.length≤c0) (h:cG.f l0=some r):
  Calls Tryz.prog 96 #[.slice A0 l0.length c0] w fun e w'=>∃jx:Value,e= .returned (jx)∧Kd.R fI 75 w' w.heap.size (fun _=>True) jx r∧Below w.heap.size w w':=by
 rcases A0 with _|b1
 ·have hl_:l0=[]:=by
   rcases Nat.eq_zero_or_pos l0.length with hz_|hz_
   ·exact List.eq_nil_of_length_eq_zero hz_
   ·obtain⟨ad_,he_,_⟩:=hr0.2.2 hz_
    cases he_
  subst hl_
  obtain rfl:r=[]:=by
   simp[cG.f]at h;exact h
  have hq_:=Lib.run_eql_slice_nil (P:=Tryz.prog) w 55 75 none 0 c0 0 0 (by kernel_rfl)
  go_enter func96,ntmps96
  go_wp2
  go_ret
  exact⟨_,rfl,Kd.eD _ _ _ _ _,Below.refl _ _⟩
 ·exact cG.ng b1 c0 l0 r w hr0 hc0 h

def cD.f (l0:List Int):Option (List Int):=(some (([]:List Int):List Int)).bind fun b1=>(if b1.length+l0.length<140737488355328 then(some (b1++l0))else(none))
theorem cD.ng (a0_:Addr) (c0:Nat) (l0:List Int) (r:List Int) (w:World) (hr0:Kd.C (Kd.int .u8) w (some a0_) l0.length l0) (hc0:l0.length≤c0) (h:cD.f l0=some r):
  Calls Tryz.prog 119 #[.slice (some a0_) l0.length c0] w fun e w'=>∃jx:Value,e= .returned (jx)∧Kd.R (Kd.int .u8) 5 w' w.heap.size (fun _=>True) jx r∧Below w.heap.size w w':=by
 have bB:=ae.mk hr0;have bD:=ae.mk hc0;clear hr0 hc0;have HB:=am (Below.refl w.heap.size w);unfold cD.f at h;have H:=h;clear h;obtain⟨b1,da⟩:∃y_:List Int,y_=(([]:List Int)):=⟨_,rfl⟩;replace H:(if b1.length+l0.length<140737488355328 then(some (b1++l0))else(none))=some r:=oY;have b3:=ae.mk da;clear da
 by_cases c2:b1.length+l0.length<140737488355328
 rotate_left
 ·rw[if_neg c2]at H;exact absurd H (by simp)
 rw[if_pos c2]at H;have b7:=ae.mk c2;clear c2;obtain⟨b8,da⟩:∃y_:List Int,y_=(b1++l0):=⟨_,rfl⟩;replace H:(some b8)=some r:=oY;have b5:=ae.mk da;clear da;obtain rfl:=Option.some.inj H;have hq_:=Lib.run_eql_slice_nil (P:=Tryz.prog) w 39 5 (some a0_) l0.length c0 0 0 (by kernel_rfl)
 go_enter func119,ntmps119
 go_wp2_with (first|((with_reducible refine aj (N:=5) rfl ?_);refine Kd.kM (Kd.int .u8) _ 5 ?hg (N:=5) ?hd (xs:=([]:List Int)) (inner:=[]) (ok:=fun _=>True) (fY:=fun _=>True) ?hr ?hp (fun _ hk=>hk) trivial (Below.refl _ _) (Nat.le_refl _) (by simp) ?_;(case hd=>rfl);(case hg=>rfl);(case hr=>first|(go_simp;done)|(go_simp;rfl));(case hp=>exact(cS.none _ _));intro b9 w3 b2 hb kX ek;clear kX ek;(first|rw[←b3.out]at b2|(simp only[Int.reduceToNat]at b2;rw[←b3.out]at b2));have b4:=am (Kd.an b2 (ah oB));replace HB:=hB HB hb;clear hb b2)|((with_reducible refine eU (b:= .append) (xs:= #[.tmp 5,.tmp 6]) rfl ?_);at_builtin;refine Kd.fk (Kd.int .u8) (w0:=w) w.heap.size rfl (.tmp 5) (.tmp 6) 39 5 (.int .u8 0) 1 rfl underlying39 info5 rfl (by decide) (by omega) b9 b1 l0 _ _ _ (fun _=>True) (fun _=>False) rfl rfl ?aO ?aR (fun _ _ h=>h) (fun _ h=>h.elim) ?aF ?aB ?aS ?aL ?_;(case aR=>repeat(first|exact(Kd.cY bB.out HB.out)|(with_reducible refine Kd.eF ?_ _)|(with_reducible refine Kd.eG ?_ _)|(with_reducible refine Kd.ft ?_)));(case aB=>exact oB);(case aF=>exact(fun _ _=>trivial));(case aO=>exact(oR b4));(case aS=>exact(ah oB));(case aL=>have:=b7.out;omega);intro bC w5 ho hb hg hat;rw[←b5.out]at ho;have b6:=am (ho);replace HB:=am (hb);clear b4;clear ho hb hg hat))
 go_ret
 exact⟨_,oE,oR b6,oB⟩
theorem cD.calls (A0:Option Addr) (c0:Nat) (l0:List Int) (r:List Int) (w:World) (hr0:Kd.C (Kd.int .u8) w A0 l0.length l0) (hc0:l0.length≤c0) (h:cD.f l0=some r):
  Calls Tryz.prog 119 #[.slice A0 l0.length c0] w fun e w'=>∃jx:Value,e= .returned (jx)∧Kd.R (Kd.int .u8) 5 w' w.heap.size (fun _=>True) jx r∧Below w.heap.size w w':=by
 rcases A0 with _|b1
 ·have hl_:l0=[]:=by
   rcases Nat.eq_zero_or_pos l0.length with hz_|hz_
   ·exact List.eq_nil_of_length_eq_zero hz_
   ·obtain⟨ad_,he_,_⟩:=hr0.2.2 hz_
    cases he_
  subst hl_
  obtain rfl:r=[]:=by
   simp[cD.f]at h;exact h
  have hq_:=Lib.run_eql_slice_nil (P:=Tryz.prog) w 39 5 none 0 c0 0 0 (by kernel_rfl)
  go_enter func119,ntmps119
  go_wp2
  go_ret
  exact⟨_,rfl,Kd.eD _ _ _ _ _,Below.refl _ _⟩
 ·exact cD.ng b1 c0 l0 r w hr0 hc0 h

def dd.f (l0:List (eu)):Option ((List (eu))):=(some (([]:List (eu)):List (eu))).bind fun b1=>(if b1.length+l0.length<4398046511104 then(some (b1++l0))else(none))
theorem dd.ng (a0_:Addr) (c0:Nat) (l0:List (eu)) (r:List (eu)) (w:World) (hr0:Kd.C jl w (some a0_) l0.length l0) (hc0:l0.length≤c0) (h:dd.f l0=some r):
  Calls Tryz.prog 120 #[.slice (some a0_) l0.length c0] w fun e w'=>∃jx:Value,e= .returned (jx)∧Kd.R jl 82 w' w.heap.size (fun _=>True) jx r∧Below w.heap.size w w':=by
 have bB:=ae.mk hr0;have bD:=ae.mk hc0;clear hr0 hc0;have HB:=am (Below.refl w.heap.size w);unfold dd.f at h;have H:=h;clear h;obtain⟨b1,da⟩:∃y_:List (eu),y_=(([]:List (eu))):=⟨_,rfl⟩;replace H:(if b1.length+l0.length<4398046511104 then(some (b1++l0))else(none))=some r:=oY;have b3:=ae.mk da;clear da
 by_cases c2:b1.length+l0.length<4398046511104
 rotate_left
 ·rw[if_neg c2]at H;exact absurd H (by simp)
 rw[if_pos c2]at H;have b7:=ae.mk c2;clear c2;obtain⟨b8,da⟩:∃y_:List (eu),y_=(b1++l0):=⟨_,rfl⟩;replace H:(some b8)=some r:=oY;have b5:=ae.mk da;clear da;obtain rfl:=Option.some.inj H;have hq_:=Lib.run_eql_slice_nil (P:=Tryz.prog) w 56 82 (some a0_) l0.length c0 0 0 (by kernel_rfl)
 go_enter func120,ntmps120
 go_wp2_with (first|((with_reducible refine aj (N:=5) rfl ?_);refine Kd.kM jl _ 82 ?hg (N:=5) ?hd (xs:=([]:List (eu))) (inner:=[]) (ok:=fun _=>True) (fY:=fun _=>True) ?hr ?hp (fun _ hk=>hk) trivial (Below.refl _ _) (Nat.le_refl _) (by simp) ?_;(case hd=>rfl);(case hg=>rfl);(case hr=>first|(go_simp;done)|(go_simp;rfl));(case hp=>exact(cS.none _ _));intro b9 w3 b2 hb kX ek;clear kX ek;(first|rw[←b3.out]at b2|(simp only[Int.reduceToNat]at b2;rw[←b3.out]at b2));have b4:=am (Kd.an b2 (ah oB));replace HB:=hB HB hb;clear hb b2)|((with_reducible refine eU (b:= .append) (xs:= #[.tmp 5,.tmp 6]) rfl ?_);at_builtin;refine Kd.fk jl (w0:=w) w.heap.size rfl (.tmp 5) (.tmp 6) 56 82 (.agg #[(.string ⟨#[]⟩),(.string ⟨#[]⟩)]) 32 rfl underlying56 wZ rfl (by decide) (by omega) b9 b1 l0 _ _ _ (fun _=>True) (fun _=>False) rfl rfl ?aO ?aR (fun _ _ h=>h) (fun _ h=>h.elim) ?aF ?aB ?aS ?aL ?_;(case aR=>repeat(first|exact(Kd.cY bB.out HB.out)|(with_reducible refine Kd.eF ?_ _)|(with_reducible refine Kd.eG ?_ _)|(with_reducible refine Kd.ft ?_)));(case aB=>exact oB);(case aF=>exact(fun _ _=>trivial));(case aO=>exact(oR b4));(case aS=>exact(ah oB));(case aL=>have:=b7.out;omega);intro bC w5 ho hb hg hat;rw[←b5.out]at ho;have b6:=am (ho);replace HB:=am (hb);clear b4;clear ho hb hg hat))
 go_ret
 exact⟨_,oE,oR b6,oB⟩
theorem dd.calls (A0:Option Addr) (c0:Nat) (l0:List (eu)) (r:List (eu)) (w:World) (hr0:Kd.C jl w A0 l0.length l0) (hc0:l0.length≤c0) (h:dd.f l0=some r):
  Calls Tryz.prog 120 #[.slice A0 l0.length c0] w fun e w'=>∃jx:Value,e= .returned (jx)∧Kd.R jl 82 w' w.heap.size (fun _=>True) jx r∧Below w.heap.size w w':=by
 rcases A0 with _|b1
 ·have hl_:l0=[]:=by
   rcases Nat.eq_zero_or_pos l0.length with hz_|hz_
   ·exact List.eq_nil_of_length_eq_zero hz_
   ·obtain⟨ad_,he_,_⟩:=hr0.2.2 hz_
    cases he_
  subst hl_
  obtain rfl:r=[]:=by
   simp[dd.f]at h;exact h
  have hq_:=Lib.run_eql_slice_nil (P:=Tryz.prog) w 56 82 none 0 c0 0 0 (by kernel_rfl)
  go_enter func120,ntmps120
  go_wp2
  go_ret
  exact⟨_,rfl,Kd.eD _ _ _ _ _,Below.refl _ _⟩
 ·exact dd.ng b1 c0 l0 r w hr0 hc0 h

def kW.f (bo:ByteArray) (ak:Int) (cL:ByteArray) (cC:Int):Option (Bool):=if bo.toList=cL.toList then(if ak=cC then(some true)else(some false))else(some false)
theorem kW.calls (bo:ByteArray) (ak:Int) (cL:ByteArray) (cC:Int) (r:Bool) (w:World) (h:kW.f bo ak cL cC=some r):
  Calls Tryz.prog 137 #[.agg #[.string bo,.int .i64 ak],.agg #[.string cL,.int .i64 cC]] w fun e w'=>e= .returned (.bool r)∧Below w.heap.size w w':=by
 have bI:=underlying75;have HB:=am (Below.refl w.heap.size w);unfold kW.f at h;have H:=h;clear h
 by_cases c3:bo.toList=cL.toList
 rotate_left
 ·rw[if_neg c3]at H;have b9:(bo.toList==cL.toList)=false:=beq_eq_false_iff_ne.mpr c3;have bB:(bo.toList !=cL.toList)=true:=bne_iff_ne.mpr c3;obtain rfl:=Option.some.inj H
  go_enter func137,ntmps137
  go_wp2_with (first|((with_reducible refine aj (N:=2) rfl ?_);refine cO 2 #[.string bo,.int .i64 ak] 75 ?_;intro b5 hg bL hbox hb;have b1:=am (hbox);have b6:=cN hg;replace HB:=hB HB hb;clear hb hbox hg)|((with_reducible refine aj (N:=3) rfl ?_);refine cO 3 #[.string cL,.int .i64 cC] 75 ?_;intro b7 hg bM hbox hb;have b4:=am (hbox);have b8:=cN hg;have b2:=dm hg b1;have b3:=dn hg b1;replace b1:=aJ b1 hb;replace HB:=hB HB hb;clear hb hbox hg;have bE:=b2.out;have bF:=b3.out;obtain⟨⟨_,_⟩,_,_⟩:=z2 b1;obtain⟨⟨_,_⟩,_,_⟩:=z2 b4))
  go_ret
  exact⟨oE,oB⟩
 rw[if_pos c3]at H;have b9:(bo.toList==cL.toList)=true:=beq_iff_eq.mpr c3;have bB:(bo.toList !=cL.toList)=false:=bne_eq_false_iff_eq.mpr c3;clear c3
 by_cases c4:ak=cC
 rotate_left
 ·rw[if_neg c4]at H;have bC:(ak==cC)=false:=beq_eq_false_iff_ne.mpr c4;have bD:(ak !=cC)=true:=bne_iff_ne.mpr c4;obtain rfl:=Option.some.inj H
  go_enter func137,ntmps137
  go_wp2_with (first|((with_reducible refine aj (N:=2) rfl ?_);refine cO 2 #[.string bo,.int .i64 ak] 75 ?_;intro b5 hg bN hbox hb;have b1:=am (hbox);have b6:=cN hg;replace HB:=hB HB hb;clear hb hbox hg)|((with_reducible refine aj (N:=3) rfl ?_);refine cO 3 #[.string cL,.int .i64 cC] 75 ?_;intro b7 hg bO hbox hb;have b4:=am (hbox);have b8:=cN hg;have b2:=dm hg b1;have b3:=dn hg b1;replace b1:=aJ b1 hb;replace HB:=hB HB hb;clear hb hbox hg;have bG:=b2.out;have bH:=b3.out;obtain⟨⟨_,_⟩,_,_⟩:=z2 b1;obtain⟨⟨_,_⟩,_,_⟩:=z2 b4))
  go_ret
  exact⟨oE,oB⟩
 rw[if_pos c4]at H;have bC:(ak==cC)=true:=beq_iff_eq.mpr c4;have bD:(ak !=cC)=false:=bne_eq_false_iff_eq.mpr c4;clear c4;obtain rfl:=Option.some.inj H
 go_enter func137,ntmps137
 go_wp2_with (first|((with_reducible refine aj (N:=2) rfl ?_);refine cO 2 #[.string bo,.int .i64 ak] 75 ?_;intro b5 hg w5 hbox hb;have b1:=am (hbox);have b6:=cN hg;replace HB:=hB HB hb;clear hb hbox hg)|((with_reducible refine aj (N:=3) rfl ?_);refine cO 3 #[.string cL,.int .i64 cC] 75 ?_;intro b7 hg w6 hbox hb;have b4:=am (hbox);have b8:=cN hg;have b2:=dm hg b1;have b3:=dn hg b1;replace b1:=aJ b1 hb;replace HB:=hB HB hb;clear hb hbox hg;have bJ:=b2.out;have bK:=b3.out;obtain⟨⟨_,_⟩,_,_⟩:=z2 b1;obtain⟨⟨_,_⟩,_,_⟩:=z2 b4))
 go_ret
 exact⟨oE,oB⟩

def kj.f (bo:ByteArray) (ak:ByteArray) (cL:ByteArray) (cC:ByteArray):Option (Bool):=if bo.toList=cL.toList then(if ak.toList=cC.toList then(some true)else(some false))else(some false)
theorem kj.calls (bo:ByteArray) (ak:ByteArray) (cL:ByteArray) (cC:ByteArray) (r:Bool) (w:World) (h:kj.f bo ak cL cC=some r):
  Calls Tryz.prog 138 #[.agg #[.string bo,.string ak],.agg #[.string cL,.string cC]] w fun e w'=>e= .returned (.bool r)∧Below w.heap.size w w':=by
 have bI:=underlying82;have HB:=am (Below.refl w.heap.size w);unfold kj.f at h;have H:=h;clear h
 by_cases c3:bo.toList=cL.toList
 rotate_left
 ·rw[if_neg c3]at H;have b9:(bo.toList==cL.toList)=false:=beq_eq_false_iff_ne.mpr c3;have bB:(bo.toList !=cL.toList)=true:=bne_iff_ne.mpr c3;obtain rfl:=Option.some.inj H
  go_enter func138,ntmps138
  go_wp2_with (first|((with_reducible refine aj (N:=2) rfl ?_);refine cO 2 #[.string bo,.string ak] 82 ?_;intro b5 hg bL hbox hb;have b1:=am (hbox);have b6:=cN hg;replace HB:=hB HB hb;clear hb hbox hg)|((with_reducible refine aj (N:=3) rfl ?_);refine cO 3 #[.string cL,.string cC] 82 ?_;intro b7 hg bM hbox hb;have b4:=am (hbox);have b8:=cN hg;have b2:=dm hg b1;have b3:=dn hg b1;replace b1:=aJ b1 hb;replace HB:=hB HB hb;clear hb hbox hg;have bE:=b2.out;have bF:=b3.out;obtain⟨⟨_,_⟩,_,_⟩:=z2 b1;obtain⟨⟨_,_⟩,_,_⟩:=z2 b4))
  go_ret
  exact⟨oE,oB⟩
 rw[if_pos c3]at H;have b9:(bo.toList==cL.toList)=true:=beq_iff_eq.mpr c3;have bB:(bo.toList !=cL.toList)=false:=bne_eq_false_iff_eq.mpr c3;clear c3
 by_cases c4:ak.toList=cC.toList
 rotate_left
 ·rw[if_neg c4]at H;have bC:(ak.toList==cC.toList)=false:=beq_eq_false_iff_ne.mpr c4;have bD:(ak.toList !=cC.toList)=true:=bne_iff_ne.mpr c4;obtain rfl:=Option.some.inj H
  go_enter func138,ntmps138
  go_wp2_with (first|((with_reducible refine aj (N:=2) rfl ?_);refine cO 2 #[.string bo,.string ak] 82 ?_;intro b5 hg bN hbox hb;have b1:=am (hbox);have b6:=cN hg;replace HB:=hB HB hb;clear hb hbox hg)|((with_reducible refine aj (N:=3) rfl ?_);refine cO 3 #[.string cL,.string cC] 82 ?_;intro b7 hg bO hbox hb;have b4:=am (hbox);have b8:=cN hg;have b2:=dm hg b1;have b3:=dn hg b1;replace b1:=aJ b1 hb;replace HB:=hB HB hb;clear hb hbox hg;have bG:=b2.out;have bH:=b3.out;obtain⟨⟨_,_⟩,_,_⟩:=z2 b1;obtain⟨⟨_,_⟩,_,_⟩:=z2 b4))
  go_ret
  exact⟨oE,oB⟩
 rw[if_pos c4]at H;have bC:(ak.toList==cC.toList)=true:=beq_iff_eq.mpr c4;have bD:(ak.toList !=cC.toList)=false:=bne_eq_false_iff_eq.mpr c4;clear c4;obtain rfl:=Option.some.inj H
 go_enter func138,ntmps138
 go_wp2_with (first|((with_reducible refine aj (N:=2) rfl ?_);refine cO 2 #[.string bo,.string ak] 82 ?_;intro b5 hg w5 hbox hb;have b1:=am (hbox);have b6:=cN hg;replace HB:=hB HB hb;clear hb hbox hg)|((with_reducible refine aj (N:=3) rfl ?_);refine cO 3 #[.string cL,.string cC] 82 ?_;intro b7 hg w6 hbox hb;have b4:=am (hbox);have b8:=cN hg;have b2:=dm hg b1;have b3:=dn hg b1;replace b1:=aJ b1 hb;replace HB:=hB HB hb;clear hb hbox hg;have bJ:=b2.out;have bK:=b3.out;obtain⟨⟨_,_⟩,_,_⟩:=z2 b1;obtain⟨⟨_,_⟩,_,_⟩:=z2 b4))
 go_ret
 exact⟨oE,oB⟩

def iR.f (bo:ByteArray) (ak:ByteArray) (a1:Int):Option (Int):=if(wrap64 (a1-(bo.size:Int)))<0 then(some (-1))else(if(wrap64 ((wrap64 (a1-(bo.size:Int)))-(ak.size:Int)))<0 then(some (-1))else(some (wrap64 ((wrap64 (a1-(bo.size:Int)))-(ak.size:Int)))))
theorem iR.calls (bo:ByteArray) (ak:ByteArray) (a1:Int) (r:Int) (w:World) (h:iR.f bo ak a1=some r):
  Calls Tryz.prog 134 #[.agg #[.string bo,.string ak],.int .i64 a1] w fun e w'=>e= .returned (.int .i64 r)∧Below w.heap.size w w':=by
 have b6:=underlying133;have HB:=am (Below.refl w.heap.size w);unfold iR.f at h;have H:=h;clear h;replace H:=jm H;rcases H with⟨b4,H⟩|⟨b4,H⟩
 ·obtain rfl:=Option.some.inj H
  go_enter func134,ntmps134
  go_wp2_with (first|((with_reducible refine aj (N:=2) rfl ?_);refine cO 2 #[.string bo,.string ak] 133 ?_;intro b2 hg w4 hbox hb;have b1:=am (hbox);have b3:=cN hg;replace HB:=hB HB hb;clear hb hbox hg;obtain⟨⟨_,_⟩,_,_⟩:=z2 b1))
  go_ret
  exact⟨oE,oB⟩
 replace H:=jm H;rcases H with⟨b5,H⟩|⟨b5,H⟩
 ·obtain rfl:=Option.some.inj H
  go_enter func134,ntmps134
  go_wp2_with (first|((with_reducible refine aj (N:=2) rfl ?_);refine cO 2 #[.string bo,.string ak] 133 ?_;intro b2 hg w7 hbox hb;have b1:=am (hbox);have b3:=cN hg;replace HB:=hB HB hb;clear hb hbox hg;obtain⟨⟨_,_⟩,_,_⟩:=z2 b1))
  go_ret
  exact⟨oE,oB⟩
 obtain rfl:=Option.some.inj H
 go_enter func134,ntmps134
 go_wp2_with (first|((with_reducible refine aj (N:=2) rfl ?_);refine cO 2 #[.string bo,.string ak] 133 ?_;intro b2 hg w9 hbox hb;have b1:=am (hbox);have b3:=cN hg;replace HB:=hB HB hb;clear hb hbox hg;obtain⟨⟨_,_⟩,_,_⟩:=z2 b1))
 go_ret
 exact⟨oE,oB⟩

theorem adn {α:Type}{d:Kd α}{e base n c:Nat}{ok:Nat→Prop}{w:World}{A:Option Addr}{xs:List α}(h:d.R e w base ok (.slice A n c) xs):∀ad,A=some ad→0<xs.length→ad.spot=none:=by
 intro ad hA _;subst hA;obtain⟨g,rfl⟩:=Kd.uy h
 rfl
def eg.f (l:List Int) (x:Int):Option Bool:=if l.length≤9223372036854775807 then some (l.contains x)else none
theorem eg.calls (A0:Option Addr) (c0:Nat) (l0:List Int) (a1:Int) (r:Bool) (w:World) (hr0:Kd.C (Kd.int .i64) w A0 l0.length l0) (hc0:l0.length≤c0) (h:eg.f l0 a1=some r) (hA:∀ad,A0=some ad→0<l0.length→ad.spot=none:=by first|exact adn (by first|(with_reducible assumption)|exact ae.out (by with_reducible assumption))):
  Calls Tryz.prog 146 #[.slice A0 l0.length c0,.int .i64 a1] w fun e w'=>e= .returned (.bool r)∧Below w.heap.size w w':=by
 unfold eg.f at h
 split at h
 case isFalse=>cases h
 case isTrue hl=>
 obtain rfl:=Option.some.inj h
 by_cases h0:l0.length=0
 ·obtain rfl:=List.eq_nil_of_length_eq_zero h0
  exact(Any.slices_Contains_int_empty Tryz.lays107 A0 c0 a1 w).mono fun e w' ⟨he,hw⟩=>⟨he,hw▸Below.refl _ _⟩
 obtain⟨ad,e0,_⟩:=Kd.kA hr0 0 (by omega) (by omega);subst e0;have hsp:=hA ad rfl (by omega);obtain⟨bk,o,sp⟩:=ad;have hsp:sp=none:=hsp;subst hsp
 refine(Any.slices_Contains_int Tryz.lays107 bk o l0.length c0 l0 a1 w (Nat.le_refl _) hl (fun j hj=> ?_)).mono fun e w' ⟨he,hw⟩=>⟨by rw[he,List.take_length],hw▸Below.refl _ _⟩
 obtain⟨ad',e',hx⟩:=Kd.kA hr0 (j:Int) (by omega) (by omega);injection e' with e';subst e';rw[Int.toNat_natCast,Addr.add_lit]at hx;rw[hx];simp[rd]
def gp.f (l0:List Int) (a1:Int):Option (Int):=if(wrap64 (a1-(l0.length:Int)))<0 then(some (-1))else(some (wrap64 (a1-(l0.length:Int))))
theorem gp.calls (A0:Option Addr) (c0:Nat) (l0:List Int) (a1:Int) (r:Int) (w:World) (hr0:Kd.C (Kd.int .u8) w A0 l0.length l0) (hc0:l0.length≤c0) (h:gp.f l0 a1=some r):
  Calls Tryz.prog 108 #[.slice A0 l0.length c0,.int .i64 a1] w fun e w'=>e= .returned (.int .i64 r)∧fC w w':=by
 have b2:=ae.mk hr0;have b3:=ae.mk hc0;clear hr0 hc0;unfold gp.f at h;have H:=h;clear h;replace H:=jm H;rcases H with⟨b1,H⟩|⟨b1,H⟩
 ·obtain rfl:=Option.some.inj H
  go_enter func108,ntmps108
  go_wp2
  go_ret
  exact⟨oS,oD⟩
 obtain rfl:=Option.some.inj H
 go_enter func108,ntmps108
 go_wp2
 go_ret
 exact⟨oS,oD⟩

def km.f (bo:ByteArray) (ak:Int) (a1:Int):Option (Int):=if(wrap64 (a1-(bo.size:Int)))<0 then(some (-1))else(some (wrap64 (a1-(bo.size:Int))))
theorem km.calls (bo:ByteArray) (ak:Int) (a1:Int) (r:Int) (w:World) (h:km.f bo ak a1=some r):
  Calls Tryz.prog 133 #[.agg #[.string bo,.int .i64 ak],.int .i64 a1] w fun e w'=>e= .returned (.int .i64 r)∧Below w.heap.size w w':=by
 have b5:=underlying131;have HB:=am (Below.refl w.heap.size w);unfold km.f at h;have H:=h;clear h;replace H:=jm H;rcases H with⟨b4,H⟩|⟨b4,H⟩
 ·obtain rfl:=Option.some.inj H
  go_enter func133,ntmps133
  go_wp2_with (first|((with_reducible refine aj (N:=2) rfl ?_);refine cO 2 #[.string bo,.int .i64 ak] 131 ?_;intro b2 hg w4 hbox hb;have b1:=am (hbox);have b3:=cN hg;replace HB:=hB HB hb;clear hb hbox hg;obtain⟨⟨_,_⟩,_,_⟩:=z2 b1))
  go_ret
  exact⟨oE,oB⟩
 obtain rfl:=Option.some.inj H
 go_enter func133,ntmps133
 go_wp2_with (first|((with_reducible refine aj (N:=2) rfl ?_);refine cO 2 #[.string bo,.int .i64 ak] 131 ?_;intro b2 hg w6 hbox hb;have b1:=am (hbox);have b3:=cN hg;replace HB:=hB HB hb;clear hb hbox hg;obtain⟨⟨_,_⟩,_,_⟩:=z2 b1))
 go_ret
 exact⟨oE,oB⟩
end Go.Proofs.YtlecajlnjmbilaaGreatDoor.P
