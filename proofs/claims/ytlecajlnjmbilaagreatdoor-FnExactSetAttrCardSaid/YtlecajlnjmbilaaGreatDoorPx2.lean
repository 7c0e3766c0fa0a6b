-- Printed walks.
import Derived.Test.YtlecajlnjmbilaaGreatDoorPx0
set_option linter.all false
set_option maxHeartbeats 8000000
set_option maxRecDepth 100000
namespace Go.Proofs.YtlecajlnjmbilaaGreatDoor.P
open Go.RowKit Go.Proofs.ab.aq Go.Proofs.ab.aM Go.Proofs.ab.aT Go.Proofs.Tryz
attribute [local go_sem] gn gp iF iG fC fD gq gr

/-- copy of elements of several cells. -/
theorem kK {P:Program}(w:World) (dT sT ty elem:TypeId) (b o dLen dCap:Nat) (a:Addr) (sLen sCap n:Nat) (cs:List Value)
  (hu:P.underlying dT=some (.slice elem)) (hs:(P.info? elem).map (·.size)=some 6) (hm:Nat.min sLen dLen=n) (hn:cs.length=n*6)
  (hsrc:∀j v,cs[j]? =some v→w.cell? (a.add j)=some v) (hc:∀j,j<cs.length→(w.cell? ⟨b,o+j,none⟩).isSome=true) (hf:∀j,j<cs.length→w.frozen? ⟨b,o+j,none⟩=false) (h1:∀v∈cs,v.oneCell'=true):
  (Builtin.copy_ #[dT,sT] ty #[.slice (some ⟨b,o,none⟩) dLen dCap,.slice (some a) sLen sCap]).run P w= .ok (goInt n) (w.setCells b o cs):=by
 have hl:=run_loadCells_list (P:=P) w a cs hsrc;have hst:=run_storeCells_cells (P:=P) b o cs 0 w (by simpa using hc) (by simpa using hf) h1
 cases hq:P.info? elem with
 |none=>simp[hq]at hs
 |some i=>
  have hi:i.size=6:=by simpa [hq]using hs
  simp[Builtin.copy_,run_underlying hu,Builtin.lenOf,Builtin.firstCells,sizeOf,typeInfo,hq,hi,hm,←hn,hl,hst]
theorem mh {P:Program}(w:World) {ops:Array Oper}{rest:List Oper}{o:Oper}{a:Act}{Q:Exit→Act→World→Prop}(hgd:o.guard=none) (d s:Operand) (t t':TypeId)
  (ho:o.op= .call {callee:= .builtin .copy,args:= #[d,s],argTypes:= #[t,t']}) (v u:Value) (hd:a.eval d=v) (hs:a.eval s=u) {v':Value}{w':World}
  (hr:(Builtin.copy_ #[t,t'] o.type #[v,u]).run P w= .ok v' w') (h:wpList P ops Q rest (a.put o.dst v') w'):wpList P ops Q (o::rest) a w:=
 wpList_plain hgd fun K hK=>by
  unfold Oper.wp execOp;simp only[ho,resolve,invoke,builtin,Sem.run_bind,Sem.run_pure,Result.andThen_ok,List.map_toArray,List.map_cons,List.map_nil,hd,hs,hr];exact hK _ _ h
theorem nE {P:Program}{ops:Array Oper}{o:Oper}{a:Act}{w:World}{K:Act→World→Prop}{Q:Exit→Act→World→Prop}{E:Prop}
  (hg:o.guard=none) (d x:Operand) (dT sT:TypeId) (hop:o.op=Op.call {callee:=Callee.builtin Builtin.copy,args:= #[d,x],argTypes:= #[dT,sT]})
  (v u:Value) (hd:a.eval d=v) (hx:a.eval x=u) {v':Value}{w':World}(hr:(Builtin.copy_ #[dT,sT] o.type #[v,u]).run P w= .ok v' w') (hK:K (a.put o.dst v') w'):
  if Region.wanted o (yielded ops a.tmps)=true then Oper.wp P o a w K Q else E:=by
 have hw:Region.wanted o (yielded ops a.tmps)=true:=by simp[Region.wanted,hg]
 rw[if_pos hw];unfold Oper.wp;simp[execOp,hop,resolve,invoke,builtin,hd,hx,hr,Result.andThen];exact hK
theorem rE.calls (g n c i vb:Nat) (cur:Array Value) (inner vs:List Value) (w:World) (hi:i<n) (hroom:n+1≤c) (hc63:c≤9223372036854775807) (hvb:vb≠g)
  (hb:w.heap[g]? =some (.cells cur 58 (0,0))) (hcs:cur.size=c*6) (hin:cur.toList.take (n*6)=inner) (hv:w.heap[vb]? =some (.cells vs.toArray 58 (0,0))) (hvl:vs.length=6)
  (h1c:∀u∈inner,u.oneCell'=true) (h1v:∀u∈vs,u.oneCell'=true):
  Calls Tryz.prog 102 #[.slice (some ⟨g,0,none⟩) n c,.int .i64 i,.slice (some ⟨vb,0,none⟩) 1 1] w fun e w'=>
   e= .returned (.slice (some ⟨g,0,none⟩) (n+1) c)∧w'=(w.drew.setCells g ((i+1)*6) (inner.drop (i*6))).setCells g (i*6) vs:=by
 have hu:=underlying26
 have mixed:Tryz.prog.follows .mixedOrders=true:=by kernel_rfl
 have b7:¬((1:Int)=0):=by omega
 have b8:¬((i:Int)=(n:Int)):=by omega
 have hsz:(Tryz.prog.info? 58).map (·.size)=some 6:=by kernel_rfl
 have hil:inner.length=n*6:=by rw[←hin,List.length_take,Array.length_toList];omega
 have hdl:(inner.drop (i*6)).length=(n-i)*6:=by rw[List.length_drop,hil];omega
 have hcur:∀j,w.cell? ⟨g,j,none⟩=cur[j]? :=fun j=>ao hb j
 have hcell:∀j u,inner[j]? =some u→w.cell? ⟨g,j,none⟩=some u:=fun j u hj=>by
  rw[hcur,←hj,←hin,List.getElem?_take];have:j<inner.length:=(List.getElem?_eq_some_iff.1 hj).1;rw[if_pos (by omega),Array.getElem?_toList]
 have hsp:∀j,j<(n+1)*6→(w.cell? ⟨g,j,none⟩).isSome=true:=fun j hj=>by rw[hcur,Array.getElem?_eq_getElem (by omega)];rfl
 have hfz:∀j,w.frozen? ⟨g,j,none⟩=false:=fun j=>aC hb j
 have hvc:∀j u,vs[j]? =some u→w.cell? ⟨vb,j,none⟩=some u:=fun j u hj=>by rw[ao hv j,List.getElem?_toArray,hj]
 have hov:∀lb cb,(callFunc 128 #[.slice (some ⟨vb,0,none⟩) 1 1,.slice (some ⟨g,(i+1)*6,none⟩) lb cb]).run Tryz.prog w= .ok (.value (.bool false)) w:=fun lb cb=>by
  rw[run_callFunc_extern func128 (by kernel_rfl) (by kernel_rfl) (by kernel_rfl) (e:=Extern.SlicesOverlaps.overlaps #[26,26] #[4]) (by kernel_rfl),
   Lib.run_overlaps_apart w 26 4 58 underlying26 6 Tryz.sizeOf58 ⟨vb,0,none⟩ ⟨g,(i+1)*6,none⟩ 1 1 lb cb hvb 58 58 vs.length cur.size (by simp[World.shape?,hv]) (by simp[World.shape?,hb]) (by omega) (aC hv 0) (aC hv _)]
  rfl
 have b9:IntKind.i64.wrap ((i:Int)+(1:Int))=(i:Int)+(1:Int):=by rw[IntKind.wrap_i64];omega
 have bB:IntKind.i64.wrap ((n:Int)+(1:Int))=(n:Int)+(1:Int):=by rw[IntKind.wrap_i64];omega
 have bC:(0:Int)≤(i:Int)+(1:Int):=by omega
 have hin':i≤n:=by omega
 have htn:((i:Int)+(1:Int)).toNat=i+1:=by omega
 have b6:((n:Int)+(1:Int)).toNat=n+1:=by omega
 have bD:¬(c=i+1):=by omega
 have bE:(i:Int)≤(n:Int)+(1:Int):=by omega
 have bF:¬(c=i):=by omega
 have b2:∀ty dl dc sl sc,dl=n-i→sl=n+1-i→(Builtin.copy_ #[26,26] ty #[.slice (some ⟨g,(i+1)*6,none⟩) dl dc,.slice (some ⟨g,i*6,none⟩) sl sc]).run Tryz.prog w.drew= .ok (goInt ((n-i:Nat):Int)) (w.drew.setCells g ((i+1)*6) (inner.drop (i*6))):=fun ty dl dc sl sc adw aaL=>
  kK w.drew _ _ ty 58 g ((i+1)*6) dl dc ⟨g,i*6,none⟩ sl sc (n-i) (inner.drop (i*6)) underlying26 hsz (by simp only[Nat.min_def];split<;>omega) hdl
   (fun j v hj=>by rw[Addr.add_lit];exact hcell (i*6+j) v (by rwa [List.getElem?_drop]at hj))
   (fun j hj=>hsp _ (by omega)) (fun j hj=>hfz _) (fun v hv=>h1c v (List.mem_of_mem_drop hv))
 obtain⟨W1,b1⟩:∃W1,W1=w.drew.setCells g ((i+1)*6) (inner.drop (i*6)):=⟨_,rfl⟩;obtain⟨b3,b4,bG,_⟩:=er (inner.drop (i*6)) ((i+1)*6) w.drew cur hb (by omega)
 have b5:∀(W:World),W.heap=W1.heap→∀ty dc,(Builtin.copy_ #[26,26] ty #[.slice (some ⟨g,i*6,none⟩) (n+1-i) dc,.slice (some ⟨vb,0,none⟩) 1 1]).run Tryz.prog W= .ok (goInt 1) (W.setCells g (i*6) vs):=fun W hWh ty dc=>
  kK W _ _ ty 58 g (i*6) (n+1-i) dc ⟨vb,0,none⟩ 1 1 1 vs underlying26 hsz (by simp only[Nat.min_def];split<;>omega) (by omega)
   (fun j v hj=>by
    rw[Addr.add_lit,Nat.zero_add];rw[show W.cell? ⟨vb,j,none⟩=w.cell? ⟨vb,j,none⟩from by rw[ao (w:=W) (g:=vb) (cs:=vs.toArray) (t:=58) (by rw[hWh,b1,eN _ _ _ hvb];exact hv) j,ao hv j]]
    exact hvc j v hj)
   (fun j hj=>by rw[ao (w:=W) (g:=g) (cs:=b3) (t:=58) (by rw[hWh,b1];exact b4),Array.getElem?_eq_getElem (by omega)];rfl) (fun j hj=>aC (w:=W) (g:=g) (cs:=b3) (t:=58) (by rw[hWh,b1];exact b4) _) h1v
 rw[←b1]at b2
 go_enter func102,ntmps102
 go_wp2_with (simp only[hov])
 go_region_law_o (refine nE rfl _ _ 26 26 rfl (.slice (some ⟨g,(i+1)*6,none⟩) (n+1-(i+1)) (c-(i+1))) (.slice (some ⟨g,i*6,none⟩) (n+1-i) (c-i)) (by simp[Act.eval,Act.put]) (by simp[Act.eval,Act.put]) (b2 _ _ _ _ _ (by omega) (by omega)) ?_)
 go_wp2_with (at_builtin;refine mh _ rfl _ _ 26 26 rfl _ _ rfl rfl (b5 _ rfl _ _) ?_)
 go_ret
 first|exact⟨rfl,rfl⟩|exact⟨rfl,by rw[b1]⟩
theorem qh:(Tryz.prog.info? 58).map (fun i=>(i.zero,i.size,i.bytes))=some (some (Value.agg #[.int .i64 0,.int .i64 0,.int .i64 0,.slice none 0 0,.slice none 0 0,.slice none 0 0]),6,96):=by kernel_rfl
theorem aaM (w:World) (vb:Nat) (vs:List Value) (hv:w.heap[vb]? =some (.cells vs.toArray 58 (0,0))) (hvl:vs.length=6) (h1v:∀u∈vs,u.oneCell'=true):fb ((Kd.raw 6).K w) 6 w (some ⟨vb,0,none⟩) 1 [vs]:=by
 refine⟨rfl,by decide,fun _=>⟨⟨vb,0,none⟩,rfl,fun j p hj=> ?_⟩⟩
 cases j with
 |zero=>
  obtain rfl:vs=p:=by simpa using hj
  refine⟨vs,hvl,⟨rfl,hvl,h1v⟩,fun i u hu=> ?_⟩;rw[Nat.zero_mul,Nat.zero_add,Addr.add_lit,Nat.zero_add,ao hv i,List.getElem?_toArray,hu]
 |succ j=>simp at hj
theorem tI.calls (A:Option Addr) (n c vb base:Nat) (rows:List (List Value)) (vs:List Value) (w0 w:World) (hn:rows.length=n)
  (hr:(Kd.raw 6).R 58 w base (fun k=>some k=(Value.slice A n c).ownBlock∨w.heap.size≤k) (.slice A n c) rows) (hv:w.heap[vb]? =some (.cells vs.toArray 58 (0,0))) (hvl:vs.length=6) (h1v:∀u∈vs,u.oneCell'=true)
  (hB:Below base w0 w) (hbase:base≤w.heap.size) (hbig:(n+1)*96≤140737488355328):
  Calls Tryz.prog 102 #[.slice A n c,.int .i64 n,.slice (some ⟨vb,0,none⟩) 1 1] w fun e w'=>∃v',e= .returned v'∧(Kd.raw 6).R 58 w' base (fun k=>some k=(Value.slice A n c).ownBlock∨w.heap.size≤k) v' (rows++[vs])∧
   Below base w0 w'∧w.grownBy w' (Value.slice A n c).ownBlock∧(v'.ownBlock=(Value.slice A n c).ownBlock∨∃b,v'.ownBlock=some b∧w.heap.size≤b):=by
 have hu:=underlying26
 have b1:¬((1:Int)=0):=by omega
 have ho:=aaM w vb vs hv hvl h1v;have hr':=hr;obtain⟨hok,inner,hown,hrep⟩:=hr'
 go_enter func102,ntmps102
 rcases A with _|ad
 ·obtain⟨rfl,rfl⟩:n=0∧c=0:=by
   rcases hown.2 with⟨h1,h2⟩|⟨g',cap',cur,h1,_⟩
   ·injection h1 with _ a b;exact⟨a,b⟩
   ·cases h1
  go_wp2_with (at_builtin;refine Kd.eW (Kd.raw 6) (Rr:=(Kd.raw 6).K w) (w0:=w0) base rfl _ _ 26 58 (Value.agg #[.int .i64 0,.int .i64 0,.int .i64 0,.slice none 0 0,.slice none 0 0,.slice none 0 0]) 96 rfl hu qh rfl (by decide) (by decide) _ rows [vs] (some ⟨vb,0,none⟩) 1 1 _ (fun _=>False) rfl rfl hr ho (fun x cs h=>h) (fun _ h=>h.elim) (fun k hk=> .inr hk) hB hbase (by omega) ?_;intro v1 w1 h1 h2 h3 h4)
  go_ret
  exact⟨_,rfl,h1,h2,h3,h4⟩
 ·obtain⟨g,rfl⟩:=Kd.vZ hr;have hnc:n≤c:=(Kd.aH hr).2.1
  go_wp2_with (at_builtin;refine Kd.eW (Kd.raw 6) (Rr:=(Kd.raw 6).K w) (w0:=w0) base rfl _ _ 26 58 (Value.agg #[.int .i64 0,.int .i64 0,.int .i64 0,.slice none 0 0,.slice none 0 0,.slice none 0 0]) 96 rfl hu qh rfl (by decide) (by decide) _ rows [vs] (some ⟨vb,0,none⟩) 1 1 _ (fun _=>False) rfl rfl hr ho (fun x cs h=>h) (fun _ h=>h.elim) (fun k hk=> .inr hk) hB hbase (by omega) ?_;intro v1 w1 h1 h2 h3 h4)
  all_goals(go_ret;exact⟨_,rfl,h1,h2,h3,h4⟩)
theorem sr.calls (g n c i vb:Nat) (cur:Array Value) (inner vs:List Value) (w:World) (hi:i<n) (hnc:n≤c) (hroom:c<n+1) (hbig:(n+1)*96≤140737488355328)
  (hb:w.heap[g]? =some (.cells cur 58 (0,0))) (hcs:cur.size=c*6) (hin:cur.toList.take (n*6)=inner) (hv:w.heap[vb]? =some (.cells vs.toArray 58 (0,0))) (hvl:vs.length=6)
  (h1c:∀u∈inner,u.oneCell'=true) (h1v:∀u∈vs,u.oneCell'=true):
  Calls Tryz.prog 102 #[.slice (some ⟨g,0,none⟩) n c,.int .i64 i,.slice (some ⟨vb,0,none⟩) 1 1] w fun e w'=>∃(G:Nat) (ROW:Array Value),n+1≤G∧G≤9223372036854775807∧ROW.size=G*6∧ROW.toList.take (i*6)=inner.take (i*6)∧
   e= .returned (.slice (some ⟨w.heap.size,0,none⟩) (n+1) G)∧w'=(((w.alloc (.cells ROW 58)).drew.setCells w.heap.size (i*6) vs).drew).setCells w.heap.size ((i+1)*6) (inner.drop (i*6)):=by
 have hu:=underlying26
 have mixed:Tryz.prog.follows .mixedOrders=true:=by kernel_rfl
 obtain⟨i0,b3,b5,hzs,hzb⟩:=info_parts qh
 have hsz:(Tryz.prog.info? 58).map (·.size)=some 6:=by rw[b3];simp[hzs]
 have b7:¬((1:Int)=0):=by omega
 have b8:¬((i:Int)=(n:Int)):=by omega
 have b9:(c:Int)<(n:Int)+(1:Int):=by omega
 have hil:inner.length=n*6:=by rw[←hin,List.length_take,Array.length_toList];omega
 have hdl:(inner.drop (i*6)).length=(n-i)*6:=by rw[List.length_drop,hil];omega
 have hgw:g<w.heap.size:=ie hb;have hvw:vb<w.heap.size:=ie hv
 have hcell:∀j u,inner[j]? =some u→w.cell? ⟨g,j,none⟩=some u:=fun j u hj=>by
  rw[ao hb j,←hj,←hin,List.getElem?_take];have:j<inner.length:=(List.getElem?_eq_some_iff.1 hj).1;rw[if_pos (by omega),Array.getElem?_toList]
 have hvc:∀j u,vs[j]? =some u→w.cell? ⟨vb,j,none⟩=some u:=fun j u hj=>by rw[ao hv j,List.getElem?_toArray,hj]
 have hkk:(n:Int)+(1:Int)-(i:Int)=((n+1-i:Nat):Int):=by omega
 have hik:i+(n+1-i)=n+1:=by omega
 have hold:(Builtin.firstCells i0.size i (.slice (some ⟨g,0,none⟩) i c)).run Tryz.prog w.drew= .ok (inner.take (i*6)).toArray w.drew:=by
  rw[hzs]
  exact run_firstCells_some w.drew 6 i ⟨g,0,none⟩ i c (inner.take (i*6)) (by rw[List.length_take];omega) (fun j v hj=>by
   rw[Addr.add_lit,Nat.zero_add];rw[List.getElem?_take]at hj
   split at hj
   ·exact hcell j v hj
   ·cases hj)
 have hrz:∀ty,(Builtin.append_ #[26,3] ty #[.slice (some ⟨g,0,none⟩) i c,.int .i64 ((n:Int)+(1:Int)-(i:Int))]).run Tryz.prog w=
   .ok (.slice (some ⟨w.heap.size,0,none⟩) (n+1) (grownCap w (n+1) c 58)) (w.drew.alloc (.cells ((inner.take (i*6)).toArray++Builtin.zeroCells (Value.agg #[.int .i64 0,.int .i64 0,.int .i64 0,.slice none 0 0,.slice none 0 0,.slice none 0 0]).cells (n+1-i)++Builtin.zeroCells (Value.agg #[.int .i64 0,.int .i64 0,.int .i64 0,.slice none 0 0,.slice none 0 0,.slice none 0 0]).cells (grownCap w (n+1) c 58-(n+1))) 58)):=fun ty=>by
  have h:=Lib.run_append_grow_zeros w 26 3 ty 58 i0 _ .i64 .i64 hu underlying3 b3 b5 (some ⟨g,0,none⟩) i c (inner.take (i*6)) hold (n+1-i) (by omega) (by omega) (by omega) (by omega) (by rw[hzb];omega) (by rw[hzb,hik];exact growslice_fits hroom hbig);rw[hik]at h;rw[hkk];exact h
 obtain⟨G,hG⟩:∃G,G=grownCap w (n+1) c 58:=⟨_,rfl⟩
 have hGn:n+1≤G:=by rw[hG];exact grownCap_ge w _ _ _
 have b4:G≤9223372036854775807:=by
  have:=grownCap_le_maxLen w (n+1) c 58 (by unfold maxLen;omega);rw[←hG]at this;unfold maxLen at this
  omega
 obtain⟨ROW,hROW⟩:∃ROW:Array Value,ROW=(inner.take (i*6)).toArray++Builtin.zeroCells (Value.agg #[.int .i64 0,.int .i64 0,.int .i64 0,.slice none 0 0,.slice none 0 0,.slice none 0 0]).cells (n+1-i)++Builtin.zeroCells (Value.agg #[.int .i64 0,.int .i64 0,.int .i64 0,.slice none 0 0,.slice none 0 0,.slice none 0 0]).cells (G-(n+1)):=⟨_,rfl⟩;rw[←hG]at hrz;rw[←hROW]at hrz;have hzc:(Value.agg #[.int .i64 0,.int .i64 0,.int .i64 0,.slice none 0 0,.slice none 0 0,.slice none 0 0]).cells.size=6:=rfl
 have hRl:ROW.size=G*6:=by
  rw[hROW];simp only[Array.size_append,List.size_toArray,List.length_take,Builtin.zeroCells,Array.size_map,Array.size_range,hzc]
  omega
 have hRt:ROW.toList.take (i*6)=inner.take (i*6):=by
  rw[hROW,Array.toList_append,Array.toList_append,List.append_assoc,List.take_append_of_le_length (by rw[List.length_take];omega),List.take_of_length_le (by rw[List.length_take];omega)]
 have hblk:∀W:World,W.heap=(w.drew.alloc (.cells ROW 58)).heap→W.heap[w.heap.size]? =some (.cells ROW 58 (0,0)):=fun W h=>by rw[h];exact iZ w.drew _
 have hcpA:∀(W:World),W.heap=(w.drew.alloc (.cells ROW 58)).heap→∀ty dc,(Builtin.copy_ #[26,26] ty #[.slice (some ⟨w.heap.size,i*6,none⟩) (n+1-i) dc,.slice (some ⟨vb,0,none⟩) 1 1]).run Tryz.prog W= .ok (goInt 1) (W.setCells w.heap.size (i*6) vs):=fun W hWh ty dc=>
  kK W _ _ ty 58 w.heap.size (i*6) (n+1-i) dc ⟨vb,0,none⟩ 1 1 1 vs hu hsz (by simp only[Nat.min_def];split<;>omega) (by omega)
   (fun j v hj=>by
    rw[Addr.add_lit,Nat.zero_add,ao (w:=W) (g:=vb) (cs:=vs.toArray) (t:=58) (by rw[hWh];exact aG (ar hv) _) j,List.getElem?_toArray,hj])
   (fun j hj=>by rw[ao (hblk W hWh),Array.getElem?_eq_getElem (by omega)];rfl) (fun j hj=>aC (hblk W hWh) _) h1v
 obtain⟨b1,b2,b6,_⟩:=er vs (i*6) (w.drew.alloc (.cells ROW 58)) ROW (iZ w.drew _) (by omega)
 have hcpB:∀(W:World),W.heap=((w.drew.alloc (.cells ROW 58)).setCells w.heap.size (i*6) vs).heap→∀ty dl dc sl sc,dl=n-i→sl=n-i→(Builtin.copy_ #[26,26] ty #[.slice (some ⟨w.heap.size,(i+1)*6,none⟩) dl dc,.slice (some ⟨g,i*6,none⟩) sl sc]).run Tryz.prog W= .ok (goInt ((n-i:Nat):Int)) (W.setCells w.heap.size ((i+1)*6) (inner.drop (i*6))):=fun W hWh ty dl dc sl sc adw aaL=>
  kK W _ _ ty 58 w.heap.size ((i+1)*6) dl dc ⟨g,i*6,none⟩ sl sc (n-i) (inner.drop (i*6)) hu hsz (by simp only[Nat.min_def];split<;>omega) hdl
   (fun j v hj=>by
    rw[Addr.add_lit];have h2:=hcell (i*6+j) v (by rwa [List.getElem?_drop]at hj);rw[ao hb]at h2;rw[ao (w:=W) (g:=g) (cs:=cur) (t:=58) (by rw[hWh,eN _ _ _ (by omega)];exact aG (ar hb) _)]
    exact h2)
   (fun j hj=>by rw[ao (w:=W) (g:=w.heap.size) (cs:=b1) (t:=58) (by rw[hWh];exact b2),Array.getElem?_eq_getElem (by omega)];rfl) (fun j hj=>aC (w:=W) (g:=w.heap.size) (cs:=b1) (t:=58) (by rw[hWh];exact b2) _) (fun v hv=>h1c v (List.mem_of_mem_drop hv))
 have hGi:¬(G=i):=by omega
 have hGim:¬(G=i+1):=by omega
 have hci:¬(c=i):=by omega
 have bB:IntKind.i64.wrap ((i:Int)+(1:Int))=(i:Int)+(1:Int):=by rw[IntKind.wrap_i64];omega
 have bC:IntKind.i64.wrap ((n:Int)+(1:Int))=(n:Int)+(1:Int):=by rw[IntKind.wrap_i64];omega
 have bD:IntKind.i64.wrap ((n:Int)+(1:Int)-(i:Int))=(n:Int)+(1:Int)-(i:Int):=by rw[IntKind.wrap_i64];omega
 have bE:(0:Int)≤(i:Int)+(1:Int):=by omega
 have hin':i≤n:=by omega
 have htn:((i:Int)+(1:Int)).toNat=i+1:=by omega
 have bF:(i:Int)≤(n:Int):=by omega
 clear hkk hik hold hROW hG hblk b2 b6
 go_enter func102,ntmps102
 go_wp2_with (first
  |(at_builtin;refine Lib.wpList_append_run _ rfl _ _ _ _ rfl _ _ rfl rfl _ _ (hrz _) ?_)
  |(refine mh _ rfl _ _ 26 26 rfl _ _ rfl rfl (hcpA _ rfl _ _) ?_))
 go_region_law_o (refine nE rfl _ _ 26 26 rfl (.slice (some ⟨w.heap.size,(i+1)*6,none⟩) (n+1-(i+1)) (G-(i+1))) (.slice (some ⟨g,i*6,none⟩) (n-i) (c-i)) (by simp[Act.eval,Act.put]) (by simp[Act.eval,Act.put]) (hcpB ((((w.alloc (.cells ROW 58)).drew).setCells w.heap.size (i*6) vs).drew) (by rfl) _ _ _ _ _ (by omega) (by omega)) ?_)
 go_wp2
 go_ret
 exact⟨G,ROW,hGn,b4,hRl,hRt,rfl,rfl⟩
/-- slices.Insert of one element: the row with it. -/
theorem uN.calls (A:Option Addr) (n c i vb base:Nat) (ok:Nat→Prop) (rows:List (List Value)) (vs:List Value) (w0 w:World) (hi:i≤n) (hn:rows.length=n) (hr:(Kd.raw 6).R 58 w base ok (.slice A n c) rows)
  (hv:w.heap[vb]? =some (.cells vs.toArray 58 (0,0))) (hvb:some vb≠(Value.slice A n c).ownBlock) (hvl:vs.length=6) (h1v:∀u∈vs,u.oneCell'=true) (hB:Below base w0 w) (hbase:base≤w.heap.size) (hbig:(n+1)*96≤140737488355328):
  Calls Tryz.prog 102 #[.slice A n c,.int .i64 i,.slice (some ⟨vb,0,none⟩) 1 1] w fun e w'=>∃v',e= .returned v'∧(Kd.raw 6).R 58 w' base (fun k=>some k=(Value.slice A n c).ownBlock∨w.heap.size≤k) v' (rows.take i++[vs]++rows.drop i)∧
   Below base w0 w'∧w.grownBy w' (Value.slice A n c).ownBlock∧(v'.ownBlock=(Value.slice A n c).ownBlock∨∃b,v'.ownBlock=some b∧w.heap.size≤b):=by
 have hr':(Kd.raw 6).R 58 w base (fun k=>some k=(Value.slice A n c).ownBlock∨w.heap.size≤k) (.slice A n c) rows:=⟨fun k hk=> .inl hk.symm,hr.2⟩;rcases Nat.lt_or_ge i n with hlt|hge
 case inr=>
  obtain rfl:i=n:=by omega
  rw[List.take_of_length_le (by omega),List.drop_of_length_le (by omega),List.append_nil];exact tI.calls A i c vb base rows vs w0 w hn hr' hv hvl h1v hB hbase hbig
 case inl=>
 obtain⟨hok,inner,⟨hil,hown⟩,hrep⟩:=hr';rcases hown with⟨he,h0⟩|⟨g,cap,cur,he,hbg,hh,hnc,hcm,hcs,hin⟩
 ·omega
 injection he with ha hnn hcc;subst ha;subst hcc;subst hnn;rw[show(Kd.raw 6).sz=6 from rfl]at hil hcs hin hrep;have b2:∀u∈inner,u.oneCell'=true:=Kd.uG hrep (by decide) (fun p c h=>h.2.2);have hrI:=uy (i:=i) hrep (by omega) hvl h1v
 have hgv:vb≠g:=fun he=>hvb (by rw[he];rfl)
 have hpl:i*6≤inner.length:=by rw[hil];omega
 have b1:(rows.take i++[vs]++rows.drop i).length=rows.length+1:=by simp only[List.length_append,List.length_take,List.length_drop,List.length_singleton];omega
 rcases Nat.lt_or_ge c (rows.length+1)with hg|hroom
 ·refine(sr.calls g rows.length c i vb cur inner vs w hlt hnc hg hbig hh hcs hin hv hvl b2 h1v).mono ?_;rintro e w' ⟨G,ROW,hGn,b3,hRl,hRt,rfl,rfl⟩;refine⟨_,rfl,?_,?_,kt w _ _ _ _ _ _,.inr ⟨_,rfl,Nat.le_refl _⟩⟩
  ·obtain⟨c1,k1,k2,k3⟩:=er (e:=58) vs (i*6) (w.alloc (.cells ROW 58)).drew ROW (ar (iZ w _)) (by omega);obtain⟨c2,l1,l2,l3⟩:=er (inner.drop (i*6)) ((i+1)*6) _ c1 (ar k1) (by rw[List.length_drop,k2,hil,hRl];omega);have hm:G≤maxLen:=b3;rw[b1.symm];refine qP l1 (by rw[l2,k2,hRl]) (by omega) hm (by omega) (.inr (Nat.le_refl _)) rfl ?_;rw[l3];have:=sF ROW.toList inner vs (i*6) 6 hvl hpl hRt c1.toList (by rw[Array.length_toList];omega) k3;rw[show(i+1)*6=i*6+6 by omega,show(rows.take i++[vs]++rows.drop i).length*6=inner.length+6 by rw[b1,hil];omega,this];exact hrI
  ·exact hB.grown (kt w _ _ _ _ _ none) hbase (fun k e=>by cases e)
 ·refine(rE.calls g rows.length c i vb cur inner vs w hlt hroom (by unfold maxLen at hcm;omega) hgv hh hcs hin hv hvl b2 h1v).mono ?_;rintro e w' ⟨rfl,rfl⟩;refine⟨_,rfl,?_,?_,ot w g _ _ _ _,.inl rfl⟩
  ·obtain⟨c1,k1,k2,k3⟩:=er (inner.drop (i*6)) ((i+1)*6) w.drew cur (ar hh) (by rw[List.length_drop,hil,hcs];omega);obtain⟨c2,l1,l2,l3⟩:=er vs (i*6) _ c1 k1 (by rw[k2,hcs];omega);rw[b1.symm];refine qP l1 (by rw[l2,k2,hcs]) (by omega) hcm hbg (.inl rfl) rfl ?_;rw[l3];have:=ux cur.toList inner vs (i*6) 6 hvl hpl (by rw[←hin,List.take_take,Nat.min_eq_left (by omega)]) (by rw[Array.length_toList,hcs];omega) c1.toList (by rw[k3,show(i+1)*6=i*6+6 by omega]);rw[show(rows.take i++[vs]++rows.drop i).length*6=inner.length+6 by rw[b1,hil];omega,this];exact hrI
  ·exact hB.grown (ot w g _ _ _ _) hbase (fun k e=>by injection e with e;omega)
def eT.l0:Nat→ByteArray→Int→Int→Int→Int→List Int→List (ey)→List (ct)→Option (Int)
 |0,_,_,_,_,_,_,_,_=>none
 |k+1,x1,x5,b2,b3,b4,b5,b1,b6=>if x5<(b1.length:Int)then(if 0≤x5 then(if((al b1 x5).f0).toList=x1.toList then(some ((al b1 x5).f1))else(eT.l0 k x1 (wrap64 (x5+1)) b2 b3 b4 b5 b1 b6))else(none))else(some 0)
def eT.f (k:Nat) (br:Int) (aj:Int) (cJ:Int) (cr:List Int) (aK:List (ey)) (cw:List (ct)) (a1:ByteArray):Option (Int):=eT.l0 k a1 0 br aj cJ cr aK cw
theorem eT.calls (k:Nat) (br:Int) (aj:Int) (cJ:Int) (fY:Option Addr) (fZ:Nat) (cr:List Int) (fQ:Option Addr) (fR:Nat) (aK:List (ey)) (fJ:Option Addr) (fK:Nat) (cw:List (ct)) (a1:ByteArray) (r:Int) (w:World) (iP:Kd.C (Kd.int .u8) w fY cr.length cr) (iQ:cr.length≤fZ) (iR:Kd.C jc w fQ aK.length aK) (iS:aK.length≤fR) (iT:Kd.C fa w fJ cw.length cw) (iU:cw.length≤fK) (h:eT.f k br aj cJ cr aK cw a1=some r):
  Calls Tryz.prog 98 #[.agg #[.int .i64 br,.int .i64 aj,.int .i64 cJ,.slice fY cr.length fZ,.slice fQ aK.length fR,.slice fJ cw.length fK],.string a1] w fun e w'=>e= .returned (.int .i64 r)∧Below w.heap.size w w':=by
 have bQ:=underlying58;have bK:=ae.mk iP;have bL:=ae.mk iQ;clear iP iQ;have b5:=ae.mk iR;have bM:=ae.mk iS;clear iR iS;have bN:=ae.mk iT;have bO:=ae.mk iU;clear iT iU;have HB:=am (Below.refl w.heap.size w);unfold eT.f at h;have H:=h;clear h;have H':=ae.mk H;clear H
 go_enter func98,ntmps98
 go_wp2_with (first|((with_reducible refine ai (N:=2) rfl ?_);refine eh 2 #[.int .i64 br,.int .i64 aj,.int .i64 cJ,.slice fY cr.length fZ,.slice fQ aK.length fR,.slice fJ cw.length fK] 58 ?_;intro bB hg w3 hbox hb;have b2:=am (hbox);have bP:=eg hg;replace HB:=hB HB hb;clear hb hbox hg))
 go_loopg [5] k (fun kq v5 w'=>∃(b1:Int),v5= .int .i64 b1∧ae (eT.l0 kq a1 b1 br aj cJ cr aK cw=some r)∧ae (kq≤k)∧ae (w'.heap[bB]? =some (.cells #[.int .i64 br,.int .i64 aj,.int .i64 cJ,(.slice fY cr.length fZ),(.slice fQ aK.length fR),(.slice fJ cw.length fK)] 58 (0,0)))∧ae (Below w.heap.size w w'))
 case atStart=>exact⟨(0),oS,H',⟨Nat.le_refl _⟩,⟨oF b2⟩,⟨oB⟩⟩
 case round=>
  clear H';obtain⟨b1,rfl,HA,bD,b2,HB⟩:=hrel
  cases gk with
  |zero=>exact absurd HA.out (by simp[eT.l0])
  |succ k1=>
   have H:=HA.out;clear HA;simp only[eT.l0]at H;replace H:=iM H;rcases H with⟨bE,H⟩|⟨bE,H⟩;rotate_left
   ·obtain rfl:=Option.some.inj H;obtain⟨⟨_,_,_,_,_,_⟩,_,_,_,_,_,_⟩:=z6 b2
    go_wp2
    go_ret
    exact⟨oE,oB⟩
   obtain⟨bR,H⟩:=cO H
   by_cases c6:((al aK b1).f0).toList=a1.toList
   rotate_left
   ·rw[if_neg c6]at H;have bF:(((al aK b1).f0).toList==a1.toList)=false:=beq_eq_false_iff_ne.mpr c6;have bG:(((al aK b1).f0).toList !=a1.toList)=true:=bne_iff_ne.mpr c6;have H':=ae.mk H;clear H;obtain⟨⟨_,_,_,_,_,_⟩,_,_,_,_,_,_⟩:=z6 b2;have bH:(0≤(b1:Int))=True:=oT;have bI:(b1<(aK.length:Int))=True:=oT;obtain⟨b7,b6,b8,b9⟩:=ky b5 HB b1 oa oa
    cases b6
    go_wp2
    go_roundg k1
    case measure=>have:=bD.out;omega
    case rel=>exact⟨(wrap64 (b1+1)),oS,H',⟨by have:=bD.out;omega⟩,⟨oF b2⟩,⟨oB⟩⟩
   rw[if_pos c6]at H;have bF:(((al aK b1).f0).toList==a1.toList)=true:=beq_iff_eq.mpr c6;have bG:(((al aK b1).f0).toList !=a1.toList)=false:=bne_eq_false_iff_eq.mpr c6;clear c6;obtain rfl:=Option.some.inj H;obtain⟨⟨_,_,_,_,_,_⟩,_,_,_,_,_,_⟩:=z6 b2;have bH:(0≤(b1:Int))=True:=oT;have bI:(b1<(aK.length:Int))=True:=oT;obtain⟨b7,b6,b8,b9⟩:=ky b5 HB b1 oa oa
   cases b6
   have bS:(0≤(b1:Int))=True:=oT;have bT:(b1<(aK.length:Int))=True:=oT;obtain⟨bC,bJ,b3,b4⟩:=dd b5.out b1 oa oa;obtain rfl:b7=bC:=(by injection bJ);replace b3:=cB HB b3;replace b4:=cB HB b4
   go_wp2
   go_ret
   exact⟨oE,oB⟩

def dq.l0:Nat→List Int→List Int→Int→Option (Bool)
 |0,_,_,_=>none
 |k+1,x0,x1,x5=>if x5<(x0.length:Int)then(if 0≤x5 then(if x5<(x1.length:Int)then(if(rd x0 x5)=(rd x1 x5)then(dq.l0 k x0 x1 (wrap64 (x5+1)))else(some false))else(none))else(none))else(some true)
def dq.f (k:Nat) (l0:List Int) (l1:List Int):Option (Bool):=if(l0.length:Int)=(l1.length:Int)then(dq.l0 k l0 l1 0)else(some false)
theorem dq.calls (k:Nat) (A0:Option Addr) (c0:Nat) (l0:List Int) (A1:Option Addr) (c1:Nat) (l1:List Int) (r:Bool) (w:World) (hr0:Kd.C (Kd.int .u8) w A0 l0.length l0) (hc0:l0.length≤c0) (hr1:Kd.C (Kd.int .u8) w A1 l1.length l1) (hc1:l1.length≤c1) (h:dq.f k l0 l1=some r):
  Calls Tryz.prog 26 #[.slice A0 l0.length c0,.slice A1 l1.length c1] w fun e w'=>e= .returned (.bool r)∧fv w w':=by
 have b8:=ae.mk hr0;have bO:=ae.mk hc0;clear hr0 hc0;have b9:=ae.mk hr1;have bP:=ae.mk hc1;clear hr1 hc1;unfold dq.f at h;have H:=h;clear h
 by_cases c3:(l0.length:Int)=(l1.length:Int)
 rotate_left
 ·rw[if_neg c3]at H;have bC:((l0.length:Int)==(l1.length:Int))=false:=beq_eq_false_iff_ne.mpr c3;have bD:((l0.length:Int) !=(l1.length:Int))=true:=bne_iff_ne.mpr c3
  have bE:(l0.length==l1.length)=false:=by first|simpa using c3|(simp at c3⊢;omega)
  obtain rfl:=Option.some.inj H
  go_enter func26,ntmps26
  go_wp2
  repeat(go_quiet (fail);try go_wp2)
  go_ret
  exact⟨oS,oD⟩
 rw[if_pos c3]at H;have bC:((l0.length:Int)==(l1.length:Int))=true:=beq_iff_eq.mpr c3;have bD:((l0.length:Int) !=(l1.length:Int))=false:=bne_eq_false_iff_eq.mpr c3
 have bE:(l0.length==l1.length)=true:=by first|simpa using c3|(simp at c3⊢;omega)
 clear c3;have H':=ae.mk H;clear H
 go_enter func26,ntmps26
 go_wp2
 repeat(go_quiet (fail);try go_wp2)
 go_loopg [5] k (fun kq v5 w'=>∃(b1:Int),v5= .int .i64 b1∧ae (dq.l0 kq l0 l1 b1=some r)∧ae (kq≤k)∧fv w w')
 case atStart=>exact⟨(0),oS,H',⟨Nat.le_refl _⟩,oD⟩
 case round=>
  clear H'
  try clear c1
  try clear c3
  obtain⟨b1,rfl,HA,bB,⟨m1,rfl⟩⟩:=hrel
  cases gk with
  |zero=>exact absurd HA.out (by simp[dq.l0])
  |succ k1=>
   have H:=HA.out;clear HA;simp only[dq.l0]at H;replace H:=iM H;rcases H with⟨bF,H⟩|⟨bF,H⟩;rotate_left
   ·obtain rfl:=Option.some.inj H
    go_wp2
    repeat(go_quiet (fail);try go_wp2)
    go_ret
    exact⟨oS,oD⟩
   obtain⟨bM,H⟩:=cO H;obtain⟨bN,H⟩:=cO H
   by_cases c7:(rd l0 b1)=(rd l1 b1)
   rotate_left
   ·rw[if_neg c7]at H;have bG:((rd l0 b1)==(rd l1 b1))=false:=beq_eq_false_iff_ne.mpr c7;have bH:((rd l0 b1) !=(rd l1 b1))=true:=bne_iff_ne.mpr c7;obtain rfl:=Option.some.inj H;have bI:(0≤(b1:Int))=True:=oT;have bJ:(b1<(l0.length:Int))=True:=oT;obtain⟨b6,b2,b4⟩:=Kd.kf b8.out b1 oa oa
    cases b2
    have bK:(0≤(b1:Int))=True:=oT;have bL:(b1<(l1.length:Int))=True:=oT;obtain⟨b7,b3,b5⟩:=Kd.kf b9.out b1 oa oa
    cases b3
    go_wp2
    repeat(go_quiet (fail);try go_wp2)
    go_ret
    exact⟨oS,oD⟩
   rw[if_pos c7]at H;have bG:((rd l0 b1)==(rd l1 b1))=true:=beq_iff_eq.mpr c7;have bH:((rd l0 b1) !=(rd l1 b1))=false:=bne_eq_false_iff_eq.mpr c7;clear c7;have H':=ae.mk H;clear H;have bI:(0≤(b1:Int))=True:=oT;have bJ:(b1<(l0.length:Int))=True:=oT;obtain⟨b6,b2,b4⟩:=Kd.kf b8.out b1 oa oa
   cases b2
   have bK:(0≤(b1:Int))=True:=oT;have bL:(b1<(l1.length:Int))=True:=oT;obtain⟨b7,b3,b5⟩:=Kd.kf b9.out b1 oa oa
   cases b3
   go_wp2
   repeat(go_quiet (fail);try go_wp2)
   go_roundg k1
   case measure=>have:=bB.out;omega
   case rel=>exact⟨(wrap64 (b1+1)),oS,H',⟨by have:=bB.out;omega⟩,oD⟩

def cG.l0:Nat→Int→Int→List (bm)→Int→Option (Int)
 |0,_,_,_,_=>none
 |k+1,x1,x5,b1,b2=>if x5<(b1.length:Int)then(if 0≤x5 then(if((af b1 x5).f0)=x1 then(some x5)else(cG.l0 k x1 (wrap64 (x5+1)) b1 b2))else(none))else(some (-1))
def cG.f (k:Nat) (ag:List (bm)) (aj:Int) (a1:Int):Option (Int):=cG.l0 k a1 0 ag aj
theorem cG.calls (k:Nat) (bo:Option Addr) (bg:Nat) (ag:List (bm)) (aj:Int) (a1:Int) (r:Int) (w:World) (cv:Kd.C fN w bo ag.length ag) (cA:ag.length≤bg) (h:cG.f k ag aj a1=some r):
  Calls Tryz.prog 82 #[.agg #[.slice bo ag.length bg,.int .i64 aj],.int .i64 a1] w fun e w'=>e= .returned (.int .i64 r)∧Below w.heap.size w w':=by
 have bY:=underlying28;have b4:=ae.mk cv;have bW:=ae.mk cA;clear cv cA;have HB:=am (Below.refl w.heap.size w);unfold cG.f at h;have H:=h;clear h;have H':=ae.mk H;clear H
 go_enter func82,ntmps82
 go_wp2_with (first|((with_reducible refine ai (N:=2) rfl ?_);refine eh 2 #[.slice bo ag.length bg,.int .i64 aj] 28 ?_;intro bO hg w3 hbox hb;have b2:=am (hbox);have bX:=eg hg;replace HB:=hB HB hb;clear hb hbox hg))
 go_loopg [5] k (fun kq v5 w'=>∃(b1:Int),v5= .int .i64 b1∧ae (cG.l0 kq a1 b1 ag aj=some r)∧ae (kq≤k)∧ae (w'.heap[bO]? =some (.cells #[(.slice bo ag.length bg),.int .i64 aj] 28 (0,0)))∧ae (Below w.heap.size w w'))
 case atStart=>exact⟨(0),oS,H',⟨Nat.le_refl _⟩,⟨oF b2⟩,⟨oB⟩⟩
 case round=>
  clear H';obtain⟨b1,rfl,HA,bQ,b2,HB⟩:=hrel
  cases gk with
  |zero=>exact absurd HA.out (by simp[cG.l0])
  |succ k1=>
   have H:=HA.out;clear HA;simp only[cG.l0]at H;replace H:=iM H;rcases H with⟨bR,H⟩|⟨bR,H⟩;rotate_left
   ·obtain rfl:=Option.some.inj H;obtain⟨⟨_,_⟩,_,_⟩:=z2 b2
    go_wp2
    go_ret
    exact⟨oE,oB⟩
   obtain⟨bZ,H⟩:=cO H
   by_cases c6:((af ag b1).f0)=a1
   ·rw[if_pos c6]at H;have bS:(((af ag b1).f0)==a1)=true:=beq_iff_eq.mpr c6;have bT:(((af ag b1).f0) !=a1)=false:=bne_eq_false_iff_eq.mpr c6;clear c6;obtain rfl:=Option.some.inj H;obtain⟨⟨_,_⟩,_,_⟩:=z2 b2;have bU:(0≤(b1:Int))=True:=oT;have bV:(b1<(ag.length:Int))=True:=oT;obtain⟨bP,bI,bJ,bK,bL,bM,bN,b3,b5,b6,b7,b8,b9,bB,bC,bD,bE,bF,bG,bH⟩:=fw b4 HB b1 oa oa
    cases b3
    go_wp2
    go_ret
    exact⟨oE,oB⟩
   rw[if_neg c6]at H;have bS:(((af ag b1).f0)==a1)=false:=beq_eq_false_iff_ne.mpr c6;have bT:(((af ag b1).f0) !=a1)=true:=bne_iff_ne.mpr c6;have H':=ae.mk H;clear H;obtain⟨⟨_,_⟩,_,_⟩:=z2 b2;have bU:(0≤(b1:Int))=True:=oT;have bV:(b1<(ag.length:Int))=True:=oT;obtain⟨bP,bI,bJ,bK,bL,bM,bN,b3,b5,b6,b7,b8,b9,bB,bC,bD,bE,bF,bG,bH⟩:=fw b4 HB b1 oa oa
   cases b3
   go_wp2
   go_roundg k1
   case measure=>have:=bQ.out;omega
   case rel=>exact⟨(wrap64 (b1+1)),oS,H',⟨by have:=bQ.out;omega⟩,⟨oF b2⟩,⟨oB⟩⟩

def eU.l0:Nat→ByteArray→List (ey)→Int→Int→Option (Int)
 |0,_,_,_,_=>none
 |k+1,x1,x8,x9,b1=>if b1<x9 then(if 0≤b1 then(if b1<(x8.length:Int)then(if((al x8 b1).f0).toList=x1.toList then(some ((al x8 b1).f1))else(eU.l0 k x1 x8 x9 (wrap64 (b1+1))))else(none))else(none))else(some 0)
def eU.f (k:Nat) (br:Int) (aj:Int) (cJ:Int) (cr:List Int) (aK:List (ey)) (cw:List (ct)) (a1:ByteArray):Option (Int):=eU.l0 k a1 aK (aK.length:Int) 0
theorem eU.calls (k:Nat) (br:Int) (aj:Int) (cJ:Int) (fY:Option Addr) (fZ:Nat) (cr:List Int) (fQ:Option Addr) (fR:Nat) (aK:List (ey)) (fJ:Option Addr) (fK:Nat) (cw:List (ct)) (a1:ByteArray) (r:Int) (w:World) (iP:Kd.C (Kd.int .u8) w fY cr.length cr) (iQ:cr.length≤fZ) (iR:Kd.C jc w fQ aK.length aK) (iS:aK.length≤fR) (iT:Kd.C fa w fJ cw.length cw) (iU:cw.length≤fK) (h:eU.f k br aj cJ cr aK cw a1=some r):
  Calls Tryz.prog 57 #[.agg #[.int .i64 br,.int .i64 aj,.int .i64 cJ,.slice fY cr.length fZ,.slice fQ aK.length fR,.slice fJ cw.length fK],.string a1] w fun e w'=>e= .returned (.int .i64 r)∧Below w.heap.size w w':=by
 have bW:=underlying58;have bX:=underlying75;have bM:=ae.mk iP;have bN:=ae.mk iQ;clear iP iQ;have b7:=ae.mk iR;have bO:=ae.mk iS;clear iR iS;have bP:=ae.mk iT;have bQ:=ae.mk iU;clear iT iU;have HB:=am (Below.refl w.heap.size w);unfold eU.f at h;have H:=h;clear h;have H':=ae.mk H;clear H
 go_enter func57,ntmps57
 go_wp2_with (first|((with_reducible refine ai (N:=2) rfl ?_);refine eh 2 #[.int .i64 br,.int .i64 aj,.int .i64 cJ,.slice fY cr.length fZ,.slice fQ aK.length fR,.slice fJ cw.length fK] 58 ?_;intro bB hg w3 hbox hb;have b2:=am (hbox);have bR:=eg hg;replace HB:=hB HB hb;clear hb hbox hg;obtain⟨⟨_,_,_,_,_,_⟩,_,_,_,_,_,_⟩:=z6 b2))
 go_loopg [10] k (fun kq bL w'=>∃(b1:Int),bL= .int .i64 b1∧ae (eU.l0 kq a1 aK (aK.length:Int) b1=some r)∧ae (kq≤k)∧ae (w'.heap[bB]? =some (.cells #[.int .i64 br,.int .i64 aj,.int .i64 cJ,(.slice fY cr.length fZ),(.slice fQ aK.length fR),(.slice fJ cw.length fK)] 58 (0,0)))∧ae (Below w.heap.size w w'))
 case atStart=>exact⟨(0),oS,H',⟨Nat.le_refl _⟩,⟨oF b2⟩,⟨oB⟩⟩
 case round=>
  clear H';obtain⟨b1,rfl,HA,bF,b2,HB⟩:=hrel
  cases gk with
  |zero=>exact absurd HA.out (by simp[eU.l0])
  |succ k1=>
   have H:=HA.out;clear HA;simp only[eU.l0]at H;replace H:=iM H;rcases H with⟨bG,H⟩|⟨bG,H⟩;rotate_left
   ·obtain rfl:=Option.some.inj H
    go_wp2
    go_ret
    exact⟨oE,oB⟩
   obtain⟨bY,H⟩:=cO H;obtain⟨bZ,H⟩:=cO H
   by_cases c8:((al aK b1).f0).toList=a1.toList
   ·rw[if_pos c8]at H;have bH:(((al aK b1).f0).toList==a1.toList)=true:=beq_iff_eq.mpr c8;have bI:(((al aK b1).f0).toList !=a1.toList)=false:=bne_eq_false_iff_eq.mpr c8;clear c8;obtain rfl:=Option.some.inj H;have bJ:(0≤(b1:Int))=True:=oT;have bK:(b1<(aK.length:Int))=True:=oT;obtain⟨bC,b6,b8,b9⟩:=ky b7 HB b1 oa oa
    cases b6
    go_wp2_with (first|((with_reducible refine ai (N:=6) rfl ?_);refine eh 6 #[.string (⟨#[]⟩:ByteArray),.int .i64 0] 75 ?_;intro bD hg w9 hbox hb;have b5:=am (hbox);have bE:=eg hg;have b3:=eY hg b2;have b4:=eZ hg b2;replace b2:=aQ b2 hb;replace HB:=hB HB hb;clear hb hbox hg;have bS:=b4.out;have bT:=b3.out;obtain⟨⟨_,_⟩,_,_⟩:=z2 b5))
    go_ret
    exact⟨oE,oB⟩
   rw[if_neg c8]at H;have bH:(((al aK b1).f0).toList==a1.toList)=false:=beq_eq_false_iff_ne.mpr c8;have bI:(((al aK b1).f0).toList !=a1.toList)=true:=bne_iff_ne.mpr c8;have H':=ae.mk H;clear H;have bJ:(0≤(b1:Int))=True:=oT;have bK:(b1<(aK.length:Int))=True:=oT;obtain⟨bC,b6,b8,b9⟩:=ky b7 HB b1 oa oa
   cases b6
   go_wp2_with (first|((with_reducible refine ai (N:=6) rfl ?_);refine eh 6 #[.string (⟨#[]⟩:ByteArray),.int .i64 0] 75 ?_;intro bD hg d1 hbox hb;have b5:=am (hbox);have bE:=eg hg;have b3:=eY hg b2;have b4:=eZ hg b2;replace b2:=aQ b2 hb;replace HB:=hB HB hb;clear hb hbox hg;have bU:=b4.out;have bV:=b3.out;obtain⟨⟨_,_⟩,_,_⟩:=z2 b5))
   go_roundg k1
   case measure=>have:=bF.out;omega
   case rel=>exact⟨(wrap64 (b1+1)),oS,H',⟨by have:=bF.out;omega⟩,⟨oF b2⟩,⟨oB⟩⟩

def dz.l0:Nat→List Int→List Int→Int→Option (List Int)
 |0,_,_,_=>none
 |k+1,x0,x3,x4=>if x4<(x0.length:Int)then(if 0≤x4 then(if x4<(x3.length:Int)then(dz.l0 k x0 (x3.set (x4:Int).toNat (rd x0 x4)) (wrap64 (x4+1)))else(none))else(none))else(some x3)
def dz.f (k:Nat) (l0:List Int):Option (List Int):=if 0≤(l0.length:Int)then(if((l0.length:Int):Int).toNat≤281474976710656 then(dz.l0 k l0 (List.replicate ((l0.length:Int):Int).toNat 0) 0)else(none))else(none)
theorem dz.calls (k:Nat) (A0:Option Addr) (c0:Nat) (l0:List Int) (r:List Int) (w:World) (hr0:Kd.C (Kd.int .u8) w A0 l0.length l0) (hc0:l0.length≤c0) (h:dz.f k l0=some r):
  Calls Tryz.prog 24 #[.slice A0 l0.length c0] w fun e w'=>∃iV:Value,e= .returned (iV)∧Kd.R (Kd.int .u8) 5 w' w.heap.size (fun _=>True) iV r∧Below w.heap.size w w':=by
 have bO:=ae.mk hr0;have d2:=ae.mk hc0;clear hr0 hc0;have HB:=am (Below.refl w.heap.size w);unfold dz.f at h;have H:=h;clear h;obtain⟨c2,H⟩:=lu H;have bJ:=eq_true c2;have bK:decide (0≤(l0.length:Int))=true:=decide_eq_true c2;clear c2;obtain⟨c3,H⟩:=lu H;have bV:=eq_true c3;have bW:decide (((l0.length:Int):Int).toNat≤281474976710656)=true:=decide_eq_true c3;clear c3;obtain⟨b9,cX⟩:∃y_:List Int,y_=(List.replicate ((l0.length:Int):Int).toNat 0):=⟨_,rfl⟩;replace H:(dz.l0 k l0 b9 0)=some r:=oY;have b8:=ae.mk cX;clear cX;have H':=ae.mk H;clear H
 go_enter func24,ntmps24
 go_wp2_with (first|((with_reducible refine ai (N:=7) rfl ?_);refine Kd.tv (Kd.int .u8) _ 5 rfl (N:=7) rfl 39 _ _ rfl (l0.length:Int) rfl rfl underlying39 (.int .u8 0) 1 info5 rfl (by decide) (by omega) 0 (ok:=fun _=>True) (ft:=fun _=>True) rfl (fun _ hk=>hk) trivial oa (Nat.le_trans (Nat.mul_le_mul_right _ (oa:(l0.length:Int).toNat≤281474976710656)) (by omega)) (Below.refl _ _) (Nat.le_refl _) ?_;intro bL w4 b5 hb fc da;clear fc da;(first|rw[←b8.out]at b5|(simp only[Int.reduceToNat]at b5;rw[←b8.out]at b5));have bD:=am (Kd.aw b5 (ah oB));replace HB:=hB HB hb;clear hb b5))
 go_loopg [4] k (fun kq v4 w'=>∃(b2:List Int) (b1:Int),v4= .int .i64 b1∧ae (dz.l0 kq l0 b2 b1=some r)∧ae (kq≤k)∧ae (Kd.R (Kd.int .u8) 5 w' w.heap.size (fun _=>True) bL b2)∧ae (Below w.heap.size w w'))
 case atStart=>exact⟨(b9),(0),oS,H',⟨Nat.le_refl _⟩,⟨oR bD⟩,⟨oB⟩⟩
 case round=>
  clear H'
  try clear c2
  try clear bJ
  try clear bK
  try clear c3
  obtain⟨b2,b1,rfl,HA,bF,b3,HB⟩:=hrel
  cases gk with
  |zero=>exact absurd HA.out (by simp[dz.l0])
  |succ k1=>
   have H:=HA.out;clear HA;simp only[dz.l0]at H;replace H:=iM H;rcases H with⟨bM,H⟩|⟨bM,H⟩;rotate_left
   ·obtain rfl:=Option.some.inj H
    go_wp2
    go_ret
    exact⟨_,oE,oR b3,oB⟩
   obtain⟨bX,H⟩:=cO H;obtain⟨bY,H⟩:=cO H;obtain⟨b6,cX⟩:∃y_:List Int,y_=(b2.set (b1:Int).toNat (rd l0 b1)):=⟨_,rfl⟩;replace H:(dz.l0 k1 l0 b6 (wrap64 (b1+1)))=some r:=oY;have bE:=ae.mk cX;clear cX;have H':=ae.mk H;clear H;have bZ:(0≤(b1:Int))=True:=oT;have d1:(b1<(l0.length:Int))=True:=oT;obtain⟨bS,bN,b4⟩:=Kd.kf bO.out b1 oa oa
   cases bN
   replace b4:=cB HB b4;have p9:0≤(b1:Int):=oa;have q9:(b1:Int)<((b2.length:Int):Int):=oa;obtain⟨bB,bP,bG,bH,bQ,d3,bI⟩:=Kd.kA b3.out (by omega)
   (first|cases bG|(injection bG with gz nj nn;(first|subst gz|(injection gz with gz;subst gz));subst nn;clear nj))
   have bR:=ae.mk bH;have d4:=ae.mk bI;clear bH bQ bI;obtain⟨bT,bU⟩:=Kd.pH 0 b3.out (b1:Int) p9 q9;replace p9:=eq_true p9;replace q9:=eq_true q9;have b7:=Kd.rn b3.out (b1:Int) (rd l0 b1)
   go_wp2_with (first|((with_reducible refine eK (t:=5) (p:=20) rfl ?_);refine eE (t:=5) (p:=20) (v:= ?adx) (w1:=(wr.setCell ⟨bB,(b1:Int).toNat,none⟩ (.int .u8 (rd l0 b1)))) ?hg ?ho ?hn ?hr ?_;(case ho=>rfl);(case hg=>rfl);(case hn=>rfl);(case hr=>first|(go_simp;done)|(go_simp;rfl));intro bC hw;have hg:wr.grownBy bC (some bB):=(by rw[hw];exact b7.2);have lG:Kd.R (Kd.int .u8) 5 bC w.heap.size (fun _=>True) (.slice (some ⟨bB,0,none⟩) b2.length bP) b6:=(by rw[hw,bE.out];exact b7.1);clear b7;replace b3:=am (lG);replace HB:=am ((by rw[hw];exact aD (HB.out) bR.out:Below w.heap.size w bC));clear hg hw lG))
   go_roundg k1
   case measure=>have:=bF.out;omega
   case rel=>exact⟨(b6),(wrap64 (b1+1)),oS,H',⟨by have:=bF.out;omega⟩,⟨oR b3⟩,⟨oB⟩⟩

def bd.l0:Nat→Int→ByteArray→Option (ByteArray)
 |0,_,_=>none
 |k+1,x0,x3=>if x0>0 then((some (([(wrap64 (48+(Int.tmod x0 10)))%256]:List Int):List Int)).bind fun b1=>(if(strOfNums b1).size+x3.size≤9223372036854775807 then(bd.l0 k (wrap64 (Int.tdiv x0 10)) ((strOfNums b1)++x3))else(none)))else(if 1+x3.size≤9223372036854775807 then(some ((⟨#[109]⟩:ByteArray)++x3))else(none))
def bd.f (k:Nat) (a0:Int):Option (ByteArray):=if a0≤0 then(some (⟨#[109,48]⟩:ByteArray))else(bd.l0 k a0 (⟨#[]⟩:ByteArray))
theorem bd.calls (k:Nat) (a0:Int) (r:ByteArray) (w:World) (h:bd.f k a0=some r):
  Calls Tryz.prog 115 #[.int .i64 a0] w fun e w'=>e= .returned (.string r)∧Below w.heap.size w w':=by
 have HB:=am (Below.refl w.heap.size w);unfold bd.f at h;have H:=h;clear h;replace H:=iM H;rcases H with⟨b6,H⟩|⟨b6,H⟩
 ·obtain rfl:=Option.some.inj H
  go_enter func115,ntmps115
  go_wp2
  go_ret
  exact⟨oE,oB⟩
 have H':=ae.mk H;clear H
 go_enter func115,ntmps115
 go_wp2
 go_loopg [0,3] k (fun kq v0 v3 w'=>∃(b1:Int) (b2:ByteArray),v0= .int .i64 b1∧v3= .string b2∧ae (bd.l0 kq b1 b2=some r)∧ae (kq≤k)∧ae (Below w.heap.size w w'))
 case atStart=>exact⟨(a0),((⟨#[]⟩:ByteArray)),oS,oS,H',⟨Nat.le_refl _⟩,⟨oB⟩⟩
 case round=>
  clear H'
  try clear b6
  obtain⟨b1,b2,rfl,rfl,HA,b8,HB⟩:=hrel
  cases gk with
  |zero=>exact absurd HA.out (by simp[bd.l0])
  |succ k1=>
   have H:=HA.out;clear HA;simp only[bd.l0]at H;replace H:=yJ H;rcases H with⟨b9,H⟩|⟨b9,H⟩;rotate_left
   ·obtain⟨c8,H⟩:=lu H;have bB:=eq_true c8;have bC:decide (1+b2.size≤9223372036854775807)=true:=decide_eq_true c8
    try have bD:(9223372036854775807<1+b2.size)=False:=eq_false (Nat.not_lt.2 c8)
    obtain rfl:=Option.some.inj H
    go_wp2
    go_ret
    exact⟨oE,oB⟩
   obtain⟨b3,cX⟩:∃y_:List Int,y_=(([(wrap64 (48+(Int.tmod b1 10)))%256]:List Int)):=⟨_,rfl⟩;replace H:(if(strOfNums b3).size+b2.size≤9223372036854775807 then(bd.l0 k1 (wrap64 (Int.tdiv b1 10)) ((strOfNums b3)++b2))else(none))=some r:=oY;have b5:=ae.mk cX;clear cX;obtain⟨c4,H⟩:=lu H;have bE:=eq_true c4;have bF:decide ((strOfNums b3).size+b2.size≤9223372036854775807)=true:=decide_eq_true c4
   try have bG:(9223372036854775807<(strOfNums b3).size+b2.size)=False:=eq_false (Nat.not_lt.2 c4)
   have H':=ae.mk H;clear H
   go_wp2_with (first|((with_reducible refine ai (N:=12) rfl ?_);refine Kd.iO (Kd.int .u8) _ 5 ?hg (N:=12) ?hd (xs:=([(wrap64 (48+(Int.tmod b1 10)))%256]:List Int)) (inner:=[.int .u8 ((wrap64 (48+(Int.tmod b1 10)))%256)]) (ok:=fun _=>True) (ft:=fun _=>True) ?hr ?hp (fun _ hk=>hk) trivial (Below.refl _ _) (Nat.le_refl _) (by simp) ?_;(case hd=>rfl);(case hg=>rfl);(case hr=>first|(go_simp;done)|(go_simp;rfl));(case hp=>exact(cK.one (show Kd.M (Kd.int .u8) _ _ _ ((wrap64 (48+(Int.tmod b1 10)))%256) [.int .u8 ((wrap64 (48+(Int.tmod b1 10)))%256)]from rfl) (cK.none _ _)));intro bH w5 b4 hb fc da;clear fc da;(first|rw[←b5.out]at b4|(simp only[Int.reduceToNat]at b4;rw[←b5.out]at b4));have b7:=am (Kd.aw b4 (ah oB));replace HB:=hB HB hb;clear hb b4;have bI:=vR (P:=Tryz.prog) underlying39 underlying5 underlying9 (Kd.ri b7.out)))
   go_roundg k1
   case measure=>have:=b8.out;omega
   case rel=>exact⟨(wrap64 (Int.tdiv b1 10)),((strOfNums b3)++b2),oS,oS,H',⟨by have:=b8.out;omega⟩,⟨oB⟩⟩

def eL.l0:Nat→List Int→Int→Int→Option (Bool)
 |0,_,_,_=>none
 |k+1,x0,x1,x5=>if x5<(x0.length:Int)then(if 0≤x5 then(if(rd x0 x5)=x1 then(some true)else(eL.l0 k x0 x1 (wrap64 (x5+1))))else(none))else(some false)
def eL.f (k:Nat) (l0:List Int) (a1:Int):Option (Bool):=eL.l0 k l0 a1 0
theorem eL.calls (k:Nat) (A0:Option Addr) (c0:Nat) (l0:List Int) (a1:Int) (r:Bool) (w:World) (hr0:Kd.C (Kd.int .i64) w A0 l0.length l0) (hc0:l0.length≤c0) (h:eL.f k l0 a1=some r):
  Calls Tryz.prog 152 #[.slice A0 l0.length c0,.int .i64 a1] w fun e w'=>e= .returned (.bool r)∧fv w w':=by
 have b5:=ae.mk hr0;have bE:=ae.mk hc0;clear hr0 hc0;unfold eL.f at h;have H:=h;clear h;have H':=ae.mk H;clear H
 go_enter func152,ntmps152
 go_wp2
 go_loopg [5] k (fun kq v5 w'=>∃(b1:Int),v5= .int .i64 b1∧ae (eL.l0 kq l0 a1 b1=some r)∧ae (kq≤k)∧fv w w')
 case atStart=>exact⟨(0),oS,H',⟨Nat.le_refl _⟩,oD⟩
 case round=>
  clear H';obtain⟨b1,rfl,HA,b6,⟨m1,rfl⟩⟩:=hrel
  cases gk with
  |zero=>exact absurd HA.out (by simp[eL.l0])
  |succ k1=>
   have H:=HA.out;clear HA;simp only[eL.l0]at H;replace H:=iM H;rcases H with⟨b7,H⟩|⟨b7,H⟩;rotate_left
   ·obtain rfl:=Option.some.inj H
    go_wp2
    go_ret
    exact⟨oS,oD⟩
   obtain⟨bD,H⟩:=cO H
   by_cases c5:(rd l0 b1)=a1
   ·rw[if_pos c5]at H;have b8:((rd l0 b1)==a1)=true:=beq_iff_eq.mpr c5;have b9:((rd l0 b1) !=a1)=false:=bne_eq_false_iff_eq.mpr c5;clear c5;obtain rfl:=Option.some.inj H;have bB:(0≤(b1:Int))=True:=oT;have bC:(b1<(l0.length:Int))=True:=oT;obtain⟨b4,b2,b3⟩:=Kd.kf b5.out b1 oa oa
    cases b2
    go_wp2
    go_ret
    exact⟨oS,oD⟩
   rw[if_neg c5]at H;have b8:((rd l0 b1)==a1)=false:=beq_eq_false_iff_ne.mpr c5;have b9:((rd l0 b1) !=a1)=true:=bne_iff_ne.mpr c5;have H':=ae.mk H;clear H;have bB:(0≤(b1:Int))=True:=oT;have bC:(b1<(l0.length:Int))=True:=oT;obtain⟨b4,b2,b3⟩:=Kd.kf b5.out b1 oa oa
   cases b2
   go_wp2
   go_roundg k1
   case measure=>have:=b6.out;omega
   case rel=>exact⟨(wrap64 (b1+1)),oS,H',⟨by have:=b6.out;omega⟩,oD⟩

def db.l0:Nat→List Int→Int→Int→Option (Int×List Int)
 |0,_,_,_=>none
 |k+1,x0,x1,x5=>if x5<(x0.length:Int)then(if 0≤x5 then(db.l0 k (x0.set (x5:Int).toNat ((x1)%256)) (wrap64 (x1+1)) (wrap64 (x5+1)))else(none))else(some (x1,x0))
def db.f (k:Nat) (l0:List Int) (a1:Int):Option (Int×List Int):=db.l0 k l0 a1 0
theorem db.calls (k:Nat) (kP:Nat→Prop) (iD:Value) (l0:List Int) (a1:Int) (r1:Int) (r2:List Int) (w0 w:World) (hB:Below w0.heap.size w0 w) (ho0:Kd.R (Kd.int .u8) 5 w w0.heap.size kP iD l0) (h:db.f k l0 a1=some (r1,r2)):
  Calls Tryz.prog 27 #[iD,.int .i64 a1] w fun e w'=>e= .returned (.int .i64 r1)∧Kd.R (Kd.int .u8) 5 w' w0.heap.size (fun k_=>(kP k_∨w.heap.size≤k_)) iD r2∧Below w0.heap.size w0 w'∧Kept w w' (fun k_=>kP k_):=by
 have bF:=am (show Kd.R (Kd.int .u8) 5 w w0.heap.size (fun k_=>(kP k_∨w.heap.size≤k_)) iD l0 from Kd.bn ho0 (fun k_ hk=>(.inl hk)));have HK:=am (Kept.refl w (fun k_=>kP k_));have HW0:=ae.mk hB.size;have HB:=ae.mk hB;clear hB;unfold db.f at h;have H:=h;clear h;have H':=ae.mk H;clear H
 go_enter func27,ntmps27
 go_wp2
 go_loopg [1,5] k (fun kq v1 v5 w'=>∃(b4:List Int) (b3:Int) (b1:Int),v1= .int .i64 b3∧v5= .int .i64 b1∧ae (db.l0 kq b4 b3 b1=some (r1,r2))∧ae (kq≤k)∧ae (Kd.R (Kd.int .u8) 5 w' w0.heap.size (fun k_=>(kP k_∨w.heap.size≤k_)) iD b4)∧ae (Kept w w' (fun k_=>kP k_))∧ae (Below w0.heap.size w0 w'))
 case atStart=>exact⟨(l0),(a1),(0),oS,oS,H',⟨Nat.le_refl _⟩,⟨oR bF⟩,⟨oK⟩,⟨oB⟩⟩
 case round=>
  clear H';obtain⟨b4,b3,b1,rfl,rfl,HA,b9,b2,HK,HB⟩:=hrel
  cases gk with
  |zero=>exact absurd HA.out (by simp[db.l0])
  |succ k1=>
   have H:=HA.out;clear HA;simp only[db.l0]at H;replace H:=iM H;rcases H with⟨bE,H⟩|⟨bE,H⟩;rotate_left
   ·simp only[Option.some.injEq,Prod.mk.injEq]at H;obtain⟨rfl,rfl⟩:=H;obtain⟨bP,bQ,bG⟩:=Kd.ax b2.out;subst bG
    go_wp2
    go_ret
    exact⟨oE,oR b2,oB,oK⟩
   obtain⟨bO,H⟩:=cO H;obtain⟨b6,cX⟩:∃y_:List Int,y_=(b4.set (b1:Int).toNat ((b3)%256)):=⟨_,rfl⟩;replace H:(db.l0 k1 b6 (wrap64 (b3+1)) (wrap64 (b1+1)))=some (r1,r2):=oY;have b8:=ae.mk cX;clear cX;have H':=ae.mk H;clear H;obtain⟨bR,bH,bI⟩:=Kd.ax b2.out;subst bI;have p5:0≤(b1:Int):=oa;have q5:(b1:Int)<((b4.length:Int):Int):=oa;obtain⟨b5,bS,bB,bC,bJ,bT,bD⟩:=Kd.kA b2.out (by omega)
   (first|cases bB|(injection bB with gz nj nn;(first|subst gz|(injection gz with gz;subst gz));subst nn;clear nj))
   have bK:=ae.mk bC;have bU:=ae.mk bD;clear bC bJ bD;have bL:=am (show(kP b5∨w.heap.size≤b5)from(b2.out.1 _ rfl));obtain⟨bM,bN⟩:=Kd.pH 0 b2.out (b1:Int) p5 q5;replace p5:=eq_true p5;replace q5:=eq_true q5;have b7:=Kd.rn b2.out (b1:Int) ((b3)%256)
   go_wp2_with (first|((with_reducible refine eK (t:=5) (p:=16) rfl ?_);refine eE (t:=5) (p:=16) (v:= ?vo_w8) (w1:=(wr.setCell ⟨b5,(b1:Int).toNat,none⟩ (.int .u8 ((b3)%256)))) ?hg ?ho ?hn ?hr ?_;(case ho=>rfl);(case hg=>rfl);(case hn=>rfl);(case hr=>first|(go_simp;done)|(go_simp;rfl));intro w8 hw;have hg:wr.grownBy w8 (some b5):=(by rw[hw];exact b7.2);have lG:Kd.R (Kd.int .u8) 5 w8 w0.heap.size (fun k_=>(kP k_∨w.heap.size≤k_)) (.slice (some ⟨b5,0,none⟩) b4.length bH) b6:=(by rw[hw,b8.out];exact b7.1);clear b7;replace b2:=am (lG);replace HK:=am (Kept.lQ (S:=(fun k_=>kP k_)) hg oK (fun k_ e_=>(b2.out.1 k_ e_)));replace HB:=am ((by rw[hw];exact aD (HB.out) bK.out:Below w0.heap.size w0 w8));clear hg hw lG))
   go_roundg k1
   case measure=>have:=b9.out;omega
   case rel=>exact⟨(b6),(wrap64 (b3+1)),(wrap64 (b1+1)),oS,oS,H',⟨by have:=b9.out;omega⟩,⟨oR b2⟩,⟨oK⟩,⟨oB⟩⟩

def dn.l0:Nat→List Int→Int→Int→Option (Int)
 |0,_,_,_=>none
 |k+1,x0,x1,x5=>if x5<(x0.length:Int)then(if 0≤x5 then(if(rd x0 x5)=((x1)%256)then(dn.l0 k x0 (wrap64 (x1+1)) (wrap64 (x5+1)))else(some (-1)))else(none))else(some x1)
def dn.f (k:Nat) (l0:List Int) (a1:Int):Option (Int):=dn.l0 k l0 a1 0
theorem dn.calls (k:Nat) (A0:Option Addr) (c0:Nat) (l0:List Int) (a1:Int) (r:Int) (w:World) (hr0:Kd.C (Kd.int .u8) w A0 l0.length l0) (hc0:l0.length≤c0) (h:dn.f k l0 a1=some r):
  Calls Tryz.prog 75 #[.slice A0 l0.length c0,.int .i64 a1] w fun e w'=>e= .returned (.int .i64 r)∧fv w w':=by
 have b6:=ae.mk hr0;have bF:=ae.mk hc0;clear hr0 hc0;unfold dn.f at h;have H:=h;clear h;have H':=ae.mk H;clear H
 go_enter func75,ntmps75
 go_wp2
 go_loopg [1,5] k (fun kq v1 v5 w'=>∃(b2:Int) (b1:Int),v1= .int .i64 b2∧v5= .int .i64 b1∧ae (dn.l0 kq l0 b2 b1=some r)∧ae (kq≤k)∧fv w w')
 case atStart=>exact⟨(a1),(0),oS,oS,H',⟨Nat.le_refl _⟩,oD⟩
 case round=>
  clear H';obtain⟨b2,b1,rfl,rfl,HA,b7,⟨m1,rfl⟩⟩:=hrel
  cases gk with
  |zero=>exact absurd HA.out (by simp[dn.l0])
  |succ k1=>
   have H:=HA.out;clear HA;simp only[dn.l0]at H;replace H:=iM H;rcases H with⟨b8,H⟩|⟨b8,H⟩;rotate_left
   ·obtain rfl:=Option.some.inj H
    go_wp2
    go_ret
    exact⟨oS,oD⟩
   obtain⟨bE,H⟩:=cO H
   by_cases c5:(rd l0 b1)=((b2)%256)
   rotate_left
   ·rw[if_neg c5]at H;have b9:((rd l0 b1)==((b2)%256))=false:=beq_eq_false_iff_ne.mpr c5;have bB:((rd l0 b1) !=((b2)%256))=true:=bne_iff_ne.mpr c5;obtain rfl:=Option.some.inj H;have bC:(0≤(b1:Int))=True:=oT;have bD:(b1<(l0.length:Int))=True:=oT;obtain⟨b5,b3,b4⟩:=Kd.kf b6.out b1 oa oa
    cases b3
    go_wp2
    go_ret
    exact⟨oS,oD⟩
   rw[if_pos c5]at H;have b9:((rd l0 b1)==((b2)%256))=true:=beq_iff_eq.mpr c5;have bB:((rd l0 b1) !=((b2)%256))=false:=bne_eq_false_iff_eq.mpr c5;clear c5;have H':=ae.mk H;clear H;have bC:(0≤(b1:Int))=True:=oT;have bD:(b1<(l0.length:Int))=True:=oT;obtain⟨b5,b3,b4⟩:=Kd.kf b6.out b1 oa oa
   cases b3
   go_wp2
   go_roundg k1
   case measure=>have:=b7.out;omega
   case rel=>exact⟨(wrap64 (b2+1)),(wrap64 (b1+1)),oS,oS,H',⟨by have:=b7.out;omega⟩,oD⟩

theorem aaN {P:Program}{ops:Array Oper}{o:Oper}{a:Act}{w:World}{K:Act→World→Prop}{Q:Exit→Act→World→Prop}{E:Prop}
  (hg:o.guard=none) (d x:Operand) (t:TypeId) (hop:o.op=Op.call {callee:=Callee.builtin Builtin.append,args:= #[d,x],argTypes:= #[t,t]})
  (v u:Value) (hd:a.eval d=v) (hx:a.eval x=u) {v':Value}{w':World}(hr:(Builtin.append_ #[t,t] o.type #[v,u]).run P w= .ok v' w') (hK:K (a.put o.dst v') w'):
  if Region.wanted o (yielded ops a.tmps)=true then Oper.wp P o a w K Q else E:=by
 have hw:Region.wanted o (yielded ops a.tmps)=true:=by simp[Region.wanted,hg]
 rw[if_pos hw];unfold Oper.wp;simp[execOp,hop,resolve,invoke,builtin,hd,hx,hr,Result.andThen];exact hK
/-- Cells behind a row's end, within its room, are written: the row is as it was. -/
theorem aaO {e sz:Nat}{w:World}{P:Program}{base:Nat}{ok:Nat→Prop}{g n c:Nat}{rows:List (List Value)}(h:(Kd.raw sz).R e w base ok (.slice (some ⟨g,0,none⟩) n c) rows) {zs:List Value}(hz:n*sz+zs.length≤c*sz) (h1:∀v∈zs,v.oneCell'=true):
  ∃w1,(storeCells ⟨g,n*sz,none⟩ zs).run P w= .ok () w1∧(Kd.raw sz).R e w1 base ok (.slice (some ⟨g,0,none⟩) n c) rows∧w.grownBy w1 (some g):=by
 obtain⟨hn,hnc,_⟩:=Kd.aH h;obtain⟨h0,inner,ho,hr⟩:=h;obtain⟨ho1,ho2⟩:=ho;rcases ho2 with⟨hv,_⟩|⟨g',cap',cur,hv,hb,hh,hnc',hcm,hcs,ht⟩
 ·cases hv
 injection hv with ha _ hc;injection ha with ha;injection ha with hg;subst hg;subst hc;have hcs':cur.size=c*sz:=hcs
 have hfit:n*sz+zs.length≤cur.size:=by omega
 obtain⟨cur',h3,h4,h5⟩:=er zs (n*sz) w cur hh hfit;obtain⟨s1,s2,s3,s4⟩:=fP g zs (n*sz) w
 have uC:∀k,k≠g→(w.setCells g (n*sz) zs).heap[k]? =w.heap[k]? :=fun k hk=>eN zs _ k hk
 refine⟨w.setCells g (n*sz) zs,?_,?_,⟨s1,s2,s3,by rw[s4];exact Nat.le_refl _,fun k _ hk=>uC k (fun he=>hk (by rw[he]))⟩⟩
 ·have:=run_storeCells_cells (P:=P) g (n*sz) zs 0 w (fun j hj=>by rw[cell_of_row w g _ cur e (0,0) hh,Array.getElem?_eq_getElem (by omega)];rfl) (fun j _=>aC hh _) h1
  simpa using this
 ·refine⟨h0,inner,⟨ho1,.inr ⟨g,c,cur',by rw[hn],hb,h3,hnc',hcm,by rw[h4];exact hcs,?_⟩⟩,?_⟩
  ·rw[←ht,h5]
   have hil:rows.length*(Kd.raw sz).sz=n*sz:=by rw[←hn];rfl
   rw[hil,List.append_assoc,List.take_append_of_le_length (by rw[List.length_take,Array.length_toList];omega),List.take_take,Nat.min_self]
  ·exact⟨hr.1,fun j p hj=>hr.2 j p hj⟩
def su (x:ct):List Value:=[.string x.f0,.string x.f1]
def aaP:Value:= .agg #[.string ⟨#[]⟩,.string ⟨#[]⟩]
theorem x_ (w:World):(zeroValue 82).run Tryz.prog w= .ok aaP w:=by kernel_rfl
theorem ad9:(Tryz.prog.info? 82).map (·.size)=some 2:=by kernel_rfl
/-- slices.Delete of one attribute, in place. -/
theorem ady.calls (g m c i b0:Nat) (ok:Nat→Prop) (rows:List (List Value)) (w:World) (hi:i≤m) (hm:rows.length=m+1) (hc63:c≤9223372036854775807) (HR:(Kd.raw 2).R 82 w b0 ok (.slice (some ⟨g,0,none⟩) (m+1) c) rows):
  Calls Tryz.prog 68 #[.slice (some ⟨g,0,none⟩) ((m+1:Nat):Int).toNat c,.int .i64 i,.int .i64 ((i+1:Nat):Int)] w fun e w'=>e= .returned (.slice (some ⟨g,0,none⟩) m c)∧(Kd.raw 2).R 82 w' b0 ok (.slice (some ⟨g,0,none⟩) m c) (rows.eraseIdx i)∧w.grownBy w' (some g):=by
 rw[show((m+1:Nat):Int).toNat=m+1 from rfl];have hnc:m+1≤c:=(Kd.aH HR).2.1;obtain⟨i0,b5,hsz⟩:=Option.map_eq_some_iff.1 ad9
 have hic:i≤c:=by omega
 have hjc:i+1≤c:=by omega
 have hjn:i+1≤m+1:=by omega
 have hne:i≠i+1:=by omega
 have hmc:m≤c:=by omega
 have hcm:¬c=m:=by omega
 obtain⟨A,hA,b4⟩:∃A:Addr,(if c=i+1 then(some ⟨g,0,none⟩:Option Addr)else some ⟨g,(i+1)*2,none⟩)=some A∧some A=(if c=i+1 then some ⟨g,0,none⟩else(some (⟨g,0,none⟩:Addr)).map (·.add ((i+1)*(Kd.raw 2).sz))):=by
  by_cases h:c=i+1
  ·exact⟨⟨g,0,none⟩,by rw[if_pos h],by rw[if_pos h]⟩
  exact⟨⟨g,(i+1)*2,none⟩,by rw[if_neg h],by rw[if_neg h];simp[Addr.add];rfl⟩
 obtain⟨w1,hrun,b3,b1⟩:=Kd.tA (P:=Tryz.prog) (Kd.raw 2) b0 56 56 82 i0 (by kernel_rfl) b5 hsz (Kd.cj HR) (show i<m+1 by omega) b4 (c-(i+1));rw[Nat.add_sub_cancel,Nat.add_sub_add_right]at hrun;rw[Nat.add_sub_cancel]at b3;obtain⟨w2,hst,b6,b2⟩:=aaO (P:=Tryz.prog) (zs:=(Builtin.zeroCells aaP.cells 1).toList) b3 (by rw[Array.length_toList,size_zeroCells];show m*2+1*2≤c*2;omega) (sj (by decide) _)
 have hcl:=fun ty=>xJ (P:=Tryz.prog) (ty:=ty) (c:=c-m) (show Tryz.prog.underlying 56=some (.slice 82) by kernel_rfl) (x_ w1) (show(1:Nat)≠0 by decide) (show(storeCells ⟨g,m*2,none⟩ (Builtin.zeroCells aaP.cells 1).toList).run Tryz.prog w1= .ok () w2 from hst)
 have hone:m+1-m=1:=by omega
 have b7:(0:Int)≤(i:Int)+1:=by omega
 have mixed:Tryz.prog.follows .mixedOrders=true:=by kernel_rfl
 clear b4 hst HR b3
 go_enter func68,ntmps68
 go_wp2_with fail
 go_region_law_o (refine aaN rfl (.tmp 22) (.tmp 25) 56 rfl (.slice (some ⟨g,0,none⟩) i c) (.slice (some A) (m-i) (c-(i+1))) (by simp[Act.eval,Act.put]) (by simp[Act.eval,Act.put]) hrun ?_)
 go_wp2_with ((with_reducible refine et (b:= .clear) rfl ?_);refine si (w1:=w2) rfl rfl rfl (v:= .tuple #[]) ?hr ?_;(case hr=>go_simp;rw[hcl 0];rfl);(intro w3 hw;subst hw))
 go_ret
 exact⟨rfl,b6,⟨b2.os.trans b1.os,b2.tape.trans b1.tape,b2.output.trans b1.output,Nat.le_trans b1.size b2.size,fun k hk hn=>(b2.block k (Nat.lt_of_lt_of_le hk b1.size) hn).trans (b1.block k hk hn)⟩⟩
def eG.f (l0:List ct) (a1 a2:Int):Option (List ct):=if 0≤a1∧a2=a1+1∧a1<(l0.length:Int)then some (l0.eraseIdx a1.toNat)else none
theorem ya {α β:Type}(f:α→β) (l:List α) (i:Nat):(l.map f).eraseIdx i=(l.eraseIdx i).map f:=by
 rw[List.eraseIdx_eq_take_drop_succ,List.eraseIdx_eq_take_drop_succ,List.map_append,List.map_take,List.map_drop]
/-- The row is the call's own, and it is cut in place. -/
theorem eG.calls (A:Option Addr) (c b0:Nat) (ok:Nat→Prop) (l0:List ct) (a1 a2:Int) (r:List ct) (w:World) (ho:Kd.R fa 82 w b0 ok (.slice A l0.length c) l0) (h:eG.f l0 a1 a2=some r):
  Calls Tryz.prog 68 #[.slice A l0.length c,.int .i64 a1,.int .i64 a2] w fun e w'=>∃iV:Value,e= .returned iV∧Kd.R fa 82 w' b0 ok iV r∧w.grownBy w' (Value.slice A l0.length c).ownBlock:=by
 unfold eG.f at h
 split at h
 case isFalse=>cases h
 case isTrue hc=>
 obtain⟨h0,h2,h1⟩:=hc;obtain rfl:=Option.some.inj h;obtain⟨i,rfl⟩:∃i:Nat,a1=(i:Int):=⟨a1.toNat,by omega⟩;obtain⟨m,hm⟩:∃m:Nat,l0.length=m+1:=⟨l0.length-1,by omega⟩;have hraw:=adS (d:=fa) su (fun _ _ _ _ _ h=>ff h) ho;obtain⟨_,inner,⟨_,hown⟩,_⟩:=ho;rcases hown with⟨he,hz⟩|⟨g,cap,cur,he,hbg,hh,hnc,hcm,_⟩
 ·omega
 injection he with ha _ hcc;subst ha;subst hcc;rw[hm]at hraw⊢;rw[show a2=((i+1:Nat):Int) by omega];refine(ady.calls g m c i b0 ok (l0.map su) w (by omega) (by rw[List.length_map,hm]) hcm hraw).mono ?_;rintro e w' ⟨rfl,hr,hg⟩;rw[ya]at hr;exact⟨_,rfl,aan (d:=fa) su (fun _ _ _ x=>iI _ _ _ x) hr,hg⟩
section
variable {α β:Type}{d:Kd α}{d2:Kd β}{e e2 base b2 g t:Nat}{ok ok2:Nat→Prop}{cs:Array Value}{w w0 w1 w2:World}{u v:Value}{xs:List α}{ys:List β}
theorem gsS (h:ae (Kd.S d e w base ok u xs)) (_:ae (Kd.R d2 e2 w b2 ok2 v ys)) (hg:w1.grownBy w2 v.ownBlock) (hp:∀k,ok k→some k≠v.ownBlock) (hd:Kd.S d e w base ok u xs→Kd.S d e w1 base ok u xs:=by intro h_;with_reducible (repeat(first|exact h_|apply Kd.cV|apply Kd.cW|apply Kd.ei))):ae (Kd.S d e w2 base (fun k=>ok k∧True) u xs):=
 ⟨Kd.cS (Kd.ab7 (hd h.out) hg hp) (fun _ h_=>⟨h_,trivial⟩)⟩
theorem yb (h:ae (Kd.R d e w base ok u xs)) (h2:ae (Kd.R d2 e2 w b2 ok2 v ys)) (hg:w1.grownBy w2 v.ownBlock) (ht:∀q,q∈e::d.E→q≠e2:=by decide) (hd:Kd.R d e w base ok u xs→Kd.R d e w1 base ok u xs:=by intro h_;with_reducible (repeat(first|exact h_|apply Kd.ca|apply Kd.cd|apply Kd.cj))) (hd2:Kd.R d2 e2 w b2 ok2 v ys→Kd.R d2 e2 w1 b2 ok2 v ys:=by intro h_;with_reducible (repeat(first|exact h_|apply Kd.ca|apply Kd.cd|apply Kd.cj))):ae (Kd.R d e w2 base ok u xs):=
 ⟨Kd.gh (hd h.out) (Kd.fj (hd2 h2.out)) ht hg⟩
theorem qV (h:ae (w.heap[g]? =some (.cells cs t (0,0)))) (h2:ae (Kd.R d2 e2 w b2 ok2 v ys)) (hg:w1.grownBy w2 v.ownBlock) (ht:e2≠t:=by decide) (hd:w.heap[g]? =some (.cells cs t (0,0))→w1.heap[g]? =some (.cells cs t (0,0)):=by intro h_;(repeat(first|exact h_|refine cp ?_ _|refine ar ?_|refine aG ?_ _))) (hd2:Kd.R d2 e2 w b2 ok2 v ys→Kd.R d2 e2 w1 b2 ok2 v ys:=by intro h_;with_reducible (repeat(first|exact h_|apply Kd.ca|apply Kd.cd|apply Kd.cj))):ae (w2.heap[g]? =some (.cells cs t (0,0))):=
 ⟨(hg.block g (ie (hd h.out)) (Kd.kz (hd2 h2.out) (hd h.out) ht)).trans (hd h.out)⟩
theorem gB_ (h2:ae (Kd.R d2 e2 w w0.heap.size ok2 v ys)) (hg:w1.grownBy w2 v.ownBlock) (hB:Below w0.heap.size w0 w1):ae (Below w0.heap.size w0 w2):=⟨Below.grown hB hg hB.size (Kd.cQ h2.out)⟩
end
def cy (ino:Int):List bm→Nat→Int
 |[],_=> -1
 |x::l,i=>if x.f0=ino then(i:Int)else cy ino l (i+1)
theorem uO.calls (ino a b c:Int) (A3 A4 A5:Option Addr) (n3 c3 n4 c4 n5 c5:Nat) (B:Nat) (W:World) (hB:B<W.heap.size) (hc:W.cell? ⟨B,0,none⟩=some (.int .i64 ino)):
  Calls Tryz.prog 127 #[.agg #[.int .i64 a,.int .i64 b,.int .i64 c,.slice A3 n3 c3,.slice A4 n4 c4,.slice A5 n5 c5],.pointer (some ⟨B,0,none⟩)] W fun e w'=>e= .returned (.bool (a==ino))∧Below W.heap.size W w':=by
 have hne:B≠W.heap.size:=by omega
 go_enter func127,ntmps127
 go_wp2
 all_goals(go_ret;exact⟨by simp_all,(Below.refl _ W).alloc (Nat.le_refl _) _⟩)
theorem uP (ino:Int) (l:List bm) (i:Nat) (h:∀x∈l,x.f0≠ino):cy ino l i= -1:=by
 induction l generalizing i with
 |nil=>rfl
 |cons x l ih=>rw[cy,if_neg (h x (List.mem_cons_self ..))];exact ih (i+1) (fun y hy=>h y (List.mem_cons_of_mem _ hy))
theorem xm (l:List bm) (k:Nat) (h:k<l.length):af l (k:Int)=l[k]:=by
 simp[af,List.getD_eq_getElem?_getD,List.getElem?_eq_getElem h]
theorem wg (ino:Int) (l:List bm) (k j:Nat) (h:k<l.length) (hit:(af l (k:Int)).f0=ino):cy ino (l.drop k) j=(j:Int):=by
 rw[List.drop_eq_getElem_cons h,cy,if_pos (by rw[←xm l k h];exact hit)]
theorem uQ (ino:Int) (l:List bm) (k j:Nat) (h:k<l.length) (hit:(af l (k:Int)).f0≠ino):cy ino (l.drop k) j=cy ino (l.drop (k+1)) (j+1):=by
 rw[List.drop_eq_getElem_cons h,cy,if_neg (by rw[←xm l k h];exact hit)]
theorem aaQ.calls (ino:Int) (A0:Option Addr) (c0:Nat) (l:List bm) (B:Nat) (w:World) (hr:fN.C w A0 l.length l) (hB:B<w.heap.size) (hc:w.cell? ⟨B,0,none⟩=some (.int .i64 ino)) (hl:l.length≤9223372036854775807):
  Calls Tryz.prog 100 #[.slice A0 l.length c0,.func (.func 127) #[] #[.pointer (some ⟨B,0,none⟩)]] w fun e w'=>e= .returned (.int .i64 (cy ino l 0))∧Below w.heap.size w w':=by
 go_enter func100,ntmps100
 go_wp2
 go_loopg [5,8] l.length (fun gg _ s8 wr=>∃kk:Nat,kk≤l.length∧l.length-kk≤gg∧s8= .int .i64 kk∧ae (Below w.heap.size w wr)∧ae (cy ino l 0=cy ino (l.drop kk) kk))
 case atStart=>exact⟨0,Nat.zero_le _,by omega,rfl,⟨Below.refl _ w⟩,⟨rfl⟩⟩
 case round=>
  obtain⟨kk,hkk,hg,rfl,BW,A⟩:=hrel
  by_cases hlt:kk<l.length
  rotate_left
  ·have hltz:¬(kk:Int)<(l.length:Int):=by omega
   obtain rfl:kk=l.length:=by omega
   go_wp2
   go_ret
   exact⟨by rw[A.out,List.drop_length];rfl,BW.out⟩
  have hltz:(kk:Int)<(l.length:Int):=by omega
  obtain⟨ad,A3,c3,A4,c4,A5,c5,e0,h0,h1,h2,h3,h4,h5,_⟩:=fI (Kd.de hr BW.out) (kk:Int) (by omega) hltz
  cases e0
  rw[Int.toNat_natCast]at h0 h1 h2 h3 h4 h5;have hBw:B<wr.heap.size:=Nat.lt_of_lt_of_le hB BW.out.size;have hcw:wr.cell? ⟨B,0,none⟩=some (.int .i64 ino):=(BW.out.cell (p:=⟨B,0,none⟩) hB).trans hc
  by_cases hit:(af l (kk:Int)).f0=ino
  ·have hq:((af l (kk:Int)).f0==ino)=true:=by simpa using hit
   go_wp2_with (go_at_call 127;refine(uO.calls ino _ _ _ _ _ _ _ _ _ _ _ _ B wr hBw hcw).mono ?_;rintro e w' ⟨rfl,hb'⟩)
   go_ret
   exact⟨by rw[A.out,wg ino l kk kk hlt hit];rfl,iC BW.out BW.out.size hb'⟩
  have hq:((af l (kk:Int)).f0==ino)=false:=by simpa using hit
  go_wp2_with (go_at_call 127;refine(uO.calls ino _ _ _ _ _ _ _ _ _ _ _ _ B wr hBw hcw).mono ?_;rintro e w' ⟨rfl,hb'⟩)
  go_roundg (l.length-(kk+1))
  case measure=>omega
  case rel=>exact⟨kk+1,by omega,by omega,by go_num,⟨iC BW.out BW.out.size hb'⟩,⟨by rw[A.out,uQ ino l kk kk hlt hit]⟩⟩
def eA.f (k:Nat) (ag:List bm) (aj a1:Int):Option Int:=if(ag.length:Int)≤9223372036854775807 then some (cy a1 ag 0)else none
theorem eA.calls (k:Nat) (bo:Option Addr) (bg:Nat) (ag:List bm) (aj a1:Int) (r:Int) (w:World) (cv:Kd.C fN w bo ag.length ag) (cA:ag.length≤bg) (h:eA.f k ag aj a1=some r):
  Calls Tryz.prog 99 #[.agg #[.slice bo ag.length bg,.int .i64 aj],.int .i64 a1] w fun e w'=>e= .returned (.int .i64 r)∧Below w.heap.size w w':=by
 unfold eA.f at h
 split at h
 case isFalse=>cases h
 case isTrue hl=>
 obtain rfl:=Option.some.inj h;clear h;have b1:Below w.heap.size w (w.alloc (.cells #[.slice bo ag.length bg,.int .i64 aj] 28)):=(Below.refl _ w).alloc (Nat.le_refl _) _;have b2:Below w.heap.size w ((w.alloc (.cells #[.slice bo ag.length bg,.int .i64 aj] 28)).alloc (.cells #[.int .i64 a1] 3)):=b1.alloc (by simp) _;have hcon:=aaQ.calls a1 bo bg ag (w.heap.size+1) ((w.alloc (.cells #[.slice bo ag.length bg,.int .i64 aj] 28)).alloc (.cells #[.int .i64 a1] 3)) (Kd.de cv b2) (by simp) (by simp) (by omega);clear cv b1
 go_enter func99,ntmps99
 go_wp2_with (go_at_call 100;refine hcon.mono ?_;rintro e w' ⟨rfl,hb'⟩)
 go_ret
 exact⟨rfl,iC b2 (by simp only[World.size_alloc];omega) hb'⟩
def du.f (br:Int) (aj:Int) (cJ:Int) (cr:List Int) (aK:List (ey)) (cw:List (ct)):Option (Int×Int×Int×List Int×(List (ey))×(List (ct))):=(some (([]:List Int):List Int)).bind fun b1=>(if b1.length+cr.length<140737488355328 then((some (([]:List (ey)):List (ey))).bind fun b2=>(if b2.length+aK.length<5864062014805 then((some (([]:List (ct)):List (ct))).bind fun b3=>(if b3.length+cw.length<4398046511104 then(some (br,aj,cJ,(b1++cr),(b2++aK),(b3++cw)))else(none)))else(none)))else(none))
theorem du.calls (br:Int) (aj:Int) (cJ:Int) (fY:Option Addr) (fZ:Nat) (cr:List Int) (fQ:Option Addr) (fR:Nat) (aK:List (ey)) (fJ:Option Addr) (fK:Nat) (cw:List (ct)) (r1:Int) (r2:Int) (r3:Int) (r4:List Int) (r5:List (ey)) (r6:List (ct)) (w:World) (iP:Kd.C (Kd.int .u8) w fY cr.length cr) (iQ:cr.length≤fZ) (iR:Kd.C jc w fQ aK.length aK) (iS:aK.length≤fR) (iT:Kd.C fa w fJ cw.length cw) (iU:cw.length≤fK) (h:du.f br aj cJ cr aK cw=some (r1,r2,r3,r4,r5,r6)):
  Calls Tryz.prog 83 #[.agg #[.int .i64 br,.int .i64 aj,.int .i64 cJ,.slice fY cr.length fZ,.slice fQ aK.length fR,.slice fJ cw.length fK]] w fun e w'=>∃sO sP sQ:Value,e= .returned (.agg #[.int .i64 r1,.int .i64 r2,.int .i64 r3,sO,sP,sQ])∧Kd.R (Kd.int .u8) 5 w' w.heap.size (fun _=>True) sO r4∧Kd.R jc 75 w' w.heap.size (fun _=>True) sP r5∧Kd.R fa 82 w' w.heap.size (fun _=>True) sQ r6∧Below w.heap.size w w':=by
 have dS:=underlying58;have bX:=ae.mk iP;have dG:=ae.mk iQ;clear iP iQ;have bY:=ae.mk iR;have dH:=ae.mk iS;clear iR iS;have bZ:=ae.mk iT;have dI:=ae.mk iU;clear iT iU;have HB:=am (Below.refl w.heap.size w);unfold du.f at h;have H:=h;clear h;obtain⟨bH,cX⟩:∃y_:List Int,y_=(([]:List Int)):=⟨_,rfl⟩;replace H:(if bH.length+cr.length<140737488355328 then((some (([]:List (ey)):List (ey))).bind fun b6=>(if b6.length+aK.length<5864062014805 then((some (([]:List (ct)):List (ct))).bind fun b4=>(if b4.length+cw.length<4398046511104 then(some (br,aj,cJ,(bH++cr),(b6++aK),(b4++cw)))else(none)))else(none)))else(none))=some (r1,r2,r3,r4,r5,r6):=oY;have bQ:=ae.mk cX;clear cX;obtain⟨c2,H⟩:=lu H;have d5:=ae.mk c2;clear c2;obtain⟨b8,cX⟩:∃y_:List Int,y_=(bH++cr):=⟨_,rfl⟩;replace H:((some (([]:List (ey)):List (ey))).bind fun b6=>(if b6.length+aK.length<5864062014805 then((some (([]:List (ct)):List (ct))).bind fun b4=>(if b4.length+cw.length<4398046511104 then(some (br,aj,cJ,b8,(b6++aK),(b4++cw)))else(none)))else(none)))=some (r1,r2,r3,r4,r5,r6):=oY;have d1:=ae.mk cX;clear cX;obtain⟨b6,cX⟩:∃y_:List (ey),y_=(([]:List (ey))):=⟨_,rfl⟩;replace H:(if b6.length+aK.length<5864062014805 then((some (([]:List (ct)):List (ct))).bind fun b4=>(if b4.length+cw.length<4398046511104 then(some (br,aj,cJ,b8,(b6++aK),(b4++cw)))else(none)))else(none))=some (r1,r2,r3,r4,r5,r6):=oY;have bR:=ae.mk cX;clear cX;obtain⟨c3,H⟩:=lu H;have d6:=ae.mk c3;clear c3;obtain⟨bD,cX⟩:∃y_:List (ey),y_=(b6++aK):=⟨_,rfl⟩;replace H:((some (([]:List (ct)):List (ct))).bind fun b4=>(if b4.length+cw.length<4398046511104 then(some (br,aj,cJ,b8,bD,(b4++cw)))else(none)))=some (r1,r2,r3,r4,r5,r6):=oY;have d2:=ae.mk cX;clear cX;obtain⟨b4,cX⟩:∃y_:List (ct),y_=(([]:List (ct))):=⟨_,rfl⟩;replace H:(if b4.length+cw.length<4398046511104 then(some (br,aj,cJ,b8,bD,(b4++cw)))else(none))=some (r1,r2,r3,r4,r5,r6):=oY;have bS:=ae.mk cX;clear cX;obtain⟨c4,H⟩:=lu H;have d7:=ae.mk c4;clear c4;obtain⟨bU,cX⟩:∃y_:List (ct),y_=(b4++cw):=⟨_,rfl⟩;replace H:(some (br,aj,cJ,b8,bD,bU))=some (r1,r2,r3,r4,r5,r6):=oY;have d3:=ae.mk cX;clear cX;simp only[Option.some.injEq,Prod.mk.injEq]at H;obtain⟨rfl,rfl,rfl,rfl,rfl,rfl⟩:=H
 go_enter func83,ntmps83
 go_wp2_with (first|((with_reducible refine ai (N:=1) rfl ?_);refine eh 1 #[.int .i64 br,.int .i64 aj,.int .i64 cJ,.slice fY cr.length fZ,.slice fQ aK.length fR,.slice fJ cw.length fK] 58 ?_;intro dJ hg w5 hbox hb;have b1:=am (hbox);have dK:=eg hg;replace HB:=hB HB hb;clear hb hbox hg)|((with_reducible refine ai (N:=2) rfl ?_);refine eh 2 #[.int .i64 0,.int .i64 0,.int .i64 0,.slice none 0 0,.slice none 0 0,.slice none 0 0] 58 ?_;intro d4 hg w6 hbox hb;have b3:=am (hbox);have dL:=eg hg;have bI:=eY hg b1;have bJ:=eZ hg b1;replace b1:=aQ b1 hb;replace HB:=hB HB hb;clear hb hbox hg;have dT:=bI.out;have dU:=bJ.out;obtain⟨⟨_,_,_,_,_,_⟩,_,_,_,_,_,_⟩:=z6 b1)|((with_reducible refine ai (N:=3) rfl ?_);refine eh 3 #[.int .i64 0,.int .i64 0,.int .i64 0,.slice none 0 0,.slice none 0 0,.slice none 0 0] 58 ?_;intro dM hg w9 hbox hb;have b2:=am (hbox);have dN:=eg hg;have bK:=eY hg b1;have bL:=eZ hg b1;have bM:=eY hg b3;have bN:=eZ hg b3;replace b1:=aQ b1 hb;replace b3:=aQ b3 hb;replace HB:=hB HB hb;clear hb hbox hg;have dO:=bL.out;have dP:=bK.out;have dQ:=bN.out;have dR:=bM.out;obtain⟨⟨_,_,_,_,_,_⟩,_,_,_,_,_,_⟩:=z6 b2)|((with_reducible refine ai (N:=5) rfl ?_);refine Kd.iO (Kd.int .u8) _ 5 ?hg (N:=5) ?hd (xs:=([]:List Int)) (inner:=[]) (ok:=fun _=>True) (ft:=fun _=>True) ?hr ?hp (fun _ hk=>hk) trivial (Below.refl _ _) (Nat.le_refl _) (by simp) ?_;(case hd=>rfl);(case hg=>rfl);(case hr=>first|(go_simp;done)|(go_simp;rfl));(case hp=>exact(cK.none _ _));intro d8 dY bE hb fc da;clear fc da;(first|rw[←bQ.out]at bE|(simp only[Int.reduceToNat]at bE;rw[←bQ.out]at bE));have bC:=am (Kd.aw bE (ah oB));replace b1:=aQ b1 hb;replace b3:=aQ b3 hb;replace b2:=oo #[.int .i64 br,.int .i64 aj,.int .i64 cJ,.slice fY cr.length fZ,.slice fQ aK.length fR,.slice fJ cw.length fK] b2 hb;replace HB:=hB HB hb;clear hb bE;obtain⟨⟨_,_,_,_,_,_⟩,_,_,_,_,_,_⟩:=z6 b1)|((with_reducible refine et (b:= .append) (xs:= #[.tmp 5,.tmp 7]) rfl ?_);at_builtin;refine Kd.eW (Kd.int .u8) (w0:=w) w.heap.size rfl (.tmp 5) (.tmp 7) 39 5 (.int .u8 0) 1 rfl underlying39 info5 rfl (by decide) (by omega) d8 bH cr _ _ _ (fun _=>True) (fun _=>False) rfl rfl ?aO ?aR (fun _ _ h=>h) (fun _ h=>h.elim) ?aF ?aB ?aS ?aL ?_;(case aR=>repeat(first|exact(Kd.de bX.out HB.out)|(with_reducible refine Kd.fx ?_ _)|(with_reducible refine Kd.fy ?_ _)|(with_reducible refine Kd.hD ?_)));(case aB=>exact oB);(case aF=>exact(fun _ _=>trivial));(case aO=>exact(oR bC));(case aS=>exact(ah oB));(case aL=>have:=d5.out;omega);intro dV dZ ho hb hg hat;rw[←d1.out]at ho;have b5:=am (ho);replace b1:=ks b1 hg (Kd.kz bC.out b1.out (by decide));replace b3:=ks b3 hg (Kd.kz bC.out b3.out (by decide));replace b2:=ks b2 hg (Kd.kz bC.out b2.out (by decide));replace HB:=am (hb);clear bC;clear ho hb hg hat;obtain⟨bO,bP,d9⟩:=Kd.ax b5.out;subst d9;obtain⟨⟨_,_,_,_,_,_⟩,_,_,_,_,_,_⟩:=z6 b2)|((with_reducible refine ai (N:=10) rfl ?_);refine Kd.iO jc _ 75 ?hg (N:=10) ?hd (xs:=([]:List (ey))) (inner:=[]) (ok:=fun _=>True) (ft:=fun _=>True) ?hr ?hp (fun _ hk=>hk) trivial (Below.refl _ _) (Nat.le_refl _) (by simp) ?_;(case hd=>rfl);(case hg=>rfl);(case hr=>first|(go_simp;done)|(go_simp;rfl));(case hp=>exact(cK.none _ _));intro dA gA bF hb fc da;clear fc da;(first|rw[←bR.out]at bF|(simp only[Int.reduceToNat]at bF;rw[←bR.out]at bF));have b9:=am (Kd.aw bF (ah oB));replace b5:=fq b5 b2 hb;replace b1:=aQ b1 hb;replace b3:=aQ b3 hb;replace b2:=oo #[.int .i64 br,.int .i64 aj,.int .i64 cJ,.slice bO b8.length bP,.slice fQ aK.length fR,.slice fJ cw.length fK] b2 hb;replace HB:=hB HB hb;clear hb bF;obtain⟨⟨_,_,_,_,_,_⟩,_,_,_,_,_,_⟩:=z6 b1)|((with_reducible refine et (b:= .append) (xs:= #[.tmp 10,.tmp 12]) rfl ?_);at_builtin;refine Kd.eW jc (w0:=w) w.heap.size rfl (.tmp 10) (.tmp 12) 55 75 (.agg #[(.string ⟨#[]⟩),(.int .i64 0)]) 24 rfl underlying55 vP rfl (by decide) (by omega) dA b6 aK _ _ _ (fun _=>True) (fun _=>False) rfl rfl ?aO ?aR (fun _ _ h=>h) (fun _ h=>h.elim) ?aF ?aB ?aS ?aL ?_;(case aR=>repeat(first|exact(Kd.de bY.out HB.out)|(with_reducible refine Kd.fx ?_ _)|(with_reducible refine Kd.fy ?_ _)|(with_reducible refine Kd.hD ?_)));(case aB=>exact oB);(case aF=>exact(fun _ _=>trivial));(case aO=>exact(oR b9));(case aS=>exact(ah oB));(case aL=>have:=d6.out;omega);intro dW gB ho hb hg hat;rw[←d2.out]at ho;have bB:=am (ho);replace b1:=ks b1 hg (Kd.kz b9.out b1.out (by decide));replace b3:=ks b3 hg (Kd.kz b9.out b3.out (by decide));replace b2:=ks b2 hg (Kd.kz b9.out b2.out (by decide));replace b5:=am (Kd.gh (oR b5) (Kd.fj (oR b9)) (by decide) hg);replace HB:=am (hb);clear b9;clear ho hb hg hat;obtain⟨bV,bW,dB⟩:=Kd.ax bB.out;subst dB;obtain⟨⟨_,_,_,_,_,_⟩,_,_,_,_,_,_⟩:=z6 b2)|((with_reducible refine ai (N:=15) rfl ?_);refine Kd.iO fa _ 82 ?hg (N:=15) ?hd (xs:=([]:List (ct))) (inner:=[]) (ok:=fun _=>True) (ft:=fun _=>True) ?hr ?hp (fun _ hk=>hk) trivial (Below.refl _ _) (Nat.le_refl _) (by simp) ?_;(case hd=>rfl);(case hg=>rfl);(case hr=>first|(go_simp;done)|(go_simp;rfl));(case hp=>exact(cK.none _ _));intro dC gC bG hb fc da;clear fc da;(first|rw[←bS.out]at bG|(simp only[Int.reduceToNat]at bG;rw[←bS.out]at bG));have b7:=am (Kd.aw bG (ah oB));replace b5:=fq b5 b2 hb;replace bB:=fq bB b2 hb;replace b1:=aQ b1 hb;replace b3:=aQ b3 hb;replace b2:=oo #[.int .i64 br,.int .i64 aj,.int .i64 cJ,.slice bO b8.length bP,.slice bV bD.length bW,.slice fJ cw.length fK] b2 hb;replace HB:=hB HB hb;clear hb bG;obtain⟨⟨_,_,_,_,_,_⟩,_,_,_,_,_,_⟩:=z6 b1)|((with_reducible refine et (b:= .append) (xs:= #[.tmp 15,.tmp 17]) rfl ?_);at_builtin;refine Kd.eW fa (w0:=w) w.heap.size rfl (.tmp 15) (.tmp 17) 56 82 (.agg #[(.string ⟨#[]⟩),(.string ⟨#[]⟩)]) 32 rfl underlying56 nP rfl (by decide) (by omega) dC b4 cw _ _ _ (fun _=>True) (fun _=>False) rfl rfl ?aO ?aR (fun _ _ h=>h) (fun _ h=>h.elim) ?aF ?aB ?aS ?aL ?_;(case aR=>repeat(first|exact(Kd.de bZ.out HB.out)|(with_reducible refine Kd.fx ?_ _)|(with_reducible refine Kd.fy ?_ _)|(with_reducible refine Kd.hD ?_)));(case aB=>exact oB);(case aF=>exact(fun _ _=>trivial));(case aO=>exact(oR b7));(case aS=>exact(ah oB));(case aL=>have:=d7.out;omega);intro dX gD ho hb hg hat;rw[←d3.out]at ho;have bT:=am (ho);replace b1:=ks b1 hg (Kd.kz b7.out b1.out (by decide));replace b3:=ks b3 hg (Kd.kz b7.out b3.out (by decide));replace b2:=ks b2 hg (Kd.kz b7.out b2.out (by decide));replace b5:=am (Kd.gh (oR b5) (Kd.fj (oR b7)) (by decide) hg);replace bB:=am (Kd.gh (oR bB) (Kd.fj (oR b7)) (by decide) hg);replace HB:=am (hb);clear b7;clear ho hb hg hat;obtain⟨dD,dE,dF⟩:=Kd.ax bT.out;subst dF;obtain⟨⟨_,_,_,_,_,_⟩,_,_,_,_,_,_⟩:=z6 b2;obtain⟨⟨_,_,_,_,_,_⟩,_,_,_,_,_,_⟩:=z6 b3))
 refine bodyPost_ret (results_cell_row rfl _ _ d4 58 #[.int .i64 br,.int .i64 aj,.int .i64 cJ,.slice bO b8.length bP,.slice bV bD.length bW,.slice dD bU.length dE] (0,0) _ rfl (oP b3) underlying58 rfl (by kernel_rfl)) rfl ?_;exact⟨_,_,_,oE,vM b5 b2 b3,vM bB b2 b3,vM bT b2 b3,oB⟩

def geS (s a:ByteArray):Bool:= !(Op.bytesLess a.toList s.toList)
def wh (s:ByteArray):List ct→Nat→Int
 |[],_=> -1
 |x::l,i=>if geS s x.f0=true then(i:Int)else wh s l (i+1)
theorem aaR.calls (s a b:ByteArray) (B:Nat) (W:World) (hB:B<W.heap.size) (hc:W.cell? ⟨B,0,none⟩=some (.string s)):
  Calls Tryz.prog 67 #[.agg #[.string a,.string b],.pointer (some ⟨B,0,none⟩)] W fun e w'=>e= .returned (.bool (geS s a))∧Below W.heap.size W w':=by
 have hne:B≠W.heap.size:=by omega
 go_enter func67,ntmps67
 go_wp2
 all_goals(go_ret;exact⟨by simp_all [geS],(Below.refl _ W).alloc (Nat.le_refl _) _⟩)
theorem aaS (l:List ct) (k:Nat) (h:k<l.length):an l (k:Int)=l[k]:=by
 simp[an,List.getD_eq_getElem?_getD,List.getElem?_eq_getElem h]
theorem ach (s:ByteArray) (l:List ct) (k j:Nat) (h:k<l.length) (hit:geS s (an l (k:Int)).f0=true):wh s (l.drop k) j=(j:Int):=by
 rw[List.drop_eq_getElem_cons h,wh,if_pos (by rw[←aaS l k h];exact hit)]
theorem aaT (s:ByteArray) (l:List ct) (k j:Nat) (h:k<l.length) (hit:geS s (an l (k:Int)).f0=false):wh s (l.drop k) j=wh s (l.drop (k+1)) (j+1):=by
 rw[List.drop_eq_getElem_cons h,wh,if_neg (by rw[←aaS l k h,hit];decide)]
theorem adz.calls (s:ByteArray) (A0:Option Addr) (c0:Nat) (l:List ct) (B:Nat) (w:World) (hr:fa.C w A0 l.length l) (hB:B<w.heap.size) (hc:w.cell? ⟨B,0,none⟩=some (.string s)) (hl:l.length≤9223372036854775807):
  Calls Tryz.prog 66 #[.slice A0 l.length c0,.func (.func 67) #[] #[.pointer (some ⟨B,0,none⟩)]] w fun e w'=>e= .returned (.int .i64 (wh s l 0))∧Below w.heap.size w w':=by
 go_enter func66,ntmps66
 go_wp2
 go_loopg [5,8] l.length (fun gg _ s8 wr=>∃kk:Nat,kk≤l.length∧l.length-kk≤gg∧s8= .int .i64 kk∧ae (Below w.heap.size w wr)∧ae (wh s l 0=wh s (l.drop kk) kk))
 case atStart=>exact⟨0,Nat.zero_le _,by omega,rfl,⟨Below.refl _ w⟩,⟨rfl⟩⟩
 case round=>
  obtain⟨kk,hkk,hg,rfl,BW,A⟩:=hrel
  by_cases hlt:kk<l.length
  rotate_left
  ·have hltz:¬(kk:Int)<(l.length:Int):=by omega
   obtain rfl:kk=l.length:=by omega
   go_wp2
   go_ret
   exact⟨by rw[A.out,List.drop_length];rfl,BW.out⟩
  have hltz:(kk:Int)<(l.length:Int):=by omega
  obtain⟨ad,e0,h0,h1⟩:=cZ (Kd.de hr BW.out) (kk:Int) (by omega) hltz
  cases e0
  rw[Int.toNat_natCast]at h0 h1;have hBw:B<wr.heap.size:=Nat.lt_of_lt_of_le hB BW.out.size;have hcw:wr.cell? ⟨B,0,none⟩=some (.string s):=(BW.out.cell (p:=⟨B,0,none⟩) hB).trans hc
  cases hq:geS s (an l (kk:Int)).f0 with
  |true=>
   go_wp2_with (go_at_call 67;refine(aaR.calls s _ _ B wr hBw hcw).mono ?_;rintro e w' ⟨rfl,hb'⟩;rw[hq])
   go_ret
   exact⟨by rw[A.out,ach s l kk kk hlt hq];rfl,iC BW.out BW.out.size hb'⟩
  |false=>
   go_wp2_with (go_at_call 67;refine(aaR.calls s _ _ B wr hBw hcw).mono ?_;rintro e w' ⟨rfl,hb'⟩;rw[hq])
   go_roundg (l.length-(kk+1))
   case measure=>omega
   case rel=>exact⟨kk+1,by omega,by omega,by go_num,⟨iC BW.out BW.out.size hb'⟩,⟨by rw[A.out,aaT s l kk kk hlt hq]⟩⟩
def d_.f (l0:List ct) (a1:ByteArray):Option Int:=if l0.length≤9223372036854775807 then some (wh a1 l0 0)else none
theorem d_.calls (B:Nat) (A0:Option Addr) (c0:Nat) (l0:List ct) (a1:ByteArray) (r:Int) (w:World) (hr0:fa.C w A0 l0.length l0) (_:l0.length≤c0) (h:d_.f l0 a1=some r) (hb:w.heap[B]? =some (.cells #[.string a1] 9 (0,0))):
  Calls Tryz.prog 66 #[.slice A0 l0.length c0,.func (.func 67) #[] #[.pointer (some ⟨B,0,none⟩)]] w fun e w'=>e= .returned (.int .i64 r)∧Below w.heap.size w w':=by
 unfold d_.f at h
 split at h
 case isFalse=>cases h
 case isTrue hl=>
 obtain rfl:=Option.some.inj h;exact adz.calls a1 A0 c0 l0 B w hr0 (ie hb) ((ao hb 0).trans rfl) hl
def dv.f (l0:List (ey)):Option ((List (ey))):=(some (([]:List (ey)):List (ey))).bind fun b1=>(if b1.length+l0.length<5864062014805 then(some (b1++l0))else(none))
theorem dv.lV (a0_:Addr) (c0:Nat) (l0:List (ey)) (r:List (ey)) (w:World) (hr0:Kd.C jc w (some a0_) l0.length l0) (hc0:l0.length≤c0) (h:dv.f l0=some r):
  Calls Tryz.prog 96 #[.slice (some a0_) l0.length c0] w fun e w'=>∃iV:Value,e= .returned (iV)∧Kd.R jc 75 w' w.heap.size (fun _=>True) iV r∧Below w.heap.size w w':=by
 have bB:=ae.mk hr0;have bD:=ae.mk hc0;clear hr0 hc0;have HB:=am (Below.refl w.heap.size w);unfold dv.f at h;have H:=h;clear h;obtain⟨b1,cX⟩:∃y_:List (ey),y_=(([]:List (ey))):=⟨_,rfl⟩;replace H:(if b1.length+l0.length<5864062014805 then(some (b1++l0))else(none))=some r:=oY;have b3:=ae.mk cX;clear cX
 by_cases c2:b1.length+l0.length<5864062014805
 rotate_left
 ·rw[if_neg c2]at H;exact absurd H (by simp)
 rw[if_pos c2]at H;have b7:=ae.mk c2;clear c2;obtain⟨b8,cX⟩:∃y_:List (ey),y_=(b1++l0):=⟨_,rfl⟩;replace H:(some b8)=some r:=oY;have b5:=ae.mk cX;clear cX;obtain rfl:=Option.some.inj H;have qi:=Lib.run_eql_slice_nil (P:=Tryz.prog) w 55 75 (some a0_) l0.length c0 0 0 (by kernel_rfl)
 go_enter func96,ntmps96
 go_wp2_with (first|((with_reducible refine ai (N:=5) rfl ?_);refine Kd.iO jc _ 75 ?hg (N:=5) ?hd (xs:=([]:List (ey))) (inner:=[]) (ok:=fun _=>True) (ft:=fun _=>True) ?hr ?hp (fun _ hk=>hk) trivial (Below.refl _ _) (Nat.le_refl _) (by simp) ?_;(case hd=>rfl);(case hg=>rfl);(case hr=>first|(go_simp;done)|(go_simp;rfl));(case hp=>exact(cK.none _ _));intro b9 w3 b2 hb fc da;clear fc da;(first|rw[←b3.out]at b2|(simp only[Int.reduceToNat]at b2;rw[←b3.out]at b2));have b4:=am (Kd.aw b2 (ah oB));replace HB:=hB HB hb;clear hb b2)|((with_reducible refine et (b:= .append) (xs:= #[.tmp 5,.tmp 6]) rfl ?_);at_builtin;refine Kd.eW jc (w0:=w) w.heap.size rfl (.tmp 5) (.tmp 6) 55 75 (.agg #[(.string ⟨#[]⟩),(.int .i64 0)]) 24 rfl underlying55 vP rfl (by decide) (by omega) b9 b1 l0 _ _ _ (fun _=>True) (fun _=>False) rfl rfl ?aO ?aR (fun _ _ h=>h) (fun _ h=>h.elim) ?aF ?aB ?aS ?aL ?_;(case aR=>repeat(first|exact(Kd.de bB.out HB.out)|(with_reducible refine Kd.fx ?_ _)|(with_reducible refine Kd.fy ?_ _)|(with_reducible refine Kd.hD ?_)));(case aB=>exact oB);(case aF=>exact(fun _ _=>trivial));(case aO=>exact(oR b4));(case aS=>exact(ah oB));(case aL=>have:=b7.out;omega);intro bC w5 ho hb hg hat;rw[←b5.out]at ho;have b6:=am (ho);replace HB:=am (hb);clear b4;clear ho hb hg hat))
 go_ret
 exact⟨_,oE,oR b6,oB⟩
theorem dv.calls (A0:Option Addr) (c0:Nat) (l0:List (ey)) (r:List (ey)) (w:World) (hr0:Kd.C jc w A0 l0.length l0) (hc0:l0.length≤c0) (h:dv.f l0=some r):
  Calls Tryz.prog 96 #[.slice A0 l0.length c0] w fun e w'=>∃iV:Value,e= .returned (iV)∧Kd.R jc 75 w' w.heap.size (fun _=>True) iV r∧Below w.heap.size w w':=by
 rcases A0 with _|b1
 ·have hl_:l0=[]:=by
   rcases Nat.eq_zero_or_pos l0.length with hz_|hz_
   ·exact List.eq_nil_of_length_eq_zero hz_
   ·obtain⟨ad_,he_,_⟩:=hr0.2.2 hz_
    cases he_
  subst hl_
  obtain rfl:r=[]:=by
   simp[dv.f]at h;exact h
  have qi:=Lib.run_eql_slice_nil (P:=Tryz.prog) w 55 75 none 0 c0 0 0 (by kernel_rfl)
  go_enter func96,ntmps96
  go_wp2
  go_ret
  exact⟨_,rfl,Kd.gv _ _ _ _ _,Below.refl _ _⟩
 ·exact dv.lV b1 c0 l0 r w hr0 hc0 h

def cz.f (l0:List Int):Option (List Int):=(some (([]:List Int):List Int)).bind fun b1=>(if b1.length+l0.length<140737488355328 then(some (b1++l0))else(none))
theorem cz.lV (a0_:Addr) (c0:Nat) (l0:List Int) (r:List Int) (w:World) (hr0:Kd.C (Kd.int .u8) w (some a0_) l0.length l0) (hc0:l0.length≤c0) (h:cz.f l0=some r):
  Calls Tryz.prog 119 #[.slice (some a0_) l0.length c0] w fun e w'=>∃iV:Value,e= .returned (iV)∧Kd.R (Kd.int .u8) 5 w' w.heap.size (fun _=>True) iV r∧Below w.heap.size w w':=by
 have bB:=ae.mk hr0;have bD:=ae.mk hc0;clear hr0 hc0;have HB:=am (Below.refl w.heap.size w);unfold cz.f at h;have H:=h;clear h;obtain⟨b1,cX⟩:∃y_:List Int,y_=(([]:List Int)):=⟨_,rfl⟩;replace H:(if b1.length+l0.length<140737488355328 then(some (b1++l0))else(none))=some r:=oY;have b3:=ae.mk cX;clear cX
 by_cases c2:b1.length+l0.length<140737488355328
 rotate_left
 ·rw[if_neg c2]at H;exact absurd H (by simp)
 rw[if_pos c2]at H;have b7:=ae.mk c2;clear c2;obtain⟨b8,cX⟩:∃y_:List Int,y_=(b1++l0):=⟨_,rfl⟩;replace H:(some b8)=some r:=oY;have b5:=ae.mk cX;clear cX;obtain rfl:=Option.some.inj H;have qi:=Lib.run_eql_slice_nil (P:=Tryz.prog) w 39 5 (some a0_) l0.length c0 0 0 (by kernel_rfl)
 go_enter func119,ntmps119
 go_wp2_with (first|((with_reducible refine ai (N:=5) rfl ?_);refine Kd.iO (Kd.int .u8) _ 5 ?hg (N:=5) ?hd (xs:=([]:List Int)) (inner:=[]) (ok:=fun _=>True) (ft:=fun _=>True) ?hr ?hp (fun _ hk=>hk) trivial (Below.refl _ _) (Nat.le_refl _) (by simp) ?_;(case hd=>rfl);(case hg=>rfl);(case hr=>first|(go_simp;done)|(go_simp;rfl));(case hp=>exact(cK.none _ _));intro b9 w3 b2 hb fc da;clear fc da;(first|rw[←b3.out]at b2|(simp only[Int.reduceToNat]at b2;rw[←b3.out]at b2));have b4:=am (Kd.aw b2 (ah oB));replace HB:=hB HB hb;clear hb b2)|((with_reducible refine et (b:= .append) (xs:= #[.tmp 5,.tmp 6]) rfl ?_);at_builtin;refine Kd.eW (Kd.int .u8) (w0:=w) w.heap.size rfl (.tmp 5) (.tmp 6) 39 5 (.int .u8 0) 1 rfl underlying39 info5 rfl (by decide) (by omega) b9 b1 l0 _ _ _ (fun _=>True) (fun _=>False) rfl rfl ?aO ?aR (fun _ _ h=>h) (fun _ h=>h.elim) ?aF ?aB ?aS ?aL ?_;(case aR=>repeat(first|exact(Kd.de bB.out HB.out)|(with_reducible refine Kd.fx ?_ _)|(with_reducible refine Kd.fy ?_ _)|(with_reducible refine Kd.hD ?_)));(case aB=>exact oB);(case aF=>exact(fun _ _=>trivial));(case aO=>exact(oR b4));(case aS=>exact(ah oB));(case aL=>have:=b7.out;omega);intro bC w5 ho hb hg hat;rw[←b5.out]at ho;have b6:=am (ho);replace HB:=am (hb);clear b4;clear ho hb hg hat))
 go_ret
 exact⟨_,oE,oR b6,oB⟩
theorem cz.calls (A0:Option Addr) (c0:Nat) (l0:List Int) (r:List Int) (w:World) (hr0:Kd.C (Kd.int .u8) w A0 l0.length l0) (hc0:l0.length≤c0) (h:cz.f l0=some r):
  Calls Tryz.prog 119 #[.slice A0 l0.length c0] w fun e w'=>∃iV:Value,e= .returned (iV)∧Kd.R (Kd.int .u8) 5 w' w.heap.size (fun _=>True) iV r∧Below w.heap.size w w':=by
 rcases A0 with _|b1
 ·have hl_:l0=[]:=by
   rcases Nat.eq_zero_or_pos l0.length with hz_|hz_
   ·exact List.eq_nil_of_length_eq_zero hz_
   ·obtain⟨ad_,he_,_⟩:=hr0.2.2 hz_
    cases he_
  subst hl_
  obtain rfl:r=[]:=by
   simp[cz.f]at h;exact h
  have qi:=Lib.run_eql_slice_nil (P:=Tryz.prog) w 39 5 none 0 c0 0 0 (by kernel_rfl)
  go_enter func119,ntmps119
  go_wp2
  go_ret
  exact⟨_,rfl,Kd.gv _ _ _ _ _,Below.refl _ _⟩
 ·exact cz.lV b1 c0 l0 r w hr0 hc0 h

def df.f (l0:List (ct)):Option ((List (ct))):=(some (([]:List (ct)):List (ct))).bind fun b1=>(if b1.length+l0.length<4398046511104 then(some (b1++l0))else(none))
theorem df.lV (a0_:Addr) (c0:Nat) (l0:List (ct)) (r:List (ct)) (w:World) (hr0:Kd.C fa w (some a0_) l0.length l0) (hc0:l0.length≤c0) (h:df.f l0=some r):
  Calls Tryz.prog 120 #[.slice (some a0_) l0.length c0] w fun e w'=>∃iV:Value,e= .returned (iV)∧Kd.R fa 82 w' w.heap.size (fun _=>True) iV r∧Below w.heap.size w w':=by
 have bB:=ae.mk hr0;have bD:=ae.mk hc0;clear hr0 hc0;have HB:=am (Below.refl w.heap.size w);unfold df.f at h;have H:=h;clear h;obtain⟨b1,cX⟩:∃y_:List (ct),y_=(([]:List (ct))):=⟨_,rfl⟩;replace H:(if b1.length+l0.length<4398046511104 then(some (b1++l0))else(none))=some r:=oY;have b3:=ae.mk cX;clear cX
 by_cases c2:b1.length+l0.length<4398046511104
 rotate_left
 ·rw[if_neg c2]at H;exact absurd H (by simp)
 rw[if_pos c2]at H;have b7:=ae.mk c2;clear c2;obtain⟨b8,cX⟩:∃y_:List (ct),y_=(b1++l0):=⟨_,rfl⟩;replace H:(some b8)=some r:=oY;have b5:=ae.mk cX;clear cX;obtain rfl:=Option.some.inj H;have qi:=Lib.run_eql_slice_nil (P:=Tryz.prog) w 56 82 (some a0_) l0.length c0 0 0 (by kernel_rfl)
 go_enter func120,ntmps120
 go_wp2_with (first|((with_reducible refine ai (N:=5) rfl ?_);refine Kd.iO fa _ 82 ?hg (N:=5) ?hd (xs:=([]:List (ct))) (inner:=[]) (ok:=fun _=>True) (ft:=fun _=>True) ?hr ?hp (fun _ hk=>hk) trivial (Below.refl _ _) (Nat.le_refl _) (by simp) ?_;(case hd=>rfl);(case hg=>rfl);(case hr=>first|(go_simp;done)|(go_simp;rfl));(case hp=>exact(cK.none _ _));intro b9 w3 b2 hb fc da;clear fc da;(first|rw[←b3.out]at b2|(simp only[Int.reduceToNat]at b2;rw[←b3.out]at b2));have b4:=am (Kd.aw b2 (ah oB));replace HB:=hB HB hb;clear hb b2)|((with_reducible refine et (b:= .append) (xs:= #[.tmp 5,.tmp 6]) rfl ?_);at_builtin;refine Kd.eW fa (w0:=w) w.heap.size rfl (.tmp 5) (.tmp 6) 56 82 (.agg #[(.string ⟨#[]⟩),(.string ⟨#[]⟩)]) 32 rfl underlying56 nP rfl (by decide) (by omega) b9 b1 l0 _ _ _ (fun _=>True) (fun _=>False) rfl rfl ?aO ?aR (fun _ _ h=>h) (fun _ h=>h.elim) ?aF ?aB ?aS ?aL ?_;(case aR=>repeat(first|exact(Kd.de bB.out HB.out)|(with_reducible refine Kd.fx ?_ _)|(with_reducible refine Kd.fy ?_ _)|(with_reducible refine Kd.hD ?_)));(case aB=>exact oB);(case aF=>exact(fun _ _=>trivial));(case aO=>exact(oR b4));(case aS=>exact(ah oB));(case aL=>have:=b7.out;omega);intro bC w5 ho hb hg hat;rw[←b5.out]at ho;have b6:=am (ho);replace HB:=am (hb);clear b4;clear ho hb hg hat))
 go_ret
 exact⟨_,oE,oR b6,oB⟩
theorem df.calls (A0:Option Addr) (c0:Nat) (l0:List (ct)) (r:List (ct)) (w:World) (hr0:Kd.C fa w A0 l0.length l0) (hc0:l0.length≤c0) (h:df.f l0=some r):
  Calls Tryz.prog 120 #[.slice A0 l0.length c0] w fun e w'=>∃iV:Value,e= .returned (iV)∧Kd.R fa 82 w' w.heap.size (fun _=>True) iV r∧Below w.heap.size w w':=by
 rcases A0 with _|b1
 ·have hl_:l0=[]:=by
   rcases Nat.eq_zero_or_pos l0.length with hz_|hz_
   ·exact List.eq_nil_of_length_eq_zero hz_
   ·obtain⟨ad_,he_,_⟩:=hr0.2.2 hz_
    cases he_
  subst hl_
  obtain rfl:r=[]:=by
   simp[df.f]at h;exact h
  have qi:=Lib.run_eql_slice_nil (P:=Tryz.prog) w 56 82 none 0 c0 0 0 (by kernel_rfl)
  go_enter func120,ntmps120
  go_wp2
  go_ret
  exact⟨_,rfl,Kd.gv _ _ _ _ _,Below.refl _ _⟩
 ·exact df.lV b1 c0 l0 r w hr0 hc0 h

def kD.f (br:ByteArray) (aj:Int) (cM:ByteArray) (cF:Int):Option (Bool):=if br.toList=cM.toList then(if aj=cF then(some true)else(some false))else(some false)
theorem kD.calls (br:ByteArray) (aj:Int) (cM:ByteArray) (cF:Int) (r:Bool) (w:World) (h:kD.f br aj cM cF=some r):
  Calls Tryz.prog 137 #[.agg #[.string br,.int .i64 aj],.agg #[.string cM,.int .i64 cF]] w fun e w'=>e= .returned (.bool r)∧Below w.heap.size w w':=by
 have bI:=underlying75;have HB:=am (Below.refl w.heap.size w);unfold kD.f at h;have H:=h;clear h
 by_cases c3:br.toList=cM.toList
 rotate_left
 ·rw[if_neg c3]at H;have b9:(br.toList==cM.toList)=false:=beq_eq_false_iff_ne.mpr c3;have bB:(br.toList !=cM.toList)=true:=bne_iff_ne.mpr c3;obtain rfl:=Option.some.inj H
  go_enter func137,ntmps137
  go_wp2_with (first|((with_reducible refine ai (N:=2) rfl ?_);refine eh 2 #[.string br,.int .i64 aj] 75 ?_;intro b5 hg bL hbox hb;have b1:=am (hbox);have b6:=eg hg;replace HB:=hB HB hb;clear hb hbox hg)|((with_reducible refine ai (N:=3) rfl ?_);refine eh 3 #[.string cM,.int .i64 cF] 75 ?_;intro b7 hg bM hbox hb;have b4:=am (hbox);have b8:=eg hg;have b2:=eY hg b1;have b3:=eZ hg b1;replace b1:=aQ b1 hb;replace HB:=hB HB hb;clear hb hbox hg;have bE:=b2.out;have bF:=b3.out;obtain⟨⟨_,_⟩,_,_⟩:=z2 b1;obtain⟨⟨_,_⟩,_,_⟩:=z2 b4))
  go_ret
  exact⟨oE,oB⟩
 rw[if_pos c3]at H;have b9:(br.toList==cM.toList)=true:=beq_iff_eq.mpr c3;have bB:(br.toList !=cM.toList)=false:=bne_eq_false_iff_eq.mpr c3;clear c3
 by_cases c4:aj=cF
 rotate_left
 ·rw[if_neg c4]at H;have bC:(aj==cF)=false:=beq_eq_false_iff_ne.mpr c4;have bD:(aj !=cF)=true:=bne_iff_ne.mpr c4;obtain rfl:=Option.some.inj H
  go_enter func137,ntmps137
  go_wp2_with (first|((with_reducible refine ai (N:=2) rfl ?_);refine eh 2 #[.string br,.int .i64 aj] 75 ?_;intro b5 hg bN hbox hb;have b1:=am (hbox);have b6:=eg hg;replace HB:=hB HB hb;clear hb hbox hg)|((with_reducible refine ai (N:=3) rfl ?_);refine eh 3 #[.string cM,.int .i64 cF] 75 ?_;intro b7 hg bO hbox hb;have b4:=am (hbox);have b8:=eg hg;have b2:=eY hg b1;have b3:=eZ hg b1;replace b1:=aQ b1 hb;replace HB:=hB HB hb;clear hb hbox hg;have bG:=b2.out;have bH:=b3.out;obtain⟨⟨_,_⟩,_,_⟩:=z2 b1;obtain⟨⟨_,_⟩,_,_⟩:=z2 b4))
  go_ret
  exact⟨oE,oB⟩
 rw[if_pos c4]at H;have bC:(aj==cF)=true:=beq_iff_eq.mpr c4;have bD:(aj !=cF)=false:=bne_eq_false_iff_eq.mpr c4;clear c4;obtain rfl:=Option.some.inj H
 go_enter func137,ntmps137
 go_wp2_with (first|((with_reducible refine ai (N:=2) rfl ?_);refine eh 2 #[.string br,.int .i64 aj] 75 ?_;intro b5 hg w5 hbox hb;have b1:=am (hbox);have b6:=eg hg;replace HB:=hB HB hb;clear hb hbox hg)|((with_reducible refine ai (N:=3) rfl ?_);refine eh 3 #[.string cM,.int .i64 cF] 75 ?_;intro b7 hg w6 hbox hb;have b4:=am (hbox);have b8:=eg hg;have b2:=eY hg b1;have b3:=eZ hg b1;replace b1:=aQ b1 hb;replace HB:=hB HB hb;clear hb hbox hg;have bJ:=b2.out;have bK:=b3.out;obtain⟨⟨_,_⟩,_,_⟩:=z2 b1;obtain⟨⟨_,_⟩,_,_⟩:=z2 b4))
 go_ret
 exact⟨oE,oB⟩

def js.f (br:ByteArray) (aj:ByteArray) (cM:ByteArray) (cF:ByteArray):Option (Bool):=if br.toList=cM.toList then(if aj.toList=cF.toList then(some true)else(some false))else(some false)
theorem js.calls (br:ByteArray) (aj:ByteArray) (cM:ByteArray) (cF:ByteArray) (r:Bool) (w:World) (h:js.f br aj cM cF=some r):
  Calls Tryz.prog 138 #[.agg #[.string br,.string aj],.agg #[.string cM,.string cF]] w fun e w'=>e= .returned (.bool r)∧Below w.heap.size w w':=by
 have bI:=underlying82;have HB:=am (Below.refl w.heap.size w);unfold js.f at h;have H:=h;clear h
 by_cases c3:br.toList=cM.toList
 rotate_left
 ·rw[if_neg c3]at H;have b9:(br.toList==cM.toList)=false:=beq_eq_false_iff_ne.mpr c3;have bB:(br.toList !=cM.toList)=true:=bne_iff_ne.mpr c3;obtain rfl:=Option.some.inj H
  go_enter func138,ntmps138
  go_wp2_with (first|((with_reducible refine ai (N:=2) rfl ?_);refine eh 2 #[.string br,.string aj] 82 ?_;intro b5 hg bL hbox hb;have b1:=am (hbox);have b6:=eg hg;replace HB:=hB HB hb;clear hb hbox hg)|((with_reducible refine ai (N:=3) rfl ?_);refine eh 3 #[.string cM,.string cF] 82 ?_;intro b7 hg bM hbox hb;have b4:=am (hbox);have b8:=eg hg;have b2:=eY hg b1;have b3:=eZ hg b1;replace b1:=aQ b1 hb;replace HB:=hB HB hb;clear hb hbox hg;have bE:=b2.out;have bF:=b3.out;obtain⟨⟨_,_⟩,_,_⟩:=z2 b1;obtain⟨⟨_,_⟩,_,_⟩:=z2 b4))
  go_ret
  exact⟨oE,oB⟩
 rw[if_pos c3]at H;have b9:(br.toList==cM.toList)=true:=beq_iff_eq.mpr c3;have bB:(br.toList !=cM.toList)=false:=bne_eq_false_iff_eq.mpr c3;clear c3
 by_cases c4:aj.toList=cF.toList
 rotate_left
 ·rw[if_neg c4]at H;have bC:(aj.toList==cF.toList)=false:=beq_eq_false_iff_ne.mpr c4;have bD:(aj.toList !=cF.toList)=true:=bne_iff_ne.mpr c4;obtain rfl:=Option.some.inj H
  go_enter func138,ntmps138
  go_wp2_with (first|((with_reducible refine ai (N:=2) rfl ?_);refine eh 2 #[.string br,.string aj] 82 ?_;intro b5 hg bN hbox hb;have b1:=am (hbox);have b6:=eg hg;replace HB:=hB HB hb;clear hb hbox hg)|((with_reducible refine ai (N:=3) rfl ?_);refine eh 3 #[.string cM,.string cF] 82 ?_;intro b7 hg bO hbox hb;have b4:=am (hbox);have b8:=eg hg;have b2:=eY hg b1;have b3:=eZ hg b1;replace b1:=aQ b1 hb;replace HB:=hB HB hb;clear hb hbox hg;have bG:=b2.out;have bH:=b3.out;obtain⟨⟨_,_⟩,_,_⟩:=z2 b1;obtain⟨⟨_,_⟩,_,_⟩:=z2 b4))
  go_ret
  exact⟨oE,oB⟩
 rw[if_pos c4]at H;have bC:(aj.toList==cF.toList)=true:=beq_iff_eq.mpr c4;have bD:(aj.toList !=cF.toList)=false:=bne_eq_false_iff_eq.mpr c4;clear c4;obtain rfl:=Option.some.inj H
 go_enter func138,ntmps138
 go_wp2_with (first|((with_reducible refine ai (N:=2) rfl ?_);refine eh 2 #[.string br,.string aj] 82 ?_;intro b5 hg w5 hbox hb;have b1:=am (hbox);have b6:=eg hg;replace HB:=hB HB hb;clear hb hbox hg)|((with_reducible refine ai (N:=3) rfl ?_);refine eh 3 #[.string cM,.string cF] 82 ?_;intro b7 hg w6 hbox hb;have b4:=am (hbox);have b8:=eg hg;have b2:=eY hg b1;have b3:=eZ hg b1;replace b1:=aQ b1 hb;replace HB:=hB HB hb;clear hb hbox hg;have bJ:=b2.out;have bK:=b3.out;obtain⟨⟨_,_⟩,_,_⟩:=z2 b1;obtain⟨⟨_,_⟩,_,_⟩:=z2 b4))
 go_ret
 exact⟨oE,oB⟩

def iv.f (br:ByteArray) (aj:ByteArray) (a1:Int):Option (Int):=if(wrap64 (a1-(br.size:Int)))<0 then(some (-1))else(if(wrap64 ((wrap64 (a1-(br.size:Int)))-(aj.size:Int)))<0 then(some (-1))else(some (wrap64 ((wrap64 (a1-(br.size:Int)))-(aj.size:Int)))))
theorem iv.calls (br:ByteArray) (aj:ByteArray) (a1:Int) (r:Int) (w:World) (h:iv.f br aj a1=some r):
  Calls Tryz.prog 134 #[.agg #[.string br,.string aj],.int .i64 a1] w fun e w'=>e= .returned (.int .i64 r)∧Below w.heap.size w w':=by
 have b6:=underlying133;have HB:=am (Below.refl w.heap.size w);unfold iv.f at h;have H:=h;clear h;replace H:=iM H;rcases H with⟨b4,H⟩|⟨b4,H⟩
 ·obtain rfl:=Option.some.inj H
  go_enter func134,ntmps134
  go_wp2_with (first|((with_reducible refine ai (N:=2) rfl ?_);refine eh 2 #[.string br,.string aj] 133 ?_;intro b2 hg w4 hbox hb;have b1:=am (hbox);have b3:=eg hg;replace HB:=hB HB hb;clear hb hbox hg;obtain⟨⟨_,_⟩,_,_⟩:=z2 b1))
  go_ret
  exact⟨oE,oB⟩
 replace H:=iM H;rcases H with⟨b5,H⟩|⟨b5,H⟩
 ·obtain rfl:=Option.some.inj H
  go_enter func134,ntmps134
  go_wp2_with (first|((with_reducible refine ai (N:=2) rfl ?_);refine eh 2 #[.string br,.string aj] 133 ?_;intro b2 hg w7 hbox hb;have b1:=am (hbox);have b3:=eg hg;replace HB:=hB HB hb;clear hb hbox hg;obtain⟨⟨_,_⟩,_,_⟩:=z2 b1))
  go_ret
  exact⟨oE,oB⟩
 obtain rfl:=Option.some.inj H
 go_enter func134,ntmps134
 go_wp2_with (first|((with_reducible refine ai (N:=2) rfl ?_);refine eh 2 #[.string br,.string aj] 133 ?_;intro b2 hg w9 hbox hb;have b1:=am (hbox);have b3:=eg hg;replace HB:=hB HB hb;clear hb hbox hg;obtain⟨⟨_,_⟩,_,_⟩:=z2 b1))
 go_ret
 exact⟨oE,oB⟩

theorem adA {α:Type}{d:Kd α}{e base n c:Nat}{ok:Nat→Prop}{w:World}{A:Option Addr}{xs:List α}(h:d.R e w base ok (.slice A n c) xs):∀ad,A=some ad→0<xs.length→ad.spot=none:=by
 intro ad hA _;subst hA;obtain⟨g,rfl⟩:=Kd.vZ h
 rfl
def ee.f (l:List Int) (x:Int):Option Bool:=if l.length≤9223372036854775807 then some (l.contains x)else none
theorem ee.calls (A0:Option Addr) (c0:Nat) (l0:List Int) (a1:Int) (r:Bool) (w:World) (hr0:Kd.C (Kd.int .i64) w A0 l0.length l0) (hc0:l0.length≤c0) (h:ee.f l0 a1=some r) (hA:∀ad,A0=some ad→0<l0.length→ad.spot=none:=by first|exact adA (by first|(with_reducible assumption)|exact ae.out (by with_reducible assumption))):
  Calls Tryz.prog 146 #[.slice A0 l0.length c0,.int .i64 a1] w fun e w'=>e= .returned (.bool r)∧Below w.heap.size w w':=by
 unfold ee.f at h
 split at h
 case isFalse=>cases h
 case isTrue hl=>
 obtain rfl:=Option.some.inj h
 by_cases h0:l0.length=0
 ·obtain rfl:=List.eq_nil_of_length_eq_zero h0
  exact(Any.slices_Contains_int_empty Tryz.lays107 A0 c0 a1 w).mono fun e w' ⟨he,hw⟩=>⟨he,hw▸Below.refl _ _⟩
 obtain⟨ad,e0,_⟩:=Kd.kf hr0 0 (by omega) (by omega);subst e0;have hsp:=hA ad rfl (by omega);obtain⟨bk,o,sp⟩:=ad;have hsp:sp=none:=hsp;subst hsp
 refine(Any.slices_Contains_int Tryz.lays107 bk o l0.length c0 l0 a1 w (Nat.le_refl _) hl (fun j hj=> ?_)).mono fun e w' ⟨he,hw⟩=>⟨by rw[he,List.take_length],hw▸Below.refl _ _⟩
 obtain⟨ad',e',hx⟩:=Kd.kf hr0 (j:Int) (by omega) (by omega);injection e' with e';subst e';rw[Int.toNat_natCast,Addr.add_lit]at hx;rw[hx];simp[rd]
def fS.f (l0:List Int) (a1:Int):Option (Int):=if(wrap64 (a1-(l0.length:Int)))<0 then(some (-1))else(some (wrap64 (a1-(l0.length:Int))))
theorem fS.calls (A0:Option Addr) (c0:Nat) (l0:List Int) (a1:Int) (r:Int) (w:World) (hr0:Kd.C (Kd.int .u8) w A0 l0.length l0) (hc0:l0.length≤c0) (h:fS.f l0 a1=some r):
  Calls Tryz.prog 108 #[.slice A0 l0.length c0,.int .i64 a1] w fun e w'=>e= .returned (.int .i64 r)∧fv w w':=by
 have b2:=ae.mk hr0;have b3:=ae.mk hc0;clear hr0 hc0;unfold fS.f at h;have H:=h;clear h;replace H:=iM H;rcases H with⟨b1,H⟩|⟨b1,H⟩
 ·obtain rfl:=Option.some.inj H
  go_enter func108,ntmps108
  go_wp2
  go_ret
  exact⟨oS,oD⟩
 obtain rfl:=Option.some.inj H
 go_enter func108,ntmps108
 go_wp2
 go_ret
 exact⟨oS,oD⟩

def jt.f (br:ByteArray) (aj:Int) (a1:Int):Option (Int):=if(wrap64 (a1-(br.size:Int)))<0 then(some (-1))else(some (wrap64 (a1-(br.size:Int))))
theorem jt.calls (br:ByteArray) (aj:Int) (a1:Int) (r:Int) (w:World) (h:jt.f br aj a1=some r):
  Calls Tryz.prog 133 #[.agg #[.string br,.int .i64 aj],.int .i64 a1] w fun e w'=>e= .returned (.int .i64 r)∧Below w.heap.size w w':=by
 have b5:=underlying131;have HB:=am (Below.refl w.heap.size w);unfold jt.f at h;have H:=h;clear h;replace H:=iM H;rcases H with⟨b4,H⟩|⟨b4,H⟩
 ·obtain rfl:=Option.some.inj H
  go_enter func133,ntmps133
  go_wp2_with (first|((with_reducible refine ai (N:=2) rfl ?_);refine eh 2 #[.string br,.int .i64 aj] 131 ?_;intro b2 hg w4 hbox hb;have b1:=am (hbox);have b3:=eg hg;replace HB:=hB HB hb;clear hb hbox hg;obtain⟨⟨_,_⟩,_,_⟩:=z2 b1))
  go_ret
  exact⟨oE,oB⟩
 obtain rfl:=Option.some.inj H
 go_enter func133,ntmps133
 go_wp2_with (first|((with_reducible refine ai (N:=2) rfl ?_);refine eh 2 #[.string br,.int .i64 aj] 131 ?_;intro b2 hg w6 hbox hb;have b1:=am (hbox);have b3:=eg hg;replace HB:=hB HB hb;clear hb hbox hg;obtain⟨⟨_,_⟩,_,_⟩:=z2 b1))
 go_ret
 exact⟨oE,oB⟩

def ba.f (a0:Int) (a1:Int) (a2:Int):Option (Bool):=if a0≥a1 then(some (decide (a0≤a2)))else(some false)
theorem ba.calls (a0:Int) (a1:Int) (a2:Int) (r:Bool) (w:World) (h:ba.f a0 a1 a2=some r):
  Calls Tryz.prog 60 #[.int .i64 a0,.int .i64 a1,.int .i64 a2] w fun e w'=>e= .returned (.bool r)∧fv w w':=by
 unfold ba.f at h;have H:=h;clear h;replace H:=itH H;rcases H with⟨b1,H⟩|⟨b1,H⟩
 ·obtain rfl:=Option.some.inj H
  go_enter func60,ntmps60
  go_wp2
  go_ret
  exact⟨oS,oD⟩
 obtain rfl:=Option.some.inj H
 go_enter func60,ntmps60
 go_wp2
 go_ret
 exact⟨oS,oD⟩

def bw.f (a0:Int) (a1:Int) (a2:Int):Option (Bool):=if a0≥a1 then(some (decide (a0≤a2)))else(some false)
theorem bw.calls (a0:Int) (a1:Int) (a2:Int) (r:Bool) (w:World) (h:bw.f a0 a1 a2=some r):
  Calls Tryz.prog 61 #[.int .i64 a0,.int .i64 a1,.int .i64 a2] w fun e w'=>e= .returned (.bool r)∧fv w w':=by
 unfold bw.f at h;have H:=h;clear h;replace H:=itH H;rcases H with⟨b1,H⟩|⟨b1,H⟩
 ·obtain rfl:=Option.some.inj H
  go_enter func61,ntmps61
  go_wp2
  go_ret
  exact⟨oS,oD⟩
 obtain rfl:=Option.some.inj H
 go_enter func61,ntmps61
 go_wp2
 go_ret
 exact⟨oS,oD⟩

def nF (l:List Int):List Int:=l.mergeSort fun x y=>decide (x≤y)
theorem lI (l:List Int):(nF l).length=l.length:=List.length_mergeSort ..
/-- slices.Sort of a row of the call's own: it is in order behind it. -/
theorem aci.calls (A:Option Addr) (c b0:Nat) (ok:Nat→Prop) (l:List Int) (w:World) (ho:Kd.R (Kd.int .i64) 3 w b0 ok (.slice A l.length c) l) (hl:l.length<4611686018427387904):
  Calls Tryz.prog 147 #[.slice A l.length c] w fun e w'=>e= .returned (.tuple #[])∧Kd.R (Kd.int .i64) 3 w' b0 ok (.slice A l.length c) (nF l)∧w.grownBy w' (Value.slice A l.length c).ownBlock:=by
 have ho':=ho;obtain⟨hok,inner,⟨hil,hown⟩,hrep⟩:=ho;rcases hown with⟨he,h0⟩|⟨g,cap,cur,he,hbg,hh,hnc,hcm,hcs,hin⟩
 ·obtain rfl:=List.eq_nil_of_length_eq_zero h0
  refine(Any.slices_Sort_int_none Tryz.lays189 A c w).mono fun e w' ⟨he,hw⟩=>⟨he,?_,?_⟩
  ·subst hw;rw[show nF []=[]from List.eq_nil_of_length_eq_zero (by rw[lI];rfl)];exact ho'
  ·subst hw;exact⟨rfl,rfl,rfl,Nat.le_refl _,fun _ _ _=>rfl⟩
 ·injection he with ha _ hc;subst ha;subst hc;rw[show(Kd.int .i64).sz=1 from rfl]at hil hcs hin hrep;have hen:=Kd.xV (enc:=Value.int .i64) hrep;rw[hen,Nat.mul_one]at hin;have hgw:g<w.heap.size:=ie hh
  refine(Any.slices_Sort_int Tryz.lays189 g 0 c l w (holds_of_blockI hh hin) hgw hl).mono fun e w' ⟨he,n,os,hw⟩=> ?_
  subst hw;refine⟨he,⟨fun k hk=>hok k hk,(nF l).map (Value.int .i64),?_,?_⟩,grownBy_sortedI _⟩
  ·rw[lI];exact ownsRow_sortedI (ss:=l) (lI l) hbg hh hnc hcm hcs
  ·exact Kd.qn (enc:=Value.int .i64) (nF l)
def GOk (w:World):Prop:=∃m,w.cell? ⟨Tryz.nv.g 1,0,none⟩=some (.int .i64 m)
theorem gk_ {w W:World}(h:Below w.heap.size w W) (hg:ae (GOk w)):GOk W:=by
 obtain⟨m,hm⟩:=hg.out;exact⟨m,mv h hm⟩
def strings_Split.f (a0 a1:ByteArray):Option (List ByteArray):=if a0.size<4294967281∧1≤a1.size then some (Lib.splitB a1 0 (Lib.countB a0 a1) a0)else none
theorem strings_Split.calls (a0 a1:ByteArray) (r:List ByteArray) (w:World) (h:strings_Split.f a0 a1=some r) (hG:GOk w:=by exact gk_ oB (by first|(with_reducible assumption)|assumption)):
  Calls Tryz.prog 121 #[.string a0,.string a1] w fun e w'=>∃iV:Value,e= .returned (iV)∧Kd.R Kd.string 9 w' w.heap.size (fun _=>True) iV r∧Below w.heap.size w w':=by
 unfold strings_Split.f at h
 split at h
 case isFalse=>cases h
 case isTrue hc=>
 obtain rfl:=Option.some.inj h;obtain⟨m,hm⟩:=hG;have hl:=Lib.splitB_all a1 hc.2 0 _ a0 rfl;have hle:=Lib.countB_le a1 hc.2 a0.size a0 (Nat.le_refl _)
 refine(Any.strings_Split {Tryz.laysM146 with} (by kernel_rfl) a0 a1 m w hc.1 hm hc.2).mono fun e w' ⟨he,hw⟩=> ?_
 subst hw;refine⟨_,he,?_,(Below.refl _ _).alloc (Nat.le_refl _) _⟩;refine Kd.uB (enc:=Value.string) (h1:=fun _=>rfl) ?_ (fun _ _=>trivial);have ho:=World.ownsRow_lit (base:=w.heap.size) (e:=9) (size:=1) w ((Lib.splitB a1 0 (Lib.countB a0 a1) a0).map Value.string).toArray (Lib.countB a0 a1+1) (Nat.le_refl _) (by simp only[maxLen];omega) (by simp[hl]);rw[←hl]at ho;rw[show(Tryz.nv.t 9)=9 from rfl,←hl]
 simpa [encs]using ho
end Go.Proofs.YtlecajlnjmbilaaGreatDoor.P
