/- The row of FnExactWriteAt, out of its plain statement and the printed walk. No condition. -/
import Derived.Test.YtlecajlnjmbilaaGreatDoorCards
import Derived.Test.YtlecajlnjmbilaaGreatDoorDoor
import Derived.Test.YtlecajlnjmbilaaGreatDoorRows
import Derived.Test.YtlecajlnjmbilaaGreatDoorPureFnExactWriteAt
import Derived.ProofKit
namespace Go.Proofs.YtlecajlnjmbilaaGreatDoor.nG
open Go.ChangeShapes Go.WideShapes Go.ChangeAt Go.RowKit Go.Proofs.YtlecajlnjmbilaaGreatDoor.P Go.Proofs.YtlecajlnjmbilaaGreatDoor.Op Go.Proofs.YtlecajlnjmbilaaGreatDoor.Kinds Go.Proofs.ae.au
open Go.ChangeMaps (open_string shut_string)
theorem own:ownKnob Tryz.prog.godebug=none:=by kernel_rfl
theorem laidOut:laidOutB Tryz.prog=true:=by kernel_rfl
set_option maxRecDepth 100000 in
theorem lifted (os:Os) (started:os.Started) (H:Type) (enc:TypeId×Value→H):
    ReturnsInHanded {} Tryz.checked os 7 .any (fun w args=>(Rows.fnExactWriteAtSpec.pre enc Tryz.prog Tryz.f7 Rows.fnExactWriteAtRow.domain false w args∧laidMetH Tryz.prog Rows.fnExactWriteAtRow.laid w)∧sizedMet enc Tryz.prog Tryz.f7 (OpenSpec.ofChange Rows.fnExactWriteAtSpec) false w args) (Rows.fnExactWriteAtSpec.post enc Tryz.prog Tryz.f7 false true false false):=by
  refine sC.nH (C:=Tryz.checked) (X:=fun w _=>laidMetH Tryz.prog Rows.fnExactWriteAtRow.laid w) (fun _ _ _ hh h=>h.of_heap hh) own started (by kernel_rfl) Tryz.func7
    (ChangeSpec.witness_shaped (enc:=enc) (C:=Tryz.checked) (os:=os) (X:=fun w _=>laidMetH Tryz.prog Rows.fnExactWriteAtRow.laid w) false (World.laidAll Tryz.prog os Rows.fnExactWriteAtRow.laid) #[.agg #[.slice none 0 0,.int .i64 0],.string ByteArray.empty,.int .i64 0,.slice none 0 0] 8 (World.laidAll_os _ _ _)
      (World.shaped_of_ZipB (by kernel_rfl) (by kernel_rfl)) (by kernel_rfl) (by kernel_rfl) (by kernel_rfl) (sC.met os _)) ?_
  intro W base args ds gs before hval0 hW hcnd hsz0 hL_ ady _;have hG:P.GOk W:=Tryz.laysM146.s1_3 W ady;clear hL_ ady;have hval:∀(j:Nat) t v,Tryz.f7.params[j]? =some t→args[j]? =some v→Value.okWide Tryz.prog W .any base t v:=hval0;have hW':=hW;obtain⟨p,q,hA0,hV,rfl,hfz,hnd⟩:=hW;have hA:DataW.TrodAll enc Tryz.prog W 0 (fun _=>true) true Tryz.f7.params.toList args.toList ds p:=hA0;rw[Tryz.params7]at hA hval;obtain⟨v0,vs0,d0,ds0,p0,q0,hargs,rfl,rfl,h0,r0⟩:=trodAll_cons hA;obtain⟨v1,vs1,d1,ds1,p1,q1,rfl,rfl,rfl,h1,r1⟩:=trodAll_cons r0;obtain⟨v2,vs2,d2,ds2,p2,q2,rfl,rfl,rfl,h2,r2⟩:=trodAll_cons r1;obtain⟨v3,vs3,d3,ds3,p3,q3,rfl,rfl,rfl,h3,r3⟩:=trodAll_cons r2;obtain⟨rfl,rfl,rfl⟩:=trodAll_nil r3
  obtain rfl:args= #[v0,v1,v2,v3]:=by cases args;simp_all
  obtain⟨rfl,rfl⟩:=trodVars_none hV;have k0:=h0
  have lt0:∀x∈p0,x.block<W.heap.size:=by obtain⟨m,hm⟩:=k0;exact DataW.trod_lt m _ _ _ hm
  obtain⟨cs0,x0,rfl,hK0,hg0⟩:=uH abN Tryz.underlying24 (hval 0 24 v0 rfl rfl) h0;obtain⟨bj,aW,hcs0,ck,ch⟩:=aaa hK0
  obtain rfl:cs0= #[.slice bj x0.f0.length aW,.int .i64 x0.f1]:=by cases cs0;simp_all
  obtain⟨x1,rfl,rfl,rfl,y1⟩:=open_string Tryz.underlying9 (hval 1 9 v1 rfl rfl) h1;obtain⟨x2,rfl,rfl,rfl,w2⟩:=open_int Tryz.underlying3 (hval 2 3 v2 rfl rfl) h2;have k3:=h3
  have lt3:∀x∈p3,x.block<W.heap.size:=by obtain⟨m,hm⟩:=k3;exact DataW.trod_lt m _ _ _ hm
  obtain⟨A3,c3,x3,rfl,hc3,hr3,hg3⟩:=wL (kY Tryz.underlying39 (by kernel_rfl) (kK (k:= .u8) Tryz.underlying5)) Tryz.underlying39 (hval 3 39 v3 rfl rfl) h3;clear hA0 hval0 hsz0 hval;obtain⟨k,hk⟩:=Pure.FnExactWriteAt x0 x1 x2 x3 hg0 y1 w2 hg3
  refine(cA.calls k bj aW x0.f0 x0.f1 x1 x2 A3 c3 x3 true W ch ck hr3 hc3 hk hG).mono fun e W' hpost=> ?_
  have he:e= .returned (.bool true):=by first|exact hpost.1|exact hpost.1.1
  have bel:Below W.heap.size W W':=by first|exact hpost.2|exact hpost.2.below|exact eX.below hpost.2
  subst he;exact⟨_,rfl,_,_,_,[],_,[],hW',trodAll_mk1 (shut_bool Tryz.underlying4 _),(trodAll_cons_mk (Below.trod laidOut (by kernel_rfl) (of_decide_eq_true (by kernel_rfl)) k0 bel lt0) (trodAll_cons_mk (shut_string Tryz.underlying9 y1) (trodAll_cons_mk (shut_int Tryz.underlying3 w2) (trodAll_cons_mk (Below.trod laidOut (by kernel_rfl) (of_decide_eq_true (by kernel_rfl)) k3 bel lt3) trodAll_mk0)))),rfl,bel.frame _,fun h=>by cases h⟩
theorem acC {a b:Bool}(x:a=true) (y:b=true):(a&&b)=true:=by rw[x,y];rfl
set_option maxHeartbeats 8000000 in
theorem closed:joinedFacts Tryz.prog 7 Tryz.f7 Rows.fnExactWriteAtSpec Rows.fnExactWriteAtRow=true:=by
  unfold joinedFacts
  iterate 31 refine acC ?_ (by as_aux_lemma=>kernel_rfl)
  kernel_rfl
theorem over:Rows.fnExactWriteAtRow.holds Tryz.pinned (OpenSpec.ofChange Rows.fnExactWriteAtSpec):=
  OpenClaim.holds_of_wide 7 Tryz.f7 rfl rfl rfl rfl rfl rfl rfl ⟨rfl,rfl,rfl,rfl,rfl⟩ rfl rfl rfl rfl rfl (by kernel_rfl) Tryz.func7 closed
    (of_decide_eq_true (by kernel_rfl)) (by unfold Func.isWrapper;first|(rw[if_pos (by decide+kernel)];kernel_rfl)|(rw[if_neg (by decide+kernel)];exact⟨rfl,rfl⟩))
    (fun os started H enc _=>lifted os started H enc)
theorem acD:Rows.FnExactWriteAtCardSaid:=
  Claim7.holds_tied_plain_at .later [] [.data,.pinned] true (true,"66c7900024005d67df4194d74a00d411cd8b115c0adedbd4d2cf7cdf8201b696") false over (fun _ h=>by cases h) (by kernel_rfl) (fun _ h=>by cases h) fnExactWriteAt_row_tie rfl ⟨rfl,rfl⟩ (by kernel_rfl) rfl
    (fun f fn hf hfn=>by
      obtain rfl:f=7:=Option.some.inj ((show Tryz.prog.funcNamed Rows.fnExactWriteAtRow.func=some 7 by kernel_rfl).symm.trans hf)|>.symm;obtain rfl:fn=Tryz.f7:=(Option.some.inj (Tryz.func7.symm.trans hfn)).symm
      exact⟨by kernel_rfl,fun j t ht=>by
        rw[Tryz.params7]at ht
        have hm:t∈[24,9,3,39]:=by simpa using Array.mem_of_getElem? ht
        have hall:([24,9,3,39].all fun u=> !Tryz.prog.wantsStandIn u)=true:=by kernel_rfl
        exact(show Tryz.prog.wantsStandIn t=false by simpa using List.all_eq_true.1 hall t hm)⟩)
    (by kernel_rfl)
theorem proved:Rows.FnExactWriteAtCardSaid:=acD
#print axioms proved
end Go.Proofs.YtlecajlnjmbilaaGreatDoor.nG
namespace Go.Proofs.YtlecajlnjmbilaaGreatDoor
theorem fnExactWriteAt_holds:Rows.FnExactWriteAtCardSaid:=nG.proved
end Go.Proofs.YtlecajlnjmbilaaGreatDoor
