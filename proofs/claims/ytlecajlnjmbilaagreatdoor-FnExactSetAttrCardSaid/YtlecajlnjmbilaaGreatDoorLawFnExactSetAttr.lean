/- The row of FnExactSetAttr, out of its plain statement and the printed walk. No condition. -/
import Derived.Test.YtlecajlnjmbilaaGreatDoorCards
import Derived.Test.YtlecajlnjmbilaaGreatDoorDoor
import Derived.Test.YtlecajlnjmbilaaGreatDoorRows
import Derived.Test.YtlecajlnjmbilaaGreatDoorPureFnExactSetAttr
import Derived.ProofKit
namespace Go.Proofs.YtlecajlnjmbilaaGreatDoor.nL
open Go.ChangeShapes Go.WideShapes Go.ChangeAt Go.RowKit Go.Proofs.YtlecajlnjmbilaaGreatDoor.P Go.Proofs.YtlecajlnjmbilaaGreatDoor.Op Go.Proofs.YtlecajlnjmbilaaGreatDoor.Kinds Go.Proofs.ab.aq
open Go.ChangeMaps (open_string shut_string)
theorem own:ownKnob Tryz.prog.godebug=none:=by kernel_rfl
theorem laidOut:laidOutB Tryz.prog=true:=by kernel_rfl
set_option maxRecDepth 100000 in
theorem lifted (os:Os) (started:os.Started) (H:Type) (enc:TypeId×Value→H):
    ReturnsInHanded {} Tryz.checked os 8 .any (fun w args=>(Rows.fnExactSetAttrSpec.pre enc Tryz.prog Tryz.f8 Rows.fnExactSetAttrRow.domain false w args∧laidMetH Tryz.prog Rows.fnExactSetAttrRow.laid w)∧sizedMet enc Tryz.prog Tryz.f8 (OpenSpec.ofChange Rows.fnExactSetAttrSpec) false w args) (Rows.fnExactSetAttrSpec.post enc Tryz.prog Tryz.f8 false true false false):=by
  refine tf.nM (C:=Tryz.checked) (X:=fun w _=>laidMetH Tryz.prog Rows.fnExactSetAttrRow.laid w) (fun _ _ _ hh h=>h.of_heap hh) own started (by kernel_rfl) Tryz.func8
    (ChangeSpec.witness_shaped (enc:=enc) (C:=Tryz.checked) (os:=os) (X:=fun w _=>laidMetH Tryz.prog Rows.fnExactSetAttrRow.laid w) false (World.laidAll Tryz.prog os Rows.fnExactSetAttrRow.laid) #[.agg #[.slice none 0 0,.int .i64 0],.string ByteArray.empty,.string ByteArray.empty,.string ByteArray.empty] 8 (World.laidAll_os _ _ _)
      (World.shaped_of_ZipB (by kernel_rfl) (by kernel_rfl)) (by kernel_rfl) (by kernel_rfl) (by kernel_rfl) (tf.met os _)) ?_
  intro W base args ds gs before hval0 hW hcnd hsz0 hL_ adK _;have hG:P.GOk W:=Tryz.laysM146.s1_3 W adK;clear hL_ adK;have hval:∀(j:Nat) t v,Tryz.f8.params[j]? =some t→args[j]? =some v→Value.okWide Tryz.prog W .any base t v:=hval0;have hW':=hW;obtain⟨p,q,hA0,hV,rfl,hfz,hnd⟩:=hW;have hA:DataW.TrodAll enc Tryz.prog W 0 (fun _=>true) true Tryz.f8.params.toList args.toList ds p:=hA0;rw[Tryz.params8]at hA hval;obtain⟨v0,vs0,d0,ds0,p0,q0,hargs,rfl,rfl,h0,r0⟩:=trodAll_cons hA;obtain⟨v1,vs1,d1,ds1,p1,q1,rfl,rfl,rfl,h1,r1⟩:=trodAll_cons r0;obtain⟨v2,vs2,d2,ds2,p2,q2,rfl,rfl,rfl,h2,r2⟩:=trodAll_cons r1;obtain⟨v3,vs3,d3,ds3,p3,q3,rfl,rfl,rfl,h3,r3⟩:=trodAll_cons r2;obtain⟨rfl,rfl,rfl⟩:=trodAll_nil r3
  obtain rfl:args= #[v0,v1,v2,v3]:=by cases args;simp_all
  obtain⟨rfl,rfl⟩:=trodVars_none hV;have k0:=h0
  have lt0:∀x∈p0,x.block<W.heap.size:=by obtain⟨m,hm⟩:=k0;exact DataW.trod_lt m _ _ _ hm
  obtain⟨cs0,x0,rfl,hK0,hg0⟩:=vG abU Tryz.underlying24 (hval 0 24 v0 rfl rfl) h0;obtain⟨bo,bg,hcs0,cA,cv⟩:=aaa hK0
  obtain rfl:cs0= #[.slice bo x0.f0.length bg,.int .i64 x0.f1]:=by cases cs0;simp_all
  obtain⟨x1,rfl,rfl,rfl,y1⟩:=open_string Tryz.underlying9 (hval 1 9 v1 rfl rfl) h1;obtain⟨x2,rfl,rfl,rfl,y2⟩:=open_string Tryz.underlying9 (hval 2 9 v2 rfl rfl) h2;obtain⟨x3,rfl,rfl,rfl,y3⟩:=open_string Tryz.underlying9 (hval 3 9 v3 rfl rfl) h3;clear hA0 hval0 hsz0 hval;obtain⟨k,hk⟩:=Pure.FnExactSetAttr x0 x1 x2 x3 hg0 y1 y2 y3
  refine(cD.calls k bo bg x0.f0 x0.f1 x1 x2 x3 true W cv cA hk hG).mono fun e W' hpost=> ?_
  have he:e= .returned (.bool true):=by first|exact hpost.1|exact hpost.1.1
  have bel:Below W.heap.size W W':=by first|exact hpost.2|exact hpost.2.below|exact fv.below hpost.2
  subst he;exact⟨_,rfl,_,_,_,[],_,[],hW',trodAll_mk1 (shut_bool Tryz.underlying4 _),(trodAll_cons_mk (Below.trod laidOut (by kernel_rfl) (of_decide_eq_true (by kernel_rfl)) k0 bel lt0) (trodAll_cons_mk (shut_string Tryz.underlying9 y1) (trodAll_cons_mk (shut_string Tryz.underlying9 y2) (trodAll_cons_mk (shut_string Tryz.underlying9 y3) trodAll_mk0)))),rfl,bel.frame _,fun h=>by cases h⟩
theorem acP {a b:Bool}(x:a=true) (y:b=true):(a&&b)=true:=by rw[x,y];rfl
set_option maxHeartbeats 8000000 in
theorem closed:joinedFacts Tryz.prog 8 Tryz.f8 Rows.fnExactSetAttrSpec Rows.fnExactSetAttrRow=true:=by
  unfold joinedFacts
  iterate 31 refine acP ?_ (by as_aux_lemma=>kernel_rfl)
  kernel_rfl
theorem over:Rows.fnExactSetAttrRow.holds Tryz.pinned (OpenSpec.ofChange Rows.fnExactSetAttrSpec):=
  OpenClaim.holds_of_wide 8 Tryz.f8 rfl rfl rfl rfl rfl rfl rfl ⟨rfl,rfl,rfl,rfl,rfl⟩ rfl rfl rfl rfl rfl (by kernel_rfl) Tryz.func8 closed
    (of_decide_eq_true (by kernel_rfl)) (by unfold Func.isWrapper;first|(rw[if_pos (by decide+kernel)];kernel_rfl)|(rw[if_neg (by decide+kernel)];exact⟨rfl,rfl⟩))
    (fun os started H enc _=>lifted os started H enc)
theorem acQ:Rows.FnExactSetAttrCardSaid:=
  Claim7.holds_tied_plain_at .later [] [.data,.pinned] true (true,"66c7900024005d67df4194d74a00d411cd8b115c0adedbd4d2cf7cdf8201b696") false over (fun _ h=>by cases h) (by kernel_rfl) (fun _ h=>by cases h) fnExactSetAttr_row_tie rfl ⟨rfl,rfl⟩ (by kernel_rfl) rfl
    (fun f fn hf hfn=>by
      obtain rfl:f=8:=Option.some.inj ((show Tryz.prog.funcNamed Rows.fnExactSetAttrRow.func=some 8 by kernel_rfl).symm.trans hf)|>.symm;obtain rfl:fn=Tryz.f8:=(Option.some.inj (Tryz.func8.symm.trans hfn)).symm
      exact⟨by kernel_rfl,fun j t ht=>by
        rw[Tryz.params8]at ht
        have hm:t∈[24,9,9,9]:=by simpa using Array.mem_of_getElem? ht
        have hall:([24,9,9,9].all fun u=> !Tryz.prog.wantsStandIn u)=true:=by kernel_rfl
        exact(show Tryz.prog.wantsStandIn t=false by simpa using List.all_eq_true.1 hall t hm)⟩)
    (by kernel_rfl)
theorem proved:Rows.FnExactSetAttrCardSaid:=acQ
#print axioms proved
end Go.Proofs.YtlecajlnjmbilaaGreatDoor.nL
namespace Go.Proofs.YtlecajlnjmbilaaGreatDoor
theorem fnExactSetAttr_holds:Rows.FnExactSetAttrCardSaid:=nL.proved
end Go.Proofs.YtlecajlnjmbilaaGreatDoor
