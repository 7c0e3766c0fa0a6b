/- The row of FnExactRemoveDir, out of its plain statement and the printed walk. No condition. -/
import Derived.Test.YtlecajlnjmbilaaGreatDoorCards
import Derived.Test.YtlecajlnjmbilaaGreatDoorDoor
import Derived.Test.YtlecajlnjmbilaaGreatDoorRows
import Derived.Test.YtlecajlnjmbilaaGreatDoorPureFnExactRemoveDir
import Derived.ProofKit
namespace Go.Proofs.YtlecajlnjmbilaaGreatDoor.np
open Go.ChangeShapes Go.WideShapes Go.ChangeAt Go.RowKit Go.Proofs.YtlecajlnjmbilaaGreatDoor.P Go.Proofs.YtlecajlnjmbilaaGreatDoor.Op Go.Proofs.YtlecajlnjmbilaaGreatDoor.Kinds Go.Proofs.ab.ao
open Go.ChangeMaps (open_string shut_string)
theorem own:ownKnob Tryz.prog.godebug=none:=by kernel_rfl
theorem laidOut:laidOutB Tryz.prog=true:=by kernel_rfl
set_option maxRecDepth 100000 in
theorem lifted (os:Os) (started:os.Started) (H:Type) (enc:TypeId×Value→H):
    ReturnsInHanded {} Tryz.checked os 4 .any (fun w args=>(Rows.fnExactRemoveDirSpec.pre enc Tryz.prog Tryz.f4 Rows.fnExactRemoveDirRow.domain false w args∧laidMetH Tryz.prog Rows.fnExactRemoveDirRow.laid w)∧sizedMet enc Tryz.prog Tryz.f4 (OpenSpec.ofChange Rows.fnExactRemoveDirSpec) false w args) (Rows.fnExactRemoveDirSpec.post enc Tryz.prog Tryz.f4 false true false false):=by
  refine tr.nU (C:=Tryz.checked) (X:=fun w _=>laidMetH Tryz.prog Rows.fnExactRemoveDirRow.laid w) (fun _ _ _ hh h=>h.of_heap hh) own started (by kernel_rfl) Tryz.func4
    (ChangeSpec.witness_shaped (enc:=enc) (C:=Tryz.checked) (os:=os) (X:=fun w _=>laidMetH Tryz.prog Rows.fnExactRemoveDirRow.laid w) false (World.laidAll Tryz.prog os Rows.fnExactRemoveDirRow.laid) #[.agg #[.slice none 0 0,.int .i64 0],.string ByteArray.empty] 8 (World.laidAll_os _ _ _)
      (World.shaped_of_ZipB (by kernel_rfl) (by kernel_rfl)) (by kernel_rfl) (by kernel_rfl) (by kernel_rfl) (tr.met os _)) ?_
  intro W base args ds gs before hval0 hW hcnd hsz0 hL_ adE _;have hG:P.zc W:=Tryz.laysM146.s1_3 W adE;clear hL_ adE;have hval:∀(j:Nat) t v,Tryz.f4.params[j]? =some t→args[j]? =some v→Value.okWide Tryz.prog W .any base t v:=hval0;have hW':=hW;obtain⟨p,q,hA0,hV,rfl,hfz,hnd⟩:=hW;have hA:DataW.TrodAll enc Tryz.prog W 0 (fun _=>true) true Tryz.f4.params.toList args.toList ds p:=hA0;rw[Tryz.params4]at hA hval;obtain⟨v0,vs0,d0,ds0,p0,q0,hargs,rfl,rfl,h0,r0⟩:=trodAll_cons hA;obtain⟨v1,vs1,d1,ds1,p1,q1,rfl,rfl,rfl,h1,r1⟩:=trodAll_cons r0;obtain⟨rfl,rfl,rfl⟩:=trodAll_nil r1
  obtain rfl:args= #[v0,v1]:=by cases args;simp_all
  obtain⟨rfl,rfl⟩:=trodVars_none hV;have k0:=h0
  have lt0:∀x∈p0,x.block<W.heap.size:=by obtain⟨m,hm⟩:=k0;exact DataW.trod_lt m _ _ _ hm
  obtain⟨cs0,x0,rfl,hK0,hg0⟩:=vP abN Tryz.underlying24 (hval 0 24 v0 rfl rfl) h0;obtain⟨bl,aW,hcs0,ch,cg⟩:=aaa hK0
  obtain rfl:cs0= #[.slice bl x0.f0.length aW,.int .i64 x0.f1]:=by cases cs0;simp_all
  obtain⟨x1,rfl,rfl,rfl,y1⟩:=open_string Tryz.underlying9 (hval 1 9 v1 rfl rfl) h1;clear hA0 hval0 hsz0 hval;obtain⟨k,hk⟩:=Pure.FnExactRemoveDir x0 x1 hg0 y1
  refine(cp.calls k bl aW x0.f0 x0.f1 x1 true W cg ch hk hG).mono fun e W' hpost=> ?_
  have he:e= .returned (.bool true):=by first|exact hpost.1|exact hpost.1.1
  have bel:Below W.heap.size W W':=by first|exact hpost.2|exact hpost.2.below|exact fp.below hpost.2
  subst he;exact⟨_,rfl,_,_,_,[],_,[],hW',trodAll_mk1 (shut_bool Tryz.underlying4 _),(trodAll_cons_mk (Below.trod laidOut (by kernel_rfl) (of_decide_eq_true (by kernel_rfl)) k0 bel lt0) (trodAll_cons_mk (shut_string Tryz.underlying9 y1) trodAll_mk0)),rfl,bel.frame _,fun h=>by cases h⟩
theorem acF {a b:Bool}(x:a=true) (y:b=true):(a&&b)=true:=by rw[x,y];rfl
set_option maxHeartbeats 8000000 in
theorem closed:joinedFacts Tryz.prog 4 Tryz.f4 Rows.fnExactRemoveDirSpec Rows.fnExactRemoveDirRow=true:=by
  unfold joinedFacts
  iterate 31 refine acF ?_ (by as_aux_lemma=>kernel_rfl)
  kernel_rfl
theorem over:Rows.fnExactRemoveDirRow.holds Tryz.pinned (OpenSpec.ofChange Rows.fnExactRemoveDirSpec):=
  OpenClaim.holds_of_wide 4 Tryz.f4 rfl rfl rfl rfl rfl rfl rfl ⟨rfl,rfl,rfl,rfl,rfl⟩ rfl rfl rfl rfl rfl (by kernel_rfl) Tryz.func4 closed
    (of_decide_eq_true (by kernel_rfl)) (by unfold Func.isWrapper;first|(rw[if_pos (by decide+kernel)];kernel_rfl)|(rw[if_neg (by decide+kernel)];exact⟨rfl,rfl⟩))
    (fun os started H enc _=>lifted os started H enc)
theorem acG:Rows.FnExactRemoveDirCardSaid:=
  Claim7.holds_tied_plain_at .later [] [.data,.pinned] true (true,"66c7900024005d67df4194d74a00d411cd8b115c0adedbd4d2cf7cdf8201b696") false over (fun _ h=>by cases h) (by kernel_rfl) (fun _ h=>by cases h) fnExactRemoveDir_row_tie rfl ⟨rfl,rfl⟩ (by kernel_rfl) rfl
    (fun f fn hf hfn=>by
      obtain rfl:f=4:=Option.some.inj ((show Tryz.prog.funcNamed Rows.fnExactRemoveDirRow.func=some 4 by kernel_rfl).symm.trans hf)|>.symm;obtain rfl:fn=Tryz.f4:=(Option.some.inj (Tryz.func4.symm.trans hfn)).symm
      exact⟨by kernel_rfl,fun j t ht=>by
        rw[Tryz.params4]at ht
        have hm:t∈[24,9]:=by simpa using Array.mem_of_getElem? ht
        have hall:([24,9].all fun u=> !Tryz.prog.wantsStandIn u)=true:=by kernel_rfl
        exact(show Tryz.prog.wantsStandIn t=false by simpa using List.all_eq_true.1 hall t hm)⟩)
    (by kernel_rfl)
theorem proved:Rows.FnExactRemoveDirCardSaid:=acG
#print axioms proved
end Go.Proofs.YtlecajlnjmbilaaGreatDoor.np
namespace Go.Proofs.YtlecajlnjmbilaaGreatDoor
theorem fnExactRemoveDir_holds:Rows.FnExactRemoveDirCardSaid:=np.proved
end Go.Proofs.YtlecajlnjmbilaaGreatDoor
