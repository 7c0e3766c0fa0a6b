/- An argument that reads as data reads as a value of its kind: whole numbers, bools, strings, slices, structs, one within the other. No condition. -/
import Derived.Test.YtlecajlnjmbilaaGreatDoorWWords
import Derived.OpenShut
import Derived.ShutString
import Derived.ChangeOld
import Derived.Lib.SmallJoins
import Derived.Deep.Slices
namespace Go.Proofs.YtlecajlnjmbilaaGreatDoor.Op
open Go.ChangeShapes Go.WideShapes Go.ChangeAt Go.RowKit Go.Proofs.ab.aq

/-- What reads at type t is of kind d, and so are its parts (g: what is told of it besides). -/
def Opens {α:Type}(P:Program) (t:TypeId) (d:Kd α) (g:α→Prop):Prop:=
  ∀{H:Type}(enc:TypeId×Value→H) (w:World) (base:Nat) (spare:Nat→Bool) (held:Bool) (fuel:Nat) (cs:List Value) (x:DataW H×List MemPlace),
    DataW.trod enc P w base spare held fuel t cs=some x→∃a:α,d.K w a cs∧g a
theorem lM {P:Program}{t:TypeId}{k:IntKind}(ht:P.underlying t=some (.int k)):Opens P t (Kd.int k) (fun n=>(Lit.int k n).wf=true):=by
  intro H enc w base spare held fuel cs x h;obtain⟨n,rfl,_,hw⟩:=DataW.trod_int ht h;exact⟨n,rfl,hw⟩
theorem nB {P:Program}{t:TypeId}(ht:P.underlying t=some .string):Opens P t Kd.string (fun s=>s.size≤maxLen):=by
  intro H enc w base spare held fuel cs x h;obtain⟨s,rfl,_,hw⟩:=DataW.trod_string ht h;exact⟨s,rfl,hw⟩
theorem opens_bool {P:Program}{t:TypeId}(ht:P.underlying t=some .bool):Opens P t Kd.bool (fun _=>True):=by
  intro H enc w base spare held fuel cs x h
  cases fuel with
  |zero=>simp[DataW.trod]at h
  |succ n=>
    unfold DataW.trod at h;rw[ht]at h
    match cs,h with
    |[.bool b],_=>exact⟨b,rfl,trivial⟩
theorem u_ {β:Type}{p:Nat→β→Prop}(n:Nat) (h:∀i,i<n→∃x,p i x):∃l:List β,l.length=n∧∀i x,l[i]? =some x→p i x:=by
  induction n with
  |zero=>exact⟨[],rfl,fun i x hx=>by simp at hx⟩
  |succ n ih=>
    obtain⟨l,hl,hp⟩:=ih (fun i hi=>h i (by omega));obtain⟨y,hy⟩:=h n (by omega);refine⟨l++[y],by simp[hl],fun i x hx=> ?_⟩;rcases Nat.lt_or_ge i n with hi|hi
    · rw[List.getElem?_append_left (by omega)]at hx;exact hp i x hx
    · rw[List.getElem?_append_right (by omega)]at hx
      have hin:i=n:=by
        rcases Nat.lt_or_ge (i-l.length) 1 with h1|h1
        · omega
        · rw[List.getElem?_eq_none (by simpa using h1)]at hx
          cases hx
      subst hin;rw[hl,Nat.sub_self]at hx;simp at hx;exact hx▸hy
theorem mo {α:Type}{P:Program}{t e:TypeId}{d:Kd α}{g:α→Prop}(ht:P.underlying t=some (.slice e)) (hc:P.cellsOf e=d.sz) (he:Opens P e d g):
    Opens P t (Kd.slice e d) (fun l=>l.length≤maxLen∧∀x∈l,g x):=by
  intro H enc w base spare held fuel cs x h;rcases Go.Deep.open_slice ht h with⟨rfl,_⟩|⟨a,len,cap,m,n,D,Pl,rfl,_,hl,hm,hmm,_,hel⟩
  · exact⟨[],⟨none,0,rfl,Nat.le_refl _,rfl,by simp,fun h=>absurd h (by simp)⟩,by simp,fun x hx=>by cases hx⟩
  · have hlm:len≤m:=by rw[hmm];split<;>omega
    obtain⟨l,hll,hp⟩:=u_ (p:=fun i (y:α)=>(∃c,c.length=d.sz∧d.K w y c∧∀j u,c[j]? =some u→w.cell? (a.add (i*d.sz+j))=some u)∧g y) len (fun i hi=>by
      obtain⟨c,h1,h2⟩:=hel i (by omega);obtain⟨_,hcl,hcell⟩:=World.cells?_some h1;obtain⟨y,hK,hg⟩:=he enc w base spare held n c _ h2;rw[hc]at hcl hcell;refine⟨y,⟨c,hcl,hK,fun j u hu=> ?_⟩,hg⟩
      have hj:j<d.sz:=by
        rcases Nat.lt_or_ge j d.sz with h|h
        · exact h
        · rw[List.getElem?_eq_none (by omega)]at hu;cases hu
      rw[←Go.Deep.add_add,hcell j hj,hu])
    refine⟨l,⟨some a,cap,by rw[hll],by omega,rfl,by unfold maxLen at hm;omega,fun _=>⟨a,rfl,fun j p hj=>(hp j p hj).1⟩⟩,by omega,fun x hx=> ?_⟩;obtain⟨i,hi,rfl⟩:=List.getElem_of_mem hx;exact(hp i _ (List.getElem?_eq_getElem hi)).2
/-- Fields one behind the other, from a cell on. -/
def qX {α:Type}(P:Program) (fs:List Field) (off:Nat) (d:Kd α) (g:α→Prop):Prop:=
  ∀{H:Type}(enc:TypeId×Value→H) (w:World) (base:Nat) (spare:Nat→Bool) (held:Bool) (fuel:Nat) (cs:List Value),
    (∀f∈fs,∃x,DataW.trod enc P w base spare held fuel f.type ((cs.drop f.offset).take (P.cellsOf f.type))=some x)→∃a:α,d.K w a ((cs.drop off).take d.sz)∧g a
theorem mn {α:Type}{P:Program}{f:Field}{off:Nat}{d:Kd α}{g:α→Prop}(ho:f.offset=off) (hc:P.cellsOf f.type=d.sz) (h:Opens P f.type d g):qX P [f] off d g:=by
  intro H enc w base spare held fuel cs hx;obtain⟨x,hx⟩:=hx f (by simp);rw[ho,hc]at hx;exact h enc w base spare held fuel _ x hx
theorem iy {α β:Type}{P:Program}{f:Field}{fs:List Field}{off:Nat}{d:Kd α}{d':Kd β}{g:α→Prop}{g':β→Prop}(ho:f.offset=off) (hc:P.cellsOf f.type=d.sz) (h:Opens P f.type d g) (hr:qX P fs (off+d.sz) d' g'):
    qX P (f::fs) off (Kd.pair d d') (fun x=>g x.1∧g' x.2):=by
  intro H enc w base spare held fuel cs hx;obtain⟨x,h0⟩:=hx f (by simp);rw[ho,hc]at h0;obtain⟨a,hK,hg⟩:=h enc w base spare held fuel _ x h0;obtain⟨b,hK',hg'⟩:=hr enc w base spare held fuel cs (fun f' hf=>hx f' (List.mem_cons_of_mem _ hf));refine⟨(a,b),⟨_,_,?_,hK,hK'⟩,hg,hg'⟩
  show(cs.drop off).take (d.sz+d'.sz)=_
  rw[List.take_add,List.drop_drop]
theorem lJ {α β:Type}{P:Program}{t:TypeId}{fs:Array Field}{d:Kd β}{g:β→Prop}{f:α→β}{inv:β→α}(ht:P.underlying t=some (.struct fs)) (hc:P.cellsOf t=d.sz) (hf:∀b,f (inv b)=b) (h:qX P fs.toList 0 d g):
    Opens P t (Kd.iso d f) (fun a=>g (f a)):=by
  intro H enc w base spare held fuel cs x hx;obtain⟨xs,n,_,_,hl,hlen,hfs⟩:=DataW.trod_struct ht hx
  obtain⟨b,hK,hg⟩:=h enc w base spare held n cs (fun fd hfd=>by
    obtain⟨i,hi,rfl⟩:=List.getElem_of_mem hfd
    have hi':i<fs.size:=by simpa using hi
    have:=hfs i fs[i] (Array.getElem?_eq_getElem hi');rw[List.getElem?_eq_getElem (by omega)]at this
    exact⟨_,by simpa using this⟩)
  refine⟨inv b,?_,?_⟩
  · show d.K w (f (inv b)) cs
    rw[hf,show cs=(cs.drop 0).take d.sz from by rw[List.drop_zero,List.take_of_length_le (by omega)]];exact hK
  · show g (f (inv b))
    rw[hf];exact hg
theorem Opens.imp {α:Type}{P:Program}{t:TypeId}{d:Kd α}{g g':α→Prop}(h:Opens P t d g) (hg:∀a,g a→g' a):Opens P t d g':=by
  intro H enc w base spare held fuel cs x hx;obtain⟨a,hK,ha⟩:=h enc w base spare held fuel cs x hx;exact⟨a,hK,hg a ha⟩
/-- An argument of struct type. -/
theorem vG {α:Type}{P:Program}{t:TypeId}{d:Kd α}{g:α→Prop}{fs:Array Field}(h:Opens P t d g) (ht:P.underlying t=some (.struct fs)) {H:Type}{enc:TypeId×Value→H}{w:World}{r:Reach}{b0 base:Nat}{spare:Nat→Bool}{held:Bool}{v:Value}{x:DataW H}{p:List MemPlace}
    (hv:Value.okWide P w r b0 t v) (hT:DataW.Trod enc P w base spare held t v x p):∃(cs:Array Value) (a:α),v= .agg cs∧d.K w a cs.toList∧g a:=by
  obtain⟨cs,rfl,_⟩:=okWide_struct ht hv;obtain⟨fuel,hf⟩:=hT;obtain⟨a,hK,hg⟩:=h enc w base spare held fuel _ _ hf;exact⟨cs,a,rfl,by simpa [Value.cells]using hK,hg⟩
theorem arg_slice {α:Type}{P:Program}{t e:TypeId}{d:Kd α}{g:List α→Prop}(h:Opens P t (Kd.slice e d) g) (ht:P.underlying t=some (.slice e)) {H:Type}{enc:TypeId×Value→H}{w:World}{r:Reach}{b0 base:Nat}{spare:Nat→Bool}{held:Bool}{v:Value}{x:DataW H}{p:List MemPlace}
    (hv:Value.okWide P w r b0 t v) (hT:DataW.Trod enc P w base spare held t v x p):∃(A:Option Addr) (c:Nat) (l:List α),v= .slice A l.length c∧l.length≤c∧d.C w A l.length l∧g l:=by
  obtain⟨a,len,cap,rfl⟩:=okWide_slice ht hv;obtain⟨fuel,hf⟩:=hT;obtain⟨l,⟨A,c,hcs,hl,hC⟩,hg⟩:=h enc w base spare held fuel _ _ hf;simp[Value.cells]at hcs;obtain⟨rfl,rfl,rfl⟩:=hcs;exact⟨_,_,l,rfl,hl,hC,hg⟩
end Go.Proofs.YtlecajlnjmbilaaGreatDoor.Op
