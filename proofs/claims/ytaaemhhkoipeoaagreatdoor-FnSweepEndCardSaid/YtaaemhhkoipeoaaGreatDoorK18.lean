import Derived.Test.YtaaemhhkoipeoaaGreatDoorA7
import Derived.Test.YtaaemhhkoipeoaaGreatDoorTie
import Derived.Test.YtaaemhhkoipeoaaGreatDoorCards
import Derived.ProofKit
import Derived.OpenShut
import Derived.OpenVars
import Derived.LaidMore
import Derived.Lay
import Derived.SevenTiedAt
import Derived.Below
set_option linter.all false
set_option maxHeartbeats 8000000
open Go renaming Value → aj, TypeId → av, FuncId → aM, World → aA, Program → aK
open Option renaming some → aa, none → af
open Bool renaming true → ab, false → ae
open Go.World renaming cell? → aR
open List renaming getD_eq_getElem?_getD → ah
open Go.Proofs.Tryz renaming prog → ag, underlying22 → aJ
namespace Go.Proofs.YtaaemhhkoipeoaaGreatDoor
open Go.ChangeShapes Go.WideShapes Go.ChangeAt Go.RowKit
open Go.AM (dk Rd St.top)
theorem own:ownKnob Tryz.prog.godebug=af:=by kernel_rfl
theorem laidOut:laidOutB ag=ab:=by kernel_rfl
theorem pg{w:aA}{a:Addr}{v:aj}(h:w.cell? (a.add 0)=aa v):a=⟨a.block,a.off,af⟩:=by
 obtain⟨b,o,s⟩:=a;cases s with
 |none=>rfl
 |some q =>
  simp only[Addr.add,bY,aR]at h;split at h
  .simp at h
  .cases h
theorem se{w:aA}{a:Addr}{n:Nat}{v:aj}(h:w.cell? (a.add n)=aa v):w.cell? ⟨a.block,a.off+n,af⟩=aa v:=by
 by_cases e:n=0
 .subst e;have c:=pg h;obtain⟨b,o,s⟩:=a;simp only[Addr.mk.injEq,aC]at c;subst c;exact h
 .simpa only[Addr.add,aW e]using h
theorem Ce{n:Int}(h:(Lit.int .u8 n).wf=ab):0<=n/\n<=255:=by simp only[Lit.wf,IntKind.min,IntKind.max,IntKind.signed,IntKind.bits]at h;simp at h;omega
set_option maxRecDepth 100000 in
theorem nc{H:Type}{enc:av×aj->H}{W:aA}{a:Option Addr}{len cap:Nat}{d:DataW H}{p:List MemPlace}(h:DataW.Trod enc ag W 0 (λ_=>ab) ab 22 (.slice a len cap) d p):
  ∃b:Nat->Int,Go.AM.R1.Bytes b/\len<=9223372036854775807/\dk [] (St.top W) (.slice a len cap) (.e (.one (.c (.sl ae 1 len (Go.AM.R1.uz b))))):=by
 obtain⟨v,y⟩:=h;rcases open_ints aJ Tryz.underlying5 (by kernel_rfl) y with⟨l,_⟩|⟨x,n,c,f,l,_,D,B,w,_,g,m⟩
 .simp[Value.cells]at l;obtain⟨rfl,rfl,rfl⟩:=l;exact⟨λ_=>0,λ_=>⟨rB 0,show(0:Int)<=255 by decide⟩,by omega,Rd.ic⟩
 .simp[Value.cells]at l;obtain⟨rfl,rfl,rfl⟩:=l;simp only[bY]at w;simp only[maxLen]at B;refine⟨λi=>f.getD i 0,λi=>?_,by omega,?_⟩
  .by_cases hi:i<f.length
   .have:=m (f.getD i 0) (by rw[ah,bn hi];exact nz hi);exact Ce this
   .simp[ah,qC (by omega:f.length<=i)]
  .show Rd _ _ _;refine Rd.mE (k:=1) (n:=len) (vs:=(f.take len).map λz=>.int .u8 z) (a:=aa x) (b:=x.block) (off:=x.off) (cap:=cap) (t:=ae) ⟨by simp;omega,λi hi=>rfl,λi hi j c r=>?_⟩ (λE=>?_) D (by omega) (by simp) (λp u s=>?_)
   .have q:j=0:=by have:=(cf.1 r).1;simp[Go.AM.R1.uz]at this;omega
    subst q;have A:c=.int .u8 (f.getD i 0):=by simp only[Go.AM.R1.uz,iF,dm]at r;exact r.symm
    subst A;have C:=Ce (m (f.getD i 0) (by rw[ah,bn (by omega:i<f.length)];exact nz _));refine⟨.int .u8 (f.getD i 0),?_,Rd.int C⟩;simp[eK,hi,ah,bn (by omega:i<f.length)]
   .exact dA aa (pg (g 0 (by omega)))
   .have o:p<len:=by have:=(cf.1 s).1;simp at this;omega
    have:u=.int .u8 (f.getD p 0):=by simp[eK,o,bn (by omega:p<f.length)]at s;rw[<-s];simp[ah,bn (by omega:p<f.length)]
    subst this;exact se (g p (by omega))
set_option maxRecDepth 100000 in
theorem lifted(os:Os)(a:os.Started)(H:Type)(enc:av×aj->H):
  ReturnsInLeavingWide {} Tryz.checked os 4 .any (λw args=>(Rows.fnSweepEndSpec.pre enc ag Tryz.f4 Rows.fnSweepEndRow.domain ae w args/\laidMetH ag Rows.fnSweepEndRow.laid w)/\sizedMet enc ag Tryz.f4 (OpenSpec.ofChange Rows.fnSweepEndSpec) ae w args)
   (Rows.fnSweepEndSpec.post enc ag Tryz.f4 ae ab ae ae):=by
 refine Go.AM.pj (C:=Tryz.checked) (X:=λw _=>laidMetH ag Rows.fnSweepEndRow.laid w) (λ_ _ _ P h=>h.of_heap P) own a Tryz.func4
  (ChangeSpec.witness_shaped (enc:=enc) (C:=Tryz.checked) (os:=os) (X:=λw _=>laidMetH ag Rows.fnSweepEndRow.laid w) ae (World.laidAll ag os Rows.fnSweepEndRow.laid) #[.slice af 0 0] 8 (World.laidAll_os _ _ _)
   (World.shaped_of_ZipB (by kernel_rfl) (by kernel_rfl)) (by kernel_rfl) (by kernel_rfl) (by kernel_rfl)
   (by rw[MakeChecks.laidMetH_plain _ _ _ (by kernel_rfl)];exact laidMet_laidAll _ (by kernel_rfl) (by kernel_rfl))) ?_
 intro W base args ds gs before ub hW;have c:∀(j:Nat) t v,Tryz.f4.params[j]?=aa t->args[j]?=aa v->Value.okWide ag W .any base t v:=ub;have D:=hW;obtain⟨p,q,i,I,rfl,_,_⟩:=hW;have E:DataW.TrodAll enc ag W 0 (λ_=>ab) ab Tryz.f4.params.toList args.toList ds p:=i;rw[Tryz.params4]at E c;obtain⟨v0,Q,T,O,N,R,B,rfl,rfl,F,r0⟩:=trodAll_cons E;obtain⟨rfl,rfl,rfl⟩:=trodAll_nil r0;obtain rfl:args=#[v0]:=by cases args;simp_all
 obtain⟨J,e,k,rfl⟩:=okWide_slice aJ (c 0 22 v0 rfl rfl);have G:=F;have u:∀x∈N,x.block<W.heap.size:=by obtain⟨m,K⟩:=G;exact DataW.trod_lt m _ _ _ K
 clear i ub;obtain⟨L,y,o,z⟩:=nc F;refine Go.AM.dW.r7 (vs:=[.slice J e k]) (Go.AM.R1.w6 e L y o).Dx (by kernel_rfl) ⟨z,aq⟩ λ_ v s' hv _ l d=>?_;have A:Rd s'.M v (.bool ab):=hv;cases A;have g:Below W.heap.size W (s'.w.at d):=⟨l.os,l.tape,l.output,l.size,l.block⟩;obtain⟨n,g2,rfl⟩:∃n g2,gs=[n,g2]:=by
  have f:=I;rcases gs with _|⟨n,_|⟨g2,_|⟨S,r⟩⟩⟩
  .exact f.elim
  .obtain⟨_,_,_,_,_,_,_,_,_,_,h,_⟩:=f;exact h.elim
  .exact⟨n,g2,rfl⟩
  .obtain⟨_,_,_,_,_,_,_,_,_,_,h,_⟩:=f;obtain⟨_,_,_,_,_,_,_,_,_,_,h,_⟩:=h;exact h.elim
 have s:DataW.TrodVars enc ag (s'.w.at d) (λb=>decide (b<W.heap.size)) Rows.fnSweepEndSpec.vars [n,g2] q:=Below.trodVars laidOut g (by kernel_rfl) I;exact⟨_,_,_,[],_,_,D,trodAll_mk1 (shut_bool Tryz.underlying4 _),(trodAll_cons_mk (Below.trod laidOut (by kernel_rfl) (py (by kernel_rfl)) G g u) trodAll_mk0),s,g.frame _,λh=>by cases h⟩
theorem facts{P:aK}{f:aM}{fn:Func}{s:ChangeSpec}{c:OpenClaim}(m:c.wf (OpenSpec.ofChange s)=ab)(p:(laidOutB P&&mapsRowed P)=ab)(l:(fn.params.all (P.readableRec ·)&&namedTie P c.named s.vars)=ab)(n:((c.stops==[])&&(P.stops==[])&&(c.knobs==[])&&(P.stopKnobs==[]))=ab)(r:(c.inPlace==P.inPlace f)=ab)(u:(c.unfollowed==P.unfollowed f)=ab)(o:(c.recurses==P.recurses f)=ab)(q:(c.named==P.varsNamed f)=ab)(v:((c.maps==(fn.params.toList++s.plain.varTypes P).any (P.mapsRec ·))&&(c.ifaces==(fn.params.toList++s.plain.varTypes P).any (P.ifacesRec ·))&&(c.mapsOut==P.mapsAmong fn.resultTypes.toList))=ab)(w:((c.loops==(fn.params.toList++s.plain.varTypes P).any (P.loopsFrom ·))&&(c.wideKeys==(fn.params.toList++s.plain.varTypes P++fn.resultTypes.toList).any (P.wideKeysFrom ·)))=ab)(i:(s.vars.all (P.varReadable ·)&&fn.resultTypes.all (λt=>P.readableRec t&&decide (t<P.types.size))&&(c.ifacesOut==fn.resultTypes.toList.any (P.ifacesRec ·))&&(c.loopsOut==fn.resultTypes.toList.any (P.loopsFrom ·)))=ab)(e:(c.plainKeys==P.plainKeys)=ab)(a:c.shortTexts.isNone=ab)(d:P.stopsHeard=ab)(k:P.mayEnter=ab)(j:(c.lifted==P.liftsFinal)=ab)(h:(P.make==aa c.make)=ab)(g:((c.kinds==[])&&c.domain.isEmpty&&(c.pinned==c.pinnedBy))=ab)(b:((c.veiled==(fn.params.toList++s.plain.varTypes P++fn.resultTypes.toList).any (P.veiledRec ·))&&c.veiledFits P fn.params.toList (fn.params.toList++s.plain.varTypes P++fn.resultTypes.toList))=ab):
  joinedFacts P f fn s c=ab:=by simp only[bJ]at *;simp only[joinedFacts,bJ];simp only[*,bY,nH]
theorem Cf:Rows.fnSweepEndRow.wf (OpenSpec.ofChange Rows.fnSweepEndSpec)=ab:=by kernel_rfl
theorem Cg:(laidOutB Tryz.checked.prog&&mapsRowed Tryz.checked.prog)=ab:=by kernel_rfl
theorem Ch:(Tryz.f4.params.all (Tryz.checked.prog.readableRec ·)&&namedTie Tryz.checked.prog Rows.fnSweepEndRow.named Rows.fnSweepEndSpec.vars)=ab:=by kernel_rfl
theorem Ci:((Rows.fnSweepEndRow.stops==[])&&(Tryz.checked.prog.stops==[])&&(Rows.fnSweepEndRow.knobs==[])&&(Tryz.checked.prog.stopKnobs==[]))=ab:=by kernel_rfl
theorem Cj:(Rows.fnSweepEndRow.inPlace==Tryz.checked.prog.inPlace 4)=ab:=by kernel_rfl
theorem Ck:(Rows.fnSweepEndRow.unfollowed==Tryz.checked.prog.unfollowed 4)=ab:=by kernel_rfl
theorem Cl:(Rows.fnSweepEndRow.recurses==Tryz.checked.prog.recurses 4)=ab:=by kernel_rfl
theorem Cm:(Rows.fnSweepEndRow.named==Tryz.checked.prog.varsNamed 4)=ab:=by kernel_rfl
theorem Cn:((Rows.fnSweepEndRow.maps==(Tryz.f4.params.toList++Rows.fnSweepEndSpec.plain.varTypes Tryz.checked.prog).any (Tryz.checked.prog.mapsRec ·))&&(Rows.fnSweepEndRow.ifaces==(Tryz.f4.params.toList++Rows.fnSweepEndSpec.plain.varTypes Tryz.checked.prog).any (Tryz.checked.prog.ifacesRec ·))&&(Rows.fnSweepEndRow.mapsOut==Tryz.checked.prog.mapsAmong Tryz.f4.resultTypes.toList))=ab:=by kernel_rfl
theorem Co:((Rows.fnSweepEndRow.loops==(Tryz.f4.params.toList++Rows.fnSweepEndSpec.plain.varTypes Tryz.checked.prog).any (Tryz.checked.prog.loopsFrom ·))&&(Rows.fnSweepEndRow.wideKeys==(Tryz.f4.params.toList++Rows.fnSweepEndSpec.plain.varTypes Tryz.checked.prog++Tryz.f4.resultTypes.toList).any (Tryz.checked.prog.wideKeysFrom ·)))=ab:=by kernel_rfl
theorem wS:(Rows.fnSweepEndSpec.vars.all (Tryz.checked.prog.varReadable ·)&&Tryz.f4.resultTypes.all (λt=>Tryz.checked.prog.readableRec t&&decide (t<Tryz.checked.prog.types.size))&&(Rows.fnSweepEndRow.ifacesOut==Tryz.f4.resultTypes.toList.any (Tryz.checked.prog.ifacesRec ·))&&(Rows.fnSweepEndRow.loopsOut==Tryz.f4.resultTypes.toList.any (Tryz.checked.prog.loopsFrom ·)))=ab:=by kernel_rfl
theorem wT:(Rows.fnSweepEndRow.plainKeys==Tryz.checked.prog.plainKeys)=ab:=by kernel_rfl
theorem wU:Rows.fnSweepEndRow.shortTexts.isNone=ab:=by kernel_rfl
theorem wV:Tryz.checked.prog.stopsHeard=ab:=by kernel_rfl
theorem wW:Tryz.checked.prog.mayEnter=ab:=by kernel_rfl
theorem wX:(Rows.fnSweepEndRow.lifted==Tryz.checked.prog.liftsFinal)=ab:=by kernel_rfl
theorem wY:(Tryz.checked.prog.make==aa Rows.fnSweepEndRow.make)=ab:=by kernel_rfl
theorem wZ:((Rows.fnSweepEndRow.kinds==[])&&Rows.fnSweepEndRow.domain.isEmpty&&(Rows.fnSweepEndRow.pinned==Rows.fnSweepEndRow.pinnedBy))=ab:=by kernel_rfl
theorem w5:((Rows.fnSweepEndRow.veiled==(Tryz.f4.params.toList++Rows.fnSweepEndSpec.plain.varTypes Tryz.checked.prog++Tryz.f4.resultTypes.toList).any (Tryz.checked.prog.veiledRec ·))&&Rows.fnSweepEndRow.veiledFits Tryz.checked.prog Tryz.f4.params.toList (Tryz.f4.params.toList++Rows.fnSweepEndSpec.plain.varTypes Tryz.checked.prog++Tryz.f4.resultTypes.toList))=ab:=by kernel_rfl
theorem closed:joinedFacts Tryz.checked.prog 4 Tryz.f4 Rows.fnSweepEndSpec Rows.fnSweepEndRow=ab :=
 facts Cf Cg Ch Ci Cj Ck Cl Cm Cn Co wS wT wU wV wW wX wY wZ w5
theorem named:Tryz.pinned.checked.prog.funcNamed Rows.fnSweepEndRow.func=aa 4:=by kernel_rfl
theorem over:Rows.FnSweepEndSaid :=
 OpenClaim.holds_of_wide_leaving 4 Tryz.f4 rfl rfl rfl rfl rfl rfl rfl ⟨rfl,rfl,rfl,rfl,rfl⟩ rfl rfl rfl rfl rfl named Tryz.func4 closed
  (py (by kernel_rfl)) (by unfold Func.isWrapper;first|(rw[bc (by decide +kernel)];kernel_rfl)|(rw[aW (by decide +kernel)];exact⟨rfl,rfl⟩))
  (λos started H enc _=>lifted os started H enc)
theorem fnSweepEnd_proved:Rows.FnSweepEndCardSaid :=
 Go.AM.tn .later [] [.data,.sentinel,.sentinel,.pinned] ab (ab,"26da3db513d0f8e54e32a59c1ec00eba5ec289ca53c6d6d40d3e9c4f4003ee69") ae over (λ_ h=>by cases h) (by kernel_rfl) (λ_ h=>by cases h) fnSweepEnd_row_tie rfl ⟨rfl,rfl⟩ (by kernel_rfl) rfl
  (λf fn hf MS=>by
   obtain rfl:f=4:=nA ((show Tryz.prog.funcNamed "loop.example/depositary/laws.FnSweepEnd"=aa 4 by kernel_rfl).symm.trans hf) |>.symm
   obtain rfl:fn=Tryz.f4:=(nA (Tryz.func4.symm.trans MS)).symm;exact⟨by kernel_rfl,λj t b=>by
    rw[Tryz.params4]at b;have c:t∈[22]:=by have:=pv b;simp at this⊢;exact this
    have a:([22].all λu=>!Tryz.prog.wantsStandIn u)=ab:=by kernel_rfl
    exact(show Tryz.prog.wantsStandIn t=ae by simpa using List.all_eq_true.1 a t c)⟩)
  (by kernel_rfl)
#print axioms fnSweepEnd_proved
end Go.Proofs.YtaaemhhkoipeoaaGreatDoor

