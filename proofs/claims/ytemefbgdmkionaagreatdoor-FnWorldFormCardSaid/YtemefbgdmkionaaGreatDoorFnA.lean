/-
  For every input the law FnWorldForm returns true, and the input reads as it did: the tied card FnWorldFormCardSaid. No condition.
-/
import Derived.Test.YtemefbgdmkionaaGreatDoorA7
import Derived.Test.YtemefbgdmkionaaGreatDoorTie
import Derived.Test.YtemefbgdmkionaaGreatDoorCards
import Derived.ProofKit
import Derived.OpenShut
import Derived.OpenVars
import Derived.LaidMore
import Derived.Lay
import Derived.SevenTiedAt
import Derived.Below
set_option linter.unusedVariables false
set_option linter.unusedSimpArgs false
set_option linter.defProp false
set_option linter.deprecated false
open Go renaming Value → ak
open Option renaming some → aa
open Go renaming Program → an
open Go renaming TypeId → ar
open Bool renaming true → ab
open Option renaming none → af
open Bool renaming false → ae
open Go.World renaming cell? → aY
open List renaming getD_eq_getElem?_getD → ag
open Go renaming World → az
open Go renaming FuncId → aX
open Go.Proofs.Tryz renaming prog → ah
open List renaming all_eq_true → bq
namespace Go.Proofs.YtemefbgdmkionaaGreatDoor
open Go.ChangeShapes Go.WideShapes Go.ChangeAt Go.RowKit
open Go.AM (dh Rd St.top)
theorem own:ownKnob Tryz.prog.godebug=af:=by kernel_rfl
theorem laidOut:laidOutB ah=ab:=by kernel_rfl
theorem Ka{w:az}{a:Addr}{v:ak}(h:w.cell? (a.add 0)=aa v):a=⟨a.block,a.off,af⟩:=by
 obtain⟨b,o,s⟩:=a;cases s with
 |none=>rfl
 |some q =>
  simp only[Addr.add,bO,aY] at h;split at h
  .simp at h
  .cases h
theorem Nx{w:az}{a:Addr}{n:Nat}{v:ak}(h:w.cell? (a.add n)=aa v):w.cell? ⟨a.block,a.off+n,af⟩=aa v:=by
 by_cases e:n=0
 .subst e;have c:=Ka h;obtain⟨b,o,s⟩:=a;simp only[Addr.mk.injEq,aG] at c;subst c;exact h
 .simpa only[Addr.add,aO e] using h
theorem UB{n:Int}(h:(Lit.int .u8 n).wf=ab):0<=n/\n<=255:=by
 simp only[Lit.wf,IntKind.min,IntKind.max,IntKind.signed,IntKind.bits] at h;simp at h;omega
set_option maxRecDepth 100000 in
theorem GQ{H:Type}{enc:ar×ak->H}{W:az}{a:Option Addr}{len cap:Nat}{d:DataW H}{p:List MemPlace}(h:DataW.Trod enc ah W 0 (λ_=>ab) ab 22 (.slice a len cap) d p) :
  ∃ b:Nat->Int,Go.AM.R1.Bytes b/\len<=9223372036854775807/\dh [] (St.top W) (.slice a len cap) (.e (.one (.c (.sl ae 1 len (Go.AM.R1.Rb b))))):=by
 obtain⟨v,w⟩:=h;rcases open_ints Tryz.underlying22 Tryz.underlying5 (by kernel_rfl) w with⟨l,_⟩|⟨x,n,c,f,l,_,B,y,A,_,g,m⟩
 .simp[Value.cells] at l;obtain⟨rfl,rfl,rfl⟩:=l;exact⟨λ_=>0,λ_=>⟨ry 0,show (0:Int)<=255 by decide⟩,by omega,Rd.jM⟩
 .simp[Value.cells] at l;obtain⟨rfl,rfl,rfl⟩:=l;simp only[bO] at A;simp only[maxLen] at y;refine⟨λi=>f.getD i 0,λi=>?_,by omega,?_⟩
  .by_cases hi:i<f.length
   .have:=m (f.getD i 0) (by rw[ag,aR hi];exact dy hi)
    exact UB this
   .simp[ag,eU (by omega:f.length<=i)]
  .show Rd _ _ _;refine Rd.qF (k:=1) (n:=len) (vs:=(f.take len).map λz=>.int .u8 z) (a:=aa x) (b:=x.block) (off:=x.off) (cap:=cap) (t:=ae) ⟨by simp;omega,λi hi=>rfl,λi hi j c s=>?_⟩ (λE=>?_) B (by omega) (by simp) (λp u o=>?_)
   .have r:j=0:=by
     have:=(bt.1 s).1;simp[Go.AM.R1.Rb] at this;omega
    subst r;have C:c=.int .u8 (f.getD i 0):=by
     simp only[Go.AM.R1.Rb,kZ,cV] at s;exact s.symm
    subst C;have D:=UB (m (f.getD i 0) (by rw[ag,aR (by omega:i<f.length)];exact dy _))
    refine⟨.int .u8 (f.getD i 0),?_,Rd.int D⟩;simp[et,hi,ag,aR (by omega:i<f.length)]
   .exact dc aa (Ka (g 0 (by omega)))
   .have q:p<len:=by
     have:=(bt.1 o).1;simp at this;omega
    have:u=.int .u8 (f.getD p 0):=by
     simp[et,q,aR (by omega:p<f.length)] at o
     rw[<-o];simp[ag,aR (by omega:p<f.length)]
    subst this;exact Nx (g p (by omega))
set_option maxRecDepth 100000 in
theorem lifted(os:Os)(a:os.Started)(H:Type)(enc:ar×ak->H) :
  ReturnsInLeavingWide {} Tryz.checked os 3 .any (λw args=>(Rows.fnWorldFormSpec.pre enc ah Tryz.f3 Rows.fnWorldFormRow.domain ae w args/\laidMetH ah Rows.fnWorldFormRow.laid w)/\sizedMet enc ah Tryz.f3 (OpenSpec.ofChange Rows.fnWorldFormSpec) ae w args)
   (Rows.fnWorldFormSpec.post enc ah Tryz.f3 ae ab ae ae):=by
 refine Go.AM.BZ (C:=Tryz.checked) (X:=λw _=>laidMetH ah Rows.fnWorldFormRow.laid w) (λ_ _ _ N h=>h.of_heap N) own a Tryz.func3
  (ChangeSpec.witness_shaped (enc:=enc) (C:=Tryz.checked) (os:=os) (X:=λw _=>laidMetH ah Rows.fnWorldFormRow.laid w) ae (World.laidAll ah os Rows.fnWorldFormRow.laid) #[.slice af 0 0] 8 (World.laidAll_os _ _ _)
   (World.shaped_of_ZipB (by kernel_rfl) (by kernel_rfl)) (by kernel_rfl) (by kernel_rfl) (by kernel_rfl)
   (by rw[MakeChecks.laidMetH_plain _ _ _ (by kernel_rfl)];exact laidMet_laidAll _ (by kernel_rfl) (by kernel_rfl))) ?_
 intro W base args ds gs before O4 hW;have c:∀ (j:Nat) t v,Tryz.f3.params[j]?=aa t->args[j]?=aa v->Value.okWide ah W .any base t v:=O4;have y:=hW;obtain⟨p,q,n,G,rfl,_,_⟩:=hW;have E:DataW.TrodAll enc ah W 0 (λ_=>ab) ab Tryz.f3.params.toList args.toList ds p:=n
 rw[Tryz.params3] at E c;obtain⟨v0,K,R,L,O,S,D,rfl,rfl,F,r0⟩:=trodAll_cons E;obtain⟨rfl,rfl,rfl⟩:=trodAll_nil r0;obtain rfl:args=#[v0]:=by cases args;simp_all
 obtain⟨J,e,l,rfl⟩:=okWide_slice Tryz.underlying22 (c 0 22 v0 rfl rfl);have I:=F;have A:∀ x∈O,x.block<W.heap.size:=by obtain⟨m,P⟩:=I;exact DataW.trod_lt m _ _ _ P
 clear n O4;obtain⟨Q,s,B,o⟩:=GQ F;refine Go.AM.dZ.XE (vs:=[.slice J e l]) (Go.AM.R1.uG e Q s B).EW (by kernel_rfl) ⟨o,ay⟩ λ_ v s' hv _ i d=>?_
 have u:Rd s'.M v (.bool ab):=hv;cases u;have f:Below W.heap.size W (s'.w.at d):=⟨i.os,i.tape,i.output,i.size,i.block⟩;obtain⟨k,g2,rfl⟩:∃ k g2,gs=[k,g2]:=by
  have g:=G;rcases gs with _|⟨k,_|⟨g2,_|⟨g3,r⟩⟩⟩
  .exact g.elim
  .obtain⟨_,_,_,_,_,_,_,_,_,_,h,_⟩:=g;exact h.elim
  .exact⟨k,g2,rfl⟩
  .obtain⟨_,_,_,_,_,_,_,_,_,_,h,_⟩:=g;obtain⟨_,_,_,_,_,_,_,_,_,_,h,_⟩:=h;exact h.elim
 have z:DataW.TrodVars enc ah (s'.w.at d) (λb=>decide (b<W.heap.size)) Rows.fnWorldFormSpec.vars [k,g2] q:=Below.trodVars laidOut f (by kernel_rfl) G
 exact⟨_,_,_,[],_,_,y,trodAll_mk1 (shut_bool Tryz.underlying4 _),(trodAll_cons_mk (Below.trod laidOut (by kernel_rfl) (nQ (by kernel_rfl)) I f A) trodAll_mk0),z,f.frame _,λh=>by cases h⟩
theorem facts{P:an}{f:aX}{fn:Func}{s:ChangeSpec}{c:OpenClaim}
  (v:c.wf (OpenSpec.ofChange s)=ab)
  (o:(laidOutB P&&mapsRowed P)=ab)
  (w:(fn.params.all (P.readableRec ·)&&namedTie P c.named s.vars)=ab)
  (r:((c.stops==[])&&(P.stops==[])&&(c.knobs==[])&&(P.stopKnobs==[]))=ab)
  (l:(c.inPlace==P.inPlace f)=ab)
  (m:(c.unfollowed==P.unfollowed f)=ab)
  (n:(c.recurses==P.recurses f)=ab)
  (q:(c.named==P.varsNamed f)=ab)
  (u:((c.maps==(fn.params.toList++s.plain.varTypes P).any (P.mapsRec ·))&&(c.ifaces==(fn.params.toList++s.plain.varTypes P).any (P.ifacesRec ·))&&(c.mapsOut==P.mapsAmong fn.resultTypes.toList))=ab)
  (p:((c.loops==(fn.params.toList++s.plain.varTypes P).any (P.loopsFrom ·))&&(c.wideKeys==(fn.params.toList++s.plain.varTypes P++fn.resultTypes.toList).any (P.wideKeysFrom ·)))=ab)
  (d:(s.vars.all (P.varReadable ·)&&fn.resultTypes.all (λt=>P.readableRec t&&decide (t<P.types.size))&&(c.ifacesOut==fn.resultTypes.toList.any (P.ifacesRec ·))&&(c.loopsOut==fn.resultTypes.toList.any (P.loopsFrom ·)))=ab)
  (b:(c.plainKeys==P.plainKeys)=ab)
  (a:c.shortTexts.isNone=ab)
  (e:P.stopsHeard=ab)
  (k:P.mayEnter=ab)
  (h:(c.lifted==P.liftsFinal)=ab)
  (i:(P.make==aa c.make)=ab)
  (g:((c.kinds==[])&&c.domain.isEmpty&&(c.pinned==c.pinnedBy))=ab)
  (j:((c.veiled==(fn.params.toList++s.plain.varTypes P++fn.resultTypes.toList).any (P.veiledRec ·))&&c.veiledFits P fn.params.toList (fn.params.toList++s.plain.varTypes P++fn.resultTypes.toList))=ab) :
  joinedFacts P f fn s c=ab:=by
 simp only[bG] at *;simp only[joinedFacts,bG];simp only[*,bO,nZ]
theorem UC:Rows.fnWorldFormRow.wf (OpenSpec.ofChange Rows.fnWorldFormSpec)=ab:=by kernel_rfl
theorem UD:(laidOutB Tryz.checked.prog&&mapsRowed Tryz.checked.prog)=ab:=by kernel_rfl
theorem UE:(Tryz.f3.params.all (Tryz.checked.prog.readableRec ·)&&namedTie Tryz.checked.prog Rows.fnWorldFormRow.named Rows.fnWorldFormSpec.vars)=ab:=by kernel_rfl
theorem UF:((Rows.fnWorldFormRow.stops==[])&&(Tryz.checked.prog.stops==[])&&(Rows.fnWorldFormRow.knobs==[])&&(Tryz.checked.prog.stopKnobs==[]))=ab:=by kernel_rfl
theorem UG:(Rows.fnWorldFormRow.inPlace==Tryz.checked.prog.inPlace 3)=ab:=by kernel_rfl
theorem UH:(Rows.fnWorldFormRow.unfollowed==Tryz.checked.prog.unfollowed 3)=ab:=by kernel_rfl
theorem UI:(Rows.fnWorldFormRow.recurses==Tryz.checked.prog.recurses 3)=ab:=by kernel_rfl
theorem UJ:(Rows.fnWorldFormRow.named==Tryz.checked.prog.varsNamed 3)=ab:=by kernel_rfl
theorem UK:((Rows.fnWorldFormRow.maps==(Tryz.f3.params.toList++Rows.fnWorldFormSpec.plain.varTypes Tryz.checked.prog).any (Tryz.checked.prog.mapsRec ·))&&(Rows.fnWorldFormRow.ifaces==(Tryz.f3.params.toList++Rows.fnWorldFormSpec.plain.varTypes Tryz.checked.prog).any (Tryz.checked.prog.ifacesRec ·))&&(Rows.fnWorldFormRow.mapsOut==Tryz.checked.prog.mapsAmong Tryz.f3.resultTypes.toList))=ab:=by kernel_rfl
theorem UL:((Rows.fnWorldFormRow.loops==(Tryz.f3.params.toList++Rows.fnWorldFormSpec.plain.varTypes Tryz.checked.prog).any (Tryz.checked.prog.loopsFrom ·))&&(Rows.fnWorldFormRow.wideKeys==(Tryz.f3.params.toList++Rows.fnWorldFormSpec.plain.varTypes Tryz.checked.prog++Tryz.f3.resultTypes.toList).any (Tryz.checked.prog.wideKeysFrom ·)))=ab:=by kernel_rfl
theorem Rc:(Rows.fnWorldFormSpec.vars.all (Tryz.checked.prog.varReadable ·)&&Tryz.f3.resultTypes.all (λt=>Tryz.checked.prog.readableRec t&&decide (t<Tryz.checked.prog.types.size))&&(Rows.fnWorldFormRow.ifacesOut==Tryz.f3.resultTypes.toList.any (Tryz.checked.prog.ifacesRec ·))&&(Rows.fnWorldFormRow.loopsOut==Tryz.f3.resultTypes.toList.any (Tryz.checked.prog.loopsFrom ·)))=ab:=by kernel_rfl
theorem Re:(Rows.fnWorldFormRow.plainKeys==Tryz.checked.prog.plainKeys)=ab:=by kernel_rfl
theorem Rf:Rows.fnWorldFormRow.shortTexts.isNone=ab:=by kernel_rfl
theorem Rg:Tryz.checked.prog.stopsHeard=ab:=by kernel_rfl
theorem Rh:Tryz.checked.prog.mayEnter=ab:=by kernel_rfl
theorem Ri:(Rows.fnWorldFormRow.lifted==Tryz.checked.prog.liftsFinal)=ab:=by kernel_rfl
theorem Rj:(Tryz.checked.prog.make==aa Rows.fnWorldFormRow.make)=ab:=by kernel_rfl
theorem Rl:((Rows.fnWorldFormRow.kinds==[])&&Rows.fnWorldFormRow.domain.isEmpty&&(Rows.fnWorldFormRow.pinned==Rows.fnWorldFormRow.pinnedBy))=ab:=by kernel_rfl
theorem Rm:((Rows.fnWorldFormRow.veiled==(Tryz.f3.params.toList++Rows.fnWorldFormSpec.plain.varTypes Tryz.checked.prog++Tryz.f3.resultTypes.toList).any (Tryz.checked.prog.veiledRec ·))&&Rows.fnWorldFormRow.veiledFits Tryz.checked.prog Tryz.f3.params.toList (Tryz.f3.params.toList++Rows.fnWorldFormSpec.plain.varTypes Tryz.checked.prog++Tryz.f3.resultTypes.toList))=ab:=by kernel_rfl
theorem closed:joinedFacts Tryz.checked.prog 3 Tryz.f3 Rows.fnWorldFormSpec Rows.fnWorldFormRow=ab :=
 facts UC UD UE UF UG UH UI UJ UK UL Rc Re Rf Rg Rh Ri Rj Rl Rm
theorem named:Tryz.pinned.checked.prog.funcNamed Rows.fnWorldFormRow.func=aa 3:=by kernel_rfl
theorem over:Rows.FnWorldFormSaid :=
 OpenClaim.holds_of_wide_leaving 3 Tryz.f3 rfl rfl rfl rfl rfl rfl rfl ⟨rfl,rfl,rfl,rfl,rfl⟩ rfl rfl rfl rfl rfl named Tryz.func3 closed
  (nQ (by kernel_rfl)) (by unfold Func.isWrapper;first|(rw[aU (by decide +kernel)];kernel_rfl)|(rw[aO (by decide +kernel)];exact⟨rfl,rfl⟩))
  (λos started H enc _=>lifted os started H enc)
theorem fnWorldForm_proved:Rows.FnWorldFormCardSaid :=
 Go.AM.GR .later [] [.data,.sentinel,.sentinel,.pinned] ab (ab,"a274cb1e814644dfb4995134c85a09ad1abaf2413978f6856310315fa0e3167e") ae over (λ_ h=>by cases h) (by kernel_rfl) (λ_ h=>by cases h) fnWorldForm_row_tie rfl ⟨rfl,rfl⟩ (by kernel_rfl) rfl
  (λf fn hf Sv=>by
   obtain rfl:f=3:=lM ((show Tryz.prog.funcNamed "loop.example/depositary/laws.FnWorldForm"=aa 3 by kernel_rfl).symm.trans hf) |>.symm
   obtain rfl:fn=Tryz.f3:=(lM (Tryz.func3.symm.trans Sv)).symm;exact⟨by kernel_rfl,λj t b=>by
    rw[Tryz.params3] at b;have c:t∈[22]:=by
     have:=pA b;simp at this ⊢;exact this
    have a:([22].all λu=>!Tryz.prog.wantsStandIn u)=ab:=by kernel_rfl
    exact(show Tryz.prog.wantsStandIn t=ae by simpa using bq.1 a t c)⟩)
  (by kernel_rfl)
#print axioms fnWorldForm_proved
end Go.Proofs.YtemefbgdmkionaaGreatDoor

