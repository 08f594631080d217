/-
  For every input the law FnSweepLess returns true, and the input reads as it did: the tied card FnSweepLessCardSaid. No condition.
-/
import Derived.Test.YtpddeenenibhjaaGreatDoorA6
import Derived.Test.YtpddeenenibhjaaGreatDoorTie
import Derived.Test.YtpddeenenibhjaaGreatDoorCards
import Derived.ProofKit
import Derived.OpenShut
import Derived.OpenVars
import Derived.LaidMore
import Derived.Lay
import Derived.SevenTiedAt
import Derived.Below
set_option linter.all false
set_option maxHeartbeats 8000000
open Go renaming Value → ai, TypeId → aw, FuncId → aJ, World → aA, Program → aM
open Option renaming some → aa, none → af
open Bool renaming true → ab, false → ae
open Go.World renaming cell? → aV
open List renaming getD_eq_getElem?_getD → aj
open Go.Proofs.Tryz renaming prog → ag
namespace Go.Proofs.YtpddeenenibhjaaGreatDoor
open Go.ChangeShapes Go.WideShapes Go.ChangeAt Go.RowKit
open Go.AM (dk Rd St.top)
theorem own:ownKnob Tryz.prog.godebug=af:=by kernel_rfl
theorem laidOut:laidOutB ag=ab:=by kernel_rfl
theorem J8{w:aA}{a:Addr}{v:ai}(h:w.cell? (a.add 0)=aa v):a=⟨a.block,a.off,af⟩:=by
 obtain⟨b,o,s⟩:=a;cases s with
 |none=>rfl
 |some q =>
  simp only[Addr.add,b5,aV]at h;split at h
  .simp at h
  .cases h
theorem NB{w:aA}{a:Addr}{n:Nat}{v:ai}(h:w.cell? (a.add n)=aa v):w.cell? ⟨a.block,a.off+n,af⟩=aa v:=by
 by_cases e:n=0
 .subst e;have c:=J8 h;obtain⟨b,o,s⟩:=a;simp only[Addr.mk.injEq,aH]at c;subst c;exact h
 .simpa only[Addr.add,a9 e]using h
theorem Uj{n:Int}(h:(Lit.int .u8 n).wf=ab):0<=n/\n<=255:=by simp only[Lit.wf,IntKind.min,IntKind.max,IntKind.signed,IntKind.bits]at h;simp at h;omega
set_option maxRecDepth 100000 in
theorem yo{H:Type}{enc:aw×ai->H}{W:aA}{a:Option Addr}{len cap:Nat}{d:DataW H}{p:List MemPlace}(h:DataW.Trod enc ag W 0 (λ_=>ab) ab 22 (.slice a len cap) d p):
  ∃b:Nat->Int,Go.AM.R1.Bytes b/\len<=9223372036854775807/\dk [] (St.top W) (.slice a len cap) (.e (.one (.c (.sl ae 1 len (Go.AM.R1.GU b))))):=by
 obtain⟨v,A⟩:=h;rcases open_ints Tryz.underlying22 Tryz.underlying5 (by kernel_rfl) A with⟨g,_⟩|⟨x,n,c,f,g,_,w,B,C,_,l,m⟩
 .simp[Value.cells]at g;obtain⟨rfl,rfl,rfl⟩:=g;exact⟨λ_=>0,λ_=>⟨Int.le_refl 0,show(0:Int)<=255 by decide⟩,by omega,Rd.jr⟩
 .simp[Value.cells]at g;obtain⟨rfl,rfl,rfl⟩:=g;simp only[b5]at C;simp only[maxLen]at B;refine⟨λi=>f.getD i 0,λi=>?_,by omega,?_⟩
  .by_cases hi:i<f.length
   .have:=m (f.getD i 0) (by rw[aj,bm hi];exact qX hi);exact Uj this
   .simp[aj,qP (by omega:f.length<=i)]
  .show Rd _ _ _;refine Rd.qm (k:=1) (n:=len) (vs:=(f.take len).map λz=>.int .u8 z) (a:=aa x) (b:=x.block) (off:=x.off) (cap:=cap) (t:=ae) ⟨by simp;omega,λi hi=>rfl,λi hi j c s=>?_⟩ (λE=>?_) w (by omega) (by simp) (λp u q=>?_)
   .have r:j=0:=by have:=(b8.1 s).1;simp[Go.AM.R1.GU]at this;omega
    subst r;have D:c=.int .u8 (f.getD i 0):=by simp only[Go.AM.R1.GU,kC,dx]at s;exact s.symm
    subst D;have y:=Uj (m (f.getD i 0) (by rw[aj,bm (by omega:i<f.length)];exact qX _));refine⟨.int .u8 (f.getD i 0),?_,Rd.int y⟩;simp[fR,hi,aj,bm (by omega:i<f.length)]
   .exact dA aa (J8 (l 0 (by omega)))
   .have o:p<len:=by have:=(b8.1 q).1;simp at this;omega
    have:u=.int .u8 (f.getD p 0):=by simp[fR,o,bm (by omega:p<f.length)]at q;rw[<-q];simp[aj,bm (by omega:p<f.length)]
    subst this;exact NB (l p (by omega))
set_option maxRecDepth 100000 in
theorem lifted(os:Os)(c:os.Started)(H:Type)(enc:aw×ai->H):
  ReturnsInLeavingWide {} Tryz.checked os 5 .any (λw args=>(Rows.fnSweepLessSpec.pre enc ag Tryz.f5 Rows.fnSweepLessRow.domain ae w args/\laidMetH ag Rows.fnSweepLessRow.laid w)/\sizedMet enc ag Tryz.f5 (OpenSpec.ofChange Rows.fnSweepLessSpec) ae w args)
   (Rows.fnSweepLessSpec.post enc ag Tryz.f5 ae ab ae ae):=by
 refine Go.AM.BT (C:=Tryz.checked) (X:=λw _=>laidMetH ag Rows.fnSweepLessRow.laid w) (λ_ _ _ hh h=>h.of_heap hh) own c Tryz.func5
  (ChangeSpec.witness_shaped (enc:=enc) (C:=Tryz.checked) (os:=os) (X:=λw _=>laidMetH ag Rows.fnSweepLessRow.laid w) ae (World.laidAll ag os Rows.fnSweepLessRow.laid) #[.slice af 0 0,.slice af 0 0] 8 (World.laidAll_os _ _ _)
   (World.shaped_of_ZipB (by kernel_rfl) (by kernel_rfl)) (by kernel_rfl) (by kernel_rfl) (by kernel_rfl)
   (by rw[MakeChecks.laidMetH_plain _ _ _ (by kernel_rfl)];exact laidMet_laidAll _ (by kernel_rfl) (by kernel_rfl))) ?_
 intro W base args ds gs before O7 hW;have a:∀(j:Nat) t v,Tryz.f5.params[j]?=aa t->args[j]?=aa v->Value.okWide ag W .any base t v:=O7;have B:=hW;obtain⟨p,q,k,O,rfl,_,_⟩:=hW;have P:DataW.TrodAll enc ag W 0 (λ_=>ab) ab Tryz.f5.params.toList args.toList ds p:=k;rw[Tryz.params5]at P a;obtain⟨v0,V,d0,ds0,Y,q0,G,rfl,rfl,N,r0⟩:=trodAll_cons P;obtain⟨v1,R,d1,Z,p1,q1,rfl,rfl,rfl,L,r1⟩:=trodAll_cons r0;obtain⟨rfl,rfl,rfl⟩:=trodAll_nil r1;obtain rfl:args=#[v0,v1]:=by cases args;simp_all
 obtain⟨U,f,n,rfl⟩:=okWide_slice Tryz.underlying22 (a 0 22 v0 rfl rfl);obtain⟨a1,lL,o,rfl⟩:=okWide_slice Tryz.underlying22 (a 1 22 v1 rfl rfl);have Q:=N;have E:∀x∈Y,x.block<W.heap.size:=by obtain⟨m,z⟩:=Q;exact DataW.trod_lt m _ _ _ z
 have k1:=L;have s:∀x∈p1,x.block<W.heap.size:=by obtain⟨m,z⟩:=k1;exact DataW.trod_lt m _ _ _ z
 clear k O7;obtain⟨S,F,u,I⟩:=yo N;obtain⟨T,A,K,J⟩:=yo L;refine Go.AM.dL.W3 (vs:=[.slice U f n,.slice a1 lL o]) (Go.AM.R1.ua f lL S T F A u K).HX (by kernel_rfl) ⟨I,J,ar⟩ λ_ v s' hv _ i d=>?_;have D:Rd s'.M v (.bool ab):=hv;cases D;have e:Below W.heap.size W (s'.w.at d):=⟨i.os,i.tape,i.output,i.size,i.block⟩;obtain⟨l,g2,rfl⟩:∃l g2,gs=[l,g2]:=by
  have g:=O;rcases gs with _|⟨l,_|⟨g2,_|⟨g3,r⟩⟩⟩
  .exact g.elim
  .obtain⟨_,_,_,_,_,_,_,_,_,_,h,_⟩:=g;exact h.elim
  .exact⟨l,g2,rfl⟩
  .obtain⟨_,_,_,_,_,_,_,_,_,_,h,_⟩:=g;obtain⟨_,_,_,_,_,_,_,_,_,_,h,_⟩:=h;exact h.elim
 have y:DataW.TrodVars enc ag (s'.w.at d) (λb=>decide (b<W.heap.size)) Rows.fnSweepLessSpec.vars [l,g2] q:=Below.trodVars laidOut e (by kernel_rfl) O;exact⟨_,_,_,[],_,_,B,trodAll_mk1 (shut_bool Tryz.underlying4 _),(trodAll_cons_mk (Below.trod laidOut (by kernel_rfl) (of_decide_eq_true (by kernel_rfl)) Q e E) (trodAll_cons_mk (Below.trod laidOut (by kernel_rfl) (of_decide_eq_true (by kernel_rfl)) k1 e s) trodAll_mk0)),y,e.frame _,λh=>by cases h⟩
theorem facts{P:aM}{f:aJ}{fn:Func}{s:ChangeSpec}{c:OpenClaim}(r:c.wf (OpenSpec.ofChange s)=ab)(p:(laidOutB P&&mapsRowed P)=ab)(q:(fn.params.all (P.readableRec ·)&&namedTie P c.named s.vars)=ab)(l:((c.stops==[])&&(P.stops==[])&&(c.knobs==[])&&(P.stopKnobs==[]))=ab)(u:(c.inPlace==P.inPlace f)=ab)(w:(c.unfollowed==P.unfollowed f)=ab)(n:(c.recurses==P.recurses f)=ab)(m:(c.named==P.varsNamed f)=ab)(v:((c.maps==(fn.params.toList++s.plain.varTypes P).any (P.mapsRec ·))&&(c.ifaces==(fn.params.toList++s.plain.varTypes P).any (P.ifacesRec ·))&&(c.mapsOut==P.mapsAmong fn.resultTypes.toList))=ab)(o:((c.loops==(fn.params.toList++s.plain.varTypes P).any (P.loopsFrom ·))&&(c.wideKeys==(fn.params.toList++s.plain.varTypes P++fn.resultTypes.toList).any (P.wideKeysFrom ·)))=ab)(j:(s.vars.all (P.varReadable ·)&&fn.resultTypes.all (λt=>P.readableRec t&&decide (t<P.types.size))&&(c.ifacesOut==fn.resultTypes.toList.any (P.ifacesRec ·))&&(c.loopsOut==fn.resultTypes.toList.any (P.loopsFrom ·)))=ab)(k:(c.plainKeys==P.plainKeys)=ab)(i:c.shortTexts.isNone=ab)(e:P.stopsHeard=ab)(b:P.mayEnter=ab)(a:(c.lifted==P.liftsFinal)=ab)(g:(P.make==aa c.make)=ab)(d:((c.kinds==[])&&c.domain.isEmpty&&(c.pinned==c.pinnedBy))=ab)(h:((c.veiled==(fn.params.toList++s.plain.varTypes P++fn.resultTypes.toList).any (P.veiledRec ·))&&c.veiledFits P fn.params.toList (fn.params.toList++s.plain.varTypes P++fn.resultTypes.toList))=ab):
  joinedFacts P f fn s c=ab:=by simp only[bS]at *;simp only[joinedFacts,bS];simp only[*,b5,and_self]
theorem Uk:Rows.fnSweepLessRow.wf (OpenSpec.ofChange Rows.fnSweepLessSpec)=ab:=by kernel_rfl
theorem Ul:(laidOutB Tryz.checked.prog&&mapsRowed Tryz.checked.prog)=ab:=by kernel_rfl
theorem Um:(Tryz.f5.params.all (Tryz.checked.prog.readableRec ·)&&namedTie Tryz.checked.prog Rows.fnSweepLessRow.named Rows.fnSweepLessSpec.vars)=ab:=by kernel_rfl
theorem Un:((Rows.fnSweepLessRow.stops==[])&&(Tryz.checked.prog.stops==[])&&(Rows.fnSweepLessRow.knobs==[])&&(Tryz.checked.prog.stopKnobs==[]))=ab:=by kernel_rfl
theorem Uo:(Rows.fnSweepLessRow.inPlace==Tryz.checked.prog.inPlace 5)=ab:=by kernel_rfl
theorem Up:(Rows.fnSweepLessRow.unfollowed==Tryz.checked.prog.unfollowed 5)=ab:=by kernel_rfl
theorem Uq:(Rows.fnSweepLessRow.recurses==Tryz.checked.prog.recurses 5)=ab:=by kernel_rfl
theorem Ur:(Rows.fnSweepLessRow.named==Tryz.checked.prog.varsNamed 5)=ab:=by kernel_rfl
theorem Us:((Rows.fnSweepLessRow.maps==(Tryz.f5.params.toList++Rows.fnSweepLessSpec.plain.varTypes Tryz.checked.prog).any (Tryz.checked.prog.mapsRec ·))&&(Rows.fnSweepLessRow.ifaces==(Tryz.f5.params.toList++Rows.fnSweepLessSpec.plain.varTypes Tryz.checked.prog).any (Tryz.checked.prog.ifacesRec ·))&&(Rows.fnSweepLessRow.mapsOut==Tryz.checked.prog.mapsAmong Tryz.f5.resultTypes.toList))=ab:=by kernel_rfl
theorem Ut:((Rows.fnSweepLessRow.loops==(Tryz.f5.params.toList++Rows.fnSweepLessSpec.plain.varTypes Tryz.checked.prog).any (Tryz.checked.prog.loopsFrom ·))&&(Rows.fnSweepLessRow.wideKeys==(Tryz.f5.params.toList++Rows.fnSweepLessSpec.plain.varTypes Tryz.checked.prog++Tryz.f5.resultTypes.toList).any (Tryz.checked.prog.wideKeysFrom ·)))=ab:=by kernel_rfl
theorem Q5:(Rows.fnSweepLessSpec.vars.all (Tryz.checked.prog.varReadable ·)&&Tryz.f5.resultTypes.all (λt=>Tryz.checked.prog.readableRec t&&decide (t<Tryz.checked.prog.types.size))&&(Rows.fnSweepLessRow.ifacesOut==Tryz.f5.resultTypes.toList.any (Tryz.checked.prog.ifacesRec ·))&&(Rows.fnSweepLessRow.loopsOut==Tryz.f5.resultTypes.toList.any (Tryz.checked.prog.loopsFrom ·)))=ab:=by kernel_rfl
theorem Q6:(Rows.fnSweepLessRow.plainKeys==Tryz.checked.prog.plainKeys)=ab:=by kernel_rfl
theorem Q7:Rows.fnSweepLessRow.shortTexts.isNone=ab:=by kernel_rfl
theorem Q8:Tryz.checked.prog.stopsHeard=ab:=by kernel_rfl
theorem Q9:Tryz.checked.prog.mayEnter=ab:=by kernel_rfl
theorem Ra:(Rows.fnSweepLessRow.lifted==Tryz.checked.prog.liftsFinal)=ab:=by kernel_rfl
theorem Rb:(Tryz.checked.prog.make==aa Rows.fnSweepLessRow.make)=ab:=by kernel_rfl
theorem Rc:((Rows.fnSweepLessRow.kinds==[])&&Rows.fnSweepLessRow.domain.isEmpty&&(Rows.fnSweepLessRow.pinned==Rows.fnSweepLessRow.pinnedBy))=ab:=by kernel_rfl
theorem Re:((Rows.fnSweepLessRow.veiled==(Tryz.f5.params.toList++Rows.fnSweepLessSpec.plain.varTypes Tryz.checked.prog++Tryz.f5.resultTypes.toList).any (Tryz.checked.prog.veiledRec ·))&&Rows.fnSweepLessRow.veiledFits Tryz.checked.prog Tryz.f5.params.toList (Tryz.f5.params.toList++Rows.fnSweepLessSpec.plain.varTypes Tryz.checked.prog++Tryz.f5.resultTypes.toList))=ab:=by kernel_rfl
theorem closed:joinedFacts Tryz.checked.prog 5 Tryz.f5 Rows.fnSweepLessSpec Rows.fnSweepLessRow=ab :=
 facts Uk Ul Um Un Uo Up Uq Ur Us Ut Q5 Q6 Q7 Q8 Q9 Ra Rb Rc Re
theorem named:Tryz.pinned.checked.prog.funcNamed Rows.fnSweepLessRow.func=aa 5:=by kernel_rfl
theorem over:Rows.FnSweepLessSaid :=
 OpenClaim.holds_of_wide_leaving 5 Tryz.f5 rfl rfl rfl rfl rfl rfl rfl ⟨rfl,rfl,rfl,rfl,rfl⟩ rfl rfl rfl rfl rfl named Tryz.func5 closed
  (of_decide_eq_true (by kernel_rfl)) (by unfold Func.isWrapper;first|(rw[bn (by decide +kernel)];kernel_rfl)|(rw[a9 (by decide +kernel)];exact⟨rfl,rfl⟩))
  (λos started H enc _=>lifted os started H enc)
theorem fnSweepLess_proved:Rows.FnSweepLessCardSaid :=
 Go.AM.GV .later [] [.data,.sentinel,.sentinel,.pinned] ab (ab,"117b6ced9a67039dff78bdd2c556171dd388fd69be06c6693c6eeb660c377182") ae over (λ_ h=>by cases h) (by kernel_rfl) (λ_ h=>by cases h) fnSweepLess_row_tie rfl ⟨rfl,rfl⟩ (by kernel_rfl) rfl
  (λf fn hf Ta=>by
   obtain rfl:f=5:=qZ ((show Tryz.prog.funcNamed "loop.example/depositary/laws.FnSweepLess"=aa 5 by kernel_rfl).symm.trans hf) |>.symm
   obtain rfl:fn=Tryz.f5:=(qZ (Tryz.func5.symm.trans Ta)).symm;exact⟨by kernel_rfl,λj t b=>by
    rw[Tryz.params5]at b;have c:t∈[22]:=by have:=uf b;simp at this⊢;exact this
    have a:([22].all λu=>!Tryz.prog.wantsStandIn u)=ab:=by kernel_rfl
    exact(show Tryz.prog.wantsStandIn t=ae by simpa using List.all_eq_true.1 a t c)⟩)
  (by kernel_rfl)
#print axioms fnSweepLess_proved
end Go.Proofs.YtpddeenenibhjaaGreatDoor

