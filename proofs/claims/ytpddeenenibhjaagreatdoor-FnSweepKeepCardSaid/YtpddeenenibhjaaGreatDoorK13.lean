import Derived.Test.YtpddeenenibhjaaGreatDoorA7
import Derived.Test.YtpddeenenibhjaaGreatDoorTie
import Derived.Test.YtpddeenenibhjaaGreatDoorCards
import Derived.ProofKit
import Derived.OpenShut
import Derived.OpenVars
import Derived.LaidMore
import Derived.Lay
import Derived.SevenTiedAt
import Derived.Below
set_option linter.all false
set_option maxHeartbeats 8000000
open Go renaming Value → aj, TypeId → aw, FuncId → aK, World → aA, Program → aO
open Option renaming some → aa, none → af
open Bool renaming true → ab, false → ae
open Go.World renaming cell? → aW
open List renaming getD_eq_getElem?_getD → ai
open Go.Proofs.Tryz renaming prog → ag, underlying22 → aM
namespace Go.Proofs.YtpddeenenibhjaaGreatDoor
open Go.ChangeShapes Go.WideShapes Go.ChangeAt Go.RowKit
open Go.AM (dm Rd St.top)
theorem own:ownKnob Tryz.prog.godebug=af:=by kernel_rfl
theorem laidOut:laidOutB ag=ab:=by kernel_rfl
theorem pz{w:aA}{a:Addr}{v:aj}(h:w.cell? (a.add 0)=aa v):a=⟨a.block,a.off,af⟩:=by
 obtain⟨b,o,s⟩:=a;cases s with
 |none=>rfl
 |some q =>
  simp only[Addr.add,bY,aW]at h;split at h
  .simp at h
  .cases h
theorem sC{w:aA}{a:Addr}{n:Nat}{v:aj}(h:w.cell? (a.add n)=aa v):w.cell? ⟨a.block,a.off+n,af⟩=aa v:=by
 by_cases e:n=0
 .subst e;have c:=pz h;obtain⟨b,o,s⟩:=a;simp only[Addr.mk.injEq,aF]at c;subst c;exact h
 .simpa only[Addr.add,a9 e]using h
theorem Cw{n:Int}(h:(Lit.int .u8 n).wf=ab):0<=n/\n<=255:=by simp only[Lit.wf,IntKind.min,IntKind.max,IntKind.signed,IntKind.bits]at h;simp at h;omega
set_option maxRecDepth 100000 in
theorem nq{H:Type}{enc:aw×aj->H}{W:aA}{a:Option Addr}{len cap:Nat}{d:DataW H}{p:List MemPlace}(h:DataW.Trod enc ag W 0 (λ_=>ab) ab 22 (.slice a len cap) d p):
  ∃b:Nat->Int,Go.AM.R1.Bytes b/\len<=9223372036854775807/\dm [] (St.top W) (.slice a len cap) (.e (.one (.c (.sl ae 1 len (Go.AM.R1.yY b))))):=by
 obtain⟨v,y⟩:=h;rcases open_ints aM Tryz.underlying5 (by kernel_rfl) y with⟨l,_⟩|⟨x,n,c,f,l,_,C,A,w,_,g,m⟩
 .simp[Value.cells]at l;obtain⟨rfl,rfl,rfl⟩:=l;exact⟨λ_=>0,λ_=>⟨rJ 0,show(0:Int)<=255 by decide⟩,by omega,Rd.il⟩
 .simp[Value.cells]at l;obtain⟨rfl,rfl,rfl⟩:=l;simp only[bY]at w;simp only[maxLen]at A;refine⟨λi=>f.getD i 0,λi=>?_,by omega,?_⟩
  .by_cases hi:i<f.length
   .have:=m (f.getD i 0) (by rw[ai,bg hi];exact nH hi);exact Cw this
   .simp[ai,qQ (by omega:f.length<=i)]
  .show Rd _ _ _;refine Rd.nN (k:=1) (n:=len) (vs:=(f.take len).map λz=>.int .u8 z) (a:=aa x) (b:=x.block) (off:=x.off) (cap:=cap) (t:=ae) ⟨by simp;omega,λi hi=>rfl,λi hi j c o=>?_⟩ (λE=>?_) C (by omega) (by simp) (λp u q=>?_)
   .have s:j=0:=by have:=(b8.1 o).1;simp[Go.AM.R1.yY]at this;omega
    subst s;have B:c=.int .u8 (f.getD i 0):=by simp only[Go.AM.R1.yY,ju,dq]at o;exact o.symm
    subst B;have D:=Cw (m (f.getD i 0) (by rw[ai,bg (by omega:i<f.length)];exact nH _));refine⟨.int .u8 (f.getD i 0),?_,Rd.int D⟩;simp[eX,hi,ai,bg (by omega:i<f.length)]
   .exact dy aa (pz (g 0 (by omega)))
   .have r:p<len:=by have:=(b8.1 q).1;simp at this;omega
    have:u=.int .u8 (f.getD p 0):=by simp[eX,r,bg (by omega:p<f.length)]at q;rw[<-q];simp[ai,bg (by omega:p<f.length)]
    subst this;exact sC (g p (by omega))
set_option maxRecDepth 100000 in
theorem lifted(os:Os)(a:os.Started)(H:Type)(enc:aw×aj->H):
  ReturnsInLeavingWide {} Tryz.checked os 4 .any (λw args=>(Rows.fnSweepKeepSpec.pre enc ag Tryz.f4 Rows.fnSweepKeepRow.domain ae w args/\laidMetH ag Rows.fnSweepKeepRow.laid w)/\sizedMet enc ag Tryz.f4 (OpenSpec.ofChange Rows.fnSweepKeepSpec) ae w args)
   (Rows.fnSweepKeepSpec.post enc ag Tryz.f4 ae ab ae ae):=by
 refine Go.AM.pA (C:=Tryz.checked) (X:=λw _=>laidMetH ag Rows.fnSweepKeepRow.laid w) (λ_ _ _ O h=>h.of_heap O) own a Tryz.func4
  (ChangeSpec.witness_shaped (enc:=enc) (C:=Tryz.checked) (os:=os) (X:=λw _=>laidMetH ag Rows.fnSweepKeepRow.laid w) ae (World.laidAll ag os Rows.fnSweepKeepRow.laid) #[.slice af 0 0] 8 (World.laidAll_os _ _ _)
   (World.shaped_of_ZipB (by kernel_rfl) (by kernel_rfl)) (by kernel_rfl) (by kernel_rfl) (by kernel_rfl)
   (by rw[MakeChecks.laidMetH_plain _ _ _ (by kernel_rfl)];exact laidMet_laidAll _ (by kernel_rfl) (by kernel_rfl))) ?_
 intro W base args ds gs before uh hW;have e:∀(j:Nat) t v,Tryz.f4.params[j]?=aa t->args[j]?=aa v->Value.okWide ag W .any base t v:=uh;have D:=hW;obtain⟨p,q,k,I,rfl,_,_⟩:=hW;have E:DataW.TrodAll enc ag W 0 (λ_=>ab) ab Tryz.f4.params.toList args.toList ds p:=k;rw[Tryz.params4]at E e;obtain⟨v0,P,S,L,J,R,u,rfl,rfl,G,r0⟩:=trodAll_cons E;obtain⟨rfl,rfl,rfl⟩:=trodAll_nil r0;obtain rfl:args=#[v0]:=by cases args;simp_all
 obtain⟨Q,c,l,rfl⟩:=okWide_slice aM (e 0 22 v0 rfl rfl);have F:=G;have z:∀x∈J,x.block<W.heap.size:=by obtain⟨m,N⟩:=F;exact DataW.trod_lt m _ _ _ N
 clear k uh;obtain⟨K,s,o,A⟩:=nq G;refine Go.AM.dO.Ri (vs:=[.slice Q c l]) (Go.AM.R1.uI c K s o).IJ (by kernel_rfl) ⟨A,ar⟩ λ_ v s' hv _ i d=>?_;have B:Rd s'.M v (.bool ab):=hv;cases B;have f:Below W.heap.size W (s'.w.at d):=⟨i.os,i.tape,i.output,i.size,i.block⟩;obtain⟨n,g2,rfl⟩:∃n g2,gs=[n,g2]:=by
  have g:=I;rcases gs with _|⟨n,_|⟨g2,_|⟨T,r⟩⟩⟩
  .exact g.elim
  .obtain⟨_,_,_,_,_,_,_,_,_,_,h,_⟩:=g;exact h.elim
  .exact⟨n,g2,rfl⟩
  .obtain⟨_,_,_,_,_,_,_,_,_,_,h,_⟩:=g;obtain⟨_,_,_,_,_,_,_,_,_,_,h,_⟩:=h;exact h.elim
 have y:DataW.TrodVars enc ag (s'.w.at d) (λb=>decide (b<W.heap.size)) Rows.fnSweepKeepSpec.vars [n,g2] q:=Below.trodVars laidOut f (by kernel_rfl) I;exact⟨_,_,_,[],_,_,D,trodAll_mk1 (shut_bool Tryz.underlying4 _),(trodAll_cons_mk (Below.trod laidOut (by kernel_rfl) (pT (by kernel_rfl)) F f z) trodAll_mk0),y,f.frame _,λh=>by cases h⟩
theorem facts{P:aO}{f:aK}{fn:Func}{s:ChangeSpec}{c:OpenClaim}(u:c.wf (OpenSpec.ofChange s)=ab)(p:(laidOutB P&&mapsRowed P)=ab)(w:(fn.params.all (P.readableRec ·)&&namedTie P c.named s.vars)=ab)(m:((c.stops==[])&&(P.stops==[])&&(c.knobs==[])&&(P.stopKnobs==[]))=ab)(n:(c.inPlace==P.inPlace f)=ab)(o:(c.unfollowed==P.unfollowed f)=ab)(l:(c.recurses==P.recurses f)=ab)(q:(c.named==P.varsNamed f)=ab)(r:((c.maps==(fn.params.toList++s.plain.varTypes P).any (P.mapsRec ·))&&(c.ifaces==(fn.params.toList++s.plain.varTypes P).any (P.ifacesRec ·))&&(c.mapsOut==P.mapsAmong fn.resultTypes.toList))=ab)(v:((c.loops==(fn.params.toList++s.plain.varTypes P).any (P.loopsFrom ·))&&(c.wideKeys==(fn.params.toList++s.plain.varTypes P++fn.resultTypes.toList).any (P.wideKeysFrom ·)))=ab)(b:(s.vars.all (P.varReadable ·)&&fn.resultTypes.all (λt=>P.readableRec t&&decide (t<P.types.size))&&(c.ifacesOut==fn.resultTypes.toList.any (P.ifacesRec ·))&&(c.loopsOut==fn.resultTypes.toList.any (P.loopsFrom ·)))=ab)(g:(c.plainKeys==P.plainKeys)=ab)(h:c.shortTexts.isNone=ab)(e:P.stopsHeard=ab)(j:P.mayEnter=ab)(a:(c.lifted==P.liftsFinal)=ab)(i:(P.make==aa c.make)=ab)(d:((c.kinds==[])&&c.domain.isEmpty&&(c.pinned==c.pinnedBy))=ab)(k:((c.veiled==(fn.params.toList++s.plain.varTypes P++fn.resultTypes.toList).any (P.veiledRec ·))&&c.veiledFits P fn.params.toList (fn.params.toList++s.plain.varTypes P++fn.resultTypes.toList))=ab):
  joinedFacts P f fn s c=ab:=by simp only[bR]at *;simp only[joinedFacts,bR];simp only[*,bY,and_self]
theorem Cy:Rows.fnSweepKeepRow.wf (OpenSpec.ofChange Rows.fnSweepKeepSpec)=ab:=by kernel_rfl
theorem Cz:(laidOutB Tryz.checked.prog&&mapsRowed Tryz.checked.prog)=ab:=by kernel_rfl
theorem CB:(Tryz.f4.params.all (Tryz.checked.prog.readableRec ·)&&namedTie Tryz.checked.prog Rows.fnSweepKeepRow.named Rows.fnSweepKeepSpec.vars)=ab:=by kernel_rfl
theorem CC:((Rows.fnSweepKeepRow.stops==[])&&(Tryz.checked.prog.stops==[])&&(Rows.fnSweepKeepRow.knobs==[])&&(Tryz.checked.prog.stopKnobs==[]))=ab:=by kernel_rfl
theorem CE:(Rows.fnSweepKeepRow.inPlace==Tryz.checked.prog.inPlace 4)=ab:=by kernel_rfl
theorem CF:(Rows.fnSweepKeepRow.unfollowed==Tryz.checked.prog.unfollowed 4)=ab:=by kernel_rfl
theorem CG:(Rows.fnSweepKeepRow.recurses==Tryz.checked.prog.recurses 4)=ab:=by kernel_rfl
theorem CH:(Rows.fnSweepKeepRow.named==Tryz.checked.prog.varsNamed 4)=ab:=by kernel_rfl
theorem CI:((Rows.fnSweepKeepRow.maps==(Tryz.f4.params.toList++Rows.fnSweepKeepSpec.plain.varTypes Tryz.checked.prog).any (Tryz.checked.prog.mapsRec ·))&&(Rows.fnSweepKeepRow.ifaces==(Tryz.f4.params.toList++Rows.fnSweepKeepSpec.plain.varTypes Tryz.checked.prog).any (Tryz.checked.prog.ifacesRec ·))&&(Rows.fnSweepKeepRow.mapsOut==Tryz.checked.prog.mapsAmong Tryz.f4.resultTypes.toList))=ab:=by kernel_rfl
theorem CJ:((Rows.fnSweepKeepRow.loops==(Tryz.f4.params.toList++Rows.fnSweepKeepSpec.plain.varTypes Tryz.checked.prog).any (Tryz.checked.prog.loopsFrom ·))&&(Rows.fnSweepKeepRow.wideKeys==(Tryz.f4.params.toList++Rows.fnSweepKeepSpec.plain.varTypes Tryz.checked.prog++Tryz.f4.resultTypes.toList).any (Tryz.checked.prog.wideKeysFrom ·)))=ab:=by kernel_rfl
theorem w7:(Rows.fnSweepKeepSpec.vars.all (Tryz.checked.prog.varReadable ·)&&Tryz.f4.resultTypes.all (λt=>Tryz.checked.prog.readableRec t&&decide (t<Tryz.checked.prog.types.size))&&(Rows.fnSweepKeepRow.ifacesOut==Tryz.f4.resultTypes.toList.any (Tryz.checked.prog.ifacesRec ·))&&(Rows.fnSweepKeepRow.loopsOut==Tryz.f4.resultTypes.toList.any (Tryz.checked.prog.loopsFrom ·)))=ab:=by kernel_rfl
theorem w8:(Rows.fnSweepKeepRow.plainKeys==Tryz.checked.prog.plainKeys)=ab:=by kernel_rfl
theorem w9:Rows.fnSweepKeepRow.shortTexts.isNone=ab:=by kernel_rfl
theorem xa:Tryz.checked.prog.stopsHeard=ab:=by kernel_rfl
theorem xb:Tryz.checked.prog.mayEnter=ab:=by kernel_rfl
theorem xc:(Rows.fnSweepKeepRow.lifted==Tryz.checked.prog.liftsFinal)=ab:=by kernel_rfl
theorem xd:(Tryz.checked.prog.make==aa Rows.fnSweepKeepRow.make)=ab:=by kernel_rfl
theorem xe:((Rows.fnSweepKeepRow.kinds==[])&&Rows.fnSweepKeepRow.domain.isEmpty&&(Rows.fnSweepKeepRow.pinned==Rows.fnSweepKeepRow.pinnedBy))=ab:=by kernel_rfl
theorem xf:((Rows.fnSweepKeepRow.veiled==(Tryz.f4.params.toList++Rows.fnSweepKeepSpec.plain.varTypes Tryz.checked.prog++Tryz.f4.resultTypes.toList).any (Tryz.checked.prog.veiledRec ·))&&Rows.fnSweepKeepRow.veiledFits Tryz.checked.prog Tryz.f4.params.toList (Tryz.f4.params.toList++Rows.fnSweepKeepSpec.plain.varTypes Tryz.checked.prog++Tryz.f4.resultTypes.toList))=ab:=by kernel_rfl
theorem closed:joinedFacts Tryz.checked.prog 4 Tryz.f4 Rows.fnSweepKeepSpec Rows.fnSweepKeepRow=ab :=
 facts Cy Cz CB CC CE CF CG CH CI CJ w7 w8 w9 xa xb xc xd xe xf
theorem named:Tryz.pinned.checked.prog.funcNamed Rows.fnSweepKeepRow.func=aa 4:=by kernel_rfl
theorem over:Rows.FnSweepKeepSaid :=
 OpenClaim.holds_of_wide_leaving 4 Tryz.f4 rfl rfl rfl rfl rfl rfl rfl ⟨rfl,rfl,rfl,rfl,rfl⟩ rfl rfl rfl rfl rfl named Tryz.func4 closed
  (pT (by kernel_rfl)) (by unfold Func.isWrapper;first|(rw[br (by decide +kernel)];kernel_rfl)|(rw[a9 (by decide +kernel)];exact⟨rfl,rfl⟩))
  (λos started H enc _=>lifted os started H enc)
theorem fnSweepKeep_proved:Rows.FnSweepKeepCardSaid :=
 Go.AM.tC .later [] [.data,.sentinel,.sentinel,.pinned] ab (ab,"117b6ced9a67039dff78bdd2c556171dd388fd69be06c6693c6eeb660c377182") ae over (λ_ h=>by cases h) (by kernel_rfl) (λ_ h=>by cases h) fnSweepKeep_row_tie rfl ⟨rfl,rfl⟩ (by kernel_rfl) rfl
  (λf fn hf Ny=>by
   obtain rfl:f=4:=kV ((show Tryz.prog.funcNamed "loop.example/depositary/laws.FnSweepKeep"=aa 4 by kernel_rfl).symm.trans hf) |>.symm
   obtain rfl:fn=Tryz.f4:=(kV (Tryz.func4.symm.trans Ny)).symm;exact⟨by kernel_rfl,λj t b=>by
    rw[Tryz.params4]at b;have c:t∈[22]:=by have:=pM b;simp at this⊢;exact this
    have a:([22].all λu=>!Tryz.prog.wantsStandIn u)=ab:=by kernel_rfl
    exact(show Tryz.prog.wantsStandIn t=ae by simpa using List.all_eq_true.1 a t c)⟩)
  (by kernel_rfl)
#print axioms fnSweepKeep_proved
end Go.Proofs.YtpddeenenibhjaaGreatDoor

