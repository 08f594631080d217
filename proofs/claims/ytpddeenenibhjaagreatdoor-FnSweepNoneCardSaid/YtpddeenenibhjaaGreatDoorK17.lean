import Derived.Test.YtpddeenenibhjaaGreatDoorA7
import Derived.Test.YtpddeenenibhjaaGreatDoorTie
import Derived.Test.YtpddeenenibhjaaGreatDoorCards
import Derived.ProofKit
import Derived.OpenShut
import Derived.OpenVars
import Derived.LaidMore
import Derived.Lay
import Derived.SevenTiedAt
import Derived.Below
set_option linter.all false
set_option maxHeartbeats 8000000
open Go renaming Value → aj, TypeId → aw, FuncId → aK, World → aA, Program → aO
open Option renaming some → aa, none → af
open Bool renaming true → ab, false → ae
open Go.World renaming cell? → aW
open List renaming getD_eq_getElem?_getD → ai
open Go.Proofs.Tryz renaming prog → ag, underlying22 → aM
namespace Go.Proofs.YtpddeenenibhjaaGreatDoor
open Go.ChangeShapes Go.WideShapes Go.ChangeAt Go.RowKit
open Go.AM (dm Rd St.top)
theorem own:ownKnob Tryz.prog.godebug=af:=by kernel_rfl
theorem laidOut:laidOutB ag=ab:=by kernel_rfl
theorem pz{w:aA}{a:Addr}{v:aj}(h:w.cell? (a.add 0)=aa v):a=⟨a.block,a.off,af⟩:=by
 obtain⟨b,o,s⟩:=a;cases s with
 |none=>rfl
 |some q =>
  simp only[Addr.add,bY,aW]at h;split at h
  .simp at h
  .cases h
theorem sC{w:aA}{a:Addr}{n:Nat}{v:aj}(h:w.cell? (a.add n)=aa v):w.cell? ⟨a.block,a.off+n,af⟩=aa v:=by
 by_cases e:n=0
 .subst e;have c:=pz h;obtain⟨b,o,s⟩:=a;simp only[Addr.mk.injEq,aF]at c;subst c;exact h
 .simpa only[Addr.add,a9 e]using h
theorem Cw{n:Int}(h:(Lit.int .u8 n).wf=ab):0<=n/\n<=255:=by simp only[Lit.wf,IntKind.min,IntKind.max,IntKind.signed,IntKind.bits]at h;simp at h;omega
set_option maxRecDepth 100000 in
theorem nq{H:Type}{enc:aw×aj->H}{W:aA}{a:Option Addr}{len cap:Nat}{d:DataW H}{p:List MemPlace}(h:DataW.Trod enc ag W 0 (λ_=>ab) ab 22 (.slice a len cap) d p):
  ∃b:Nat->Int,Go.AM.R1.Bytes b/\len<=9223372036854775807/\dm [] (St.top W) (.slice a len cap) (.e (.one (.c (.sl ae 1 len (Go.AM.R1.yY b))))):=by
 obtain⟨v,y⟩:=h;rcases open_ints aM Tryz.underlying5 (by kernel_rfl) y with⟨l,_⟩|⟨x,n,c,f,l,_,C,A,w,_,g,m⟩
 .simp[Value.cells]at l;obtain⟨rfl,rfl,rfl⟩:=l;exact⟨λ_=>0,λ_=>⟨rJ 0,show(0:Int)<=255 by decide⟩,by omega,Rd.il⟩
 .simp[Value.cells]at l;obtain⟨rfl,rfl,rfl⟩:=l;simp only[bY]at w;simp only[maxLen]at A;refine⟨λi=>f.getD i 0,λi=>?_,by omega,?_⟩
  .by_cases hi:i<f.length
   .have:=m (f.getD i 0) (by rw[ai,bg hi];exact nH hi);exact Cw this
   .simp[ai,qQ (by omega:f.length<=i)]
  .show Rd _ _ _;refine Rd.nN (k:=1) (n:=len) (vs:=(f.take len).map λz=>.int .u8 z) (a:=aa x) (b:=x.block) (off:=x.off) (cap:=cap) (t:=ae) ⟨by simp;omega,λi hi=>rfl,λi hi j c o=>?_⟩ (λE=>?_) C (by omega) (by simp) (λp u q=>?_)
   .have s:j=0:=by have:=(b8.1 o).1;simp[Go.AM.R1.yY]at this;omega
    subst s;have B:c=.int .u8 (f.getD i 0):=by simp only[Go.AM.R1.yY,ju,dq]at o;exact o.symm
    subst B;have D:=Cw (m (f.getD i 0) (by rw[ai,bg (by omega:i<f.length)];exact nH _));refine⟨.int .u8 (f.getD i 0),?_,Rd.int D⟩;simp[eX,hi,ai,bg (by omega:i<f.length)]
   .exact dy aa (pz (g 0 (by omega)))
   .have r:p<len:=by have:=(b8.1 q).1;simp at this;omega
    have:u=.int .u8 (f.getD p 0):=by simp[eX,r,bg (by omega:p<f.length)]at q;rw[<-q];simp[ai,bg (by omega:p<f.length)]
    subst this;exact sC (g p (by omega))
set_option maxRecDepth 100000 in
theorem lifted(os:Os)(a:os.Started)(H:Type)(enc:aw×aj->H):
  ReturnsInLeavingWide {} Tryz.checked os 6 .any (λw args=>(Rows.fnSweepNoneSpec.pre enc ag Tryz.f6 Rows.fnSweepNoneRow.domain ae w args/\laidMetH ag Rows.fnSweepNoneRow.laid w)/\sizedMet enc ag Tryz.f6 (OpenSpec.ofChange Rows.fnSweepNoneSpec) ae w args)
   (Rows.fnSweepNoneSpec.post enc ag Tryz.f6 ae ab ae ae):=by
 refine Go.AM.pA (C:=Tryz.checked) (X:=λw _=>laidMetH ag Rows.fnSweepNoneRow.laid w) (λ_ _ _ O h=>h.of_heap O) own a Tryz.func6
  (ChangeSpec.witness_shaped (enc:=enc) (C:=Tryz.checked) (os:=os) (X:=λw _=>laidMetH ag Rows.fnSweepNoneRow.laid w) ae (World.laidAll ag os Rows.fnSweepNoneRow.laid) #[.slice af 0 0] 8 (World.laidAll_os _ _ _)
   (World.shaped_of_ZipB (by kernel_rfl) (by kernel_rfl)) (by kernel_rfl) (by kernel_rfl) (by kernel_rfl)
   (by rw[MakeChecks.laidMetH_plain _ _ _ (by kernel_rfl)];exact laidMet_laidAll _ (by kernel_rfl) (by kernel_rfl))) ?_
 intro W base args ds gs before uh hW;have e:∀(j:Nat) t v,Tryz.f6.params[j]?=aa t->args[j]?=aa v->Value.okWide ag W .any base t v:=uh;have D:=hW;obtain⟨p,q,k,I,rfl,_,_⟩:=hW;have E:DataW.TrodAll enc ag W 0 (λ_=>ab) ab Tryz.f6.params.toList args.toList ds p:=k;rw[Tryz.params6]at E e;obtain⟨v0,P,S,L,J,R,u,rfl,rfl,G,r0⟩:=trodAll_cons E;obtain⟨rfl,rfl,rfl⟩:=trodAll_nil r0;obtain rfl:args=#[v0]:=by cases args;simp_all
 obtain⟨Q,c,l,rfl⟩:=okWide_slice aM (e 0 22 v0 rfl rfl);have F:=G;have z:∀x∈J,x.block<W.heap.size:=by obtain⟨m,N⟩:=F;exact DataW.trod_lt m _ _ _ N
 clear k uh;obtain⟨K,s,o,A⟩:=nq G;refine Go.AM.dO.Ri (vs:=[.slice Q c l]) (Go.AM.R1.uJ c K s o).IJ (by kernel_rfl) ⟨A,ar⟩ λ_ v s' hv _ i d=>?_;have B:Rd s'.M v (.bool ab):=hv;cases B;have f:Below W.heap.size W (s'.w.at d):=⟨i.os,i.tape,i.output,i.size,i.block⟩;obtain⟨n,g2,rfl⟩:∃n g2,gs=[n,g2]:=by
  have g:=I;rcases gs with _|⟨n,_|⟨g2,_|⟨T,r⟩⟩⟩
  .exact g.elim
  .obtain⟨_,_,_,_,_,_,_,_,_,_,h,_⟩:=g;exact h.elim
  .exact⟨n,g2,rfl⟩
  .obtain⟨_,_,_,_,_,_,_,_,_,_,h,_⟩:=g;obtain⟨_,_,_,_,_,_,_,_,_,_,h,_⟩:=h;exact h.elim
 have y:DataW.TrodVars enc ag (s'.w.at d) (λb=>decide (b<W.heap.size)) Rows.fnSweepNoneSpec.vars [n,g2] q:=Below.trodVars laidOut f (by kernel_rfl) I;exact⟨_,_,_,[],_,_,D,trodAll_mk1 (shut_bool Tryz.underlying4 _),(trodAll_cons_mk (Below.trod laidOut (by kernel_rfl) (pT (by kernel_rfl)) F f z) trodAll_mk0),y,f.frame _,λh=>by cases h⟩
theorem facts{P:aO}{f:aK}{fn:Func}{s:ChangeSpec}{c:OpenClaim}(u:c.wf (OpenSpec.ofChange s)=ab)(p:(laidOutB P&&mapsRowed P)=ab)(w:(fn.params.all (P.readableRec ·)&&namedTie P c.named s.vars)=ab)(m:((c.stops==[])&&(P.stops==[])&&(c.knobs==[])&&(P.stopKnobs==[]))=ab)(n:(c.inPlace==P.inPlace f)=ab)(o:(c.unfollowed==P.unfollowed f)=ab)(l:(c.recurses==P.recurses f)=ab)(q:(c.named==P.varsNamed f)=ab)(r:((c.maps==(fn.params.toList++s.plain.varTypes P).any (P.mapsRec ·))&&(c.ifaces==(fn.params.toList++s.plain.varTypes P).any (P.ifacesRec ·))&&(c.mapsOut==P.mapsAmong fn.resultTypes.toList))=ab)(v:((c.loops==(fn.params.toList++s.plain.varTypes P).any (P.loopsFrom ·))&&(c.wideKeys==(fn.params.toList++s.plain.varTypes P++fn.resultTypes.toList).any (P.wideKeysFrom ·)))=ab)(b:(s.vars.all (P.varReadable ·)&&fn.resultTypes.all (λt=>P.readableRec t&&decide (t<P.types.size))&&(c.ifacesOut==fn.resultTypes.toList.any (P.ifacesRec ·))&&(c.loopsOut==fn.resultTypes.toList.any (P.loopsFrom ·)))=ab)(g:(c.plainKeys==P.plainKeys)=ab)(h:c.shortTexts.isNone=ab)(e:P.stopsHeard=ab)(j:P.mayEnter=ab)(a:(c.lifted==P.liftsFinal)=ab)(i:(P.make==aa c.make)=ab)(d:((c.kinds==[])&&c.domain.isEmpty&&(c.pinned==c.pinnedBy))=ab)(k:((c.veiled==(fn.params.toList++s.plain.varTypes P++fn.resultTypes.toList).any (P.veiledRec ·))&&c.veiledFits P fn.params.toList (fn.params.toList++s.plain.varTypes P++fn.resultTypes.toList))=ab):
  joinedFacts P f fn s c=ab:=by simp only[bR]at *;simp only[joinedFacts,bR];simp only[*,bY,and_self]
theorem Cy:Rows.fnSweepNoneRow.wf (OpenSpec.ofChange Rows.fnSweepNoneSpec)=ab:=by kernel_rfl
theorem Cz:(laidOutB Tryz.checked.prog&&mapsRowed Tryz.checked.prog)=ab:=by kernel_rfl
theorem CB:(Tryz.f6.params.all (Tryz.checked.prog.readableRec ·)&&namedTie Tryz.checked.prog Rows.fnSweepNoneRow.named Rows.fnSweepNoneSpec.vars)=ab:=by kernel_rfl
theorem CC:((Rows.fnSweepNoneRow.stops==[])&&(Tryz.checked.prog.stops==[])&&(Rows.fnSweepNoneRow.knobs==[])&&(Tryz.checked.prog.stopKnobs==[]))=ab:=by kernel_rfl
theorem CE:(Rows.fnSweepNoneRow.inPlace==Tryz.checked.prog.inPlace 6)=ab:=by kernel_rfl
theorem CF:(Rows.fnSweepNoneRow.unfollowed==Tryz.checked.prog.unfollowed 6)=ab:=by kernel_rfl
theorem CG:(Rows.fnSweepNoneRow.recurses==Tryz.checked.prog.recurses 6)=ab:=by kernel_rfl
theorem CH:(Rows.fnSweepNoneRow.named==Tryz.checked.prog.varsNamed 6)=ab:=by kernel_rfl
theorem CI:((Rows.fnSweepNoneRow.maps==(Tryz.f6.params.toList++Rows.fnSweepNoneSpec.plain.varTypes Tryz.checked.prog).any (Tryz.checked.prog.mapsRec ·))&&(Rows.fnSweepNoneRow.ifaces==(Tryz.f6.params.toList++Rows.fnSweepNoneSpec.plain.varTypes Tryz.checked.prog).any (Tryz.checked.prog.ifacesRec ·))&&(Rows.fnSweepNoneRow.mapsOut==Tryz.checked.prog.mapsAmong Tryz.f6.resultTypes.toList))=ab:=by kernel_rfl
theorem CJ:((Rows.fnSweepNoneRow.loops==(Tryz.f6.params.toList++Rows.fnSweepNoneSpec.plain.varTypes Tryz.checked.prog).any (Tryz.checked.prog.loopsFrom ·))&&(Rows.fnSweepNoneRow.wideKeys==(Tryz.f6.params.toList++Rows.fnSweepNoneSpec.plain.varTypes Tryz.checked.prog++Tryz.f6.resultTypes.toList).any (Tryz.checked.prog.wideKeysFrom ·)))=ab:=by kernel_rfl
theorem w7:(Rows.fnSweepNoneSpec.vars.all (Tryz.checked.prog.varReadable ·)&&Tryz.f6.resultTypes.all (λt=>Tryz.checked.prog.readableRec t&&decide (t<Tryz.checked.prog.types.size))&&(Rows.fnSweepNoneRow.ifacesOut==Tryz.f6.resultTypes.toList.any (Tryz.checked.prog.ifacesRec ·))&&(Rows.fnSweepNoneRow.loopsOut==Tryz.f6.resultTypes.toList.any (Tryz.checked.prog.loopsFrom ·)))=ab:=by kernel_rfl
theorem w8:(Rows.fnSweepNoneRow.plainKeys==Tryz.checked.prog.plainKeys)=ab:=by kernel_rfl
theorem w9:Rows.fnSweepNoneRow.shortTexts.isNone=ab:=by kernel_rfl
theorem xa:Tryz.checked.prog.stopsHeard=ab:=by kernel_rfl
theorem xb:Tryz.checked.prog.mayEnter=ab:=by kernel_rfl
theorem xc:(Rows.fnSweepNoneRow.lifted==Tryz.checked.prog.liftsFinal)=ab:=by kernel_rfl
theorem xd:(Tryz.checked.prog.make==aa Rows.fnSweepNoneRow.make)=ab:=by kernel_rfl
theorem xe:((Rows.fnSweepNoneRow.kinds==[])&&Rows.fnSweepNoneRow.domain.isEmpty&&(Rows.fnSweepNoneRow.pinned==Rows.fnSweepNoneRow.pinnedBy))=ab:=by kernel_rfl
theorem xf:((Rows.fnSweepNoneRow.veiled==(Tryz.f6.params.toList++Rows.fnSweepNoneSpec.plain.varTypes Tryz.checked.prog++Tryz.f6.resultTypes.toList).any (Tryz.checked.prog.veiledRec ·))&&Rows.fnSweepNoneRow.veiledFits Tryz.checked.prog Tryz.f6.params.toList (Tryz.f6.params.toList++Rows.fnSweepNoneSpec.plain.varTypes Tryz.checked.prog++Tryz.f6.resultTypes.toList))=ab:=by kernel_rfl
theorem closed:joinedFacts Tryz.checked.prog 6 Tryz.f6 Rows.fnSweepNoneSpec Rows.fnSweepNoneRow=ab :=
 facts Cy Cz CB CC CE CF CG CH CI CJ w7 w8 w9 xa xb xc xd xe xf
theorem named:Tryz.pinned.checked.prog.funcNamed Rows.fnSweepNoneRow.func=aa 6:=by kernel_rfl
theorem over:Rows.FnSweepNoneSaid :=
 OpenClaim.holds_of_wide_leaving 6 Tryz.f6 rfl rfl rfl rfl rfl rfl rfl ⟨rfl,rfl,rfl,rfl,rfl⟩ rfl rfl rfl rfl rfl named Tryz.func6 closed
  (pT (by kernel_rfl)) (by unfold Func.isWrapper;first|(rw[br (by decide +kernel)];kernel_rfl)|(rw[a9 (by decide +kernel)];exact⟨rfl,rfl⟩))
  (λos started H enc _=>lifted os started H enc)
theorem fnSweepNone_proved:Rows.FnSweepNoneCardSaid :=
 Go.AM.tC .later [] [.data,.sentinel,.sentinel,.pinned] ab (ab,"117b6ced9a67039dff78bdd2c556171dd388fd69be06c6693c6eeb660c377182") ae over (λ_ h=>by cases h) (by kernel_rfl) (λ_ h=>by cases h) fnSweepNone_row_tie rfl ⟨rfl,rfl⟩ (by kernel_rfl) rfl
  (λf fn hf Ny=>by
   obtain rfl:f=6:=kV ((show Tryz.prog.funcNamed "loop.example/depositary/laws.FnSweepNone"=aa 6 by kernel_rfl).symm.trans hf) |>.symm
   obtain rfl:fn=Tryz.f6:=(kV (Tryz.func6.symm.trans Ny)).symm;exact⟨by kernel_rfl,λj t b=>by
    rw[Tryz.params6]at b;have c:t∈[22]:=by have:=pM b;simp at this⊢;exact this
    have a:([22].all λu=>!Tryz.prog.wantsStandIn u)=ab:=by kernel_rfl
    exact(show Tryz.prog.wantsStandIn t=ae by simpa using List.all_eq_true.1 a t c)⟩)
  (by kernel_rfl)
#print axioms fnSweepNone_proved
end Go.Proofs.YtpddeenenibhjaaGreatDoor

