/-
  For every input the law FnSweepBegin returns true, and the input reads as it did: the tied card FnSweepBeginCardSaid. No condition.
-/
import Derived.Test.YtpddeenenibhjaaGreatDoorA5
import Derived.Test.YtpddeenenibhjaaGreatDoorTie
import Derived.Test.YtpddeenenibhjaaGreatDoorCards
import Derived.ProofKit
import Derived.OpenShut
import Derived.OpenVars
import Derived.LaidMore
import Derived.Lay
import Derived.SevenTiedAt
import Derived.Below
set_option linter.all false
set_option maxHeartbeats 8000000
open Go renaming Value → aj, TypeId → ay, World → aA, Program → aK, FuncId → aP
open Option renaming some → aa, none → af
open Bool renaming true → ab, false → ae
open Go.World renaming cell? → aU
open List renaming getD_eq_getElem?_getD → ai
open Go.Proofs.Tryz renaming prog → ag
namespace Go.Proofs.YtpddeenenibhjaaGreatDoor
open Go.ChangeShapes Go.WideShapes Go.ChangeAt Go.RowKit
open Go.AM (dc Rd St.top)
theorem own:ownKnob Tryz.prog.godebug=af:=by kernel_rfl
theorem laidOut:laidOutB ag=ab:=by kernel_rfl
theorem I2{w:aA}{a:Addr}{v:aj}(h:w.cell? (a.add 0)=aa v):a=⟨a.block,a.off,af⟩:=by
 obtain⟨b,o,s⟩:=a;cases s with
 |none=>rfl
 |some q =>
  simp only[Addr.add,bZ,aU]at h;split at h
  .simp at h
  .cases h
theorem Mg{w:aA}{a:Addr}{n:Nat}{v:aj}(h:w.cell? (a.add n)=aa v):w.cell? ⟨a.block,a.off+n,af⟩=aa v:=by
 by_cases e:n=0
 .subst e;have c:=I2 h;obtain⟨b,o,s⟩:=a;simp only[Addr.mk.injEq,aF]at c;subst c;exact h
 .simpa only[Addr.add,bh e]using h
theorem SV{n:Int}(h:(Lit.int .u8 n).wf=ab):0<=n/\n<=255:=by simp only[Lit.wf,IntKind.min,IntKind.max,IntKind.signed,IntKind.bits]at h;simp at h;omega
set_option maxRecDepth 100000 in
theorem FM{H:Type}{enc:ay×aj->H}{W:aA}{a:Option Addr}{len cap:Nat}{d:DataW H}{p:List MemPlace}(h:DataW.Trod enc ag W 0 (λ_=>ab) ab 22 (.slice a len cap) d p):
  ∃b:Nat->Int,Go.AM.R1.Bytes b/\len<=9223372036854775807/\dc [] (St.top W) (.slice a len cap) (.e (.one (.c (.sl ae 1 len (Go.AM.R1.Gz b))))):=by
 obtain⟨v,C⟩:=h;rcases open_ints Tryz.underlying22 Tryz.underlying5 (by kernel_rfl) C with⟨l,_⟩|⟨x,n,c,f,l,_,D,B,y,_,g,m⟩
 .simp[Value.cells]at l;obtain⟨rfl,rfl,rfl⟩:=l;exact⟨λ_=>0,λ_=>⟨Int.le_refl 0,show(0:Int)<=255 by decide⟩,by omega,Rd.iV⟩
 .simp[Value.cells]at l;obtain⟨rfl,rfl,rfl⟩:=l;simp only[bZ]at y;simp only[maxLen]at B;refine⟨λi=>f.getD i 0,λi=>?_,by omega,?_⟩
  .by_cases hi:i<f.length
   .have:=m (f.getD i 0) (by rw[ai,bd hi];exact ql hi);exact SV this
   .simp[ai,qg (by omega:f.length<=i)]
  .show Rd _ _ _;refine Rd.pH (k:=1) (n:=len) (vs:=(f.take len).map λz=>.int .u8 z) (a:=aa x) (b:=x.block) (off:=x.off) (cap:=cap) (t:=ae) ⟨by simp;omega,λi hi=>rfl,λi hi j c q=>?_⟩ (λE=>?_) D (by omega) (by simp) (λp u r=>?_)
   .have o:j=0:=by have:=(b8.1 q).1;simp[Go.AM.R1.Gz]at this;omega
    subst o;have A:c=.int .u8 (f.getD i 0):=by simp only[Go.AM.R1.Gz,j4,dk]at q;exact q.symm
    subst A;have w:=SV (m (f.getD i 0) (by rw[ai,bd (by omega:i<f.length)];exact ql _));refine⟨.int .u8 (f.getD i 0),?_,Rd.int w⟩;simp[ig,hi,ai,bd (by omega:i<f.length)]
   .exact dm aa (I2 (g 0 (by omega)))
   .have s:p<len:=by have:=(b8.1 r).1;simp at this;omega
    have:u=.int .u8 (f.getD p 0):=by simp[ig,s,bd (by omega:p<f.length)]at r;rw[<-r];simp[ai,bd (by omega:p<f.length)]
    subst this;exact Mg (g p (by omega))
set_option maxRecDepth 100000 in
theorem lifted(os:Os)(a:os.Started)(H:Type)(enc:ay×aj->H):
  ReturnsInLeavingWide {} Tryz.checked os 3 .any (λw args=>(Rows.fnSweepBeginSpec.pre enc ag Tryz.f3 Rows.fnSweepBeginRow.domain ae w args/\laidMetH ag Rows.fnSweepBeginRow.laid w)/\sizedMet enc ag Tryz.f3 (OpenSpec.ofChange Rows.fnSweepBeginSpec) ae w args)
   (Rows.fnSweepBeginSpec.post enc ag Tryz.f3 ae ab ae ae):=by
 refine Go.AM.AX (C:=Tryz.checked) (X:=λw _=>laidMetH ag Rows.fnSweepBeginRow.laid w) (λ_ _ _ N h=>h.of_heap N) own a Tryz.func3
  (ChangeSpec.witness_shaped (enc:=enc) (C:=Tryz.checked) (os:=os) (X:=λw _=>laidMetH ag Rows.fnSweepBeginRow.laid w) ae (World.laidAll ag os Rows.fnSweepBeginRow.laid) #[.slice af 0 0] 8 (World.laidAll_os _ _ _)
   (World.shaped_of_ZipB (by kernel_rfl) (by kernel_rfl)) (by kernel_rfl) (by kernel_rfl) (by kernel_rfl)
   (by rw[MakeChecks.laidMetH_plain _ _ _ (by kernel_rfl)];exact laidMet_laidAll _ (by kernel_rfl) (by kernel_rfl))) ?_
 intro W base args ds gs before NO hW;have e:∀(j:Nat) t v,Tryz.f3.params[j]?=aa t->args[j]?=aa v->Value.okWide ag W .any base t v:=NO;have s:=hW;obtain⟨p,q,k,F,rfl,_,_⟩:=hW;have I:DataW.TrodAll enc ag W 0 (λ_=>ab) ab Tryz.f3.params.toList args.toList ds p:=k;rw[Tryz.params3]at I e;obtain⟨v0,P,S,K,R,T,z,rfl,rfl,G,r0⟩:=trodAll_cons I;obtain⟨rfl,rfl,rfl⟩:=trodAll_nil r0;obtain rfl:args=#[v0]:=by cases args;simp_all
 obtain⟨O,c,n,rfl⟩:=okWide_slice Tryz.underlying22 (e 0 22 v0 rfl rfl);have J:=G;have D:∀x∈R,x.block<W.heap.size:=by obtain⟨m,L⟩:=J;exact DataW.trod_lt m _ _ _ L
 clear k NO;obtain⟨Q,B,A,E⟩:=FM G;refine Go.AM.dK.Vy (vs:=[.slice O c n]) (Go.AM.R1.r7 c Q B A).KN (by kernel_rfl) ⟨E,ar⟩ λ_ v s' hv _ l d=>?_;have u:Rd s'.M v (.bool ab):=hv;cases u;have g:Below W.heap.size W (s'.w.at d):=⟨l.os,l.tape,l.output,l.size,l.block⟩;obtain⟨i,o,rfl⟩:∃i o,gs=[i,o]:=by
  have f:=F;rcases gs with _|⟨i,_|⟨o,_|⟨U,r⟩⟩⟩
  .exact f.elim
  .obtain⟨_,_,_,_,_,_,_,_,_,_,h,_⟩:=f;exact h.elim
  .exact⟨i,o,rfl⟩
  .obtain⟨_,_,_,_,_,_,_,_,_,_,h,_⟩:=f;obtain⟨_,_,_,_,_,_,_,_,_,_,h,_⟩:=h;exact h.elim
 have y:DataW.TrodVars enc ag (s'.w.at d) (λb=>decide (b<W.heap.size)) Rows.fnSweepBeginSpec.vars [i,o] q:=Below.trodVars laidOut g (by kernel_rfl) F;exact⟨_,_,_,[],_,_,s,trodAll_mk1 (shut_bool Tryz.underlying4 _),(trodAll_cons_mk (Below.trod laidOut (by kernel_rfl) (of_decide_eq_true (by kernel_rfl)) J g D) trodAll_mk0),y,g.frame _,λh=>by cases h⟩
theorem facts{P:aK}{f:aP}{fn:Func}{s:ChangeSpec}{c:OpenClaim}(u:c.wf (OpenSpec.ofChange s)=ab)(r:(laidOutB P&&mapsRowed P)=ab)(w:(fn.params.all (P.readableRec ·)&&namedTie P c.named s.vars)=ab)(v:((c.stops==[])&&(P.stops==[])&&(c.knobs==[])&&(P.stopKnobs==[]))=ab)(p:(c.inPlace==P.inPlace f)=ab)(m:(c.unfollowed==P.unfollowed f)=ab)(o:(c.recurses==P.recurses f)=ab)(n:(c.named==P.varsNamed f)=ab)(l:((c.maps==(fn.params.toList++s.plain.varTypes P).any (P.mapsRec ·))&&(c.ifaces==(fn.params.toList++s.plain.varTypes P).any (P.ifacesRec ·))&&(c.mapsOut==P.mapsAmong fn.resultTypes.toList))=ab)(q:((c.loops==(fn.params.toList++s.plain.varTypes P).any (P.loopsFrom ·))&&(c.wideKeys==(fn.params.toList++s.plain.varTypes P++fn.resultTypes.toList).any (P.wideKeysFrom ·)))=ab)(h:(s.vars.all (P.varReadable ·)&&fn.resultTypes.all (λt=>P.readableRec t&&decide (t<P.types.size))&&(c.ifacesOut==fn.resultTypes.toList.any (P.ifacesRec ·))&&(c.loopsOut==fn.resultTypes.toList.any (P.loopsFrom ·)))=ab)(g:(c.plainKeys==P.plainKeys)=ab)(a:c.shortTexts.isNone=ab)(d:P.stopsHeard=ab)(j:P.mayEnter=ab)(e:(c.lifted==P.liftsFinal)=ab)(k:(P.make==aa c.make)=ab)(b:((c.kinds==[])&&c.domain.isEmpty&&(c.pinned==c.pinnedBy))=ab)(i:((c.veiled==(fn.params.toList++s.plain.varTypes P++fn.resultTypes.toList).any (P.veiledRec ·))&&c.veiledFits P fn.params.toList (fn.params.toList++s.plain.varTypes P++fn.resultTypes.toList))=ab):
  joinedFacts P f fn s c=ab:=by simp only[bP]at *;simp only[joinedFacts,bP];simp only[*,bZ,and_self]
theorem SW:Rows.fnSweepBeginRow.wf (OpenSpec.ofChange Rows.fnSweepBeginSpec)=ab:=by kernel_rfl
theorem SX:(laidOutB Tryz.checked.prog&&mapsRowed Tryz.checked.prog)=ab:=by kernel_rfl
theorem SY:(Tryz.f3.params.all (Tryz.checked.prog.readableRec ·)&&namedTie Tryz.checked.prog Rows.fnSweepBeginRow.named Rows.fnSweepBeginSpec.vars)=ab:=by kernel_rfl
theorem SZ:((Rows.fnSweepBeginRow.stops==[])&&(Tryz.checked.prog.stops==[])&&(Rows.fnSweepBeginRow.knobs==[])&&(Tryz.checked.prog.stopKnobs==[]))=ab:=by kernel_rfl
theorem S0:(Rows.fnSweepBeginRow.inPlace==Tryz.checked.prog.inPlace 3)=ab:=by kernel_rfl
theorem S1:(Rows.fnSweepBeginRow.unfollowed==Tryz.checked.prog.unfollowed 3)=ab:=by kernel_rfl
theorem S4:(Rows.fnSweepBeginRow.recurses==Tryz.checked.prog.recurses 3)=ab:=by kernel_rfl
theorem S5:(Rows.fnSweepBeginRow.named==Tryz.checked.prog.varsNamed 3)=ab:=by kernel_rfl
theorem S6:((Rows.fnSweepBeginRow.maps==(Tryz.f3.params.toList++Rows.fnSweepBeginSpec.plain.varTypes Tryz.checked.prog).any (Tryz.checked.prog.mapsRec ·))&&(Rows.fnSweepBeginRow.ifaces==(Tryz.f3.params.toList++Rows.fnSweepBeginSpec.plain.varTypes Tryz.checked.prog).any (Tryz.checked.prog.ifacesRec ·))&&(Rows.fnSweepBeginRow.mapsOut==Tryz.checked.prog.mapsAmong Tryz.f3.resultTypes.toList))=ab:=by kernel_rfl
theorem S7:((Rows.fnSweepBeginRow.loops==(Tryz.f3.params.toList++Rows.fnSweepBeginSpec.plain.varTypes Tryz.checked.prog).any (Tryz.checked.prog.loopsFrom ·))&&(Rows.fnSweepBeginRow.wideKeys==(Tryz.f3.params.toList++Rows.fnSweepBeginSpec.plain.varTypes Tryz.checked.prog++Tryz.f3.resultTypes.toList).any (Tryz.checked.prog.wideKeysFrom ·)))=ab:=by kernel_rfl
theorem PL:(Rows.fnSweepBeginSpec.vars.all (Tryz.checked.prog.varReadable ·)&&Tryz.f3.resultTypes.all (λt=>Tryz.checked.prog.readableRec t&&decide (t<Tryz.checked.prog.types.size))&&(Rows.fnSweepBeginRow.ifacesOut==Tryz.f3.resultTypes.toList.any (Tryz.checked.prog.ifacesRec ·))&&(Rows.fnSweepBeginRow.loopsOut==Tryz.f3.resultTypes.toList.any (Tryz.checked.prog.loopsFrom ·)))=ab:=by kernel_rfl
theorem PN:(Rows.fnSweepBeginRow.plainKeys==Tryz.checked.prog.plainKeys)=ab:=by kernel_rfl
theorem PO:Rows.fnSweepBeginRow.shortTexts.isNone=ab:=by kernel_rfl
theorem PQ:Tryz.checked.prog.stopsHeard=ab:=by kernel_rfl
theorem PR:Tryz.checked.prog.mayEnter=ab:=by kernel_rfl
theorem PS:(Rows.fnSweepBeginRow.lifted==Tryz.checked.prog.liftsFinal)=ab:=by kernel_rfl
theorem PT:(Tryz.checked.prog.make==aa Rows.fnSweepBeginRow.make)=ab:=by kernel_rfl
theorem PU:((Rows.fnSweepBeginRow.kinds==[])&&Rows.fnSweepBeginRow.domain.isEmpty&&(Rows.fnSweepBeginRow.pinned==Rows.fnSweepBeginRow.pinnedBy))=ab:=by kernel_rfl
theorem PV:((Rows.fnSweepBeginRow.veiled==(Tryz.f3.params.toList++Rows.fnSweepBeginSpec.plain.varTypes Tryz.checked.prog++Tryz.f3.resultTypes.toList).any (Tryz.checked.prog.veiledRec ·))&&Rows.fnSweepBeginRow.veiledFits Tryz.checked.prog Tryz.f3.params.toList (Tryz.f3.params.toList++Rows.fnSweepBeginSpec.plain.varTypes Tryz.checked.prog++Tryz.f3.resultTypes.toList))=ab:=by kernel_rfl
theorem closed:joinedFacts Tryz.checked.prog 3 Tryz.f3 Rows.fnSweepBeginSpec Rows.fnSweepBeginRow=ab :=
 facts SW SX SY SZ S0 S1 S4 S5 S6 S7 PL PN PO PQ PR PS PT PU PV
theorem named:Tryz.pinned.checked.prog.funcNamed Rows.fnSweepBeginRow.func=aa 3:=by kernel_rfl
theorem over:Rows.FnSweepBeginSaid :=
 OpenClaim.holds_of_wide_leaving 3 Tryz.f3 rfl rfl rfl rfl rfl rfl rfl ⟨rfl,rfl,rfl,rfl,rfl⟩ rfl rfl rfl rfl rfl named Tryz.func3 closed
  (of_decide_eq_true (by kernel_rfl)) (by unfold Func.isWrapper;first|(rw[bt (by decide +kernel)];kernel_rfl)|(rw[bh (by decide +kernel)];exact⟨rfl,rfl⟩))
  (λos started H enc _=>lifted os started H enc)
theorem fnSweepBegin_proved:Rows.FnSweepBeginCardSaid :=
 Go.AM.FN .later [] [.data,.sentinel,.sentinel,.pinned] ab (ab,"117b6ced9a67039dff78bdd2c556171dd388fd69be06c6693c6eeb660c377182") ae over (λ_ h=>by cases h) (by kernel_rfl) (λ_ h=>by cases h) fnSweepBegin_row_tie rfl ⟨rfl,rfl⟩ (by kernel_rfl) rfl
  (λf fn hf RK=>by
   obtain rfl:f=3:=qm ((show Tryz.prog.funcNamed "loop.example/depositary/laws.FnSweepBegin"=aa 3 by kernel_rfl).symm.trans hf) |>.symm
   obtain rfl:fn=Tryz.f3:=(qm (Tryz.func3.symm.trans RK)).symm;exact⟨by kernel_rfl,λj t b=>by
    rw[Tryz.params3]at b;have c:t∈[22]:=by have:=tp b;simp at this⊢;exact this
    have a:([22].all λu=>!Tryz.prog.wantsStandIn u)=ab:=by kernel_rfl
    exact(show Tryz.prog.wantsStandIn t=ae by simpa using List.all_eq_true.1 a t c)⟩)
  (by kernel_rfl)
#print axioms fnSweepBegin_proved
end Go.Proofs.YtpddeenenibhjaaGreatDoor

