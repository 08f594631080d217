/-
  For every input the law FnWorldWell returns true, and the input reads as it did: who found nothing, of a house that does not lie, loads all that is kept. No condition.
-/
import Derived.Test.YtnfgfnpbmbalmaaGreatDoorA6
import Derived.Test.YtnfgfnpbmbalmaaGreatDoorTie
import Derived.Test.YtnfgfnpbmbalmaaGreatDoorCards
import Derived.ProofKit
import Derived.OpenShut
import Derived.OpenVars
import Derived.LaidMore
import Derived.Lay
import Derived.SevenTiedAt
import Derived.Below
set_option linter.all false
set_option maxHeartbeats 8000000
open Go renaming Value → ak
open Option renaming some → aa
open Go renaming Program → aq
open Go renaming TypeId → ar
open Bool renaming true → ab
open Go renaming FuncId → aW
open Option renaming none → af
open Bool renaming false → ae
open Go.World renaming cell? → a9
open List renaming getD_eq_getElem?_getD → ai
open Go renaming World → az
open Go.Proofs.Tryz renaming prog → ah
namespace Go.Proofs.YtnfgfnpbmbalmaaGreatDoor
open Go.ChangeShapes Go.WideShapes Go.ChangeAt Go.RowKit
open Go.AM (c8 Rd St.top)
theorem own:ownKnob Tryz.prog.godebug=af:=by kernel_rfl
theorem laidOut:laidOutB ah=ab:=by kernel_rfl
theorem Lt{w:az}{a:Addr}{v:ak}(h:w.cell? (a.add 0)=aa v):a=⟨a.block,a.off,af⟩:=by
 obtain⟨b,o,s⟩:=a;cases s with
 |none=>rfl
 |some q =>
  simp only[Addr.add,cq,a9] at h;split at h
  .simp at h
  .cases h
theorem OG{w:az}{a:Addr}{n:Nat}{v:ak}(h:w.cell? (a.add n)=aa v):w.cell? ⟨a.block,a.off+n,af⟩=aa v:=by
 by_cases e:n=0
 .subst e;have c:=Lt h;obtain⟨b,o,s⟩:=a;simp only[Addr.mk.injEq,aF] at c;subst c;exact h
 .simpa only[Addr.add,aY e] using h
theorem UX{n:Int}(h:(Lit.int .u8 n).wf=ab):0<=n/\n<=255:=by
 simp only[Lit.wf,IntKind.min,IntKind.max,IntKind.signed,IntKind.bits] at h;simp at h;omega
set_option maxRecDepth 100000 in
theorem HR{H:Type}{enc:ar×ak->H}{W:az}{a:Option Addr}{len cap:Nat}{d:DataW H}{p:List MemPlace}(h:DataW.Trod enc ah W 0 (λ_=>ab) ab 22 (.slice a len cap) d p) :
  ∃ b:Nat->Int,Go.AM.R1.Bytes b/\len<=9223372036854775807/\c8 [] (St.top W) (.slice a len cap) (.e (.one (.c (.sl ae 1 len (Go.AM.R1.R5 b))))):=by
 obtain⟨v,y⟩:=h;rcases open_ints Tryz.underlying22 Tryz.underlying5 (by kernel_rfl) y with⟨l,_⟩|⟨x,n,c,f,l,_,A,D,C,_,g,m⟩
 .simp[Value.cells] at l;obtain⟨rfl,rfl,rfl⟩:=l;exact⟨λ_=>0,λ_=>⟨Int.le_refl 0,show (0:Int)<=255 by decide⟩,by omega,Rd.jI⟩
 .simp[Value.cells] at l;obtain⟨rfl,rfl,rfl⟩:=l;simp only[cq] at C;simp only[maxLen] at D;refine⟨λi=>f.getD i 0,λi=>?_,by omega,?_⟩
  .by_cases hi:i<f.length
   .have:=m (f.getD i 0) (by rw[ai,br hi];exact oK hi)
    exact UX this
   .simp[ai,qX (by omega:f.length<=i)]
  .show Rd _ _ _;refine Rd.qu (k:=1) (n:=len) (vs:=(f.take len).map λz=>.int .u8 z) (a:=aa x) (b:=x.block) (off:=x.off) (cap:=cap) (t:=ae) ⟨by simp;omega,λi hi=>rfl,λi hi j c r=>?_⟩ (λE=>?_) A (by omega) (by simp) (λp u q=>?_)
   .have o:j=0:=by
     have:=(cp.1 r).1;simp[Go.AM.R1.R5] at this;omega
    subst o;have B:c=.int .u8 (f.getD i 0):=by
     simp only[Go.AM.R1.R5,kW,de] at r;exact r.symm
    subst B;have w:=UX (m (f.getD i 0) (by rw[ai,br (by omega:i<f.length)];exact oK _))
    refine⟨.int .u8 (f.getD i 0),?_,Rd.int w⟩;simp[gO,hi,ai,br (by omega:i<f.length)]
   .exact dn aa (Lt (g 0 (by omega)))
   .have s:p<len:=by
     have:=(cp.1 q).1;simp at this;omega
    have:u=.int .u8 (f.getD p 0):=by
     simp[gO,s,br (by omega:p<f.length)] at q
     rw[<-q];simp[ai,br (by omega:p<f.length)]
    subst this;exact OG (g p (by omega))
set_option maxRecDepth 100000 in
theorem lifted(os:Os)(a:os.Started)(H:Type)(enc:ar×ak->H) :
  ReturnsInLeavingWide {} Tryz.checked os 4 .any (λw args=>(Rows.fnWorldWellSpec.pre enc ah Tryz.f4 Rows.fnWorldWellRow.domain ae w args/\laidMetH ah Rows.fnWorldWellRow.laid w)/\sizedMet enc ah Tryz.f4 (OpenSpec.ofChange Rows.fnWorldWellSpec) ae w args)
   (Rows.fnWorldWellSpec.post enc ah Tryz.f4 ae ab ae ae):=by
 refine Go.AM.Cr (C:=Tryz.checked) (X:=λw _=>laidMetH ah Rows.fnWorldWellRow.laid w) (λ_ _ _ Q h=>h.of_heap Q) own a Tryz.func4
  (ChangeSpec.witness_shaped (enc:=enc) (C:=Tryz.checked) (os:=os) (X:=λw _=>laidMetH ah Rows.fnWorldWellRow.laid w) ae (World.laidAll ah os Rows.fnWorldWellRow.laid) #[.slice af 0 0] 8 (World.laidAll_os _ _ _)
   (World.shaped_of_ZipB (by kernel_rfl) (by kernel_rfl)) (by kernel_rfl) (by kernel_rfl) (by kernel_rfl)
   (by rw[MakeChecks.laidMetH_plain _ _ _ (by kernel_rfl)];exact laidMet_laidAll _ (by kernel_rfl) (by kernel_rfl))) ?_
 intro W base args ds gs before P9 hW;have e:∀ (j:Nat) t v,Tryz.f4.params[j]?=aa t->args[j]?=aa v->Value.okWide ah W .any base t v:=P9;have o:=hW;obtain⟨p,q,n,G,rfl,_,_⟩:=hW;have F:DataW.TrodAll enc ah W 0 (λ_=>ab) ab Tryz.f4.params.toList args.toList ds p:=n
 rw[Tryz.params4] at F e;obtain⟨v0,J,R,L,K,S,A,rfl,rfl,I,r0⟩:=trodAll_cons F;obtain⟨rfl,rfl,rfl⟩:=trodAll_nil r0;obtain rfl:args=#[v0]:=by cases args;simp_all
 obtain⟨O,c,k,rfl⟩:=okWide_slice Tryz.underlying22 (e 0 22 v0 rfl rfl);have E:=I;have y:∀ x∈K,x.block<W.heap.size:=by obtain⟨m,N⟩:=E;exact DataW.trod_lt m _ _ _ N
 clear n P9;obtain⟨P,D,z,B⟩:=HR I;refine Go.AM.cK.XJ (vs:=[.slice O c k]) (Go.AM.R1.uE c P D z).Bc (by kernel_rfl) ⟨B,av⟩ λ_ v s' hv _ i d=>?_
 have s:Rd s'.M v (.bool ab):=hv;cases s;have f:Below W.heap.size W (s'.w.at d):=⟨i.os,i.tape,i.output,i.size,i.block⟩;obtain⟨l,g2,rfl⟩:∃ l g2,gs=[l,g2]:=by
  have g:=G;rcases gs with _|⟨l,_|⟨g2,_|⟨g3,r⟩⟩⟩
  .exact g.elim
  .obtain⟨_,_,_,_,_,_,_,_,_,_,h,_⟩:=g;exact h.elim
  .exact⟨l,g2,rfl⟩
  .obtain⟨_,_,_,_,_,_,_,_,_,_,h,_⟩:=g;obtain⟨_,_,_,_,_,_,_,_,_,_,h,_⟩:=h;exact h.elim
 have u:DataW.TrodVars enc ah (s'.w.at d) (λb=>decide (b<W.heap.size)) Rows.fnWorldWellSpec.vars [l,g2] q:=Below.trodVars laidOut f (by kernel_rfl) G
 exact⟨_,_,_,[],_,_,o,trodAll_mk1 (shut_bool Tryz.underlying4 _),(trodAll_cons_mk (Below.trod laidOut (by kernel_rfl) (of_decide_eq_true (by kernel_rfl)) E f y) trodAll_mk0),u,f.frame _,λh=>by cases h⟩
theorem facts{P:aq}{f:aW}{fn:Func}{s:ChangeSpec}{c:OpenClaim}
  (u:c.wf (OpenSpec.ofChange s)=ab)
  (r:(laidOutB P&&mapsRowed P)=ab)
  (p:(fn.params.all (P.readableRec ·)&&namedTie P c.named s.vars)=ab)
  (m:((c.stops==[])&&(P.stops==[])&&(c.knobs==[])&&(P.stopKnobs==[]))=ab)
  (v:(c.inPlace==P.inPlace f)=ab)
  (w:(c.unfollowed==P.unfollowed f)=ab)
  (o:(c.recurses==P.recurses f)=ab)
  (q:(c.named==P.varsNamed f)=ab)
  (n:((c.maps==(fn.params.toList++s.plain.varTypes P).any (P.mapsRec ·))&&(c.ifaces==(fn.params.toList++s.plain.varTypes P).any (P.ifacesRec ·))&&(c.mapsOut==P.mapsAmong fn.resultTypes.toList))=ab)
  (l:((c.loops==(fn.params.toList++s.plain.varTypes P).any (P.loopsFrom ·))&&(c.wideKeys==(fn.params.toList++s.plain.varTypes P++fn.resultTypes.toList).any (P.wideKeysFrom ·)))=ab)
  (h:(s.vars.all (P.varReadable ·)&&fn.resultTypes.all (λt=>P.readableRec t&&decide (t<P.types.size))&&(c.ifacesOut==fn.resultTypes.toList.any (P.ifacesRec ·))&&(c.loopsOut==fn.resultTypes.toList.any (P.loopsFrom ·)))=ab)
  (k:(c.plainKeys==P.plainKeys)=ab)
  (i:c.shortTexts.isNone=ab)
  (a:P.stopsHeard=ab)
  (e:P.mayEnter=ab)
  (g:(c.lifted==P.liftsFinal)=ab)
  (j:(P.make==aa c.make)=ab)
  (d:((c.kinds==[])&&c.domain.isEmpty&&(c.pinned==c.pinnedBy))=ab)
  (b:((c.veiled==(fn.params.toList++s.plain.varTypes P++fn.resultTypes.toList).any (P.veiledRec ·))&&c.veiledFits P fn.params.toList (fn.params.toList++s.plain.varTypes P++fn.resultTypes.toList))=ab) :
  joinedFacts P f fn s c=ab:=by
 simp only[bL] at *;simp only[joinedFacts,bL];simp only[*,cq,nF]
theorem UY:Rows.fnWorldWellRow.wf (OpenSpec.ofChange Rows.fnWorldWellSpec)=ab:=by kernel_rfl
theorem UZ:(laidOutB Tryz.checked.prog&&mapsRowed Tryz.checked.prog)=ab:=by kernel_rfl
theorem U0:(Tryz.f4.params.all (Tryz.checked.prog.readableRec ·)&&namedTie Tryz.checked.prog Rows.fnWorldWellRow.named Rows.fnWorldWellSpec.vars)=ab:=by kernel_rfl
theorem U1:((Rows.fnWorldWellRow.stops==[])&&(Tryz.checked.prog.stops==[])&&(Rows.fnWorldWellRow.knobs==[])&&(Tryz.checked.prog.stopKnobs==[]))=ab:=by kernel_rfl
theorem U2:(Rows.fnWorldWellRow.inPlace==Tryz.checked.prog.inPlace 4)=ab:=by kernel_rfl
theorem U3:(Rows.fnWorldWellRow.unfollowed==Tryz.checked.prog.unfollowed 4)=ab:=by kernel_rfl
theorem U4:(Rows.fnWorldWellRow.recurses==Tryz.checked.prog.recurses 4)=ab:=by kernel_rfl
theorem U5:(Rows.fnWorldWellRow.named==Tryz.checked.prog.varsNamed 4)=ab:=by kernel_rfl
theorem U6:((Rows.fnWorldWellRow.maps==(Tryz.f4.params.toList++Rows.fnWorldWellSpec.plain.varTypes Tryz.checked.prog).any (Tryz.checked.prog.mapsRec ·))&&(Rows.fnWorldWellRow.ifaces==(Tryz.f4.params.toList++Rows.fnWorldWellSpec.plain.varTypes Tryz.checked.prog).any (Tryz.checked.prog.ifacesRec ·))&&(Rows.fnWorldWellRow.mapsOut==Tryz.checked.prog.mapsAmong Tryz.f4.resultTypes.toList))=ab:=by kernel_rfl
theorem U7:((Rows.fnWorldWellRow.loops==(Tryz.f4.params.toList++Rows.fnWorldWellSpec.plain.varTypes Tryz.checked.prog).any (Tryz.checked.prog.loopsFrom ·))&&(Rows.fnWorldWellRow.wideKeys==(Tryz.f4.params.toList++Rows.fnWorldWellSpec.plain.varTypes Tryz.checked.prog++Tryz.f4.resultTypes.toList).any (Tryz.checked.prog.wideKeysFrom ·)))=ab:=by kernel_rfl
theorem R6:(Rows.fnWorldWellSpec.vars.all (Tryz.checked.prog.varReadable ·)&&Tryz.f4.resultTypes.all (λt=>Tryz.checked.prog.readableRec t&&decide (t<Tryz.checked.prog.types.size))&&(Rows.fnWorldWellRow.ifacesOut==Tryz.f4.resultTypes.toList.any (Tryz.checked.prog.ifacesRec ·))&&(Rows.fnWorldWellRow.loopsOut==Tryz.f4.resultTypes.toList.any (Tryz.checked.prog.loopsFrom ·)))=ab:=by kernel_rfl
theorem R7:(Rows.fnWorldWellRow.plainKeys==Tryz.checked.prog.plainKeys)=ab:=by kernel_rfl
theorem R8:Rows.fnWorldWellRow.shortTexts.isNone=ab:=by kernel_rfl
theorem R9:Tryz.checked.prog.stopsHeard=ab:=by kernel_rfl
theorem Sa:Tryz.checked.prog.mayEnter=ab:=by kernel_rfl
theorem Sb:(Rows.fnWorldWellRow.lifted==Tryz.checked.prog.liftsFinal)=ab:=by kernel_rfl
theorem Sc:(Tryz.checked.prog.make==aa Rows.fnWorldWellRow.make)=ab:=by kernel_rfl
theorem Sd:((Rows.fnWorldWellRow.kinds==[])&&Rows.fnWorldWellRow.domain.isEmpty&&(Rows.fnWorldWellRow.pinned==Rows.fnWorldWellRow.pinnedBy))=ab:=by kernel_rfl
theorem Se:((Rows.fnWorldWellRow.veiled==(Tryz.f4.params.toList++Rows.fnWorldWellSpec.plain.varTypes Tryz.checked.prog++Tryz.f4.resultTypes.toList).any (Tryz.checked.prog.veiledRec ·))&&Rows.fnWorldWellRow.veiledFits Tryz.checked.prog Tryz.f4.params.toList (Tryz.f4.params.toList++Rows.fnWorldWellSpec.plain.varTypes Tryz.checked.prog++Tryz.f4.resultTypes.toList))=ab:=by kernel_rfl
theorem closed:joinedFacts Tryz.checked.prog 4 Tryz.f4 Rows.fnWorldWellSpec Rows.fnWorldWellRow=ab :=
 facts UY UZ U0 U1 U2 U3 U4 U5 U6 U7 R6 R7 R8 R9 Sa Sb Sc Sd Se
theorem named:Tryz.pinned.checked.prog.funcNamed Rows.fnWorldWellRow.func=aa 4:=by kernel_rfl
theorem over:Rows.FnWorldWellSaid :=
 OpenClaim.holds_of_wide_leaving 4 Tryz.f4 rfl rfl rfl rfl rfl rfl rfl ⟨rfl,rfl,rfl,rfl,rfl⟩ rfl rfl rfl rfl rfl named Tryz.func4 closed
  (of_decide_eq_true (by kernel_rfl)) (by unfold Func.isWrapper;first|(rw[bc (by decide +kernel)];kernel_rfl)|(rw[aY (by decide +kernel)];exact⟨rfl,rfl⟩))
  (λos started H enc _=>lifted os started H enc)
theorem fnWorldWell_proved:Rows.FnWorldWellCardSaid :=
 Go.AM.HS .later [] [.data,.sentinel,.sentinel,.pinned] ab (ab,"d923ee8f098718f22c52ce0cbe68ef4a9812b9e9c8e2481e55719a7676342278") ae over (λ_ h=>by cases h) (by kernel_rfl) (λ_ h=>by cases h) fnWorldWell_row_tie rfl ⟨rfl,rfl⟩ (by kernel_rfl) rfl
  (λf fn hf Tz=>by
   obtain rfl:f=4:=uS ((show Tryz.prog.funcNamed "loop.example/depositary/laws.FnWorldWell"=aa 4 by kernel_rfl).symm.trans hf) |>.symm
   obtain rfl:fn=Tryz.f4:=(uS (Tryz.func4.symm.trans Tz)).symm;exact⟨by kernel_rfl,λj t b=>by
    rw[Tryz.params4] at b;have c:t∈[22]:=by
     have:=uM b;simp at this ⊢;exact this
    have a:([22].all λu=>!Tryz.prog.wantsStandIn u)=ab:=by kernel_rfl
    exact(show Tryz.prog.wantsStandIn t=ae by simpa using List.all_eq_true.1 a t c)⟩)
  (by kernel_rfl)
#print axioms fnWorldWell_proved
end Go.Proofs.YtnfgfnpbmbalmaaGreatDoor

