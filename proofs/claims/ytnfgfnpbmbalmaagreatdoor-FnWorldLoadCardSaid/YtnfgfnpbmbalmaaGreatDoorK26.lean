/-
  For every input the law FnWorldLoad returns true, and the input reads as it did: whatever a house does, a tree is loaded as it was saved, or not at all. No condition.
-/
import Derived.Test.YtnfgfnpbmbalmaaGreatDoorA6
import Derived.Test.YtnfgfnpbmbalmaaGreatDoorTie
import Derived.Test.YtnfgfnpbmbalmaaGreatDoorCards
import Derived.ProofKit
import Derived.OpenShut
import Derived.OpenVars
import Derived.LaidMore
import Derived.Lay
import Derived.SevenTiedAt
import Derived.Below
set_option linter.all false
set_option maxHeartbeats 8000000
open Go renaming Value → ak
open Option renaming some → aa
open Go renaming Program → aq
open Go renaming TypeId → ar
open Bool renaming true → ab
open Go renaming FuncId → aW
open Option renaming none → af
open Bool renaming false → ae
open Go.World renaming cell? → a9
open List renaming getD_eq_getElem?_getD → ai
open Go renaming World → az
open Go.Proofs.Tryz renaming prog → ah
open List renaming all_eq_true → bu
namespace Go.Proofs.YtnfgfnpbmbalmaaGreatDoor
open Go.ChangeShapes Go.WideShapes Go.ChangeAt Go.RowKit
open Go.AM (dc Rd St.top)
theorem own:ownKnob Tryz.prog.godebug=af:=by kernel_rfl
theorem laidOut:laidOutB ah=ab:=by kernel_rfl
theorem LD{w:az}{a:Addr}{v:ak}(h:w.cell? (a.add 0)=aa v):a=⟨a.block,a.off,af⟩:=by
 obtain⟨b,o,s⟩:=a;cases s with
 |none=>rfl
 |some q =>
  simp only[Addr.add,cu,a9] at h;split at h
  .simp at h
  .cases h
theorem OS{w:az}{a:Addr}{n:Nat}{v:ak}(h:w.cell? (a.add n)=aa v):w.cell? ⟨a.block,a.off+n,af⟩=aa v:=by
 by_cases e:n=0
 .subst e;have c:=LD h;obtain⟨b,o,s⟩:=a;simp only[Addr.mk.injEq,aF] at c;subst c;exact h
 .simpa only[Addr.add,aY e] using h
theorem Va{n:Int}(h:(Lit.int .u8 n).wf=ab):0<=n/\n<=255:=by
 simp only[Lit.wf,IntKind.min,IntKind.max,IntKind.signed,IntKind.bits] at h;simp at h;omega
set_option maxRecDepth 100000 in
theorem H0{H:Type}{enc:ar×ak->H}{W:az}{a:Option Addr}{len cap:Nat}{d:DataW H}{p:List MemPlace}(h:DataW.Trod enc ah W 0 (λ_=>ab) ab 22 (.slice a len cap) d p) :
  ∃ b:Nat->Int,Go.AM.R1.Bytes b/\len<=9223372036854775807/\dc [] (St.top W) (.slice a len cap) (.e (.one (.c (.sl ae 1 len (Go.AM.R1.Sm b))))):=by
 obtain⟨v,w⟩:=h;rcases open_ints Tryz.underlying22 Tryz.underlying5 (by kernel_rfl) w with⟨g,_⟩|⟨x,n,c,f,g,_,D,B,A,_,l,m⟩
 .simp[Value.cells] at g;obtain⟨rfl,rfl,rfl⟩:=g;exact⟨λ_=>0,λ_=>⟨Int.le_refl 0,show (0:Int)<=255 by decide⟩,by omega,Rd.jJ⟩
 .simp[Value.cells] at g;obtain⟨rfl,rfl,rfl⟩:=g;simp only[cu] at A;simp only[maxLen] at B;refine⟨λi=>f.getD i 0,λi=>?_,by omega,?_⟩
  .by_cases hi:i<f.length
   .have:=m (f.getD i 0) (by rw[ai,br hi];exact nG hi)
    exact Va this
   .simp[ai,q8 (by omega:f.length<=i)]
  .show Rd _ _ _;refine Rd.qw (k:=1) (n:=len) (vs:=(f.take len).map λz=>.int .u8 z) (a:=aa x) (b:=x.block) (off:=x.off) (cap:=cap) (t:=ae) ⟨by simp;omega,λi hi=>rfl,λi hi j c o=>?_⟩ (λE=>?_) D (by omega) (by simp) (λp u s=>?_)
   .have r:j=0:=by
     have:=(cr.1 o).1;simp[Go.AM.R1.Sm] at this;omega
    subst r;have C:c=.int .u8 (f.getD i 0):=by
     simp only[Go.AM.R1.Sm,kX,di] at o;exact o.symm
    subst C;have y:=Va (m (f.getD i 0) (by rw[ai,br (by omega:i<f.length)];exact nG _))
    refine⟨.int .u8 (f.getD i 0),?_,Rd.int y⟩;simp[gQ,hi,ai,br (by omega:i<f.length)]
   .exact du aa (LD (l 0 (by omega)))
   .have q:p<len:=by
     have:=(cr.1 s).1;simp at this;omega
    have:u=.int .u8 (f.getD p 0):=by
     simp[gQ,q,br (by omega:p<f.length)] at s
     rw[<-s];simp[ai,br (by omega:p<f.length)]
    subst this;exact OS (l p (by omega))
set_option maxRecDepth 100000 in
theorem lifted(os:Os)(a:os.Started)(H:Type)(enc:ar×ak->H) :
  ReturnsInLeavingWide {} Tryz.checked os 3 .any (λw args=>(Rows.fnWorldLoadSpec.pre enc ah Tryz.f3 Rows.fnWorldLoadRow.domain ae w args/\laidMetH ah Rows.fnWorldLoadRow.laid w)/\sizedMet enc ah Tryz.f3 (OpenSpec.ofChange Rows.fnWorldLoadSpec) ae w args)
   (Rows.fnWorldLoadSpec.post enc ah Tryz.f3 ae ab ae ae):=by
 refine Go.AM.CB (C:=Tryz.checked) (X:=λw _=>laidMetH ah Rows.fnWorldLoadRow.laid w) (λ_ _ _ Q h=>h.of_heap Q) own a Tryz.func3
  (ChangeSpec.witness_shaped (enc:=enc) (C:=Tryz.checked) (os:=os) (X:=λw _=>laidMetH ah Rows.fnWorldLoadRow.laid w) ae (World.laidAll ah os Rows.fnWorldLoadRow.laid) #[.slice af 0 0] 8 (World.laidAll_os _ _ _)
   (World.shaped_of_ZipB (by kernel_rfl) (by kernel_rfl)) (by kernel_rfl) (by kernel_rfl) (by kernel_rfl)
   (by rw[MakeChecks.laidMetH_plain _ _ _ (by kernel_rfl)];exact laidMet_laidAll _ (by kernel_rfl) (by kernel_rfl))) ?_
 intro W base args ds gs before Qq hW;have c:∀ (j:Nat) t v,Tryz.f3.params[j]?=aa t->args[j]?=aa v->Value.okWide ah W .any base t v:=Qq;have s:=hW;obtain⟨p,q,n,E,rfl,_,_⟩:=hW;have G:DataW.TrodAll enc ah W 0 (λ_=>ab) ab Tryz.f3.params.toList args.toList ds p:=n
 rw[Tryz.params3] at G c;obtain⟨v0,P,R,O,K,S,A,rfl,rfl,F,r0⟩:=trodAll_cons G;obtain⟨rfl,rfl,rfl⟩:=trodAll_nil r0;obtain rfl:args=#[v0]:=by cases args;simp_all
 obtain⟨N,e,l,rfl⟩:=okWide_slice Tryz.underlying22 (c 0 22 v0 rfl rfl);have I:=F;have o:∀ x∈K,x.block<W.heap.size:=by obtain⟨m,L⟩:=I;exact DataW.trod_lt m _ _ _ L
 clear n Qq;obtain⟨J,B,z,u⟩:=H0 F;refine Go.AM.cM.XX (vs:=[.slice N e l]) (Go.AM.R1.uJ e J B z).Bm (by kernel_rfl) ⟨u,av⟩ λ_ v s' hv _ k d=>?_
 have D:Rd s'.M v (.bool ab):=hv;cases D;have g:Below W.heap.size W (s'.w.at d):=⟨k.os,k.tape,k.output,k.size,k.block⟩;obtain⟨i,g2,rfl⟩:∃ i g2,gs=[i,g2]:=by
  have f:=E;rcases gs with _|⟨i,_|⟨g2,_|⟨g3,r⟩⟩⟩
  .exact f.elim
  .obtain⟨_,_,_,_,_,_,_,_,_,_,h,_⟩:=f;exact h.elim
  .exact⟨i,g2,rfl⟩
  .obtain⟨_,_,_,_,_,_,_,_,_,_,h,_⟩:=f;obtain⟨_,_,_,_,_,_,_,_,_,_,h,_⟩:=h;exact h.elim
 have y:DataW.TrodVars enc ah (s'.w.at d) (λb=>decide (b<W.heap.size)) Rows.fnWorldLoadSpec.vars [i,g2] q:=Below.trodVars laidOut g (by kernel_rfl) E
 exact⟨_,_,_,[],_,_,s,trodAll_mk1 (shut_bool Tryz.underlying4 _),(trodAll_cons_mk (Below.trod laidOut (by kernel_rfl) (of_decide_eq_true (by kernel_rfl)) I g o) trodAll_mk0),y,g.frame _,λh=>by cases h⟩
theorem facts{P:aq}{f:aW}{fn:Func}{s:ChangeSpec}{c:OpenClaim}
  (o:c.wf (OpenSpec.ofChange s)=ab)
  (w:(laidOutB P&&mapsRowed P)=ab)
  (r:(fn.params.all (P.readableRec ·)&&namedTie P c.named s.vars)=ab)
  (p:((c.stops==[])&&(P.stops==[])&&(c.knobs==[])&&(P.stopKnobs==[]))=ab)
  (m:(c.inPlace==P.inPlace f)=ab)
  (l:(c.unfollowed==P.unfollowed f)=ab)
  (u:(c.recurses==P.recurses f)=ab)
  (n:(c.named==P.varsNamed f)=ab)
  (v:((c.maps==(fn.params.toList++s.plain.varTypes P).any (P.mapsRec ·))&&(c.ifaces==(fn.params.toList++s.plain.varTypes P).any (P.ifacesRec ·))&&(c.mapsOut==P.mapsAmong fn.resultTypes.toList))=ab)
  (q:((c.loops==(fn.params.toList++s.plain.varTypes P).any (P.loopsFrom ·))&&(c.wideKeys==(fn.params.toList++s.plain.varTypes P++fn.resultTypes.toList).any (P.wideKeysFrom ·)))=ab)
  (i:(s.vars.all (P.varReadable ·)&&fn.resultTypes.all (λt=>P.readableRec t&&decide (t<P.types.size))&&(c.ifacesOut==fn.resultTypes.toList.any (P.ifacesRec ·))&&(c.loopsOut==fn.resultTypes.toList.any (P.loopsFrom ·)))=ab)
  (g:(c.plainKeys==P.plainKeys)=ab)
  (h:c.shortTexts.isNone=ab)
  (d:P.stopsHeard=ab)
  (b:P.mayEnter=ab)
  (j:(c.lifted==P.liftsFinal)=ab)
  (e:(P.make==aa c.make)=ab)
  (k:((c.kinds==[])&&c.domain.isEmpty&&(c.pinned==c.pinnedBy))=ab)
  (a:((c.veiled==(fn.params.toList++s.plain.varTypes P++fn.resultTypes.toList).any (P.veiledRec ·))&&c.veiledFits P fn.params.toList (fn.params.toList++s.plain.varTypes P++fn.resultTypes.toList))=ab) :
  joinedFacts P f fn s c=ab:=by
 simp only[bL] at *;simp only[joinedFacts,bL];simp only[*,cu,nO]
theorem Vb:Rows.fnWorldLoadRow.wf (OpenSpec.ofChange Rows.fnWorldLoadSpec)=ab:=by kernel_rfl
theorem Vd:(laidOutB Tryz.checked.prog&&mapsRowed Tryz.checked.prog)=ab:=by kernel_rfl
theorem Ve:(Tryz.f3.params.all (Tryz.checked.prog.readableRec ·)&&namedTie Tryz.checked.prog Rows.fnWorldLoadRow.named Rows.fnWorldLoadSpec.vars)=ab:=by kernel_rfl
theorem Vf:((Rows.fnWorldLoadRow.stops==[])&&(Tryz.checked.prog.stops==[])&&(Rows.fnWorldLoadRow.knobs==[])&&(Tryz.checked.prog.stopKnobs==[]))=ab:=by kernel_rfl
theorem Vg:(Rows.fnWorldLoadRow.inPlace==Tryz.checked.prog.inPlace 3)=ab:=by kernel_rfl
theorem Vh:(Rows.fnWorldLoadRow.unfollowed==Tryz.checked.prog.unfollowed 3)=ab:=by kernel_rfl
theorem Vi:(Rows.fnWorldLoadRow.recurses==Tryz.checked.prog.recurses 3)=ab:=by kernel_rfl
theorem Vj:(Rows.fnWorldLoadRow.named==Tryz.checked.prog.varsNamed 3)=ab:=by kernel_rfl
theorem Vk:((Rows.fnWorldLoadRow.maps==(Tryz.f3.params.toList++Rows.fnWorldLoadSpec.plain.varTypes Tryz.checked.prog).any (Tryz.checked.prog.mapsRec ·))&&(Rows.fnWorldLoadRow.ifaces==(Tryz.f3.params.toList++Rows.fnWorldLoadSpec.plain.varTypes Tryz.checked.prog).any (Tryz.checked.prog.ifacesRec ·))&&(Rows.fnWorldLoadRow.mapsOut==Tryz.checked.prog.mapsAmong Tryz.f3.resultTypes.toList))=ab:=by kernel_rfl
theorem Vl:((Rows.fnWorldLoadRow.loops==(Tryz.f3.params.toList++Rows.fnWorldLoadSpec.plain.varTypes Tryz.checked.prog).any (Tryz.checked.prog.loopsFrom ·))&&(Rows.fnWorldLoadRow.wideKeys==(Tryz.f3.params.toList++Rows.fnWorldLoadSpec.plain.varTypes Tryz.checked.prog++Tryz.f3.resultTypes.toList).any (Tryz.checked.prog.wideKeysFrom ·)))=ab:=by kernel_rfl
theorem Sn:(Rows.fnWorldLoadSpec.vars.all (Tryz.checked.prog.varReadable ·)&&Tryz.f3.resultTypes.all (λt=>Tryz.checked.prog.readableRec t&&decide (t<Tryz.checked.prog.types.size))&&(Rows.fnWorldLoadRow.ifacesOut==Tryz.f3.resultTypes.toList.any (Tryz.checked.prog.ifacesRec ·))&&(Rows.fnWorldLoadRow.loopsOut==Tryz.f3.resultTypes.toList.any (Tryz.checked.prog.loopsFrom ·)))=ab:=by kernel_rfl
theorem So:(Rows.fnWorldLoadRow.plainKeys==Tryz.checked.prog.plainKeys)=ab:=by kernel_rfl
theorem Sp:Rows.fnWorldLoadRow.shortTexts.isNone=ab:=by kernel_rfl
theorem Sq:Tryz.checked.prog.stopsHeard=ab:=by kernel_rfl
theorem Sr:Tryz.checked.prog.mayEnter=ab:=by kernel_rfl
theorem Ss:(Rows.fnWorldLoadRow.lifted==Tryz.checked.prog.liftsFinal)=ab:=by kernel_rfl
theorem Su:(Tryz.checked.prog.make==aa Rows.fnWorldLoadRow.make)=ab:=by kernel_rfl
theorem Sv:((Rows.fnWorldLoadRow.kinds==[])&&Rows.fnWorldLoadRow.domain.isEmpty&&(Rows.fnWorldLoadRow.pinned==Rows.fnWorldLoadRow.pinnedBy))=ab:=by kernel_rfl
theorem Sw:((Rows.fnWorldLoadRow.veiled==(Tryz.f3.params.toList++Rows.fnWorldLoadSpec.plain.varTypes Tryz.checked.prog++Tryz.f3.resultTypes.toList).any (Tryz.checked.prog.veiledRec ·))&&Rows.fnWorldLoadRow.veiledFits Tryz.checked.prog Tryz.f3.params.toList (Tryz.f3.params.toList++Rows.fnWorldLoadSpec.plain.varTypes Tryz.checked.prog++Tryz.f3.resultTypes.toList))=ab:=by kernel_rfl
theorem closed:joinedFacts Tryz.checked.prog 3 Tryz.f3 Rows.fnWorldLoadSpec Rows.fnWorldLoadRow=ab :=
 facts Vb Vd Ve Vf Vg Vh Vi Vj Vk Vl Sn So Sp Sq Sr Ss Su Sv Sw
theorem named:Tryz.pinned.checked.prog.funcNamed Rows.fnWorldLoadRow.func=aa 3:=by kernel_rfl
theorem over:Rows.FnWorldLoadSaid :=
 OpenClaim.holds_of_wide_leaving 3 Tryz.f3 rfl rfl rfl rfl rfl rfl rfl ⟨rfl,rfl,rfl,rfl,rfl⟩ rfl rfl rfl rfl rfl named Tryz.func3 closed
  (of_decide_eq_true (by kernel_rfl)) (by unfold Func.isWrapper;first|(rw[bd (by decide +kernel)];kernel_rfl)|(rw[aY (by decide +kernel)];exact⟨rfl,rfl⟩))
  (λos started H enc _=>lifted os started H enc)
theorem fnWorldLoad_proved:Rows.FnWorldLoadCardSaid :=
 Go.AM.H3 .later [] [.data,.sentinel,.sentinel,.pinned] ab (ab,"d923ee8f098718f22c52ce0cbe68ef4a9812b9e9c8e2481e55719a7676342278") ae over (λ_ h=>by cases h) (by kernel_rfl) (λ_ h=>by cases h) fnWorldLoad_row_tie rfl ⟨rfl,rfl⟩ (by kernel_rfl) rfl
  (λf fn hf TT=>by
   obtain rfl:f=3:=uV ((show Tryz.prog.funcNamed "loop.example/depositary/laws.FnWorldLoad"=aa 3 by kernel_rfl).symm.trans hf) |>.symm
   obtain rfl:fn=Tryz.f3:=(uV (Tryz.func3.symm.trans TT)).symm;exact⟨by kernel_rfl,λj t b=>by
    rw[Tryz.params3] at b;have c:t∈[22]:=by
     have:=uQ b;simp at this ⊢;exact this
    have a:([22].all λu=>!Tryz.prog.wantsStandIn u)=ab:=by kernel_rfl
    exact(show Tryz.prog.wantsStandIn t=ae by simpa using bu.1 a t c)⟩)
  (by kernel_rfl)
#print axioms fnWorldLoad_proved
end Go.Proofs.YtnfgfnpbmbalmaaGreatDoor

