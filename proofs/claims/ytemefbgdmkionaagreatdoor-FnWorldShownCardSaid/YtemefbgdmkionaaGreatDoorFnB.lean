/-
  For every input the law FnWorldShown returns true, and the input reads as it did: the tied card FnWorldShownCardSaid. No condition.
-/
import Derived.Test.YtemefbgdmkionaaGreatDoorA6
import Derived.Test.YtemefbgdmkionaaGreatDoorTie
import Derived.Test.YtemefbgdmkionaaGreatDoorCards
import Derived.ProofKit
import Derived.OpenShut
import Derived.OpenVars
import Derived.LaidMore
import Derived.Lay
import Derived.SevenTiedAt
import Derived.Below
set_option linter.all false
set_option maxHeartbeats 8000000
open Go renaming Value → ak
open Option renaming some → aa
open Go renaming Program → aq
open Go renaming TypeId → ar
open Bool renaming true → ab
open Go renaming FuncId → aV
open Option renaming none → af
open Bool renaming false → ae
open Go.World renaming cell? → aZ
open List renaming getD_eq_getElem?_getD → ai
open Go renaming World → az
open Go.Proofs.Tryz renaming prog → ah
namespace Go.Proofs.YtemefbgdmkionaaGreatDoor
open Go.ChangeShapes Go.WideShapes Go.ChangeAt Go.RowKit
open Go.AM (c8 Rd St.top)
theorem own:ownKnob Tryz.prog.godebug=af:=by kernel_rfl
theorem laidOut:laidOutB ah=ab:=by kernel_rfl
theorem KM{w:az}{a:Addr}{v:ak}(h:w.cell? (a.add 0)=aa v):a=⟨a.block,a.off,af⟩:=by
 obtain⟨b,o,s⟩:=a;cases s with
 |none=>rfl
 |some q =>
  simp only[Addr.add,cj,aZ] at h;split at h
  .simp at h
  .cases h
theorem N8{w:az}{a:Addr}{n:Nat}{v:ak}(h:w.cell? (a.add n)=aa v):w.cell? ⟨a.block,a.off+n,af⟩=aa v:=by
 by_cases e:n=0
 .subst e;have c:=KM h;obtain⟨b,o,s⟩:=a;simp only[Addr.mk.injEq,aG] at c;subst c;exact h
 .simpa only[Addr.add,aY e] using h
theorem U4{n:Int}(h:(Lit.int .u8 n).wf=ab):0<=n/\n<=255:=by
 simp only[Lit.wf,IntKind.min,IntKind.max,IntKind.signed,IntKind.bits] at h;simp at h;omega
set_option maxRecDepth 100000 in
theorem Hm{H:Type}{enc:ar×ak->H}{W:az}{a:Option Addr}{len cap:Nat}{d:DataW H}{p:List MemPlace}(h:DataW.Trod enc ah W 0 (λ_=>ab) ab 22 (.slice a len cap) d p) :
  ∃ b:Nat->Int,Go.AM.R1.Bytes b/\len<=9223372036854775807/\c8 [] (St.top W) (.slice a len cap) (.e (.one (.c (.sl ae 1 len (Go.AM.R1.RG b))))):=by
 obtain⟨v,A⟩:=h;rcases open_ints Tryz.underlying22 Tryz.underlying5 (by kernel_rfl) A with⟨l,_⟩|⟨x,n,c,f,l,_,B,D,w,_,g,m⟩
 .simp[Value.cells] at l;obtain⟨rfl,rfl,rfl⟩:=l;exact⟨λ_=>0,λ_=>⟨Int.le_refl 0,show (0:Int)<=255 by decide⟩,by omega,Rd.jG⟩
 .simp[Value.cells] at l;obtain⟨rfl,rfl,rfl⟩:=l;simp only[cj] at w;simp only[maxLen] at D;refine⟨λi=>f.getD i 0,λi=>?_,by omega,?_⟩
  .by_cases hi:i<f.length
   .have:=m (f.getD i 0) (by rw[ai,bl hi];exact nH hi)
    exact U4 this
   .simp[ai,qq (by omega:f.length<=i)]
  .show Rd _ _ _;refine Rd.qt (k:=1) (n:=len) (vs:=(f.take len).map λz=>.int .u8 z) (a:=aa x) (b:=x.block) (off:=x.off) (cap:=cap) (t:=ae) ⟨by simp;omega,λi hi=>rfl,λi hi j c r=>?_⟩ (λE=>?_) B (by omega) (by simp) (λp u s=>?_)
   .have o:j=0:=by
     have:=(cg.1 r).1;simp[Go.AM.R1.RG] at this;omega
    subst o;have C:c=.int .u8 (f.getD i 0):=by
     simp only[Go.AM.R1.RG,kV,de] at r;exact r.symm
    subst C;have y:=U4 (m (f.getD i 0) (by rw[ai,bl (by omega:i<f.length)];exact nH _))
    refine⟨.int .u8 (f.getD i 0),?_,Rd.int y⟩;simp[gQ,hi,ai,bl (by omega:i<f.length)]
   .exact di aa (KM (g 0 (by omega)))
   .have q:p<len:=by
     have:=(cg.1 s).1;simp at this;omega
    have:u=.int .u8 (f.getD p 0):=by
     simp[gQ,q,bl (by omega:p<f.length)] at s
     rw[<-s];simp[ai,bl (by omega:p<f.length)]
    subst this;exact N8 (g p (by omega))
set_option maxRecDepth 100000 in
theorem lifted(os:Os)(a:os.Started)(H:Type)(enc:ar×ak->H) :
  ReturnsInLeavingWide {} Tryz.checked os 4 .any (λw args=>(Rows.fnWorldShownSpec.pre enc ah Tryz.f4 Rows.fnWorldShownRow.domain ae w args/\laidMetH ah Rows.fnWorldShownRow.laid w)/\sizedMet enc ah Tryz.f4 (OpenSpec.ofChange Rows.fnWorldShownSpec) ae w args)
   (Rows.fnWorldShownSpec.post enc ah Tryz.f4 ae ab ae ae):=by
 refine Go.AM.Cg (C:=Tryz.checked) (X:=λw _=>laidMetH ah Rows.fnWorldShownRow.laid w) (λ_ _ _ N h=>h.of_heap N) own a Tryz.func4
  (ChangeSpec.witness_shaped (enc:=enc) (C:=Tryz.checked) (os:=os) (X:=λw _=>laidMetH ah Rows.fnWorldShownRow.laid w) ae (World.laidAll ah os Rows.fnWorldShownRow.laid) #[.slice af 0 0] 8 (World.laidAll_os _ _ _)
   (World.shaped_of_ZipB (by kernel_rfl) (by kernel_rfl)) (by kernel_rfl) (by kernel_rfl) (by kernel_rfl)
   (by rw[MakeChecks.laidMetH_plain _ _ _ (by kernel_rfl)];exact laidMet_laidAll _ (by kernel_rfl) (by kernel_rfl))) ?_
 intro W base args ds gs before PM hW;have e:∀ (j:Nat) t v,Tryz.f4.params[j]?=aa t->args[j]?=aa v->Value.okWide ah W .any base t v:=PM;have o:=hW;obtain⟨p,q,k,F,rfl,_,_⟩:=hW;have G:DataW.TrodAll enc ah W 0 (λ_=>ab) ab Tryz.f4.params.toList args.toList ds p:=k
 rw[Tryz.params4] at G e;obtain⟨v0,L,R,Q,J,S,D,rfl,rfl,E,r0⟩:=trodAll_cons G;obtain⟨rfl,rfl,rfl⟩:=trodAll_nil r0;obtain rfl:args=#[v0]:=by cases args;simp_all
 obtain⟨O,c,i,rfl⟩:=okWide_slice Tryz.underlying22 (e 0 22 v0 rfl rfl);have I:=E;have B:∀ x∈J,x.block<W.heap.size:=by obtain⟨m,K⟩:=I;exact DataW.trod_lt m _ _ _ K
 clear k PM;obtain⟨P,y,u,A⟩:=Hm E;refine Go.AM.cD.X5 (vs:=[.slice O c i]) (Go.AM.R1.tf c P y u).A9 (by kernel_rfl) ⟨A,av⟩ λ_ v s' hv _ l d=>?_
 have z:Rd s'.M v (.bool ab):=hv;cases z;have g:Below W.heap.size W (s'.w.at d):=⟨l.os,l.tape,l.output,l.size,l.block⟩;obtain⟨n,g2,rfl⟩:∃ n g2,gs=[n,g2]:=by
  have f:=F;rcases gs with _|⟨n,_|⟨g2,_|⟨g3,r⟩⟩⟩
  .exact f.elim
  .obtain⟨_,_,_,_,_,_,_,_,_,_,h,_⟩:=f;exact h.elim
  .exact⟨n,g2,rfl⟩
  .obtain⟨_,_,_,_,_,_,_,_,_,_,h,_⟩:=f;obtain⟨_,_,_,_,_,_,_,_,_,_,h,_⟩:=h;exact h.elim
 have s:DataW.TrodVars enc ah (s'.w.at d) (λb=>decide (b<W.heap.size)) Rows.fnWorldShownSpec.vars [n,g2] q:=Below.trodVars laidOut g (by kernel_rfl) F
 exact⟨_,_,_,[],_,_,o,trodAll_mk1 (shut_bool Tryz.underlying4 _),(trodAll_cons_mk (Below.trod laidOut (by kernel_rfl) (of_decide_eq_true (by kernel_rfl)) I g B) trodAll_mk0),s,g.frame _,λh=>by cases h⟩
theorem facts{P:aq}{f:aV}{fn:Func}{s:ChangeSpec}{c:OpenClaim}
  (l:c.wf (OpenSpec.ofChange s)=ab)
  (p:(laidOutB P&&mapsRowed P)=ab)
  (q:(fn.params.all (P.readableRec ·)&&namedTie P c.named s.vars)=ab)
  (u:((c.stops==[])&&(P.stops==[])&&(c.knobs==[])&&(P.stopKnobs==[]))=ab)
  (v:(c.inPlace==P.inPlace f)=ab)
  (w:(c.unfollowed==P.unfollowed f)=ab)
  (o:(c.recurses==P.recurses f)=ab)
  (m:(c.named==P.varsNamed f)=ab)
  (r:((c.maps==(fn.params.toList++s.plain.varTypes P).any (P.mapsRec ·))&&(c.ifaces==(fn.params.toList++s.plain.varTypes P).any (P.ifacesRec ·))&&(c.mapsOut==P.mapsAmong fn.resultTypes.toList))=ab)
  (n:((c.loops==(fn.params.toList++s.plain.varTypes P).any (P.loopsFrom ·))&&(c.wideKeys==(fn.params.toList++s.plain.varTypes P++fn.resultTypes.toList).any (P.wideKeysFrom ·)))=ab)
  (b:(s.vars.all (P.varReadable ·)&&fn.resultTypes.all (λt=>P.readableRec t&&decide (t<P.types.size))&&(c.ifacesOut==fn.resultTypes.toList.any (P.ifacesRec ·))&&(c.loopsOut==fn.resultTypes.toList.any (P.loopsFrom ·)))=ab)
  (j:(c.plainKeys==P.plainKeys)=ab)
  (i:c.shortTexts.isNone=ab)
  (e:P.stopsHeard=ab)
  (g:P.mayEnter=ab)
  (a:(c.lifted==P.liftsFinal)=ab)
  (h:(P.make==aa c.make)=ab)
  (k:((c.kinds==[])&&c.domain.isEmpty&&(c.pinned==c.pinnedBy))=ab)
  (d:((c.veiled==(fn.params.toList++s.plain.varTypes P++fn.resultTypes.toList).any (P.veiledRec ·))&&c.veiledFits P fn.params.toList (fn.params.toList++s.plain.varTypes P++fn.resultTypes.toList))=ab) :
  joinedFacts P f fn s c=ab:=by
 simp only[bO] at *;simp only[joinedFacts,bO];simp only[*,cj,nN]
theorem U5:Rows.fnWorldShownRow.wf (OpenSpec.ofChange Rows.fnWorldShownSpec)=ab:=by kernel_rfl
theorem U6:(laidOutB Tryz.checked.prog&&mapsRowed Tryz.checked.prog)=ab:=by kernel_rfl
theorem U7:(Tryz.f4.params.all (Tryz.checked.prog.readableRec ·)&&namedTie Tryz.checked.prog Rows.fnWorldShownRow.named Rows.fnWorldShownSpec.vars)=ab:=by kernel_rfl
theorem U8:((Rows.fnWorldShownRow.stops==[])&&(Tryz.checked.prog.stops==[])&&(Rows.fnWorldShownRow.knobs==[])&&(Tryz.checked.prog.stopKnobs==[]))=ab:=by kernel_rfl
theorem U9:(Rows.fnWorldShownRow.inPlace==Tryz.checked.prog.inPlace 4)=ab:=by kernel_rfl
theorem Va:(Rows.fnWorldShownRow.unfollowed==Tryz.checked.prog.unfollowed 4)=ab:=by kernel_rfl
theorem Vb:(Rows.fnWorldShownRow.recurses==Tryz.checked.prog.recurses 4)=ab:=by kernel_rfl
theorem Vd:(Rows.fnWorldShownRow.named==Tryz.checked.prog.varsNamed 4)=ab:=by kernel_rfl
theorem Ve:((Rows.fnWorldShownRow.maps==(Tryz.f4.params.toList++Rows.fnWorldShownSpec.plain.varTypes Tryz.checked.prog).any (Tryz.checked.prog.mapsRec ·))&&(Rows.fnWorldShownRow.ifaces==(Tryz.f4.params.toList++Rows.fnWorldShownSpec.plain.varTypes Tryz.checked.prog).any (Tryz.checked.prog.ifacesRec ·))&&(Rows.fnWorldShownRow.mapsOut==Tryz.checked.prog.mapsAmong Tryz.f4.resultTypes.toList))=ab:=by kernel_rfl
theorem Vf:((Rows.fnWorldShownRow.loops==(Tryz.f4.params.toList++Rows.fnWorldShownSpec.plain.varTypes Tryz.checked.prog).any (Tryz.checked.prog.loopsFrom ·))&&(Rows.fnWorldShownRow.wideKeys==(Tryz.f4.params.toList++Rows.fnWorldShownSpec.plain.varTypes Tryz.checked.prog++Tryz.f4.resultTypes.toList).any (Tryz.checked.prog.wideKeysFrom ·)))=ab:=by kernel_rfl
theorem RH:(Rows.fnWorldShownSpec.vars.all (Tryz.checked.prog.varReadable ·)&&Tryz.f4.resultTypes.all (λt=>Tryz.checked.prog.readableRec t&&decide (t<Tryz.checked.prog.types.size))&&(Rows.fnWorldShownRow.ifacesOut==Tryz.f4.resultTypes.toList.any (Tryz.checked.prog.ifacesRec ·))&&(Rows.fnWorldShownRow.loopsOut==Tryz.f4.resultTypes.toList.any (Tryz.checked.prog.loopsFrom ·)))=ab:=by kernel_rfl
theorem RI:(Rows.fnWorldShownRow.plainKeys==Tryz.checked.prog.plainKeys)=ab:=by kernel_rfl
theorem RJ:Rows.fnWorldShownRow.shortTexts.isNone=ab:=by kernel_rfl
theorem RK:Tryz.checked.prog.stopsHeard=ab:=by kernel_rfl
theorem RL:Tryz.checked.prog.mayEnter=ab:=by kernel_rfl
theorem RM:(Rows.fnWorldShownRow.lifted==Tryz.checked.prog.liftsFinal)=ab:=by kernel_rfl
theorem RN:(Tryz.checked.prog.make==aa Rows.fnWorldShownRow.make)=ab:=by kernel_rfl
theorem RO:((Rows.fnWorldShownRow.kinds==[])&&Rows.fnWorldShownRow.domain.isEmpty&&(Rows.fnWorldShownRow.pinned==Rows.fnWorldShownRow.pinnedBy))=ab:=by kernel_rfl
theorem RP:((Rows.fnWorldShownRow.veiled==(Tryz.f4.params.toList++Rows.fnWorldShownSpec.plain.varTypes Tryz.checked.prog++Tryz.f4.resultTypes.toList).any (Tryz.checked.prog.veiledRec ·))&&Rows.fnWorldShownRow.veiledFits Tryz.checked.prog Tryz.f4.params.toList (Tryz.f4.params.toList++Rows.fnWorldShownSpec.plain.varTypes Tryz.checked.prog++Tryz.f4.resultTypes.toList))=ab:=by kernel_rfl
theorem closed:joinedFacts Tryz.checked.prog 4 Tryz.f4 Rows.fnWorldShownSpec Rows.fnWorldShownRow=ab :=
 facts U5 U6 U7 U8 U9 Va Vb Vd Ve Vf RH RI RJ RK RL RM RN RO RP
theorem named:Tryz.pinned.checked.prog.funcNamed Rows.fnWorldShownRow.func=aa 4:=by kernel_rfl
theorem over:Rows.FnWorldShownSaid :=
 OpenClaim.holds_of_wide_leaving 4 Tryz.f4 rfl rfl rfl rfl rfl rfl rfl ⟨rfl,rfl,rfl,rfl,rfl⟩ rfl rfl rfl rfl rfl named Tryz.func4 closed
  (of_decide_eq_true (by kernel_rfl)) (by unfold Func.isWrapper;first|(rw[bg (by decide +kernel)];kernel_rfl)|(rw[aY (by decide +kernel)];exact⟨rfl,rfl⟩))
  (λos started H enc _=>lifted os started H enc)
theorem fnWorldShown_proved:Rows.FnWorldShownCardSaid :=
 Go.AM.Hn .later [] [.data,.sentinel,.sentinel,.pinned] ab (ab,"a274cb1e814644dfb4995134c85a09ad1abaf2413978f6856310315fa0e3167e") ae over (λ_ h=>by cases h) (by kernel_rfl) (λ_ h=>by cases h) fnWorldShown_row_tie rfl ⟨rfl,rfl⟩ (by kernel_rfl) rfl
  (λf fn hf SW=>by
   obtain rfl:f=4:=ra ((show Tryz.prog.funcNamed "loop.example/depositary/laws.FnWorldShown"=aa 4 by kernel_rfl).symm.trans hf) |>.symm
   obtain rfl:fn=Tryz.f4:=(ra (Tryz.func4.symm.trans SW)).symm;exact⟨by kernel_rfl,λj t b=>by
    rw[Tryz.params4] at b;have c:t∈[22]:=by
     have:=uL b;simp at this ⊢;exact this
    have a:([22].all λu=>!Tryz.prog.wantsStandIn u)=ab:=by kernel_rfl
    exact(show Tryz.prog.wantsStandIn t=ae by simpa using List.all_eq_true.1 a t c)⟩)
  (by kernel_rfl)
#print axioms fnWorldShown_proved
end Go.Proofs.YtemefbgdmkionaaGreatDoor

