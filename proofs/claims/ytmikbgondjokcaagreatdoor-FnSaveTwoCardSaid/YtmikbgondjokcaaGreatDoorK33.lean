import Derived.Test.YtmikbgondjokcaaGreatDoorA7
import Derived.Test.YtmikbgondjokcaaGreatDoorTie
import Derived.Test.YtmikbgondjokcaaGreatDoorCards
import Derived.ProofKit
import Derived.OpenShut
import Derived.OpenVars
import Derived.LaidMore
import Derived.Lay
import Derived.SevenTiedAt
import Derived.Below
import Derived.LaidHandle
import Derived.LaidLaws
set_option linter.all false
set_option maxHeartbeats 8000000
open Go renaming Value → ai, TypeId → av, World → ay, Program → aJ, FuncId → aH
open Option renaming some → aa, none → ae
open Bool renaming true → ab, false → af
open Go.World renaming cell? → aP
open List renaming getD_eq_getElem?_getD → aj, range → bc, all_eq_true → bz
open Go.Proofs.Tryz renaming prog → ag, underlying22 → aO
namespace Go.Proofs.YtmikbgondjokcaaGreatDoor
open Go.ChangeShapes Go.WideShapes Go.ChangeAt Go.RowKit
open Go.AM (du Rd St.top)
theorem own:ownKnob Tryz.prog.godebug=ae:=by kernel_rfl
theorem laidOut:laidOutB ag=ab:=by kernel_rfl
theorem qn{w:ay}{a:Addr}{v:ai}(h:w.cell? (a.add 0)=aa v):a=⟨a.block,a.off,ae⟩:=by
 obtain⟨b,o,s⟩:=a;cases s with
 |none=>rfl
 |some q =>
  simp only[Addr.add,b6,aP]at h;split at h
  .simp at h
  .cases h
theorem tJ{w:ay}{a:Addr}{n:Nat}{v:ai}(h:w.cell? (a.add n)=aa v):w.cell? ⟨a.block,a.off+n,ae⟩=aa v:=by
 by_cases e:n=0
 .subst e;have c:=qn h;obtain⟨b,o,s⟩:=a;simp only[Addr.mk.injEq,aF]at c;subst c;exact h
 .simpa only[Addr.add,aY e]using h
theorem DN{n:Int}(h:(Lit.int .u8 n).wf=ab):0<=n/\n<=255:=by simp only[Lit.wf,IntKind.min,IntKind.max,IntKind.signed,IntKind.bits]at h;simp at h;omega
set_option maxRecDepth 100000 in
theorem kZ{H:Type}{enc:av×ai->H}{W:ay}{a:Option Addr}{len cap:Nat}{d:DataW H}{p:List MemPlace}(h:DataW.Trod enc ag W 0 (λ_=>ab) ab 22 (.slice a len cap) d p):
  ∃b:Nat->Int,Go.AM.R1.Bytes b/\len<=9223372036854775807/\du [] (St.top W) (.slice a len cap) (.e (.one (.c (.sl af 1 len (Go.AM.R1.ud b))))):=by
 obtain⟨v,A⟩:=h;rcases open_ints aO Tryz.underlying5 (by kernel_rfl) A with⟨l,_⟩|⟨x,n,c,f,l,_,D,B,w,_,g,m⟩
 .simp[Value.cells]at l;obtain⟨rfl,rfl,rfl⟩:=l;exact⟨λ_=>0,λ_=>⟨sU 0,show(0:Int)<=255 by decide⟩,by omega,Rd.iR⟩
 .simp[Value.cells]at l;obtain⟨rfl,rfl,rfl⟩:=l;simp only[b6]at w;simp only[maxLen]at B;refine⟨λi=>f.getD i 0,λi=>?_,by omega,?_⟩
  .by_cases hi:i<f.length
   .have:=m (f.getD i 0) (by rw[aj,bn hi];exact oC hi);exact DN this
   .simp[aj,rV (by omega:f.length<=i)]
  .show Rd _ _ _;refine Rd.oK (k:=1) (n:=len) (vs:=(f.take len).map λz=>.int .u8 z) (a:=aa x) (b:=x.block) (off:=x.off) (cap:=cap) (t:=af) ⟨by simp;omega,λi hi=>rfl,λi hi j c r=>?_⟩ (λE=>?_) D (by omega) (by simp) (λp u s=>?_)
   .have q:j=0:=by have:=(bX.1 r).1;simp[Go.AM.R1.ud]at this;omega
    subst q;have y:c=.int .u8 (f.getD i 0):=by simp only[Go.AM.R1.ud,jI,dn]at r;exact r.symm
    subst y;have C:=DN (m (f.getD i 0) (by rw[aj,bn (by omega:i<f.length)];exact oC _));refine⟨.int .u8 (f.getD i 0),?_,Rd.int C⟩;simp[gL,hi,aj,bn (by omega:i<f.length)]
   .exact dH aa (qn (g 0 (by omega)))
   .have o:p<len:=by have:=(bX.1 s).1;simp at this;omega
    have:u=.int .u8 (f.getD p 0):=by simp[gL,o,bn (by omega:p<f.length)]at s;rw[<-s];simp[aj,bn (by omega:p<f.length)]
    subst this;exact tJ (g p (by omega))
noncomputable def vt(os:Os):ay :=
 let w0:=World.laidAll ag os (Rows.fnSaveTwoRow.laid.filter λx=>x.2.handleName?.isNone)
 {w0 with heap:=w0.heap.modify 0 λ
   |.cells _ t a=>.cells #[.iface 184 (.agg #[typeHandle ag 61])] t a
   |o=>o}
theorem oi(os:Os)(args:Array ai):laidMetH ag Rows.fnSaveTwoRow.laid ((vt os).forCall (λ_ _=>0) ⟨#[],args,[]⟩).memory :=
 laidMetH_of_parts (laidMet_of_run' 8 (by kernel_rfl) (by kernel_rfl)) (by kernel_rfl)
theorem nK:Tryz.prog.globalNamed "loop.example/depositary/impl.errKey"=aa 1:=by kernel_rfl
theorem nP:Tryz.prog.globalNamed "loop.example/depositary/impl.errPiece"=aa 2:=by kernel_rfl
theorem nE:Tryz.prog.globalNamed "errors.errorType"=aa 0:=by kernel_rfl
theorem yK:(Tryz.prog.globals[1]?).map (·.type)=aa 61:=by kernel_rfl
theorem yP:(Tryz.prog.globals[2]?).map (·.type)=aa 61:=by kernel_rfl
theorem zK:(((begin ag (λ_ _=>0) default).world.heap[1]?).bind Obj.row?)=aa (#[.nilIface],61):=by kernel_rfl
theorem zP:(((begin ag (λ_ _=>0) default).world.heap[2]?).bind Obj.row?)=aa (#[.nilIface],61):=by kernel_rfl
theorem zE:(((begin ag (λ_ _=>0) default).world.heap[0]?).bind Obj.row?)=aa (#[.nilIface],130):=by kernel_rfl
theorem DO:(Tryz.prog.cutTypes.find? (·.1== "internal/reflectlite.rtype")).map (·.2)=aa 184:=by kernel_rfl
theorem yq:((bc Tryz.prog.types.size).filter λt=>Tryz.prog.rowNamed t [101,114,114,111,114])=[61]:=by kernel_rfl
theorem W7:("loop.example/depositary/impl.errKey",Rows.laid_loop_example_depositary_impl_errKey)∈Rows.fnSaveTwoRow.laid.filter λx=>x.2.handleName?.isNone:=gN.2 ⟨by simp[Rows.fnSaveTwoRow],by kernel_rfl⟩
theorem W8:("loop.example/depositary/impl.errPiece",Rows.laid_loop_example_depositary_impl_errPiece)∈Rows.fnSaveTwoRow.laid.filter λx=>x.2.handleName?.isNone:=gN.2 ⟨by simp[Rows.fnSaveTwoRow],by kernel_rfl⟩
theorem CN:("errors.errorType",Rows.laid_errors_errorType)∈Rows.fnSaveTwoRow.laid.filter λx=>x.2.handleName?.isSome:=gN.2 ⟨by simp[Rows.fnSaveTwoRow],by kernel_rfl⟩
set_option maxRecDepth 100000 in
theorem lifted(os:Os)(e:os.Started)(H:Type)(enc:av×ai->H):
  ReturnsInLeavingWide {} Tryz.checked os 5 .any (λw args=>(Rows.fnSaveTwoSpec.pre enc ag Tryz.f5 Rows.fnSaveTwoRow.domain af w args/\laidMetH ag Rows.fnSaveTwoRow.laid w)/\sizedMet enc ag Tryz.f5 (OpenSpec.ofChange Rows.fnSaveTwoSpec) af w args)
   (Rows.fnSaveTwoSpec.post enc ag Tryz.f5 af ab af af):=by
 refine Go.AM.o8 (C:=Tryz.checked) (X:=λw _=>laidMetH ag Rows.fnSaveTwoRow.laid w) (λ_ _ _ hh h=>h.of_heap hh) own e Tryz.func5
  (ChangeSpec.witness_shaped (enc:=enc) (C:=Tryz.checked) (os:=os) (X:=λw _=>laidMetH ag Rows.fnSaveTwoRow.laid w) af (vt os) #[.slice ae 0 0,.slice ae 0 0] 8 (World.laidAll_os _ _ _)
   (World.shaped_of_ZipB (by kernel_rfl) (by kernel_rfl)) (by kernel_rfl) (by kernel_rfl) (by kernel_rfl)
   (oi os _)) ?_
 intro W base args ds gs before vu hW MJ hL;have a:∀(j:Nat) t v,Tryz.f5.params[j]?=aa t->args[j]?=aa v->Value.okWide ag W .any base t v:=vu;have L:=hW;obtain⟨p,q,B,hV,rfl,_,_⟩:=hW;have Z:DataW.TrodAll enc ag W 0 (λ_=>ab) ab Tryz.f5.params.toList args.toList ds p:=B;rw[Tryz.params5]at Z a;obtain⟨v0,ZD,d0,ds0,p0,q0,J,rfl,rfl,Y,r0⟩:=trodAll_cons Z;obtain⟨v1,vs1,d1,ds1,p1,q1,rfl,rfl,rfl,h1,r1⟩:=trodAll_cons r0;obtain⟨rfl,rfl,rfl⟩:=trodAll_nil r1;obtain rfl:args=#[v0,v1]:=by cases args;simp_all
 obtain⟨a0,g,o,rfl⟩:=okWide_slice aO (a 0 22 v0 rfl rfl);obtain⟨a1,kV,y,rfl⟩:=okWide_slice aO (a 1 22 v1 rfl rfl);have V:=Y;have N:∀x∈p0,x.block<W.heap.size:=by obtain⟨m,K⟩:=V;exact DataW.trod_lt m _ _ _ K
 have k1:=h1;have S:∀x∈p1,x.block<W.heap.size:=by obtain⟨m,K⟩:=k1;exact DataW.trod_lt m _ _ _ K
 clear B vu;obtain⟨b0,P,E,O⟩:=kZ Y;obtain⟨b1,F,Q,G⟩:=kZ h1;obtain⟨l,hK⟩:=Go.AM.kU hL MJ W7 nK yK Tryz.underlying61 (gM (by kernel_rfl)) zK;obtain⟨k,hP⟩:=Go.AM.kU hL MJ W8 nP yP Tryz.underlying61 (gM (by kernel_rfl)) zP;have hE:=Go.AM.qg hL MJ CN rfl rfl nE DO yq (gM (by kernel_rfl)) zE;have I:∀x∈([(1,61,.iface l.1 l.2),(2,61,.iface k.1 k.2),(0,130,Go.AM.R1.rT 61)]:List Go.AM.Gl),W.heap[x.1]?=aa (.cells #[x.2.2] x.2.1 (0,0)):=by
  intro x A;simp only[eb,qI,jy]at A;rcases A with rfl|rfl|rfl
  .exact hK
  .exact hP
  .exact hE
 have hi:∀x∈([(1,61,.iface l.1 l.2),(2,61,.iface k.1 k.2),(0,130,Go.AM.R1.rT 61)]:List Go.AM.Gl),∃T u,x.2.2=.iface T u:=by intro x A;simp only[eb,qI,jy]at A;rcases A with rfl|rfl|rfl<;>exact⟨_,_,rfl⟩
 have s:∀(b:Nat->Int) (i j:Nat) (c:Go.AM.C),(Go.AM.R1.ud b i)[j]?=aa c->∃kd m,c=Go.AM.C.int kd m:=λb i j c h=>by
  cases j with
  |zero=>cases h;exact⟨_,_,rfl⟩
  |succ j=>simp[Go.AM.R1.ud]at h
 refine Go.AM.ek.LB (gs:=[(1,61,.iface l.1 l.2),(2,61,.iface k.1 k.2),(0,130,Go.AM.R1.rT 61)]) (vs:=[.slice a0 g o,.slice a1 kV y]) (Go.AM.R1.zo l k g kV b0 b1 P F E Q).sH (by kernel_rfl) (show[1,2,0].Nodup by decide) I ⟨Go.AM.Rd.rD I hi (s _) O,Go.AM.Rd.rD I hi (s _) G,ak⟩ λ_ v s' hv hb d=>?_;have R:Rd s'.M v (.bool ab):=hv;cases R;have f:Below W.heap.size W (s'.w.at d):=⟨hb.os,hb.tape,hb.output,hb.size,hb.block⟩;obtain⟨z,D,rfl⟩:∃z D,gs=[z,D]:=by
  have n:=hV;rcases gs with _|⟨z,_|⟨D,_|⟨g3,r⟩⟩⟩
  .exact n.elim
  .obtain⟨_,_,_,_,_,_,_,_,_,_,h,_⟩:=n;exact h.elim
  .exact⟨z,D,rfl⟩
  .obtain⟨_,_,_,_,_,_,_,_,_,_,h,_⟩:=n;obtain⟨_,_,_,_,_,_,_,_,_,_,h,_⟩:=h;exact h.elim
 have U:DataW.TrodVars enc ag (s'.w.at d) (λb=>decide (b<W.heap.size)) Rows.fnSaveTwoSpec.vars [z,D] q:=Below.trodVars laidOut f (by kernel_rfl) hV;exact⟨_,_,_,[],_,_,L,trodAll_mk1 (shut_bool Tryz.underlying4 _),(trodAll_cons_mk (Below.trod laidOut (by kernel_rfl) (gM (by kernel_rfl)) V f N) (trodAll_cons_mk (Below.trod laidOut (by kernel_rfl) (gM (by kernel_rfl)) k1 f S) trodAll_mk0)),U,f.frame _,λh=>by cases h⟩
theorem facts{P:aJ}{f:aH}{fn:Func}{s:ChangeSpec}{c:OpenClaim}(r:c.wf (OpenSpec.ofChange s)=ab)(v:(laidOutB P&&mapsRowed P)=ab)(o:(fn.params.all (P.readableRec ·)&&namedTie P c.named s.vars)=ab)(l:((c.stops==[])&&(P.stops==[])&&(c.knobs==[])&&(P.stopKnobs==[]))=ab)(u:(c.inPlace==P.inPlace f)=ab)(q:(c.unfollowed==P.unfollowed f)=ab)(n:(c.recurses==P.recurses f)=ab)(w:(c.named==P.varsNamed f)=ab)(p:((c.maps==(fn.params.toList++s.plain.varTypes P).any (P.mapsRec ·))&&(c.ifaces==(fn.params.toList++s.plain.varTypes P).any (P.ifacesRec ·))&&(c.mapsOut==P.mapsAmong fn.resultTypes.toList))=ab)(m:((c.loops==(fn.params.toList++s.plain.varTypes P).any (P.loopsFrom ·))&&(c.wideKeys==(fn.params.toList++s.plain.varTypes P++fn.resultTypes.toList).any (P.wideKeysFrom ·)))=ab)(b:(s.vars.all (P.varReadable ·)&&fn.resultTypes.all (λt=>P.readableRec t&&decide (t<P.types.size))&&(c.ifacesOut==fn.resultTypes.toList.any (P.ifacesRec ·))&&(c.loopsOut==fn.resultTypes.toList.any (P.loopsFrom ·)))=ab)(e:(c.plainKeys==P.plainKeys)=ab)(j:c.shortTexts.isNone=ab)(a:P.stopsHeard=ab)(d:P.mayEnter=ab)(k:(c.lifted==P.liftsFinal)=ab)(i:(P.make==aa c.make)=ab)(h:((c.kinds==[])&&c.domain.isEmpty&&(c.pinned==c.pinnedBy))=ab)(g:((c.veiled==(fn.params.toList++s.plain.varTypes P++fn.resultTypes.toList).any (P.veiledRec ·))&&c.veiledFits P fn.params.toList (fn.params.toList++s.plain.varTypes P++fn.resultTypes.toList))=ab):
  joinedFacts P f fn s c=ab:=by simp only[bM]at *;simp only[joinedFacts,bM];simp only[*,b6,and_self]
theorem DQ:Rows.fnSaveTwoRow.wf (OpenSpec.ofChange Rows.fnSaveTwoSpec)=ab:=by kernel_rfl
theorem DR:(laidOutB Tryz.checked.prog&&mapsRowed Tryz.checked.prog)=ab:=by kernel_rfl
theorem DS:(Tryz.f5.params.all (Tryz.checked.prog.readableRec ·)&&namedTie Tryz.checked.prog Rows.fnSaveTwoRow.named Rows.fnSaveTwoSpec.vars)=ab:=by kernel_rfl
theorem DT:((Rows.fnSaveTwoRow.stops==[])&&(Tryz.checked.prog.stops==[])&&(Rows.fnSaveTwoRow.knobs==[])&&(Tryz.checked.prog.stopKnobs==[]))=ab:=by kernel_rfl
theorem DU:(Rows.fnSaveTwoRow.inPlace==Tryz.checked.prog.inPlace 5)=ab:=by kernel_rfl
theorem DV:(Rows.fnSaveTwoRow.unfollowed==Tryz.checked.prog.unfollowed 5)=ab:=by kernel_rfl
theorem DW:(Rows.fnSaveTwoRow.recurses==Tryz.checked.prog.recurses 5)=ab:=by kernel_rfl
theorem DX:(Rows.fnSaveTwoRow.named==Tryz.checked.prog.varsNamed 5)=ab:=by kernel_rfl
theorem DY:((Rows.fnSaveTwoRow.maps==(Tryz.f5.params.toList++Rows.fnSaveTwoSpec.plain.varTypes Tryz.checked.prog).any (Tryz.checked.prog.mapsRec ·))&&(Rows.fnSaveTwoRow.ifaces==(Tryz.f5.params.toList++Rows.fnSaveTwoSpec.plain.varTypes Tryz.checked.prog).any (Tryz.checked.prog.ifacesRec ·))&&(Rows.fnSaveTwoRow.mapsOut==Tryz.checked.prog.mapsAmong Tryz.f5.resultTypes.toList))=ab:=by kernel_rfl
theorem DZ:((Rows.fnSaveTwoRow.loops==(Tryz.f5.params.toList++Rows.fnSaveTwoSpec.plain.varTypes Tryz.checked.prog).any (Tryz.checked.prog.loopsFrom ·))&&(Rows.fnSaveTwoRow.wideKeys==(Tryz.f5.params.toList++Rows.fnSaveTwoSpec.plain.varTypes Tryz.checked.prog++Tryz.f5.resultTypes.toList).any (Tryz.checked.prog.wideKeysFrom ·)))=ab:=by kernel_rfl
theorem yt:(Rows.fnSaveTwoSpec.vars.all (Tryz.checked.prog.varReadable ·)&&Tryz.f5.resultTypes.all (λt=>Tryz.checked.prog.readableRec t&&decide (t<Tryz.checked.prog.types.size))&&(Rows.fnSaveTwoRow.ifacesOut==Tryz.f5.resultTypes.toList.any (Tryz.checked.prog.ifacesRec ·))&&(Rows.fnSaveTwoRow.loopsOut==Tryz.f5.resultTypes.toList.any (Tryz.checked.prog.loopsFrom ·)))=ab:=by kernel_rfl
theorem yu:(Rows.fnSaveTwoRow.plainKeys==Tryz.checked.prog.plainKeys)=ab:=by kernel_rfl
theorem yv:Rows.fnSaveTwoRow.shortTexts.isNone=ab:=by kernel_rfl
theorem yw:Tryz.checked.prog.stopsHeard=ab:=by kernel_rfl
theorem yx:Tryz.checked.prog.mayEnter=ab:=by kernel_rfl
theorem yy:(Rows.fnSaveTwoRow.lifted==Tryz.checked.prog.liftsFinal)=ab:=by kernel_rfl
theorem yz:(Tryz.checked.prog.make==aa Rows.fnSaveTwoRow.make)=ab:=by kernel_rfl
theorem yA:((Rows.fnSaveTwoRow.kinds==[])&&Rows.fnSaveTwoRow.domain.isEmpty&&(Rows.fnSaveTwoRow.pinned==Rows.fnSaveTwoRow.pinnedBy))=ab:=by kernel_rfl
theorem yB:((Rows.fnSaveTwoRow.veiled==(Tryz.f5.params.toList++Rows.fnSaveTwoSpec.plain.varTypes Tryz.checked.prog++Tryz.f5.resultTypes.toList).any (Tryz.checked.prog.veiledRec ·))&&Rows.fnSaveTwoRow.veiledFits Tryz.checked.prog Tryz.f5.params.toList (Tryz.f5.params.toList++Rows.fnSaveTwoSpec.plain.varTypes Tryz.checked.prog++Tryz.f5.resultTypes.toList))=ab:=by kernel_rfl
theorem closed:joinedFacts Tryz.checked.prog 5 Tryz.f5 Rows.fnSaveTwoSpec Rows.fnSaveTwoRow=ab :=
 facts DQ DR DS DT DU DV DW DX DY DZ yt yu yv yw yx yy yz yA yB
theorem named:Tryz.pinned.checked.prog.funcNamed Rows.fnSaveTwoRow.func=aa 5:=by kernel_rfl
theorem over:Rows.FnSaveTwoSaid :=
 OpenClaim.holds_of_wide_leaving 5 Tryz.f5 rfl rfl rfl rfl rfl rfl rfl ⟨rfl,rfl,rfl,rfl,rfl⟩ rfl rfl rfl rfl rfl named Tryz.func5 closed
  (gM (by kernel_rfl)) (by unfold Func.isWrapper;first|(rw[bo (by decide +kernel)];kernel_rfl)|(rw[aY (by decide +kernel)];exact⟨rfl,rfl⟩))
  (λos started H enc _=>lifted os started H enc)
theorem fnSaveTwo_proved:Rows.FnSaveTwoCardSaid :=
 Go.AM.uP .later [] [.data,.handle,.sentinel,.sentinel,.pinned] ab (ab,"e791029eac0f26994153e37c9b97e28ae0f01d32b22e00b821f9a9374cd62c63") ab over (λ_ h=>by cases h) (by kernel_rfl) (λ_ h=>by cases h) fnSaveTwo_row_tie rfl ⟨rfl,rfl⟩ (by kernel_rfl) rfl
  (λf fn hf Pq=>by
   obtain rfl:f=5:=l4 ((show Tryz.prog.funcNamed "loop.example/depositary/laws.FnSaveTwo"=aa 5 by kernel_rfl).symm.trans hf) |>.symm
   obtain rfl:fn=Tryz.f5:=(l4 (Tryz.func5.symm.trans Pq)).symm;exact⟨by kernel_rfl,λj t b=>by
    rw[Tryz.params5]at b;have c:t∈[22]:=by have:=qy b;simp at this⊢;exact this
    have a:([22].all λu=>!Tryz.prog.wantsStandIn u)=ab:=by kernel_rfl
    exact(show Tryz.prog.wantsStandIn t=af by simpa using bz.1 a t c)⟩)
  (by kernel_rfl)
#print axioms fnSaveTwo_proved
end Go.Proofs.YtmikbgondjokcaaGreatDoor

