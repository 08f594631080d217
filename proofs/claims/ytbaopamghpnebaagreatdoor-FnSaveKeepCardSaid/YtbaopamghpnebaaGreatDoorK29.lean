/-
  For every input the law FnSaveKeep returns true, and the input reads as it did: the tied card FnSaveKeepCardSaid. No condition.
-/
import Derived.Test.YtbaopamghpnebaaGreatDoorA6
import Derived.Test.YtbaopamghpnebaaGreatDoorTie
import Derived.Test.YtbaopamghpnebaaGreatDoorCards
import Derived.ProofKit
import Derived.OpenShut
import Derived.OpenVars
import Derived.LaidMore
import Derived.Lay
import Derived.SevenTiedAt
import Derived.Below
import Derived.LaidHandle
import Derived.LaidLaws
set_option linter.all false
set_option maxHeartbeats 8000000
open Go renaming Value → ah, Program → aq, TypeId → aj, World → aA, FuncId → aJ
open Option renaming some → aa, none → ae
open Bool renaming true → ab, false → af
open Go.World renaming cell? → aV
open List renaming getD_eq_getElem?_getD → ar, range → bg
open Go.Proofs.Tryz renaming prog → ag
namespace Go.Proofs.YtbaopamghpnebaaGreatDoor
open Go.ChangeShapes Go.WideShapes Go.ChangeAt Go.RowKit
open Go.AM (dj Rd St.top)
theorem own:ownKnob Tryz.prog.godebug=ae:=by kernel_rfl
theorem laidOut:laidOutB ag=ab:=by kernel_rfl
theorem Ll{w:aA}{a:Addr}{v:ah}(h:w.cell? (a.add 0)=aa v):a=⟨a.block,a.off,ae⟩:=by
 obtain⟨b,o,s⟩:=a;cases s with
 |none=>rfl
 |some q =>
  simp only[Addr.add,cj,aV]at h;split at h
  .simp at h
  .cases h
theorem OM{w:aA}{a:Addr}{n:Nat}{v:ah}(h:w.cell? (a.add n)=aa v):w.cell? ⟨a.block,a.off+n,ae⟩=aa v:=by
 by_cases e:n=0
 .subst e;have c:=Ll h;obtain⟨b,o,s⟩:=a;simp only[Addr.mk.injEq,aG]at c;subst c;exact h
 .simpa only[Addr.add,aZ e]using h
theorem VV{n:Int}(h:(Lit.int .u8 n).wf=ab):0<=n/\n<=255:=by simp only[Lit.wf,IntKind.min,IntKind.max,IntKind.signed,IntKind.bits]at h;simp at h;omega
set_option maxRecDepth 100000 in
theorem HY{H:Type}{enc:aj×ah->H}{W:aA}{a:Option Addr}{len cap:Nat}{d:DataW H}{p:List MemPlace}(h:DataW.Trod enc ag W 0 (λ_=>ab) ab 22 (.slice a len cap) d p):
  ∃b:Nat->Int,Go.AM.R1.Bytes b/\len<=9223372036854775807/\dj [] (St.top W) (.slice a len cap) (.e (.one (.c (.sl af 1 len (Go.AM.R1.Gz b))))):=by
 obtain⟨v,D⟩:=h;rcases open_ints Tryz.underlying22 Tryz.underlying5 (by kernel_rfl) D with⟨g,_⟩|⟨x,n,c,f,g,_,B,A,y,_,l,m⟩
 .simp[Value.cells]at g;obtain⟨rfl,rfl,rfl⟩:=g;exact⟨λ_=>0,λ_=>⟨Int.le_refl 0,show(0:Int)<=255 by decide⟩,by omega,Rd.jF⟩
 .simp[Value.cells]at g;obtain⟨rfl,rfl,rfl⟩:=g;simp only[cj]at y;simp only[maxLen]at A;refine⟨λi=>f.getD i 0,λi=>?_,by omega,?_⟩
  .by_cases hi:i<f.length
   .have:=m (f.getD i 0) (by rw[ar,br hi];exact rH hi);exact VV this
   .simp[ar,rD (by omega:f.length<=i)]
  .show Rd _ _ _;refine Rd.qN (k:=1) (n:=len) (vs:=(f.take len).map λz=>.int .u8 z) (a:=aa x) (b:=x.block) (off:=x.off) (cap:=cap) (t:=af) ⟨by simp;omega,λi hi=>rfl,λi hi j c o=>?_⟩ (λE=>?_) B (by omega) (by simp) (λp u q=>?_)
   .have s:j=0:=by have:=(bY.1 o).1;simp[Go.AM.R1.Gz]at this;omega
    subst s;have C:c=.int .u8 (f.getD i 0):=by simp only[Go.AM.R1.Gz,la,dm]at o;exact o.symm
    subst C;have w:=VV (m (f.getD i 0) (by rw[ar,br (by omega:i<f.length)];exact rH _));refine⟨.int .u8 (f.getD i 0),?_,Rd.int w⟩;simp[iL,hi,ar,br (by omega:i<f.length)]
   .exact dA aa (Ll (l 0 (by omega)))
   .have r:p<len:=by have:=(bY.1 q).1;simp at this;omega
    have:u=.int .u8 (f.getD p 0):=by simp[iL,r,br (by omega:p<f.length)]at q;rw[<-q];simp[ar,br (by omega:p<f.length)]
    subst this;exact OM (l p (by omega))
noncomputable def QB(os:Os):aA :=
 let w0:=World.laidAll ag os (Rows.fnSaveKeepRow.laid.filter λx=>x.2.handleName?.isNone)
 {w0 with heap:=w0.heap.modify 0 λ
   |.cells _ t a=>.cells #[.iface 174 (.agg #[typeHandle ag 57])] t a
   |o=>o}
theorem HZ(os:Os)(args:Array ah):laidMetH ag Rows.fnSaveKeepRow.laid ((QB os).forCall (λ_ _=>0) ⟨#[],args,[]⟩).memory :=
 laidMetH_of_parts (laidMet_of_run' 8 (by kernel_rfl) (by kernel_rfl)) (by kernel_rfl)
theorem nK:Tryz.prog.globalNamed "loop.example/depositary/impl.errKey"=aa 1:=by kernel_rfl
theorem nP:Tryz.prog.globalNamed "loop.example/depositary/impl.errPiece"=aa 2:=by kernel_rfl
theorem nE:Tryz.prog.globalNamed "errors.errorType"=aa 0:=by kernel_rfl
theorem yK:(Tryz.prog.globals[1]?).map (·.type)=aa 57:=by kernel_rfl
theorem yP:(Tryz.prog.globals[2]?).map (·.type)=aa 57:=by kernel_rfl
theorem zK:(((begin ag (λ_ _=>0) default).world.heap[1]?).bind Obj.row?)=aa (#[.nilIface],57):=by kernel_rfl
theorem zP:(((begin ag (λ_ _=>0) default).world.heap[2]?).bind Obj.row?)=aa (#[.nilIface],57):=by kernel_rfl
theorem zE:(((begin ag (λ_ _=>0) default).world.heap[0]?).bind Obj.row?)=aa (#[.nilIface],126):=by kernel_rfl
theorem VW:(Tryz.prog.cutTypes.find? (·.1== "internal/reflectlite.rtype")).map (·.2)=aa 174:=by kernel_rfl
theorem SG:((bg Tryz.prog.types.size).filter λt=>Tryz.prog.rowNamed t [101,114,114,111,114])=[57]:=by kernel_rfl
theorem inK:("loop.example/depositary/impl.errKey",Rows.laid_loop_example_depositary_impl_errKey)∈Rows.fnSaveKeepRow.laid.filter λx=>x.2.handleName?.isNone:=lf.2 ⟨by simp[Rows.fnSaveKeepRow],by kernel_rfl⟩
theorem inP:("loop.example/depositary/impl.errPiece",Rows.laid_loop_example_depositary_impl_errPiece)∈Rows.fnSaveKeepRow.laid.filter λx=>x.2.handleName?.isNone:=lf.2 ⟨by simp[Rows.fnSaveKeepRow],by kernel_rfl⟩
theorem Hd:("errors.errorType",Rows.laid_errors_errorType)∈Rows.fnSaveKeepRow.laid.filter λx=>x.2.handleName?.isSome:=lf.2 ⟨by simp[Rows.fnSaveKeepRow],by kernel_rfl⟩
set_option maxRecDepth 100000 in
theorem lifted(os:Os)(a:os.Started)(H:Type)(enc:aj×ah->H):
  ReturnsInLeavingWide {} Tryz.checked os 3 .any (λw args=>(Rows.fnSaveKeepSpec.pre enc ag Tryz.f3 Rows.fnSaveKeepRow.domain af w args/\laidMetH ag Rows.fnSaveKeepRow.laid w)/\sizedMet enc ag Tryz.f3 (OpenSpec.ofChange Rows.fnSaveKeepSpec) af w args)
   (Rows.fnSaveKeepSpec.post enc ag Tryz.f3 af ab af af):=by
 refine Go.AM.AJ (C:=Tryz.checked) (X:=λw _=>laidMetH ag Rows.fnSaveKeepRow.laid w) (λ_ _ _ Z h=>h.of_heap Z) own a Tryz.func3
  (ChangeSpec.witness_shaped (enc:=enc) (C:=Tryz.checked) (os:=os) (X:=λw _=>laidMetH ag Rows.fnSaveKeepRow.laid w) af (QB os) #[.slice ae 0 0] 8 (World.laidAll_os _ _ _)
   (World.shaped_of_ZipB (by kernel_rfl) (by kernel_rfl)) (by kernel_rfl) (by kernel_rfl) (by kernel_rfl)
   (HZ os _)) ?_
 intro W base args ds gs before QC hW Ze hL;have f:∀(j:Nat) t v,Tryz.f3.params[j]?=aa t->args[j]?=aa v->Value.okWide ag W .any base t v:=QC;have F:=hW;obtain⟨p,q,s,Q,rfl,_,_⟩:=hW;have P:DataW.TrodAll enc ag W 0 (λ_=>ab) ab Tryz.f3.params.toList args.toList ds p:=s;rw[Tryz.params3]at P f;obtain⟨v0,vs0,d0,ds0,p0,q0,G,rfl,rfl,O,r0⟩:=trodAll_cons P;obtain⟨rfl,rfl,rfl⟩:=trodAll_nil r0;obtain rfl:args=#[v0]:=by cases args;simp_all
 obtain⟨S,e,y,rfl⟩:=okWide_slice Tryz.underlying22 (f 0 22 v0 rfl rfl);have R:=O;have E:∀x∈p0,x.block<W.heap.size:=by obtain⟨m,Y⟩:=R;exact DataW.trod_lt m _ _ _ Y
 clear s QC;obtain⟨U,K,I,L⟩:=HY O;obtain⟨g,V⟩:=Go.AM.wW hL Ze inK nK yK Tryz.underlying57 (oV (by kernel_rfl)) zK;obtain⟨k,hP⟩:=Go.AM.wW hL Ze inP nP yP Tryz.underlying57 (oV (by kernel_rfl)) zP;have hE:=Go.AM.Cc hL Ze Hd rfl rfl nE VW SG (oV (by kernel_rfl)) zE;have N:∀x∈([(1,57,.iface g.1 g.2),(2,57,.iface k.1 k.2),(0,126,Go.AM.R1.rT 57)]:List Go.AM.Gl),W.heap[x.1]?=aa (.cells #[x.2.2] x.2.1 (0,0)):=by
  intro x o;simp only[eE,List.mem_nil_iff,mo]at o;rcases o with rfl|rfl|rfl
  .exact V
  .exact hP
  .exact hE
 have hi:∀x∈([(1,57,.iface g.1 g.2),(2,57,.iface k.1 k.2),(0,126,Go.AM.R1.rT 57)]:List Go.AM.Gl),∃T u,x.2.2=.iface T u:=by intro x o;simp only[eE,List.mem_nil_iff,mo]at o;rcases o with rfl|rfl|rfl<;>exact⟨_,_,rfl⟩
 have D:∀(b:Nat->Int) (i j:Nat) (c:Go.AM.C),(Go.AM.R1.Gz b i)[j]?=aa c->∃kd m,c=Go.AM.C.int kd m:=λb i j c h=>by
  cases j with
  |zero=>cases h;exact⟨_,_,rfl⟩
  |succ j=>simp[Go.AM.R1.Gz]at h
 refine Go.AM.eb.Va (gs:=[(1,57,.iface g.1 g.2),(2,57,.iface k.1 k.2),(0,126,Go.AM.R1.rT 57)]) (vs:=[.slice S e y]) (Go.AM.R1.xw g k e U K I).tc (by kernel_rfl) (show[1,2,0].Nodup by decide) N ⟨Go.AM.Rd.uN N hi (D _) L,ay⟩ λ_ v s' hv hb d=>?_;have J:Rd s'.M v (.bool ab):=hv;cases J;have l:Below W.heap.size W (s'.w.at d):=⟨hb.os,hb.tape,hb.output,hb.size,hb.block⟩;obtain⟨z,A,rfl⟩:∃z A,gs=[z,A]:=by
  have n:=Q;rcases gs with _|⟨z,_|⟨A,_|⟨g3,r⟩⟩⟩
  .exact n.elim
  .obtain⟨_,_,_,_,_,_,_,_,_,_,h,_⟩:=n;exact h.elim
  .exact⟨z,A,rfl⟩
  .obtain⟨_,_,_,_,_,_,_,_,_,_,h,_⟩:=n;obtain⟨_,_,_,_,_,_,_,_,_,_,h,_⟩:=h;exact h.elim
 have B:DataW.TrodVars enc ag (s'.w.at d) (λb=>decide (b<W.heap.size)) Rows.fnSaveKeepSpec.vars [z,A] q:=Below.trodVars laidOut l (by kernel_rfl) Q;exact⟨_,_,_,[],_,_,F,trodAll_mk1 (shut_bool Tryz.underlying4 _),(trodAll_cons_mk (Below.trod laidOut (by kernel_rfl) (oV (by kernel_rfl)) R l E) trodAll_mk0),B,l.frame _,λh=>by cases h⟩
theorem facts{P:aq}{f:aJ}{fn:Func}{s:ChangeSpec}{c:OpenClaim}(p:c.wf (OpenSpec.ofChange s)=ab)(w:(laidOutB P&&mapsRowed P)=ab)(n:(fn.params.all (P.readableRec ·)&&namedTie P c.named s.vars)=ab)(v:((c.stops==[])&&(P.stops==[])&&(c.knobs==[])&&(P.stopKnobs==[]))=ab)(u:(c.inPlace==P.inPlace f)=ab)(l:(c.unfollowed==P.unfollowed f)=ab)(r:(c.recurses==P.recurses f)=ab)(q:(c.named==P.varsNamed f)=ab)(m:((c.maps==(fn.params.toList++s.plain.varTypes P).any (P.mapsRec ·))&&(c.ifaces==(fn.params.toList++s.plain.varTypes P).any (P.ifacesRec ·))&&(c.mapsOut==P.mapsAmong fn.resultTypes.toList))=ab)(o:((c.loops==(fn.params.toList++s.plain.varTypes P).any (P.loopsFrom ·))&&(c.wideKeys==(fn.params.toList++s.plain.varTypes P++fn.resultTypes.toList).any (P.wideKeysFrom ·)))=ab)(g:(s.vars.all (P.varReadable ·)&&fn.resultTypes.all (λt=>P.readableRec t&&decide (t<P.types.size))&&(c.ifacesOut==fn.resultTypes.toList.any (P.ifacesRec ·))&&(c.loopsOut==fn.resultTypes.toList.any (P.loopsFrom ·)))=ab)(a:(c.plainKeys==P.plainKeys)=ab)(h:c.shortTexts.isNone=ab)(b:P.stopsHeard=ab)(i:P.mayEnter=ab)(j:(c.lifted==P.liftsFinal)=ab)(k:(P.make==aa c.make)=ab)(d:((c.kinds==[])&&c.domain.isEmpty&&(c.pinned==c.pinnedBy))=ab)(e:((c.veiled==(fn.params.toList++s.plain.varTypes P++fn.resultTypes.toList).any (P.veiledRec ·))&&c.veiledFits P fn.params.toList (fn.params.toList++s.plain.varTypes P++fn.resultTypes.toList))=ab):
  joinedFacts P f fn s c=ab:=by simp only[bR]at *;simp only[joinedFacts,bR];simp only[*,cj,and_self]
theorem VX:Rows.fnSaveKeepRow.wf (OpenSpec.ofChange Rows.fnSaveKeepSpec)=ab:=by kernel_rfl
theorem VY:(laidOutB Tryz.checked.prog&&mapsRowed Tryz.checked.prog)=ab:=by kernel_rfl
theorem VZ:(Tryz.f3.params.all (Tryz.checked.prog.readableRec ·)&&namedTie Tryz.checked.prog Rows.fnSaveKeepRow.named Rows.fnSaveKeepSpec.vars)=ab:=by kernel_rfl
theorem V0:((Rows.fnSaveKeepRow.stops==[])&&(Tryz.checked.prog.stops==[])&&(Rows.fnSaveKeepRow.knobs==[])&&(Tryz.checked.prog.stopKnobs==[]))=ab:=by kernel_rfl
theorem V1:(Rows.fnSaveKeepRow.inPlace==Tryz.checked.prog.inPlace 3)=ab:=by kernel_rfl
theorem V2:(Rows.fnSaveKeepRow.unfollowed==Tryz.checked.prog.unfollowed 3)=ab:=by kernel_rfl
theorem V3:(Rows.fnSaveKeepRow.recurses==Tryz.checked.prog.recurses 3)=ab:=by kernel_rfl
theorem V4:(Rows.fnSaveKeepRow.named==Tryz.checked.prog.varsNamed 3)=ab:=by kernel_rfl
theorem V5:((Rows.fnSaveKeepRow.maps==(Tryz.f3.params.toList++Rows.fnSaveKeepSpec.plain.varTypes Tryz.checked.prog).any (Tryz.checked.prog.mapsRec ·))&&(Rows.fnSaveKeepRow.ifaces==(Tryz.f3.params.toList++Rows.fnSaveKeepSpec.plain.varTypes Tryz.checked.prog).any (Tryz.checked.prog.ifacesRec ·))&&(Rows.fnSaveKeepRow.mapsOut==Tryz.checked.prog.mapsAmong Tryz.f3.resultTypes.toList))=ab:=by kernel_rfl
theorem V6:((Rows.fnSaveKeepRow.loops==(Tryz.f3.params.toList++Rows.fnSaveKeepSpec.plain.varTypes Tryz.checked.prog).any (Tryz.checked.prog.loopsFrom ·))&&(Rows.fnSaveKeepRow.wideKeys==(Tryz.f3.params.toList++Rows.fnSaveKeepSpec.plain.varTypes Tryz.checked.prog++Tryz.f3.resultTypes.toList).any (Tryz.checked.prog.wideKeysFrom ·)))=ab:=by kernel_rfl
theorem SH:(Rows.fnSaveKeepSpec.vars.all (Tryz.checked.prog.varReadable ·)&&Tryz.f3.resultTypes.all (λt=>Tryz.checked.prog.readableRec t&&decide (t<Tryz.checked.prog.types.size))&&(Rows.fnSaveKeepRow.ifacesOut==Tryz.f3.resultTypes.toList.any (Tryz.checked.prog.ifacesRec ·))&&(Rows.fnSaveKeepRow.loopsOut==Tryz.f3.resultTypes.toList.any (Tryz.checked.prog.loopsFrom ·)))=ab:=by kernel_rfl
theorem SI:(Rows.fnSaveKeepRow.plainKeys==Tryz.checked.prog.plainKeys)=ab:=by kernel_rfl
theorem SJ:Rows.fnSaveKeepRow.shortTexts.isNone=ab:=by kernel_rfl
theorem SK:Tryz.checked.prog.stopsHeard=ab:=by kernel_rfl
theorem SL:Tryz.checked.prog.mayEnter=ab:=by kernel_rfl
theorem SM:(Rows.fnSaveKeepRow.lifted==Tryz.checked.prog.liftsFinal)=ab:=by kernel_rfl
theorem SN:(Tryz.checked.prog.make==aa Rows.fnSaveKeepRow.make)=ab:=by kernel_rfl
theorem SP:((Rows.fnSaveKeepRow.kinds==[])&&Rows.fnSaveKeepRow.domain.isEmpty&&(Rows.fnSaveKeepRow.pinned==Rows.fnSaveKeepRow.pinnedBy))=ab:=by kernel_rfl
theorem SQ:((Rows.fnSaveKeepRow.veiled==(Tryz.f3.params.toList++Rows.fnSaveKeepSpec.plain.varTypes Tryz.checked.prog++Tryz.f3.resultTypes.toList).any (Tryz.checked.prog.veiledRec ·))&&Rows.fnSaveKeepRow.veiledFits Tryz.checked.prog Tryz.f3.params.toList (Tryz.f3.params.toList++Rows.fnSaveKeepSpec.plain.varTypes Tryz.checked.prog++Tryz.f3.resultTypes.toList))=ab:=by kernel_rfl
theorem closed:joinedFacts Tryz.checked.prog 3 Tryz.f3 Rows.fnSaveKeepSpec Rows.fnSaveKeepRow=ab :=
 facts VX VY VZ V0 V1 V2 V3 V4 V5 V6 SH SI SJ SK SL SM SN SP SQ
theorem named:Tryz.pinned.checked.prog.funcNamed Rows.fnSaveKeepRow.func=aa 3:=by kernel_rfl
theorem over:Rows.FnSaveKeepSaid :=
 OpenClaim.holds_of_wide_leaving 3 Tryz.f3 rfl rfl rfl rfl rfl rfl rfl ⟨rfl,rfl,rfl,rfl,rfl⟩ rfl rfl rfl rfl rfl named Tryz.func3 closed
  (oV (by kernel_rfl)) (by unfold Func.isWrapper;first|(rw[bm (by decide +kernel)];kernel_rfl)|(rw[aZ (by decide +kernel)];exact⟨rfl,rfl⟩))
  (λos started H enc _=>lifted os started H enc)
theorem fnSaveKeep_proved:Rows.FnSaveKeepCardSaid :=
 Go.AM.H0 .later [] [.data,.handle,.sentinel,.sentinel,.pinned] ab (ab,"5e35793546e8267f107b46d0fe433a52c935b876c370e9e78dd50228791e09a2") ab over (λ_ h=>by cases h) (by kernel_rfl) (λ_ h=>by cases h) fnSaveKeep_row_tie rfl ⟨rfl,rfl⟩ (by kernel_rfl) rfl
  (λf fn hf UR=>by
   obtain rfl:f=3:=rK ((show Tryz.prog.funcNamed "loop.example/depositary/laws.FnSaveKeep"=aa 3 by kernel_rfl).symm.trans hf) |>.symm
   obtain rfl:fn=Tryz.f3:=(rK (Tryz.func3.symm.trans UR)).symm;exact⟨by kernel_rfl,λj t b=>by
    rw[Tryz.params3]at b;have c:t∈[22]:=by have:=uY b;simp at this⊢;exact this
    have a:([22].all λu=>!Tryz.prog.wantsStandIn u)=ab:=by kernel_rfl
    exact(show Tryz.prog.wantsStandIn t=af by simpa using List.all_eq_true.1 a t c)⟩)
  (by kernel_rfl)
#print axioms fnSaveKeep_proved
end Go.Proofs.YtbaopamghpnebaaGreatDoor

