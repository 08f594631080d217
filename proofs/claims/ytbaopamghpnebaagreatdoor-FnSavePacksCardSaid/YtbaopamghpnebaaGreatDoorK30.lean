/-
  For every input the law FnSavePacks returns true, and the input reads as it did: the tied card FnSavePacksCardSaid. No condition.
-/
import Derived.Test.YtbaopamghpnebaaGreatDoorA6
import Derived.Test.YtbaopamghpnebaaGreatDoorTie
import Derived.Test.YtbaopamghpnebaaGreatDoorCards
import Derived.ProofKit
import Derived.OpenShut
import Derived.OpenVars
import Derived.LaidMore
import Derived.Lay
import Derived.SevenTiedAt
import Derived.Below
import Derived.LaidHandle
import Derived.LaidLaws
set_option linter.all false
set_option maxHeartbeats 8000000
open Go renaming Value → ah, Program → ar, TypeId → aj, World → aA, FuncId → aJ
open Option renaming some → aa, none → ae
open Bool renaming true → ab, false → af
open Go.World renaming cell? → aV
open List renaming getD_eq_getElem?_getD → aq, range → bg
open Go.Proofs.Tryz renaming prog → ag
namespace Go.Proofs.YtbaopamghpnebaaGreatDoor
open Go.ChangeShapes Go.WideShapes Go.ChangeAt Go.RowKit
open Go.AM (dk Rd St.top)
theorem own:ownKnob Tryz.prog.godebug=ae:=by kernel_rfl
theorem laidOut:laidOutB ag=ab:=by kernel_rfl
theorem Lp{w:aA}{a:Addr}{v:ah}(h:w.cell? (a.add 0)=aa v):a=⟨a.block,a.off,ae⟩:=by
 obtain⟨b,o,s⟩:=a;cases s with
 |none=>rfl
 |some q =>
  simp only[Addr.add,cj,aV]at h;split at h
  .simp at h
  .cases h
theorem OP{w:aA}{a:Addr}{n:Nat}{v:ah}(h:w.cell? (a.add n)=aa v):w.cell? ⟨a.block,a.off+n,ae⟩=aa v:=by
 by_cases e:n=0
 .subst e;have c:=Lp h;obtain⟨b,o,s⟩:=a;simp only[Addr.mk.injEq,aG]at c;subst c;exact h
 .simpa only[Addr.add,aZ e]using h
theorem VR{n:Int}(h:(Lit.int .u8 n).wf=ab):0<=n/\n<=255:=by simp only[Lit.wf,IntKind.min,IntKind.max,IntKind.signed,IntKind.bits]at h;simp at h;omega
set_option maxRecDepth 100000 in
theorem HX{H:Type}{enc:aj×ah->H}{W:aA}{a:Option Addr}{len cap:Nat}{d:DataW H}{p:List MemPlace}(h:DataW.Trod enc ag W 0 (λ_=>ab) ab 22 (.slice a len cap) d p):
  ∃b:Nat->Int,Go.AM.R1.Bytes b/\len<=9223372036854775807/\dk [] (St.top W) (.slice a len cap) (.e (.one (.c (.sl af 1 len (Go.AM.R1.Gz b))))):=by
 obtain⟨v,B⟩:=h;rcases open_ints Tryz.underlying22 Tryz.underlying5 (by kernel_rfl) B with⟨l,_⟩|⟨x,n,c,f,l,_,w,A,y,_,g,m⟩
 .simp[Value.cells]at l;obtain⟨rfl,rfl,rfl⟩:=l;exact⟨λ_=>0,λ_=>⟨Int.le_refl 0,show(0:Int)<=255 by decide⟩,by omega,Rd.jG⟩
 .simp[Value.cells]at l;obtain⟨rfl,rfl,rfl⟩:=l;simp only[cj]at y;simp only[maxLen]at A;refine⟨λi=>f.getD i 0,λi=>?_,by omega,?_⟩
  .by_cases hi:i<f.length
   .have:=m (f.getD i 0) (by rw[aq,br hi];exact rK hi);exact VR this
   .simp[aq,rG (by omega:f.length<=i)]
  .show Rd _ _ _;refine Rd.qR (k:=1) (n:=len) (vs:=(f.take len).map λz=>.int .u8 z) (a:=aa x) (b:=x.block) (off:=x.off) (cap:=cap) (t:=af) ⟨by simp;omega,λi hi=>rfl,λi hi j c s=>?_⟩ (λE=>?_) w (by omega) (by simp) (λp u q=>?_)
   .have r:j=0:=by have:=(bY.1 s).1;simp[Go.AM.R1.Gz]at this;omega
    subst r;have D:c=.int .u8 (f.getD i 0):=by simp only[Go.AM.R1.Gz,la,dn]at s;exact s.symm
    subst D;have C:=VR (m (f.getD i 0) (by rw[aq,br (by omega:i<f.length)];exact rK _));refine⟨.int .u8 (f.getD i 0),?_,Rd.int C⟩;simp[iN,hi,aq,br (by omega:i<f.length)]
   .exact dA aa (Lp (g 0 (by omega)))
   .have o:p<len:=by have:=(bY.1 q).1;simp at this;omega
    have:u=.int .u8 (f.getD p 0):=by simp[iN,o,br (by omega:p<f.length)]at q;rw[<-q];simp[aq,br (by omega:p<f.length)]
    subst this;exact OP (g p (by omega))
noncomputable def QE(os:Os):aA :=
 let w0:=World.laidAll ag os (Rows.fnSavePacksRow.laid.filter λx=>x.2.handleName?.isNone)
 {w0 with heap:=w0.heap.modify 0 λ
   |.cells _ t a=>.cells #[.iface 174 (.agg #[typeHandle ag 57])] t a
   |o=>o}
theorem HY(os:Os)(args:Array ah):laidMetH ag Rows.fnSavePacksRow.laid ((QE os).forCall (λ_ _=>0) ⟨#[],args,[]⟩).memory :=
 laidMetH_of_parts (laidMet_of_run' 8 (by kernel_rfl) (by kernel_rfl)) (by kernel_rfl)
theorem nK:Tryz.prog.globalNamed "loop.example/depositary/impl.errKey"=aa 1:=by kernel_rfl
theorem nP:Tryz.prog.globalNamed "loop.example/depositary/impl.errPiece"=aa 2:=by kernel_rfl
theorem nE:Tryz.prog.globalNamed "errors.errorType"=aa 0:=by kernel_rfl
theorem yK:(Tryz.prog.globals[1]?).map (·.type)=aa 57:=by kernel_rfl
theorem yP:(Tryz.prog.globals[2]?).map (·.type)=aa 57:=by kernel_rfl
theorem zK:(((begin ag (λ_ _=>0) default).world.heap[1]?).bind Obj.row?)=aa (#[.nilIface],57):=by kernel_rfl
theorem zP:(((begin ag (λ_ _=>0) default).world.heap[2]?).bind Obj.row?)=aa (#[.nilIface],57):=by kernel_rfl
theorem zE:(((begin ag (λ_ _=>0) default).world.heap[0]?).bind Obj.row?)=aa (#[.nilIface],126):=by kernel_rfl
theorem VS:(Tryz.prog.cutTypes.find? (·.1== "internal/reflectlite.rtype")).map (·.2)=aa 174:=by kernel_rfl
theorem SF:((bg Tryz.prog.types.size).filter λt=>Tryz.prog.rowNamed t [101,114,114,111,114])=[57]:=by kernel_rfl
theorem inK:("loop.example/depositary/impl.errKey",Rows.laid_loop_example_depositary_impl_errKey)∈Rows.fnSavePacksRow.laid.filter λx=>x.2.handleName?.isNone:=lf.2 ⟨by simp[Rows.fnSavePacksRow],by kernel_rfl⟩
theorem inP:("loop.example/depositary/impl.errPiece",Rows.laid_loop_example_depositary_impl_errPiece)∈Rows.fnSavePacksRow.laid.filter λx=>x.2.handleName?.isNone:=lf.2 ⟨by simp[Rows.fnSavePacksRow],by kernel_rfl⟩
theorem Hd:("errors.errorType",Rows.laid_errors_errorType)∈Rows.fnSavePacksRow.laid.filter λx=>x.2.handleName?.isSome:=lf.2 ⟨by simp[Rows.fnSavePacksRow],by kernel_rfl⟩
set_option maxRecDepth 100000 in
theorem lifted(os:Os)(a:os.Started)(H:Type)(enc:aj×ah->H):
  ReturnsInLeavingWide {} Tryz.checked os 4 .any (λw args=>(Rows.fnSavePacksSpec.pre enc ag Tryz.f4 Rows.fnSavePacksRow.domain af w args/\laidMetH ag Rows.fnSavePacksRow.laid w)/\sizedMet enc ag Tryz.f4 (OpenSpec.ofChange Rows.fnSavePacksSpec) af w args)
   (Rows.fnSavePacksSpec.post enc ag Tryz.f4 af ab af af):=by
 refine Go.AM.AL (C:=Tryz.checked) (X:=λw _=>laidMetH ag Rows.fnSavePacksRow.laid w) (λ_ _ _ Y h=>h.of_heap Y) own a Tryz.func4
  (ChangeSpec.witness_shaped (enc:=enc) (C:=Tryz.checked) (os:=os) (X:=λw _=>laidMetH ag Rows.fnSavePacksRow.laid w) af (QE os) #[.slice ae 0 0] 8 (World.laidAll_os _ _ _)
   (World.shaped_of_ZipB (by kernel_rfl) (by kernel_rfl)) (by kernel_rfl) (by kernel_rfl) (by kernel_rfl)
   (HY os _)) ?_
 intro W base args ds gs before QF hW Zc hL;have f:∀(j:Nat) t v,Tryz.f4.params[j]?=aa t->args[j]?=aa v->Value.okWide ag W .any base t v:=QF;have I:=hW;obtain⟨p,q,s,Q,rfl,_,_⟩:=hW;have O:DataW.TrodAll enc ag W 0 (λ_=>ab) ab Tryz.f4.params.toList args.toList ds p:=s;rw[Tryz.params4]at O f;obtain⟨v0,Z,d0,S,p0,q0,E,rfl,rfl,N,r0⟩:=trodAll_cons O;obtain⟨rfl,rfl,rfl⟩:=trodAll_nil r0;obtain rfl:args=#[v0]:=by cases args;simp_all
 obtain⟨a0,e,o,rfl⟩:=okWide_slice Tryz.underlying22 (f 0 22 v0 rfl rfl);have R:=N;have K:∀x∈p0,x.block<W.heap.size:=by obtain⟨m,hm⟩:=R;exact DataW.trod_lt m _ _ _ hm
 clear s QF;obtain⟨b0,L,D,J⟩:=HX N;obtain⟨k,hK⟩:=Go.AM.w5 hL Zc inK nK yK Tryz.underlying57 (oY (by kernel_rfl)) zK;obtain⟨l,V⟩:=Go.AM.w5 hL Zc inP nP yP Tryz.underlying57 (oY (by kernel_rfl)) zP;have U:=Go.AM.Cc hL Zc Hd rfl rfl nE VS SF (oY (by kernel_rfl)) zE;have P:∀x∈([(1,57,.iface k.1 k.2),(2,57,.iface l.1 l.2),(0,126,Go.AM.R1.rT 57)]:List Go.AM.Gl),W.heap[x.1]?=aa (.cells #[x.2.2] x.2.1 (0,0)):=by
  intro x A;simp only[eE,List.mem_nil_iff,mq]at A;rcases A with rfl|rfl|rfl
  .exact hK
  .exact V
  .exact U
 have hi:∀x∈([(1,57,.iface k.1 k.2),(2,57,.iface l.1 l.2),(0,126,Go.AM.R1.rT 57)]:List Go.AM.Gl),∃T u,x.2.2=.iface T u:=by intro x A;simp only[eE,List.mem_nil_iff,mq]at A;rcases A with rfl|rfl|rfl<;>exact⟨_,_,rfl⟩
 have F:∀(b:Nat->Int) (i j:Nat) (c:Go.AM.C),(Go.AM.R1.Gz b i)[j]?=aa c->∃kd m,c=Go.AM.C.int kd m:=λb i j c h=>by
  cases j with
  |zero=>cases h;exact⟨_,_,rfl⟩
  |succ j=>simp[Go.AM.R1.Gz]at h
 refine Go.AM.eb.U7 (gs:=[(1,57,.iface k.1 k.2),(2,57,.iface l.1 l.2),(0,126,Go.AM.R1.rT 57)]) (vs:=[.slice a0 e o]) (Go.AM.R1.uR k l e b0 L D).te (by kernel_rfl) (show[1,2,0].Nodup by decide) P ⟨Go.AM.Rd.uN P hi (F _) J,ay⟩ λ_ v s' hv hb d=>?_;have B:Rd s'.M v (.bool ab):=hv;cases B;have n:Below W.heap.size W (s'.w.at d):=⟨hb.os,hb.tape,hb.output,hb.size,hb.block⟩;obtain⟨y,z,rfl⟩:∃y z,gs=[y,z]:=by
  have g:=Q;rcases gs with _|⟨y,_|⟨z,_|⟨g3,r⟩⟩⟩
  .exact g.elim
  .obtain⟨_,_,_,_,_,_,_,_,_,_,h,_⟩:=g;exact h.elim
  .exact⟨y,z,rfl⟩
  .obtain⟨_,_,_,_,_,_,_,_,_,_,h,_⟩:=g;obtain⟨_,_,_,_,_,_,_,_,_,_,h,_⟩:=h;exact h.elim
 have G:DataW.TrodVars enc ag (s'.w.at d) (λb=>decide (b<W.heap.size)) Rows.fnSavePacksSpec.vars [y,z] q:=Below.trodVars laidOut n (by kernel_rfl) Q;exact⟨_,_,_,[],_,_,I,trodAll_mk1 (shut_bool Tryz.underlying4 _),(trodAll_cons_mk (Below.trod laidOut (by kernel_rfl) (oY (by kernel_rfl)) R n K) trodAll_mk0),G,n.frame _,λh=>by cases h⟩
theorem facts{P:ar}{f:aJ}{fn:Func}{s:ChangeSpec}{c:OpenClaim}(o:c.wf (OpenSpec.ofChange s)=ab)(u:(laidOutB P&&mapsRowed P)=ab)(m:(fn.params.all (P.readableRec ·)&&namedTie P c.named s.vars)=ab)(l:((c.stops==[])&&(P.stops==[])&&(c.knobs==[])&&(P.stopKnobs==[]))=ab)(p:(c.inPlace==P.inPlace f)=ab)(n:(c.unfollowed==P.unfollowed f)=ab)(r:(c.recurses==P.recurses f)=ab)(v:(c.named==P.varsNamed f)=ab)(w:((c.maps==(fn.params.toList++s.plain.varTypes P).any (P.mapsRec ·))&&(c.ifaces==(fn.params.toList++s.plain.varTypes P).any (P.ifacesRec ·))&&(c.mapsOut==P.mapsAmong fn.resultTypes.toList))=ab)(q:((c.loops==(fn.params.toList++s.plain.varTypes P).any (P.loopsFrom ·))&&(c.wideKeys==(fn.params.toList++s.plain.varTypes P++fn.resultTypes.toList).any (P.wideKeysFrom ·)))=ab)(b:(s.vars.all (P.varReadable ·)&&fn.resultTypes.all (λt=>P.readableRec t&&decide (t<P.types.size))&&(c.ifacesOut==fn.resultTypes.toList.any (P.ifacesRec ·))&&(c.loopsOut==fn.resultTypes.toList.any (P.loopsFrom ·)))=ab)(d:(c.plainKeys==P.plainKeys)=ab)(i:c.shortTexts.isNone=ab)(k:P.stopsHeard=ab)(j:P.mayEnter=ab)(g:(c.lifted==P.liftsFinal)=ab)(h:(P.make==aa c.make)=ab)(a:((c.kinds==[])&&c.domain.isEmpty&&(c.pinned==c.pinnedBy))=ab)(e:((c.veiled==(fn.params.toList++s.plain.varTypes P++fn.resultTypes.toList).any (P.veiledRec ·))&&c.veiledFits P fn.params.toList (fn.params.toList++s.plain.varTypes P++fn.resultTypes.toList))=ab):
  joinedFacts P f fn s c=ab:=by simp only[bR]at *;simp only[joinedFacts,bR];simp only[*,cj,and_self]
theorem VT:Rows.fnSavePacksRow.wf (OpenSpec.ofChange Rows.fnSavePacksSpec)=ab:=by kernel_rfl
theorem VU:(laidOutB Tryz.checked.prog&&mapsRowed Tryz.checked.prog)=ab:=by kernel_rfl
theorem VV:(Tryz.f4.params.all (Tryz.checked.prog.readableRec ·)&&namedTie Tryz.checked.prog Rows.fnSavePacksRow.named Rows.fnSavePacksSpec.vars)=ab:=by kernel_rfl
theorem VW:((Rows.fnSavePacksRow.stops==[])&&(Tryz.checked.prog.stops==[])&&(Rows.fnSavePacksRow.knobs==[])&&(Tryz.checked.prog.stopKnobs==[]))=ab:=by kernel_rfl
theorem VX:(Rows.fnSavePacksRow.inPlace==Tryz.checked.prog.inPlace 4)=ab:=by kernel_rfl
theorem VY:(Rows.fnSavePacksRow.unfollowed==Tryz.checked.prog.unfollowed 4)=ab:=by kernel_rfl
theorem VZ:(Rows.fnSavePacksRow.recurses==Tryz.checked.prog.recurses 4)=ab:=by kernel_rfl
theorem V0:(Rows.fnSavePacksRow.named==Tryz.checked.prog.varsNamed 4)=ab:=by kernel_rfl
theorem V1:((Rows.fnSavePacksRow.maps==(Tryz.f4.params.toList++Rows.fnSavePacksSpec.plain.varTypes Tryz.checked.prog).any (Tryz.checked.prog.mapsRec ·))&&(Rows.fnSavePacksRow.ifaces==(Tryz.f4.params.toList++Rows.fnSavePacksSpec.plain.varTypes Tryz.checked.prog).any (Tryz.checked.prog.ifacesRec ·))&&(Rows.fnSavePacksRow.mapsOut==Tryz.checked.prog.mapsAmong Tryz.f4.resultTypes.toList))=ab:=by kernel_rfl
theorem V2:((Rows.fnSavePacksRow.loops==(Tryz.f4.params.toList++Rows.fnSavePacksSpec.plain.varTypes Tryz.checked.prog).any (Tryz.checked.prog.loopsFrom ·))&&(Rows.fnSavePacksRow.wideKeys==(Tryz.f4.params.toList++Rows.fnSavePacksSpec.plain.varTypes Tryz.checked.prog++Tryz.f4.resultTypes.toList).any (Tryz.checked.prog.wideKeysFrom ·)))=ab:=by kernel_rfl
theorem SG:(Rows.fnSavePacksSpec.vars.all (Tryz.checked.prog.varReadable ·)&&Tryz.f4.resultTypes.all (λt=>Tryz.checked.prog.readableRec t&&decide (t<Tryz.checked.prog.types.size))&&(Rows.fnSavePacksRow.ifacesOut==Tryz.f4.resultTypes.toList.any (Tryz.checked.prog.ifacesRec ·))&&(Rows.fnSavePacksRow.loopsOut==Tryz.f4.resultTypes.toList.any (Tryz.checked.prog.loopsFrom ·)))=ab:=by kernel_rfl
theorem SH:(Rows.fnSavePacksRow.plainKeys==Tryz.checked.prog.plainKeys)=ab:=by kernel_rfl
theorem SI:Rows.fnSavePacksRow.shortTexts.isNone=ab:=by kernel_rfl
theorem SJ:Tryz.checked.prog.stopsHeard=ab:=by kernel_rfl
theorem SK:Tryz.checked.prog.mayEnter=ab:=by kernel_rfl
theorem SL:(Rows.fnSavePacksRow.lifted==Tryz.checked.prog.liftsFinal)=ab:=by kernel_rfl
theorem SM:(Tryz.checked.prog.make==aa Rows.fnSavePacksRow.make)=ab:=by kernel_rfl
theorem SN:((Rows.fnSavePacksRow.kinds==[])&&Rows.fnSavePacksRow.domain.isEmpty&&(Rows.fnSavePacksRow.pinned==Rows.fnSavePacksRow.pinnedBy))=ab:=by kernel_rfl
theorem SP:((Rows.fnSavePacksRow.veiled==(Tryz.f4.params.toList++Rows.fnSavePacksSpec.plain.varTypes Tryz.checked.prog++Tryz.f4.resultTypes.toList).any (Tryz.checked.prog.veiledRec ·))&&Rows.fnSavePacksRow.veiledFits Tryz.checked.prog Tryz.f4.params.toList (Tryz.f4.params.toList++Rows.fnSavePacksSpec.plain.varTypes Tryz.checked.prog++Tryz.f4.resultTypes.toList))=ab:=by kernel_rfl
theorem closed:joinedFacts Tryz.checked.prog 4 Tryz.f4 Rows.fnSavePacksSpec Rows.fnSavePacksRow=ab :=
 facts VT VU VV VW VX VY VZ V0 V1 V2 SG SH SI SJ SK SL SM SN SP
theorem named:Tryz.pinned.checked.prog.funcNamed Rows.fnSavePacksRow.func=aa 4:=by kernel_rfl
theorem over:Rows.FnSavePacksSaid :=
 OpenClaim.holds_of_wide_leaving 4 Tryz.f4 rfl rfl rfl rfl rfl rfl rfl ⟨rfl,rfl,rfl,rfl,rfl⟩ rfl rfl rfl rfl rfl named Tryz.func4 closed
  (oY (by kernel_rfl)) (by unfold Func.isWrapper;first|(rw[bl (by decide +kernel)];kernel_rfl)|(rw[aZ (by decide +kernel)];exact⟨rfl,rfl⟩))
  (λos started H enc _=>lifted os started H enc)
theorem fnSavePacks_proved:Rows.FnSavePacksCardSaid :=
 Go.AM.HZ .later [] [.data,.handle,.sentinel,.sentinel,.pinned] ab (ab,"5e35793546e8267f107b46d0fe433a52c935b876c370e9e78dd50228791e09a2") ab over (λ_ h=>by cases h) (by kernel_rfl) (λ_ h=>by cases h) fnSavePacks_row_tie rfl ⟨rfl,rfl⟩ (by kernel_rfl) rfl
  (λf fn hf UO=>by
   obtain rfl:f=4:=rN ((show Tryz.prog.funcNamed "loop.example/depositary/laws.FnSavePacks"=aa 4 by kernel_rfl).symm.trans hf) |>.symm
   obtain rfl:fn=Tryz.f4:=(rN (Tryz.func4.symm.trans UO)).symm;exact⟨by kernel_rfl,λj t b=>by
    rw[Tryz.params4]at b;have c:t∈[22]:=by have:=u4 b;simp at this⊢;exact this
    have a:([22].all λu=>!Tryz.prog.wantsStandIn u)=ab:=by kernel_rfl
    exact(show Tryz.prog.wantsStandIn t=af by simpa using List.all_eq_true.1 a t c)⟩)
  (by kernel_rfl)
#print axioms fnSavePacks_proved
end Go.Proofs.YtbaopamghpnebaaGreatDoor

