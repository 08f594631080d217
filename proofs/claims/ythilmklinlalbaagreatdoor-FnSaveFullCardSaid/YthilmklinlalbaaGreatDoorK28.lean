/-
  For every input the law FnSaveFull returns true, and the input reads as it did: the tied card FnSaveFullCardSaid. No condition.
-/
import Derived.Test.YthilmklinlalbaaGreatDoorA6
import Derived.Test.YthilmklinlalbaaGreatDoorTie
import Derived.Test.YthilmklinlalbaaGreatDoorCards
import Derived.ProofKit
import Derived.OpenShut
import Derived.OpenVars
import Derived.LaidMore
import Derived.Lay
import Derived.SevenTiedAt
import Derived.Below
import Derived.LaidHandle
import Derived.LaidLaws
set_option linter.all false
set_option maxHeartbeats 8000000
open Go renaming Value → ah
open Option renaming some → aa
open Go renaming Program → aq
open Go renaming TypeId → aj
open Bool renaming true → ab
open Option renaming none → af
open Bool renaming false → ae
open Go.World renaming cell? → aU
open List renaming getD_eq_getElem?_getD → an
open Go renaming World → az
open List renaming range → bd
open Go renaming FuncId → aH
open Go.Proofs.Tryz renaming prog → ag
namespace Go.Proofs.YthilmklinlalbaaGreatDoor
open Go.ChangeShapes Go.WideShapes Go.ChangeAt Go.RowKit
open Go.AM (dn Rd St.top)
theorem own:ownKnob Tryz.prog.godebug=af:=by kernel_rfl
theorem laidOut:laidOutB ag=ab:=by kernel_rfl
theorem Ll{w:az}{a:Addr}{v:ah}(h:w.cell? (a.add 0)=aa v):a=⟨a.block,a.off,af⟩:=by
 obtain⟨b,o,s⟩:=a;cases s with
 |none=>rfl
 |some q =>
  simp only[Addr.add,cn,aU]at h;split at h
  .simp at h
  .cases h
theorem OP{w:az}{a:Addr}{n:Nat}{v:ah}(h:w.cell? (a.add n)=aa v):w.cell? ⟨a.block,a.off+n,af⟩=aa v:=by
 by_cases e:n=0
 .subst e;have c:=Ll h;obtain⟨b,o,s⟩:=a;simp only[Addr.mk.injEq,aF]at c;subst c;exact h
 .simpa only[Addr.add,aY e]using h
theorem VU{n:Int}(h:(Lit.int .u8 n).wf=ab):0<=n/\n<=255:=by simp only[Lit.wf,IntKind.min,IntKind.max,IntKind.signed,IntKind.bits]at h;simp at h;omega
set_option maxRecDepth 100000 in
theorem H3{H:Type}{enc:aj×ah->H}{W:az}{a:Option Addr}{len cap:Nat}{d:DataW H}{p:List MemPlace}(h:DataW.Trod enc ag W 0 (λ_=>ab) ab 22 (.slice a len cap) d p):
  ∃b:Nat->Int,Go.AM.R1.Bytes b/\len<=9223372036854775807/\dn [] (St.top W) (.slice a len cap) (.e (.one (.c (.sl ae 1 len (Go.AM.R1.ET b))))):=by
 obtain⟨v,D⟩:=h;rcases open_ints Tryz.underlying22 Tryz.underlying5 (by kernel_rfl) D with⟨l,_⟩|⟨x,n,c,f,l,_,C,y,A,_,g,m⟩
 .simp[Value.cells]at l;obtain⟨rfl,rfl,rfl⟩:=l;exact⟨λ_=>0,λ_=>⟨Int.le_refl 0,show(0:Int)<=255 by decide⟩,by omega,Rd.jD⟩
 .simp[Value.cells]at l;obtain⟨rfl,rfl,rfl⟩:=l;simp only[cn]at A;simp only[maxLen]at y;refine⟨λi=>f.getD i 0,λi=>?_,by omega,?_⟩
  .by_cases hi:i<f.length
   .have:=m (f.getD i 0) (by rw[an,br hi];exact rK hi);exact VU this
   .simp[an,rH (by omega:f.length<=i)]
  .show Rd _ _ _;refine Rd.qV (k:=1) (n:=len) (vs:=(f.take len).map λz=>.int .u8 z) (a:=aa x) (b:=x.block) (off:=x.off) (cap:=cap) (t:=ae) ⟨by simp;omega,λi hi=>rfl,λi hi j c s=>?_⟩ (λE=>?_) C (by omega) (by simp) (λp u q=>?_)
   .have o:j=0:=by have:=(bZ.1 s).1;simp[Go.AM.R1.ET]at this;omega
    subst o;have B:c=.int .u8 (f.getD i 0):=by simp only[Go.AM.R1.ET,lb,dr]at s;exact s.symm
    subst B;have w:=VU (m (f.getD i 0) (by rw[an,br (by omega:i<f.length)];exact rK _));refine⟨.int .u8 (f.getD i 0),?_,Rd.int w⟩;simp[iN,hi,an,br (by omega:i<f.length)]
   .exact dA aa (Ll (g 0 (by omega)))
   .have r:p<len:=by have:=(bZ.1 q).1;simp at this;omega
    have:u=.int .u8 (f.getD p 0):=by simp[iN,r,br (by omega:p<f.length)]at q;rw[<-q];simp[an,br (by omega:p<f.length)]
    subst this;exact OP (g p (by omega))
noncomputable def QE(os:Os):az :=
 let w0:=World.laidAll ag os (Rows.fnSaveFullRow.laid.filter λx=>x.2.handleName?.isNone)
 {w0 with heap:=w0.heap.modify 0 λ
   |.cells _ t a=>.cells #[.iface 186 (.agg #[typeHandle ag 57])] t a
   |o=>o}
theorem H4(os:Os)(args:Array ah):laidMetH ag Rows.fnSaveFullRow.laid ((QE os).forCall (λ_ _=>0) ⟨#[],args,[]⟩).memory :=
 laidMetH_of_parts (laidMet_of_run' 8 (by kernel_rfl) (by kernel_rfl)) (by kernel_rfl)
theorem nK:Tryz.prog.globalNamed "loop.example/depositary/impl.errKey"=aa 1:=by kernel_rfl
theorem nP:Tryz.prog.globalNamed "loop.example/depositary/impl.errPiece"=aa 2:=by kernel_rfl
theorem nE:Tryz.prog.globalNamed "errors.errorType"=aa 0:=by kernel_rfl
theorem yK:(Tryz.prog.globals[1]?).map (·.type)=aa 57:=by kernel_rfl
theorem yP:(Tryz.prog.globals[2]?).map (·.type)=aa 57:=by kernel_rfl
theorem zK:(((begin ag (λ_ _=>0) default).world.heap[1]?).bind Obj.row?)=aa (#[.nilIface],57):=by kernel_rfl
theorem zP:(((begin ag (λ_ _=>0) default).world.heap[2]?).bind Obj.row?)=aa (#[.nilIface],57):=by kernel_rfl
theorem zE:(((begin ag (λ_ _=>0) default).world.heap[0]?).bind Obj.row?)=aa (#[.nilIface],129):=by kernel_rfl
theorem VV:(Tryz.prog.cutTypes.find? (·.1== "internal/reflectlite.rtype")).map (·.2)=aa 186:=by kernel_rfl
theorem SF:((bd Tryz.prog.types.size).filter λt=>Tryz.prog.rowNamed t [101,114,114,111,114])=[57]:=by kernel_rfl
theorem inK:("loop.example/depositary/impl.errKey",Rows.laid_loop_example_depositary_impl_errKey)∈Rows.fnSaveFullRow.laid.filter λx=>x.2.handleName?.isNone:=lg.2 ⟨by simp[Rows.fnSaveFullRow],by kernel_rfl⟩
theorem inP:("loop.example/depositary/impl.errPiece",Rows.laid_loop_example_depositary_impl_errPiece)∈Rows.fnSaveFullRow.laid.filter λx=>x.2.handleName?.isNone:=lg.2 ⟨by simp[Rows.fnSaveFullRow],by kernel_rfl⟩
theorem Hf:("errors.errorType",Rows.laid_errors_errorType)∈Rows.fnSaveFullRow.laid.filter λx=>x.2.handleName?.isSome:=lg.2 ⟨by simp[Rows.fnSaveFullRow],by kernel_rfl⟩
set_option maxRecDepth 100000 in
theorem lifted(os:Os)(a:os.Started)(H:Type)(enc:aj×ah->H):
  ReturnsInLeavingWide {} Tryz.checked os 3 .any (λw args=>(Rows.fnSaveFullSpec.pre enc ag Tryz.f3 Rows.fnSaveFullRow.domain ae w args/\laidMetH ag Rows.fnSaveFullRow.laid w)/\sizedMet enc ag Tryz.f3 (OpenSpec.ofChange Rows.fnSaveFullSpec) ae w args)
   (Rows.fnSaveFullSpec.post enc ag Tryz.f3 ae ab ae ae):=by
 refine Go.AM.AE (C:=Tryz.checked) (X:=λw _=>laidMetH ag Rows.fnSaveFullRow.laid w) (λ_ _ _ V h=>h.of_heap V) own a Tryz.func3
  (ChangeSpec.witness_shaped (enc:=enc) (C:=Tryz.checked) (os:=os) (X:=λw _=>laidMetH ag Rows.fnSaveFullRow.laid w) ae (QE os) #[.slice af 0 0] 8 (World.laidAll_os _ _ _)
   (World.shaped_of_ZipB (by kernel_rfl) (by kernel_rfl)) (by kernel_rfl) (by kernel_rfl) (by kernel_rfl)
   (H4 os _)) ?_
 intro W base args ds gs before QF hW Za hL;have e:∀(j:Nat) t v,Tryz.f3.params[j]?=aa t->args[j]?=aa v->Value.okWide ag W .any base t v:=QF;have K:=hW;obtain⟨p,q,z,R,rfl,_,_⟩:=hW;have P:DataW.TrodAll enc ag W 0 (λ_=>ab) ab Tryz.f3.params.toList args.toList ds p:=z;rw[Tryz.params3]at P e;obtain⟨v0,Y,d0,ds0,p0,q0,F,rfl,rfl,O,r0⟩:=trodAll_cons P;obtain⟨rfl,rfl,rfl⟩:=trodAll_nil r0;obtain rfl:args=#[v0]:=by cases args;simp_all
 obtain⟨S,f,o,rfl⟩:=okWide_slice Tryz.underlying22 (e 0 22 v0 rfl rfl);have Q:=O;have G:∀x∈p0,x.block<W.heap.size:=by obtain⟨m,hm⟩:=Q;exact DataW.trod_lt m _ _ _ hm
 clear z QF;obtain⟨b0,L,J,D⟩:=H3 O;obtain⟨k,U⟩:=Go.AM.wW hL Za inK nK yK Tryz.underlying57 (o0 (by kernel_rfl)) zK;obtain⟨n,Z⟩:=Go.AM.wW hL Za inP nP yP Tryz.underlying57 (o0 (by kernel_rfl)) zP;have hE:=Go.AM.B7 hL Za Hf rfl rfl nE VV SF (o0 (by kernel_rfl)) zE;have N:∀x∈([(1,57,.iface k.1 k.2),(2,57,.iface n.1 n.2),(0,129,Go.AM.R1.rT 57)]:List Go.AM.Gl),W.heap[x.1]?=aa (.cells #[x.2.2] x.2.1 (0,0)):=by
  intro x A;simp only[eE,List.mem_nil_iff,mn]at A;rcases A with rfl|rfl|rfl
  .exact U
  .exact Z
  .exact hE
 have hi:∀x∈([(1,57,.iface k.1 k.2),(2,57,.iface n.1 n.2),(0,129,Go.AM.R1.rT 57)]:List Go.AM.Gl),∃T u,x.2.2=.iface T u:=by intro x A;simp only[eE,List.mem_nil_iff,mn]at A;rcases A with rfl|rfl|rfl<;>exact⟨_,_,rfl⟩
 have I:∀(b:Nat->Int) (i j:Nat) (c:Go.AM.C),(Go.AM.R1.ET b i)[j]?=aa c->∃kd m,c=Go.AM.C.int kd m:=λb i j c h=>by
  cases j with
  |zero=>cases h;exact⟨_,_,rfl⟩
  |succ j=>simp[Go.AM.R1.ET]at h
 refine Go.AM.dZ.Va (gs:=[(1,57,.iface k.1 k.2),(2,57,.iface n.1 n.2),(0,129,Go.AM.R1.rT 57)]) (vs:=[.slice S f o]) (Go.AM.R1.Lm k n f b0 L J).sW (by kernel_rfl) (show[1,2,0].Nodup by decide) N ⟨Go.AM.Rd.uP N hi (I _) D,aw⟩ λ_ v s' hv hb d=>?_;have E:Rd s'.M v (.bool ab):=hv;cases E;have g:Below W.heap.size W (s'.w.at d):=⟨hb.os,hb.tape,hb.output,hb.size,hb.block⟩;obtain⟨y,s,rfl⟩:∃y s,gs=[y,s]:=by
  have l:=R;rcases gs with _|⟨y,_|⟨s,_|⟨g3,r⟩⟩⟩
  .exact l.elim
  .obtain⟨_,_,_,_,_,_,_,_,_,_,h,_⟩:=l;exact h.elim
  .exact⟨y,s,rfl⟩
  .obtain⟨_,_,_,_,_,_,_,_,_,_,h,_⟩:=l;obtain⟨_,_,_,_,_,_,_,_,_,_,h,_⟩:=h;exact h.elim
 have B:DataW.TrodVars enc ag (s'.w.at d) (λb=>decide (b<W.heap.size)) Rows.fnSaveFullSpec.vars [y,s] q:=Below.trodVars laidOut g (by kernel_rfl) R;exact⟨_,_,_,[],_,_,K,trodAll_mk1 (shut_bool Tryz.underlying4 _),(trodAll_cons_mk (Below.trod laidOut (by kernel_rfl) (o0 (by kernel_rfl)) Q g G) trodAll_mk0),B,g.frame _,λh=>by cases h⟩
theorem facts{P:aq}{f:aH}{fn:Func}{s:ChangeSpec}{c:OpenClaim}(n:c.wf (OpenSpec.ofChange s)=ab)(m:(laidOutB P&&mapsRowed P)=ab)(r:(fn.params.all (P.readableRec ·)&&namedTie P c.named s.vars)=ab)(l:((c.stops==[])&&(P.stops==[])&&(c.knobs==[])&&(P.stopKnobs==[]))=ab)(v:(c.inPlace==P.inPlace f)=ab)(q:(c.unfollowed==P.unfollowed f)=ab)(u:(c.recurses==P.recurses f)=ab)(p:(c.named==P.varsNamed f)=ab)(w:((c.maps==(fn.params.toList++s.plain.varTypes P).any (P.mapsRec ·))&&(c.ifaces==(fn.params.toList++s.plain.varTypes P).any (P.ifacesRec ·))&&(c.mapsOut==P.mapsAmong fn.resultTypes.toList))=ab)(o:((c.loops==(fn.params.toList++s.plain.varTypes P).any (P.loopsFrom ·))&&(c.wideKeys==(fn.params.toList++s.plain.varTypes P++fn.resultTypes.toList).any (P.wideKeysFrom ·)))=ab)(k:(s.vars.all (P.varReadable ·)&&fn.resultTypes.all (λt=>P.readableRec t&&decide (t<P.types.size))&&(c.ifacesOut==fn.resultTypes.toList.any (P.ifacesRec ·))&&(c.loopsOut==fn.resultTypes.toList.any (P.loopsFrom ·)))=ab)(b:(c.plainKeys==P.plainKeys)=ab)(g:c.shortTexts.isNone=ab)(j:P.stopsHeard=ab)(e:P.mayEnter=ab)(i:(c.lifted==P.liftsFinal)=ab)(h:(P.make==aa c.make)=ab)(a:((c.kinds==[])&&c.domain.isEmpty&&(c.pinned==c.pinnedBy))=ab)(d:((c.veiled==(fn.params.toList++s.plain.varTypes P++fn.resultTypes.toList).any (P.veiledRec ·))&&c.veiledFits P fn.params.toList (fn.params.toList++s.plain.varTypes P++fn.resultTypes.toList))=ab):
  joinedFacts P f fn s c=ab:=by simp only[bS]at *;simp only[joinedFacts,bS];simp only[*,cn,and_self]
theorem VW:Rows.fnSaveFullRow.wf (OpenSpec.ofChange Rows.fnSaveFullSpec)=ab:=by kernel_rfl
theorem VX:(laidOutB Tryz.checked.prog&&mapsRowed Tryz.checked.prog)=ab:=by kernel_rfl
theorem VY:(Tryz.f3.params.all (Tryz.checked.prog.readableRec ·)&&namedTie Tryz.checked.prog Rows.fnSaveFullRow.named Rows.fnSaveFullSpec.vars)=ab:=by kernel_rfl
theorem VZ:((Rows.fnSaveFullRow.stops==[])&&(Tryz.checked.prog.stops==[])&&(Rows.fnSaveFullRow.knobs==[])&&(Tryz.checked.prog.stopKnobs==[]))=ab:=by kernel_rfl
theorem V0:(Rows.fnSaveFullRow.inPlace==Tryz.checked.prog.inPlace 3)=ab:=by kernel_rfl
theorem V1:(Rows.fnSaveFullRow.unfollowed==Tryz.checked.prog.unfollowed 3)=ab:=by kernel_rfl
theorem V2:(Rows.fnSaveFullRow.recurses==Tryz.checked.prog.recurses 3)=ab:=by kernel_rfl
theorem V3:(Rows.fnSaveFullRow.named==Tryz.checked.prog.varsNamed 3)=ab:=by kernel_rfl
theorem V4:((Rows.fnSaveFullRow.maps==(Tryz.f3.params.toList++Rows.fnSaveFullSpec.plain.varTypes Tryz.checked.prog).any (Tryz.checked.prog.mapsRec ·))&&(Rows.fnSaveFullRow.ifaces==(Tryz.f3.params.toList++Rows.fnSaveFullSpec.plain.varTypes Tryz.checked.prog).any (Tryz.checked.prog.ifacesRec ·))&&(Rows.fnSaveFullRow.mapsOut==Tryz.checked.prog.mapsAmong Tryz.f3.resultTypes.toList))=ab:=by kernel_rfl
theorem V5:((Rows.fnSaveFullRow.loops==(Tryz.f3.params.toList++Rows.fnSaveFullSpec.plain.varTypes Tryz.checked.prog).any (Tryz.checked.prog.loopsFrom ·))&&(Rows.fnSaveFullRow.wideKeys==(Tryz.f3.params.toList++Rows.fnSaveFullSpec.plain.varTypes Tryz.checked.prog++Tryz.f3.resultTypes.toList).any (Tryz.checked.prog.wideKeysFrom ·)))=ab:=by kernel_rfl
theorem SG:(Rows.fnSaveFullSpec.vars.all (Tryz.checked.prog.varReadable ·)&&Tryz.f3.resultTypes.all (λt=>Tryz.checked.prog.readableRec t&&decide (t<Tryz.checked.prog.types.size))&&(Rows.fnSaveFullRow.ifacesOut==Tryz.f3.resultTypes.toList.any (Tryz.checked.prog.ifacesRec ·))&&(Rows.fnSaveFullRow.loopsOut==Tryz.f3.resultTypes.toList.any (Tryz.checked.prog.loopsFrom ·)))=ab:=by kernel_rfl
theorem SH:(Rows.fnSaveFullRow.plainKeys==Tryz.checked.prog.plainKeys)=ab:=by kernel_rfl
theorem SI:Rows.fnSaveFullRow.shortTexts.isNone=ab:=by kernel_rfl
theorem SJ:Tryz.checked.prog.stopsHeard=ab:=by kernel_rfl
theorem SK:Tryz.checked.prog.mayEnter=ab:=by kernel_rfl
theorem SL:(Rows.fnSaveFullRow.lifted==Tryz.checked.prog.liftsFinal)=ab:=by kernel_rfl
theorem SM:(Tryz.checked.prog.make==aa Rows.fnSaveFullRow.make)=ab:=by kernel_rfl
theorem SN:((Rows.fnSaveFullRow.kinds==[])&&Rows.fnSaveFullRow.domain.isEmpty&&(Rows.fnSaveFullRow.pinned==Rows.fnSaveFullRow.pinnedBy))=ab:=by kernel_rfl
theorem SP:((Rows.fnSaveFullRow.veiled==(Tryz.f3.params.toList++Rows.fnSaveFullSpec.plain.varTypes Tryz.checked.prog++Tryz.f3.resultTypes.toList).any (Tryz.checked.prog.veiledRec ·))&&Rows.fnSaveFullRow.veiledFits Tryz.checked.prog Tryz.f3.params.toList (Tryz.f3.params.toList++Rows.fnSaveFullSpec.plain.varTypes Tryz.checked.prog++Tryz.f3.resultTypes.toList))=ab:=by kernel_rfl
theorem closed:joinedFacts Tryz.checked.prog 3 Tryz.f3 Rows.fnSaveFullSpec Rows.fnSaveFullRow=ab :=
 facts VW VX VY VZ V0 V1 V2 V3 V4 V5 SG SH SI SJ SK SL SM SN SP
theorem named:Tryz.pinned.checked.prog.funcNamed Rows.fnSaveFullRow.func=aa 3:=by kernel_rfl
theorem over:Rows.FnSaveFullSaid :=
 OpenClaim.holds_of_wide_leaving 3 Tryz.f3 rfl rfl rfl rfl rfl rfl rfl ⟨rfl,rfl,rfl,rfl,rfl⟩ rfl rfl rfl rfl rfl named Tryz.func3 closed
  (o0 (by kernel_rfl)) (by unfold Func.isWrapper;first|(rw[bl (by decide +kernel)];kernel_rfl)|(rw[aY (by decide +kernel)];exact⟨rfl,rfl⟩))
  (λos started H enc _=>lifted os started H enc)
theorem fnSaveFull_proved:Rows.FnSaveFullCardSaid :=
 Go.AM.H5 .later [] [.data,.handle,.sentinel,.sentinel,.pinned] ab (ab,"4dd2ea75bc4772398e7ac1c466049a721deb78d7e454600d77c63d29cae2cc21") ab over (λ_ h=>by cases h) (by kernel_rfl) (λ_ h=>by cases h) fnSaveFull_row_tie rfl ⟨rfl,rfl⟩ (by kernel_rfl) rfl
  (λf fn hf UT=>by
   obtain rfl:f=3:=rM ((show Tryz.prog.funcNamed "loop.example/depositary/laws.FnSaveFull"=aa 3 by kernel_rfl).symm.trans hf) |>.symm
   obtain rfl:fn=Tryz.f3:=(rM (Tryz.func3.symm.trans UT)).symm;exact⟨by kernel_rfl,λj t b=>by
    rw[Tryz.params3]at b;have c:t∈[22]:=by have:=uZ b;simp at this⊢;exact this
    have a:([22].all λu=>!Tryz.prog.wantsStandIn u)=ab:=by kernel_rfl
    exact(show Tryz.prog.wantsStandIn t=ae by simpa using List.all_eq_true.1 a t c)⟩)
  (by kernel_rfl)
#print axioms fnSaveFull_proved
end Go.Proofs.YthilmklinlalbaaGreatDoor

