/-
  For every input the law FnSave returns true, and the input reads as it did: the tied card FnSaveCardSaid. No condition.
-/
import Derived.Test.YthilmklinlalbaaGreatDoorA6
import Derived.Test.YthilmklinlalbaaGreatDoorTie
import Derived.Test.YthilmklinlalbaaGreatDoorCards
import Derived.ProofKit
import Derived.OpenShut
import Derived.OpenVars
import Derived.LaidMore
import Derived.Lay
import Derived.SevenTiedAt
import Derived.Below
import Derived.LaidHandle
import Derived.LaidLaws
set_option linter.all false
set_option maxHeartbeats 8000000
open Go renaming Value → ah, Program → ar, TypeId → aj, World → aA, FuncId → aJ
open Option renaming some → aa, none → af
open Bool renaming true → ab, false → ae
open Go.World renaming cell? → aV
open List renaming getD_eq_getElem?_getD → ak, range → bh, all_eq_true → bC
open Go.Proofs.Tryz renaming prog → ag
namespace Go.Proofs.YthilmklinlalbaaGreatDoor
open Go.ChangeShapes Go.WideShapes Go.ChangeAt Go.RowKit
open Go.AM (dt Rd St.top)
theorem own:ownKnob Tryz.prog.godebug=af:=by kernel_rfl
theorem laidOut:laidOutB ag=ab:=by kernel_rfl
theorem L5{w:aA}{a:Addr}{v:ah}(h:w.cell? (a.add 0)=aa v):a=⟨a.block,a.off,af⟩:=by
 obtain⟨b,o,s⟩:=a;cases s with
 |none=>rfl
 |some q =>
  simp only[Addr.add,cq,aV]at h;split at h
  .simp at h
  .cases h
theorem Pv{w:aA}{a:Addr}{n:Nat}{v:ah}(h:w.cell? (a.add n)=aa v):w.cell? ⟨a.block,a.off+n,af⟩=aa v:=by
 by_cases e:n=0
 .subst e;have c:=L5 h;obtain⟨b,o,s⟩:=a;simp only[Addr.mk.injEq,aG]at c;subst c;exact h
 .simpa only[Addr.add,aY e]using h
theorem Wu{n:Int}(h:(Lit.int .u8 n).wf=ab):0<=n/\n<=255:=by simp only[Lit.wf,IntKind.min,IntKind.max,IntKind.signed,IntKind.bits]at h;simp at h;omega
set_option maxRecDepth 100000 in
theorem IH{H:Type}{enc:aj×ah->H}{W:aA}{a:Option Addr}{len cap:Nat}{d:DataW H}{p:List MemPlace}(h:DataW.Trod enc ag W 0 (λ_=>ab) ab 22 (.slice a len cap) d p):
  ∃b:Nat->Int,Go.AM.R1.Bytes b/\len<=9223372036854775807/\dt [] (St.top W) (.slice a len cap) (.e (.one (.c (.sl ae 1 len (Go.AM.R1.Hl b))))):=by
 obtain⟨v,y⟩:=h;rcases open_ints Tryz.underlying22 Tryz.underlying5 (by kernel_rfl) y with⟨l,_⟩|⟨x,n,c,f,l,_,B,C,A,_,g,m⟩
 .simp[Value.cells]at l;obtain⟨rfl,rfl,rfl⟩:=l;exact⟨λ_=>0,λ_=>⟨Int.le_refl 0,show(0:Int)<=255 by decide⟩,by omega,Rd.jY⟩
 .simp[Value.cells]at l;obtain⟨rfl,rfl,rfl⟩:=l;simp only[cq]at A;simp only[maxLen]at C;refine⟨λi=>f.getD i 0,λi=>?_,by omega,?_⟩
  .by_cases hi:i<f.length
   .have:=m (f.getD i 0) (by rw[ak,br hi];exact sj hi);exact Wu this
   .simp[ak,sd (by omega:f.length<=i)]
  .show Rd _ _ _;refine Rd.rB (k:=1) (n:=len) (vs:=(f.take len).map λz=>.int .u8 z) (a:=aa x) (b:=x.block) (off:=x.off) (cap:=cap) (t:=ae) ⟨by simp;omega,λi hi=>rfl,λi hi j c q=>?_⟩ (λE=>?_) B (by omega) (by simp) (λp u r=>?_)
   .have s:j=0:=by have:=(b6.1 q).1;simp[Go.AM.R1.Hl]at this;omega
    subst s;have D:c=.int .u8 (f.getD i 0):=by simp only[Go.AM.R1.Hl,kB,dw]at q;exact q.symm
    subst D;have w:=Wu (m (f.getD i 0) (by rw[ak,br (by omega:i<f.length)];exact sj _));refine⟨.int .u8 (f.getD i 0),?_,Rd.int w⟩;simp[iX,hi,ak,br (by omega:i<f.length)]
   .exact dJ aa (L5 (g 0 (by omega)))
   .have o:p<len:=by have:=(b6.1 r).1;simp at this;omega
    have:u=.int .u8 (f.getD p 0):=by simp[iX,o,br (by omega:p<f.length)]at r;rw[<-r];simp[ak,br (by omega:p<f.length)]
    subst this;exact Pv (g p (by omega))
noncomputable def Ro(os:Os):aA :=
 let w0:=World.laidAll ag os (Rows.fnSaveRow.laid.filter λx=>x.2.handleName?.isNone)
 {w0 with heap:=w0.heap.modify 0 λ
   |.cells _ t a=>.cells #[.iface 186 (.agg #[typeHandle ag 57])] t a
   |o=>o}
theorem II(os:Os)(args:Array ah):laidMetH ag Rows.fnSaveRow.laid ((Ro os).forCall (λ_ _=>0) ⟨#[],args,[]⟩).memory :=
 laidMetH_of_parts (laidMet_of_run' 8 (by kernel_rfl) (by kernel_rfl)) (by kernel_rfl)
theorem nK:Tryz.prog.globalNamed "loop.example/depositary/impl.errKey"=aa 1:=by kernel_rfl
theorem nP:Tryz.prog.globalNamed "loop.example/depositary/impl.errPiece"=aa 2:=by kernel_rfl
theorem nE:Tryz.prog.globalNamed "errors.errorType"=aa 0:=by kernel_rfl
theorem yK:(Tryz.prog.globals[1]?).map (·.type)=aa 57:=by kernel_rfl
theorem yP:(Tryz.prog.globals[2]?).map (·.type)=aa 57:=by kernel_rfl
theorem zK:(((begin ag (λ_ _=>0) default).world.heap[1]?).bind Obj.row?)=aa (#[.nilIface],57):=by kernel_rfl
theorem zP:(((begin ag (λ_ _=>0) default).world.heap[2]?).bind Obj.row?)=aa (#[.nilIface],57):=by kernel_rfl
theorem zE:(((begin ag (λ_ _=>0) default).world.heap[0]?).bind Obj.row?)=aa (#[.nilIface],129):=by kernel_rfl
theorem Wv:(Tryz.prog.cutTypes.find? (·.1== "internal/reflectlite.rtype")).map (·.2)=aa 186:=by kernel_rfl
theorem Tt:((bh Tryz.prog.types.size).filter λt=>Tryz.prog.rowNamed t [101,114,114,111,114])=[57]:=by kernel_rfl
theorem inK:("loop.example/depositary/impl.errKey",Rows.laid_loop_example_depositary_impl_errKey)∈Rows.fnSaveRow.laid.filter λx=>x.2.handleName?.isNone:=jS.2 ⟨by simp[Rows.fnSaveRow],by kernel_rfl⟩
theorem inP:("loop.example/depositary/impl.errPiece",Rows.laid_loop_example_depositary_impl_errPiece)∈Rows.fnSaveRow.laid.filter λx=>x.2.handleName?.isNone:=jS.2 ⟨by simp[Rows.fnSaveRow],by kernel_rfl⟩
theorem HS:("errors.errorType",Rows.laid_errors_errorType)∈Rows.fnSaveRow.laid.filter λx=>x.2.handleName?.isSome:=jS.2 ⟨by simp[Rows.fnSaveRow],by kernel_rfl⟩
set_option maxRecDepth 100000 in
theorem lifted(os:Os)(a:os.Started)(H:Type)(enc:aj×ah->H):
  ReturnsInLeavingWide {} Tryz.checked os 4 .any (λw args=>(Rows.fnSaveSpec.pre enc ag Tryz.f4 Rows.fnSaveRow.domain ae w args/\laidMetH ag Rows.fnSaveRow.laid w)/\sizedMet enc ag Tryz.f4 (OpenSpec.ofChange Rows.fnSaveSpec) ae w args)
   (Rows.fnSaveSpec.post enc ag Tryz.f4 ae ab ae ae):=by
 refine Go.AM.Bi (C:=Tryz.checked) (X:=λw _=>laidMetH ag Rows.fnSaveRow.laid w) (λ_ _ _ S h=>h.of_heap S) own a Tryz.func4
  (ChangeSpec.witness_shaped (enc:=enc) (C:=Tryz.checked) (os:=os) (X:=λw _=>laidMetH ag Rows.fnSaveRow.laid w) ae (Ro os) #[.slice af 0 0] 8 (World.laidAll_os _ _ _)
   (World.shaped_of_ZipB (by kernel_rfl) (by kernel_rfl)) (by kernel_rfl) (by kernel_rfl) (by kernel_rfl)
   (II os _)) ?_
 intro W base args ds gs before Rp hW ZS hL;have f:∀(j:Nat) t v,Tryz.f4.params[j]?=aa t->args[j]?=aa v->Value.okWide ag W .any base t v:=Rp;have K:=hW;obtain⟨p,q,A,N,rfl,_,_⟩:=hW;have P:DataW.TrodAll enc ag W 0 (λ_=>ab) ab Tryz.f4.params.toList args.toList ds p:=A;rw[Tryz.params4]at P f;obtain⟨v0,vs0,d0,ds0,V,q0,I,rfl,rfl,R,r0⟩:=trodAll_cons P;obtain⟨rfl,rfl,rfl⟩:=trodAll_nil r0;obtain rfl:args=#[v0]:=by cases args;simp_all
 obtain⟨a0,e,s,rfl⟩:=okWide_slice Tryz.underlying22 (f 0 22 v0 rfl rfl);have O:=R;have E:∀x∈V,x.block<W.heap.size:=by obtain⟨m,hm⟩:=O;exact DataW.trod_lt m _ _ _ hm
 clear A Rp;obtain⟨Y,F,G,D⟩:=IH R;obtain⟨g,hK⟩:=Go.AM.xw hL ZS inK nK yK Tryz.underlying57 (pv (by kernel_rfl)) zK;obtain⟨k,Z⟩:=Go.AM.xw hL ZS inP nP yP Tryz.underlying57 (pv (by kernel_rfl)) zP;have U:=Go.AM.CR hL ZS HS rfl rfl nE Wv Tt (pv (by kernel_rfl)) zE;have Q:∀x∈([(1,57,.iface g.1 g.2),(2,57,.iface k.1 k.2),(0,129,Go.AM.R1.rT 57)]:List Go.AM.Gl),W.heap[x.1]?=aa (.cells #[x.2.2] x.2.1 (0,0)):=by
  intro x y;simp only[eB,List.mem_nil_iff,mO]at y;rcases y with rfl|rfl|rfl
  .exact hK
  .exact Z
  .exact U
 have hi:∀x∈([(1,57,.iface g.1 g.2),(2,57,.iface k.1 k.2),(0,129,Go.AM.R1.rT 57)]:List Go.AM.Gl),∃T u,x.2.2=.iface T u:=by intro x y;simp only[eB,List.mem_nil_iff,mO]at y;rcases y with rfl|rfl|rfl<;>exact⟨_,_,rfl⟩
 have J:∀(b:Nat->Int) (i j:Nat) (c:Go.AM.C),(Go.AM.R1.Hl b i)[j]?=aa c->∃kd m,c=Go.AM.C.int kd m:=λb i j c h=>by
  cases j with
  |zero=>cases h;exact⟨_,_,rfl⟩
  |succ j=>simp[Go.AM.R1.Hl]at h
 refine Go.AM.ef.VL (gs:=[(1,57,.iface g.1 g.2),(2,57,.iface k.1 k.2),(0,129,Go.AM.R1.rT 57)]) (vs:=[.slice a0 e s]) (Go.AM.R1.FE g k e Y F G).tQ (by kernel_rfl) (show[1,2,0].Nodup by decide) Q ⟨Go.AM.Rd.vn Q hi (J _) D,ay⟩ λ_ v s' hv hb d=>?_;have B:Rd s'.M v (.bool ab):=hv;cases B;have n:Below W.heap.size W (s'.w.at d):=⟨hb.os,hb.tape,hb.output,hb.size,hb.block⟩;obtain⟨o,z,rfl⟩:∃o z,gs=[o,z]:=by
  have l:=N;rcases gs with _|⟨o,_|⟨z,_|⟨g3,r⟩⟩⟩
  .exact l.elim
  .obtain⟨_,_,_,_,_,_,_,_,_,_,h,_⟩:=l;exact h.elim
  .exact⟨o,z,rfl⟩
  .obtain⟨_,_,_,_,_,_,_,_,_,_,h,_⟩:=l;obtain⟨_,_,_,_,_,_,_,_,_,_,h,_⟩:=h;exact h.elim
 have L:DataW.TrodVars enc ag (s'.w.at d) (λb=>decide (b<W.heap.size)) Rows.fnSaveSpec.vars [o,z] q:=Below.trodVars laidOut n (by kernel_rfl) N;exact⟨_,_,_,[],_,_,K,trodAll_mk1 (shut_bool Tryz.underlying4 _),(trodAll_cons_mk (Below.trod laidOut (by kernel_rfl) (pv (by kernel_rfl)) O n E) trodAll_mk0),L,n.frame _,λh=>by cases h⟩
theorem facts{P:ar}{f:aJ}{fn:Func}{s:ChangeSpec}{c:OpenClaim}(l:c.wf (OpenSpec.ofChange s)=ab)(u:(laidOutB P&&mapsRowed P)=ab)(p:(fn.params.all (P.readableRec ·)&&namedTie P c.named s.vars)=ab)(o:((c.stops==[])&&(P.stops==[])&&(c.knobs==[])&&(P.stopKnobs==[]))=ab)(v:(c.inPlace==P.inPlace f)=ab)(r:(c.unfollowed==P.unfollowed f)=ab)(q:(c.recurses==P.recurses f)=ab)(w:(c.named==P.varsNamed f)=ab)(m:((c.maps==(fn.params.toList++s.plain.varTypes P).any (P.mapsRec ·))&&(c.ifaces==(fn.params.toList++s.plain.varTypes P).any (P.ifacesRec ·))&&(c.mapsOut==P.mapsAmong fn.resultTypes.toList))=ab)(n:((c.loops==(fn.params.toList++s.plain.varTypes P).any (P.loopsFrom ·))&&(c.wideKeys==(fn.params.toList++s.plain.varTypes P++fn.resultTypes.toList).any (P.wideKeysFrom ·)))=ab)(e:(s.vars.all (P.varReadable ·)&&fn.resultTypes.all (λt=>P.readableRec t&&decide (t<P.types.size))&&(c.ifacesOut==fn.resultTypes.toList.any (P.ifacesRec ·))&&(c.loopsOut==fn.resultTypes.toList.any (P.loopsFrom ·)))=ab)(d:(c.plainKeys==P.plainKeys)=ab)(j:c.shortTexts.isNone=ab)(a:P.stopsHeard=ab)(b:P.mayEnter=ab)(h:(c.lifted==P.liftsFinal)=ab)(g:(P.make==aa c.make)=ab)(k:((c.kinds==[])&&c.domain.isEmpty&&(c.pinned==c.pinnedBy))=ab)(i:((c.veiled==(fn.params.toList++s.plain.varTypes P++fn.resultTypes.toList).any (P.veiledRec ·))&&c.veiledFits P fn.params.toList (fn.params.toList++s.plain.varTypes P++fn.resultTypes.toList))=ab):
  joinedFacts P f fn s c=ab:=by simp only[bR]at *;simp only[joinedFacts,bR];simp only[*,cq,and_self]
theorem Ww:Rows.fnSaveRow.wf (OpenSpec.ofChange Rows.fnSaveSpec)=ab:=by kernel_rfl
theorem Wx:(laidOutB Tryz.checked.prog&&mapsRowed Tryz.checked.prog)=ab:=by kernel_rfl
theorem Wy:(Tryz.f4.params.all (Tryz.checked.prog.readableRec ·)&&namedTie Tryz.checked.prog Rows.fnSaveRow.named Rows.fnSaveSpec.vars)=ab:=by kernel_rfl
theorem Wz:((Rows.fnSaveRow.stops==[])&&(Tryz.checked.prog.stops==[])&&(Rows.fnSaveRow.knobs==[])&&(Tryz.checked.prog.stopKnobs==[]))=ab:=by kernel_rfl
theorem WA:(Rows.fnSaveRow.inPlace==Tryz.checked.prog.inPlace 4)=ab:=by kernel_rfl
theorem WB:(Rows.fnSaveRow.unfollowed==Tryz.checked.prog.unfollowed 4)=ab:=by kernel_rfl
theorem WC:(Rows.fnSaveRow.recurses==Tryz.checked.prog.recurses 4)=ab:=by kernel_rfl
theorem WE:(Rows.fnSaveRow.named==Tryz.checked.prog.varsNamed 4)=ab:=by kernel_rfl
theorem WG:((Rows.fnSaveRow.maps==(Tryz.f4.params.toList++Rows.fnSaveSpec.plain.varTypes Tryz.checked.prog).any (Tryz.checked.prog.mapsRec ·))&&(Rows.fnSaveRow.ifaces==(Tryz.f4.params.toList++Rows.fnSaveSpec.plain.varTypes Tryz.checked.prog).any (Tryz.checked.prog.ifacesRec ·))&&(Rows.fnSaveRow.mapsOut==Tryz.checked.prog.mapsAmong Tryz.f4.resultTypes.toList))=ab:=by kernel_rfl
theorem WH:((Rows.fnSaveRow.loops==(Tryz.f4.params.toList++Rows.fnSaveSpec.plain.varTypes Tryz.checked.prog).any (Tryz.checked.prog.loopsFrom ·))&&(Rows.fnSaveRow.wideKeys==(Tryz.f4.params.toList++Rows.fnSaveSpec.plain.varTypes Tryz.checked.prog++Tryz.f4.resultTypes.toList).any (Tryz.checked.prog.wideKeysFrom ·)))=ab:=by kernel_rfl
theorem Tu:(Rows.fnSaveSpec.vars.all (Tryz.checked.prog.varReadable ·)&&Tryz.f4.resultTypes.all (λt=>Tryz.checked.prog.readableRec t&&decide (t<Tryz.checked.prog.types.size))&&(Rows.fnSaveRow.ifacesOut==Tryz.f4.resultTypes.toList.any (Tryz.checked.prog.ifacesRec ·))&&(Rows.fnSaveRow.loopsOut==Tryz.f4.resultTypes.toList.any (Tryz.checked.prog.loopsFrom ·)))=ab:=by kernel_rfl
theorem Tv:(Rows.fnSaveRow.plainKeys==Tryz.checked.prog.plainKeys)=ab:=by kernel_rfl
theorem Tw:Rows.fnSaveRow.shortTexts.isNone=ab:=by kernel_rfl
theorem Tx:Tryz.checked.prog.stopsHeard=ab:=by kernel_rfl
theorem Ty:Tryz.checked.prog.mayEnter=ab:=by kernel_rfl
theorem Tz:(Rows.fnSaveRow.lifted==Tryz.checked.prog.liftsFinal)=ab:=by kernel_rfl
theorem TA:(Tryz.checked.prog.make==aa Rows.fnSaveRow.make)=ab:=by kernel_rfl
theorem TB:((Rows.fnSaveRow.kinds==[])&&Rows.fnSaveRow.domain.isEmpty&&(Rows.fnSaveRow.pinned==Rows.fnSaveRow.pinnedBy))=ab:=by kernel_rfl
theorem TC:((Rows.fnSaveRow.veiled==(Tryz.f4.params.toList++Rows.fnSaveSpec.plain.varTypes Tryz.checked.prog++Tryz.f4.resultTypes.toList).any (Tryz.checked.prog.veiledRec ·))&&Rows.fnSaveRow.veiledFits Tryz.checked.prog Tryz.f4.params.toList (Tryz.f4.params.toList++Rows.fnSaveSpec.plain.varTypes Tryz.checked.prog++Tryz.f4.resultTypes.toList))=ab:=by kernel_rfl
theorem closed:joinedFacts Tryz.checked.prog 4 Tryz.f4 Rows.fnSaveSpec Rows.fnSaveRow=ab :=
 facts Ww Wx Wy Wz WA WB WC WE WG WH Tu Tv Tw Tx Ty Tz TA TB TC
theorem named:Tryz.pinned.checked.prog.funcNamed Rows.fnSaveRow.func=aa 4:=by kernel_rfl
theorem over:Rows.FnSaveSaid :=
 OpenClaim.holds_of_wide_leaving 4 Tryz.f4 rfl rfl rfl rfl rfl rfl rfl ⟨rfl,rfl,rfl,rfl,rfl⟩ rfl rfl rfl rfl rfl named Tryz.func4 closed
  (pv (by kernel_rfl)) (by unfold Func.isWrapper;first|(rw[bl (by decide +kernel)];kernel_rfl)|(rw[aY (by decide +kernel)];exact⟨rfl,rfl⟩))
  (λos started H enc _=>lifted os started H enc)
theorem fnSave_proved:Rows.FnSaveCardSaid :=
 Go.AM.IJ .later [] [.data,.handle,.sentinel,.sentinel,.pinned] ab (ab,"4dd2ea75bc4772398e7ac1c466049a721deb78d7e454600d77c63d29cae2cc21") ab over (λ_ h=>by cases h) (by kernel_rfl) (λ_ h=>by cases h) fnSave_row_tie rfl ⟨rfl,rfl⟩ (by kernel_rfl) rfl
  (λf fn hf Vv=>by
   obtain rfl:f=4:=sr ((show Tryz.prog.funcNamed "loop.example/depositary/laws.FnSave"=aa 4 by kernel_rfl).symm.trans hf) |>.symm
   obtain rfl:fn=Tryz.f4:=(sr (Tryz.func4.symm.trans Vv)).symm;exact⟨by kernel_rfl,λj t b=>by
    rw[Tryz.params4]at b;have c:t∈[22]:=by have:=vG b;simp at this⊢;exact this
    have a:([22].all λu=>!Tryz.prog.wantsStandIn u)=ab:=by kernel_rfl
    exact(show Tryz.prog.wantsStandIn t=ae by simpa using bC.1 a t c)⟩)
  (by kernel_rfl)
#print axioms fnSave_proved
end Go.Proofs.YthilmklinlalbaaGreatDoor

