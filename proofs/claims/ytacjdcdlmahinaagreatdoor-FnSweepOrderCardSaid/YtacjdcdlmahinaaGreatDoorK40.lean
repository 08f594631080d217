import Derived.Test.YtacjdcdlmahinaaGreatDoorA7
import Derived.Test.YtacjdcdlmahinaaGreatDoorTie
import Derived.Test.YtacjdcdlmahinaaGreatDoorCards
import Derived.ProofKit
import Derived.OpenShut
import Derived.OpenVars
import Derived.LaidMore
import Derived.Lay
import Derived.SevenTiedAt
import Derived.Below
import Derived.LaidHandle
import Derived.LaidLaws
set_option linter.all false
set_option maxHeartbeats 8000000
open List renaming length → V, getD_eq_getElem?_getD → aj, range → bl, all_eq_true → bL
open Go renaming Value → ah, TypeId → av, FuncId → aO, World → aB, Program → aR
open Option renaming some → O, none → af
open Bool renaming true → W, false → ae
open Go.World renaming cell? → a9
open Go.Proofs.Tryz renaming prog → ag, underlying22 → aZ
namespace Go.Proofs.YtacjdcdlmahinaaGreatDoor
open Go.ChangeShapes Go.WideShapes Go.ChangeAt Go.RowKit
open Go.AM (ey Rd St.zC)
theorem own:ownKnob Tryz.prog.godebug=af:=bw
theorem oB:laidOutB ag=W:=bw
theorem tT{w:aB}{a:Addr}{v:ah}(h:w.cell? (a.add 0)=O v):a=⟨a.block,a.off,af⟩:=by
 obtain⟨b,o,s⟩:=a;cases s with
 |none=>rfl
 |some q =>
  simp only[Addr.add,cv,a9]at h;split at h
  .simp at h
  cases h
theorem xo{w:aB}{a:Addr}{n:Nat}{v:ah}(h:w.cell? (a.add n)=O v):w.cell? ⟨a.block,a.off+n,af⟩=O v:=by
 by_cases e:n=0
 .subst e;have c:=tT h;obtain⟨b,o,s⟩:=a;simp only[Addr.mk.injEq,aX]at c;subst c;exact h
 simpa only[Addr.add,bc e]using h
theorem II{n:Int}(h:(Lit.int .u8 n).wf=W):0<=n/\n<=255:=QL
set_option maxRecDepth 100000 in
theorem oH{H:Type}{enc:av×ah->H}{ab:aB}{a:Option Addr}{len cap:Nat}{d:DataW H}{p:List MemPlace}(h:DataW.Trod enc ag ab 0 (λ_=>W) W 22 (.slice a len cap) d p):
  ∃b:Nat->Int,Go.AM.R1.Bytes b/\len<=9223372036854775807/\ey [] (St.zC ab) (.slice a len cap) (Go.AM.b7 (.sl ae 1 len (Go.AM.R1.xT b))):=by
 obtain⟨v,A⟩:=h;rcases open_ints aZ Tryz.underlying5 bw A with⟨g,_⟩|⟨x,n,c,f,g,_,w,D,B,_,l,m⟩
 .simp[Value.cells]at g;obtain⟨rfl,rfl,rfl⟩:=g;exact⟨λ_=>0,λ_=>⟨wI 0,show(0:Int)<=255 by decide⟩,by omega,Rd.kF⟩
 simp[Value.cells]at g;obtain⟨rfl,rfl,rfl⟩:=g;simp only[cv]at B;simp only[maxLen]at D;refine⟨λi=>f.getD i 0,λi=>?_,by omega,?_⟩
 .by_cases hi:i<V f
  .have:=m (f.getD i 0) QO;exact II this
  simp[aj,rM (by omega:V f<=i)]
 show Rd _ _ _;refine Rd.qt (k:=1) (n:=len) (vs:=(f.take len).map λz=>.int .u8 z) (a:=O x) (b:=x.block) (off:=x.off) (cap:=cap) (t:=ae) ⟨by simp;omega,λi hi=>rfl,λi hi j c o=>?_⟩ (λE=>?_) w aq ay (λp u q=>?_)
 .have s:j=0:=QQ;subst s;have y:c=.int .u8 (f.getD i 0):=QP;subst y;have C:=II (m (f.getD i 0) QN);refine⟨.int .u8 (f.getD i 0),?_,Rd.int C⟩;simp[hU,hi,aj,bD (by omega:i<V f)]
 .exact et O (tT (l 0 aq))
 have r:p<len:=QW;have:u=.int .u8 (f.getD p 0):=QI;subst this;exact xo (l p aq)
noncomputable def zf(os:Os):aB :=
 let w0:=World.laidAll ag os (Rows.fnSweepOrderRow.laid.filter λx=>x.2.handleName?.isNone)
 {w0 with heap:=w0.heap.modify 0 λ
   |.cells _ t a=>.cells #[.iface 203 (.agg #[typeHandle ag 68])] t a
   |o=>o}
theorem rA(os:Os)(args:Array ah):laidMetH ag Rows.fnSweepOrderRow.laid ((zf os).forCall (λ_ _=>0) ⟨#[],args,[]⟩).memory :=
 laidMetH_of_parts (laidMet_of_run' 8 bw bw) bw
theorem nK:Tryz.prog.globalNamed "loop.example/depositary/impl.errKey"=O 1:=bw
theorem nP:Tryz.prog.globalNamed "loop.example/depositary/impl.errPiece"=O 2:=bw
theorem nE:Tryz.prog.globalNamed "errors.errorType"=O 0:=bw
theorem yK:(Tryz.prog.globals[1]?).map (·.type)=O 68:=bw
theorem yP:(Tryz.prog.globals[2]?).map (·.type)=O 68:=bw
theorem zK:(((begin ag (λ_ _=>0) default).world.heap[1]?).bind Obj.row?)=O (#[.nilIface],68):=bw
theorem zP:(((begin ag (λ_ _=>0) default).world.heap[2]?).bind Obj.row?)=O (#[.nilIface],68):=bw
theorem zE:(((begin ag (λ_ _=>0) default).world.heap[0]?).bind Obj.row?)=O (#[.nilIface],147):=bw
theorem IJ:(Tryz.prog.cutTypes.find? (·.1== "internal/reflectlite.rtype")).map (·.2)=O 203:=bw
theorem B6:((bl Tryz.prog.types.size).filter λt=>Tryz.prog.rowNamed t [101,114,114,111,114])=[68]:=bw
theorem inK:("loop.example/depositary/impl.errKey",Rows.laid_loop_example_depositary_impl_errKey)∈Rows.fnSweepOrderRow.laid.filter λx=>x.2.handleName?.isNone:=iz.2 ⟨by simp[Rows.fnSweepOrderRow],by kernel_rfl⟩
theorem inP:("loop.example/depositary/impl.errPiece",Rows.laid_loop_example_depositary_impl_errPiece)∈Rows.fnSweepOrderRow.laid.filter λx=>x.2.handleName?.isNone:=iz.2 ⟨by simp[Rows.fnSweepOrderRow],by kernel_rfl⟩
theorem Kz:("errors.errorType",Rows.laid_errors_errorType)∈Rows.fnSweepOrderRow.laid.filter λx=>x.2.handleName?.isSome:=iz.2 ⟨by simp[Rows.fnSweepOrderRow],by kernel_rfl⟩
set_option maxRecDepth 100000 in
theorem lifted(os:Os)(e:os.Started)(H:Type)(enc:av×ah->H):
  ReturnsInLeavingWide {} Tryz.checked os 5 .any (λw args=>(Rows.fnSweepOrderSpec.pre enc ag Tryz.f5 Rows.fnSweepOrderRow.domain ae w args/\laidMetH ag Rows.fnSweepOrderRow.laid w)/\sizedMet enc ag Tryz.f5 (OpenSpec.ofChange Rows.fnSweepOrderSpec) ae w args)
   (Rows.fnSweepOrderSpec.post enc ag Tryz.f5 ae W ae ae):=by
 refine Go.AM.sh (C:=Tryz.checked) (X:=λw _=>laidMetH ag Rows.fnSweepOrderRow.laid w) (λ_ _ _ hh h=>h.of_heap hh) own e Tryz.func5
  (ChangeSpec.witness_shaped (enc:=enc) (C:=Tryz.checked) (os:=os) (X:=λw _=>laidMetH ag Rows.fnSweepOrderRow.laid w) ae (zf os) #[.slice af 0 0,.slice af 0 0] 8 (World.laidAll_os _ _ _)
   (World.shaped_of_ZipB bw bw) bw bw bw
   (rA os _)) ?_
 intro ab base args ds gs before zg hW Uo hL;have a:∀(j:Nat) t v,Tryz.f5.params[j]?=O t->args[j]?=O v->Value.okWide ag ab .any base t v:=zg;have F:=hW;obtain⟨p,q,y,U,rfl,_,_⟩:=hW;have Y:DataW.TrodAll enc ag ab 0 (λ_=>W) W Tryz.f5.params.toList args.toList ds p:=y;rw[Tryz.params5]at Y a;obtain⟨v0,vs0,d0,ds0,p0,q0,AK,rfl,rfl,h0,r0⟩:=trodAll_cons Y;obtain⟨v1,vs1,d1,ds1,p1,q1,rfl,rfl,rfl,Z,r1⟩:=trodAll_cons r0;obtain⟨rfl,rfl,rfl⟩:=trodAll_nil r1;obtain rfl:args=#[v0,v1]:=Q6;obtain⟨a0,g,A,rfl⟩:=okWide_slice aZ (a 0 22 v0 rfl rfl);obtain⟨a1,Xx,s,rfl⟩:=okWide_slice aZ (a 1 22 v1 rfl rfl);have ak:=h0;have K:∀x∈p0,x.block<ab.heap.size:=by obtain⟨m,G⟩:=ak;exact DataW.trod_lt m _ _ _ G
 have k1:=Z;have L:∀x∈p1,x.block<ab.heap.size:=by obtain⟨m,G⟩:=k1;exact DataW.trod_lt m _ _ _ G
 clear y zg;obtain⟨b0,J,N,E⟩:=oH h0;obtain⟨b1,Q,P,R⟩:=oH Z;obtain⟨n,hK⟩:=Go.AM.mK hL Uo inK nK yK Tryz.underlying68 (jN bw) zK;obtain⟨l,hP⟩:=Go.AM.mK hL Uo inP nP yP Tryz.underlying68 (jN bw) zP;have hE:=Go.AM.tN hL Uo Kz aK aK nE IJ B6 (jN bw) zE;have aa:∀x∈([(1,68,.iface n.1 n.2),(2,68,.iface l.1 l.2),(0,147,Go.AM.R1.rT 68)]:List Go.AM.Gl),ab.heap[x.1]?=O (.cells #[x.2.2] x.2.1 (0,0)):=by
  intro x o;simp only[eQ,zQ,mS]at o;rcases o with rfl|rfl|rfl
  .exact hK
  .exact hP
  exact hE
 have hi:∀x∈([(1,68,.iface n.1 n.2),(2,68,.iface l.1 l.2),(0,147,Go.AM.R1.rT 68)]:List Go.AM.Gl),∃T u,x.2.2=.iface T u:=QK;have z:∀(b:Nat->Int) (i j:Nat) (c:Go.AM.C),(Go.AM.R1.xT b i)[j]?=O c->∃kd m,c=Go.AM.C.int kd m:=λb i j c h=>by
  cases j with
  |zero=>cases h;exact⟨_,_,aK⟩
  |succ j=>simp[Go.AM.R1.xT]at h
 refine Go.AM.e9.Tf (gs:=[(1,68,.iface n.1 n.2),(2,68,.iface l.1 l.2),(0,147,Go.AM.R1.rT 68)]) (vs:=[.slice a0 g A,.slice a1 Xx s]) (Go.AM.R1.yA n l g Xx b0 b1 J Q N P).uW bw (show[1,2,0].Nodup by decide) aa ⟨Go.AM.Rd.vM aa hi (z _) E,Go.AM.Rd.vM aa hi (z _) R,an⟩ λ_ v s' hv hb d=>?_;have D:Rd s'.M v (.bool W):=hv;cases D;have f:Below ab.heap.size ab (s'.w.at d):=⟨hb.os,hb.tape,hb.output,hb.size,hb.block⟩;obtain⟨B,g2,rfl⟩:∃B g2,gs=[B,g2]:=by
  have k:=U;rcases gs with _|⟨B,_|⟨g2,_|⟨g3,r⟩⟩⟩
  .exact k.elim
  .obtain⟨_,_,_,_,_,_,_,_,_,_,h,_⟩:=k;exact h.elim
  .exact⟨B,g2,aK⟩
  obtain⟨_,_,_,_,_,_,_,_,_,_,h,_⟩:=k;obtain⟨_,_,_,_,_,_,_,_,_,_,h,_⟩:=h;exact h.elim
 have S:DataW.TrodVars enc ag (s'.w.at d) (λb=>decide (b<ab.heap.size)) Rows.fnSweepOrderSpec.vars [B,g2] q:=Below.trodVars oB f bw U;exact⟨_,_,_,[],_,_,F,trodAll_mk1 (shut_bool Tryz.underlying4 _),(trodAll_cons_mk (Below.trod oB bw (jN bw) ak f K) (trodAll_cons_mk (Below.trod oB bw (jN bw) k1 f L) trodAll_mk0)),S,f.frame _,λh=>by cases h⟩
theorem l8{P:aR}{f:aO}{fn:Func}{s:ChangeSpec}{c:OpenClaim}(w:c.wf (OpenSpec.ofChange s)=W)(q:(laidOutB P&&mapsRowed P)=W)(p:(fn.params.all (P.readableRec ·)&&namedTie P c.named s.vars)=W)(l:((c.stops==[])&&(P.stops==[])&&(c.knobs==[])&&(P.stopKnobs==[]))=W)(o:(c.inPlace==P.inPlace f)=W)(v:(c.unfollowed==P.unfollowed f)=W)(m:(c.recurses==P.recurses f)=W)(r:(c.named==P.varsNamed f)=W)(n:((c.maps==(fn.params.toList++s.plain.varTypes P).any (P.mapsRec ·))&&(c.ifaces==(fn.params.toList++s.plain.varTypes P).any (P.ifacesRec ·))&&(c.mapsOut==P.mapsAmong fn.resultTypes.toList))=W)(u:((c.loops==(fn.params.toList++s.plain.varTypes P).any (P.loopsFrom ·))&&(c.wideKeys==(fn.params.toList++s.plain.varTypes P++fn.resultTypes.toList).any (P.wideKeysFrom ·)))=W)(a:(s.vars.all (P.varReadable ·)&&fn.resultTypes.all (λt=>P.readableRec t&&decide (t<P.types.size))&&(c.ifacesOut==fn.resultTypes.toList.any (P.ifacesRec ·))&&(c.loopsOut==fn.resultTypes.toList.any (P.loopsFrom ·)))=W)(e:(c.plainKeys==P.plainKeys)=W)(g:c.shortTexts.isNone=W)(k:P.stopsHeard=W)(h:P.mayEnter=W)(d:(c.lifted==P.liftsFinal)=W)(i:(P.make==O c.make)=W)(j:((c.kinds==[])&&c.domain.isEmpty&&(c.pinned==c.pinnedBy))=W)(b:((c.veiled==(fn.params.toList++s.plain.varTypes P++fn.resultTypes.toList).any (P.veiledRec ·))&&c.veiledFits P fn.params.toList (fn.params.toList++s.plain.varTypes P++fn.resultTypes.toList))=W):
  joinedFacts P f fn s c=W:=QM
theorem IK:Rows.fnSweepOrderRow.wf (OpenSpec.ofChange Rows.fnSweepOrderSpec)=W:=bw
theorem IL:(laidOutB Tryz.checked.prog&&mapsRowed Tryz.checked.prog)=W:=bw
theorem IM:(Tryz.f5.params.all (Tryz.checked.prog.readableRec ·)&&namedTie Tryz.checked.prog Rows.fnSweepOrderRow.named Rows.fnSweepOrderSpec.vars)=W:=bw
theorem IN:((Rows.fnSweepOrderRow.stops==[])&&(Tryz.checked.prog.stops==[])&&(Rows.fnSweepOrderRow.knobs==[])&&(Tryz.checked.prog.stopKnobs==[]))=W:=bw
theorem IP:(Rows.fnSweepOrderRow.inPlace==Tryz.checked.prog.inPlace 5)=W:=bw
theorem IQ:(Rows.fnSweepOrderRow.unfollowed==Tryz.checked.prog.unfollowed 5)=W:=bw
theorem IS:(Rows.fnSweepOrderRow.recurses==Tryz.checked.prog.recurses 5)=W:=bw
theorem IT:(Rows.fnSweepOrderRow.named==Tryz.checked.prog.varsNamed 5)=W:=bw
theorem IU:((Rows.fnSweepOrderRow.maps==(Tryz.f5.params.toList++Rows.fnSweepOrderSpec.plain.varTypes Tryz.checked.prog).any (Tryz.checked.prog.mapsRec ·))&&(Rows.fnSweepOrderRow.ifaces==(Tryz.f5.params.toList++Rows.fnSweepOrderSpec.plain.varTypes Tryz.checked.prog).any (Tryz.checked.prog.ifacesRec ·))&&(Rows.fnSweepOrderRow.mapsOut==Tryz.checked.prog.mapsAmong Tryz.f5.resultTypes.toList))=W:=bw
theorem IV:((Rows.fnSweepOrderRow.loops==(Tryz.f5.params.toList++Rows.fnSweepOrderSpec.plain.varTypes Tryz.checked.prog).any (Tryz.checked.prog.loopsFrom ·))&&(Rows.fnSweepOrderRow.wideKeys==(Tryz.f5.params.toList++Rows.fnSweepOrderSpec.plain.varTypes Tryz.checked.prog++Tryz.f5.resultTypes.toList).any (Tryz.checked.prog.wideKeysFrom ·)))=W:=bw
theorem B7:(Rows.fnSweepOrderSpec.vars.all (Tryz.checked.prog.varReadable ·)&&Tryz.f5.resultTypes.all (λt=>Tryz.checked.prog.readableRec t&&decide (t<Tryz.checked.prog.types.size))&&(Rows.fnSweepOrderRow.ifacesOut==Tryz.f5.resultTypes.toList.any (Tryz.checked.prog.ifacesRec ·))&&(Rows.fnSweepOrderRow.loopsOut==Tryz.f5.resultTypes.toList.any (Tryz.checked.prog.loopsFrom ·)))=W:=bw
theorem B8:(Rows.fnSweepOrderRow.plainKeys==Tryz.checked.prog.plainKeys)=W:=bw
theorem B9:Rows.fnSweepOrderRow.shortTexts.isNone=W:=bw
theorem Ca:Tryz.checked.prog.stopsHeard=W:=bw
theorem Cb:Tryz.checked.prog.mayEnter=W:=bw
theorem Cc:(Rows.fnSweepOrderRow.lifted==Tryz.checked.prog.liftsFinal)=W:=bw
theorem Cd:(Tryz.checked.prog.make==O Rows.fnSweepOrderRow.make)=W:=bw
theorem Ce:((Rows.fnSweepOrderRow.kinds==[])&&Rows.fnSweepOrderRow.domain.isEmpty&&(Rows.fnSweepOrderRow.pinned==Rows.fnSweepOrderRow.pinnedBy))=W:=bw
theorem Cf:((Rows.fnSweepOrderRow.veiled==(Tryz.f5.params.toList++Rows.fnSweepOrderSpec.plain.varTypes Tryz.checked.prog++Tryz.f5.resultTypes.toList).any (Tryz.checked.prog.veiledRec ·))&&Rows.fnSweepOrderRow.veiledFits Tryz.checked.prog Tryz.f5.params.toList (Tryz.f5.params.toList++Rows.fnSweepOrderSpec.plain.varTypes Tryz.checked.prog++Tryz.f5.resultTypes.toList))=W:=bw
theorem qy:joinedFacts Tryz.checked.prog 5 Tryz.f5 Rows.fnSweepOrderSpec Rows.fnSweepOrderRow=W :=
 l8 IK IL IM IN IP IQ IS IT IU IV B7 B8 B9 Ca Cb Cc Cd Ce Cf
theorem named:Tryz.pinned.checked.prog.funcNamed Rows.fnSweepOrderRow.func=O 5:=bw
theorem over:Rows.FnSweepOrderSaid :=
 OpenClaim.holds_of_wide_leaving 5 Tryz.f5 Z Z Z Z Z Z Z ⟨rfl,rfl,rfl,rfl,rfl⟩ Z Z Z Z Z named Tryz.func5 qy
  (jN bw) QH
  (λos started H enc _=>lifted os started H enc)
theorem fnSweepOrder_proved:Rows.FnSweepOrderCardSaid :=
 Go.AM.yz .later [] [.data,.handle,.sentinel,.sentinel,.pinned] W (W,"6ea49b25dbda47768687f6640f9d59c076bf2d2075a865e3fcc4214d63d10974") W over (λ_ h=>by cases h) bw (λ_ h=>by cases h) fnSweepOrder_row_tie rfl ⟨rfl,rfl⟩ bw rfl
  (λf fn hf Xj=>by
   obtain rfl:f=5:=ou ((show Tryz.prog.funcNamed "loop.example/depositary/laws.FnSweepOrder"=O 5 by kernel_rfl).symm.trans hf) |>.symm
   obtain rfl:fn=Tryz.f5:=(ou (Tryz.func5.symm.trans Xj)).symm;exact⟨by kernel_rfl,λj t b=>by
    rw[Tryz.params5]at b;have c:t∈[22]:=QV;have a:([22].all λu=>!Tryz.prog.wantsStandIn u)=W:=bw
    exact(show Tryz.prog.wantsStandIn t=ae by simpa using bL.1 a t c)⟩)
  bw
#print axioms fnSweepOrder_proved
end Go.Proofs.YtacjdcdlmahinaaGreatDoor

