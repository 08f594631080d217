/- Part 3. No condition. -/
import Derived.Test.YtnamahahdbfodaaGreatDoorA2
import Derived.Laws.Externs
import Derived.Lib.Builder
import Derived.Conc.Beside
import Derived.Conc.CrowdRun
import Derived.Conc.WgGenN2
import Derived.Conc.WgGenN3
import Derived.Conc.LeavingOf
import Derived.Below
import Derived.ProofKit
import Derived.OpenShut
import Derived.OpenVars
import Derived.LaidMore
import Derived.Lay
import Derived.SevenTiedAt
set_option linter.all false
set_option maxHeartbeats 8000000
open Go.Proofs
open Go.Proofs.Tryz
open Go.Conc (G)
open List renaming length → c, range → aC, replicate → aY, getD_eq_getElem?_getD → al
open Go renaming Value → Z, TypeId → av, Event → aT, undef → K, World → au, Frame → aK, FuncId → a3, execOp → ac, Operand → aB, Program → aI, Goroutine → ak, stepG → aq, Oper → ap
open Option renaming some → h, none → n
open Bool renaming true → f, false → l
open Nat renaming beq → af, ble → ay
open Go.Region renaming wanted → aU
open Go.World renaming cell? → aL
open Go.Op renaming bytesLess → aW
open Go.Sem renaming events_bind → aH
open Go.Result renaming evThen_ok → aJ
open Go.Instr renaming sliceBounds → aX
open Go.Proofs.Tryz renaming prog → V
open Go.MemAct renaming ofEvent → aO
open Go.Conc renaming stepG_seq → aw, stepG_region_end → aF
namespace Go.AM
variable {k A:Nat}{i:Int}{d j e w:Nat}{W:av}{H:Z->(Nat->Option Obj)->Prop}{L:Array Bool}{bB:Mem}{D:Nat}{P:aI}{bq:ak->a5->Prop}{s:Code}{C:ak}{t:ap}{b:a5}{q:av}{aa:Z}{o X:aB}{α:Type}{η:aB->z}{ι:Type}{p:m an}{F:bH}{all:m ap}{dp:Array av}{cap:m N}{cR:m z}{k8:Nat->Option Obj}{ah:m aK}{bg:m (Nat×Bool)}{T:Nat->m N}{cP:aB}{gs:Array ak}{aP:m Nat}{cf:m Prop}{off:Nat}{op:BinOp}{aD:Array ap}{ab:m Prop}{bs:m ap}{az:a5}{ty:av}{val:Nat->Nat->Z}{B:m Z}{bi:au}{ag:Array aB}{ao dd:m an}{res:ι->z}{aM:ι->m an}
variable {CT:m (Nat×bL)}{ar:m ij}{be:fs}{ad:m (Nat×bv)}{a4:bv}
section
variable {r:aj P}{bc:m (Nat×bv)}{ad:av}{I:Bool}{v1:Z}{bO:Option (Nat×Nat)}{ag:m UInt8}{i:Nat}
def I1{P}{j t}{q}{i}:∀(B:m Z)a(g:Array Z)d(b:Array aT),d.heap[j]?=h (.cells g q i)->i.2<=t+a->t+a+c B<=g.size->(∀e∈B,e.oneCell'=f) ->
  ∀o∈(storeCells ⟨j,t,n⟩ B a).events P d b,o∈b∨∃p,a<=p/\p<a+c B/\o=tU j (t+p)
 |[],_,_,_,_,_,_,_,_=>λo r=>.inl cQ
 |e::k,a,g,d,b,C,F,I,s=>λo r=>by
  have bp:t+a<g.size:=M;have u:d.cell? ⟨j,t+a,n⟩=h g[t+a]:=NJ;have A:d.frozen? ⟨j,t+a,n⟩=l:=by obtain⟨x,D⟩:=i;simp[World.frozen?,C,Ao,dj];grind
  have v:(store (⟨j,t+a,n⟩:Addr) e).run P d=.ok () (d.setRow j (g.setIfInBounds (t+a) e)):=Nz;have w:(store (⟨j,t+a,n⟩:Addr) e).events P d b=b.push (tU j (t+a)):=by rw[events_store P d b _ e _ (s e E),u];exact ht
  simp[storeCells,aH,gN,v,w,aJ]at r;rcases I1 k (a+1) (g.setIfInBounds (t+a) e) _ _ (setRow_heap _ _ _ _ _ _ C) y M (λz N=>s z M) o r with J|⟨p,O,K,rfl⟩
  .grind
  grind
def mZ.at{L}{j C cap}{e:Nat->Option Obj}(t:mZ P p b d ad W I v1 (h (C,cap)) ag i L j e):
  C≠j/\c ag<=cap/\0<cap/\cap<=9223372036854775807/\i<=c ag/\(∃g,c (fN ag++g)=cap/\e C=h (.cells (fN ag++g).toArray W (0,i)))/\(∀s,(e s).isSome=f↔s=j∨s=C)/\C∈L.al:=by
 obtain⟨v,w,_,_,k,m,o,q,r,a,u⟩:=t.f_;have:v=j:=by rw[t.v]at w;grind
 subst this;obtain⟨g,a,x⟩:=a;exact⟨k,m,o,q,r,⟨g,a,x⟩,u,(t.al C).2 M⟩
def ab9{L}(a:b.l[d]?=h L):b.l.set d L=b.l:=mY
def mZ.b_{L}{j C cap}{g:Nat->Option Obj}(t:bb p b)(u:p[d]?=h (.J (eE ad W I v1 (h (C,cap)) ag i)))(e:mZ P p b d ad W I v1 (h (C,cap)) ag i L j g){oO}{pk}{ud}{bi}(A:c (fN oO++ud)=cap)(N:c oO<=cap)(E:pk<=c oO)(R:bi.heap.size=b.a.heap.size)(o:∀a,a≠C->bi.heap[a]?=b.a.heap[a]?)(U:bi.heap[C]?=h (.cells (fN oO++ud).toArray W (0,pk)))(v:bi.os=b.a.os)(K:bi.tape=b.a.tape)(B:bi.output=b.a.output):
  bb (p.set d (.J (eE ad W I v1 (h (C,cap)) oO pk))) {b with a:=bi}/\cN p b (p.set d (.J (eE ad W I v1 (h (C,cap)) oO pk))) {b with a:=bi}:=by
 obtain⟨k,w,r,s,x,⟨T,z,S⟩,bz,Q⟩:=e.at;obtain⟨J,F⟩:=t.b_ (d:=d) (j5:=eE ad W I v1 (h (C,cap)) oO pk) (cn:=L) (bi:=bi) u e.l rfl y
  (λa m D=>o a M) (λa m=>.inl m)
  ⟨λa=>if a=C then h (.cells (fN oO++ud).toArray W (0,pk))else g a,⟨j,e.v,e.cell,(show(if j=C then _ else g j)=_ from(bm λq=>k q.symm).trans e.cF),k,N,r,s,E,⟨ud,A,by simp⟩,λa=>by
   grind⟩,λa O m=>by
   by_cases q:a=C
   .grind
   .simp only[q,dh]at m;rw[o a q];exact e.heap _ _ m,λa=>by
   rw[e.al a]
   grind⟩ v K B
 rw[ab9 e.l]at J F;grind
def a0.ig{x}(u:t.op=.call {callee:=.builtin .append,args:=#[o,X],argTypes:=#[q,x]}){a4}(ab:P.underlying q=h (.slice W))(N:P.underlying x=h .string)(aa:P.info? W=h a4)(Z:a4.size=1){C cap}(s:p[d]?=h (.J (eE ad W I v1 (h (C,cap)) ag i)))(S:η o=cM (jG (h (C,cap)) k))(R:c ag=k){b}(T:η X=ax (.V b))(aM:k+c b<=cap):
  a0 P t η p (cM (jG (h (C,cap)) (k+c b))) (p.set d (.J (eE ad W I v1 (h (C,cap)) (ag++b) i))):=by
 intro j Y r v;subst R;obtain⟨L,aP,aB,w⟩:=eE.row (P:=P) r s;obtain⟨ar,au,av,aw,B,⟨g,az,D⟩,aA,aj⟩:=w.at;have z:=v o;rw[S]at z;have z:=Rd.bd z;have O:=v X;rw[T]at O;have O:=b7 O;generalize H:Y X=aJ at O;cases O with
 |@V e _ ae aK=>
 have ak:e.size=c b:=by rw[<-ae,m9];rfl
 have A:=w.heap _ _ D;have aL:(fN ag++g).toArray.size=cap:=M;have ai:=Lib.run_append_room_stringF (P:=P) j.a q x t.type W a4 ab N aa Z C (c ag) cap _ _ A B e y M;have G:((fN ag++g).toArray.toList.take (c ag)++Lib.strCells e++(fN ag++g).toArray.toList.drop (c ag+e.size))=fN (ag++b)++g.drop (c b):=by
  have F:(fN ag++g).take (c ag)=fN ag:=ET;have J:(fN ag++g).drop (c ag+e.size)=g.drop (c b):=by rw[List.drop_append,MZ,List.drop_eq_nil_of_le M,ak];simp
  have K:Lib.strCells e=fN b:=by simp[Lib.strCells,fN,ae]
  rw[List.toList_toArray,F,J,K,aep]
 rw[G,ak]at ai;have ah:c g=cap-c ag:=ET;have aH:c (fN (ag++b)++g.drop (c b))=cap:=ET;have aI:(j.a.setRow C (fN (ag++b)++g.drop (c b)).toArray).heap[C]?=h (.cells (fN (ag++b)++g.drop (c b)).toArray W (0,i)):=setRow_heap j.a C _ _ W _ A;obtain⟨V,an⟩:=w.b_ (pk:=i) (bi:=j.a.setRow C (fN (ag++b)++g.drop (c b)).toArray) r s aH M M (setRow_size _ _ _) (λE aq=>setRow_other j.a C E _ aq) aI rfl rfl rfl;refine⟨.value (.slice (h ⟨C,0,n⟩) (c ag+c b) cap),_,?_,Rd.val a,V,an,?_⟩
 .rw[ld u,z,H];simp[cH,d8];have aO:(Builtin.append_ #[q,x] t.type #[jG (h (C,cap)) (c ag),.string e]).run P j.a=_:=ai;exact ht
 rw[ld u,z,H];refine jj λaD m=>?_;have Q:=Lib.run_firstCells_string (P:=P) j.a 1 e;have ao:=run_storeCells_atF P C (c ag) W (0,i) (Lib.strCells e) 0 _ j.a A M M (Lib.strCells_oneCell e);have aE:c ag+e.size<=cap:=y;have aN:(Builtin.firstCells 1 e.size (.string e)).events P j.a #[]=#[]:=rfl;simp[jG,Builtin.append_,run_underlying ab,run_underlying N,sizeOf,typeInfo,aa,Z,Builtin.lenOf,aE,Q,aN,gN,ao]at m;rcases I1 (Lib.strCells e) 0 _ j.a _ A M M (Lib.strCells_oneCell e) aD m with aQ|⟨aR,aF,aG,rfl⟩
 .grind
 exact og (b9 w.l) aj (w.u _ aj _)
def a0.ih{A}(g:t.op=.call {callee:=.builtin .append,args:=#[o,X],argTypes:=#[q,A]}){a4}(v:P.underlying q=h (.slice W))(s:P.underlying A=h .string)(r:P.info? W=h a4)(B:η o=cM (jG n 0))(z:η X=ax (.V [])):a0 P t η p (cM (jG n 0)) p:=by
 refine .aZ λw m x i=>?_;have e:=i o;rw[B]at e;have e:=Rd.bd e;have d:=i X;rw[z]at d;have d:=b7 d;generalize u:m X=C at d;cases d with
 |@V b _ E D=>
 have j:b.size=0:=by have:c b.data.toList=0:=M;rw[m9]at this;exact this
 have k:=Lib.run_firstCells_string (P:=P) w.a a4.size b;rw[j]at k;have y:(Builtin.firstCells a4.size 0 (.string b)).events P w.a #[]=#[]:=rfl;refine⟨.slice n 0 0,?_,Rd.val a,?_⟩
 .rw[ld g,e,u];simp[jG,Builtin.append_,run_underlying v,run_underlying s,sizeOf,typeInfo,r,Builtin.lenOf,j,k]
 rw[ld g,e,u];simp[jG,Builtin.append_,run_underlying v,run_underlying s,sizeOf,typeInfo,r,Builtin.lenOf,j,k,y]
def Sb{u}{fn}{ab}(ai:P.underlying q=h (.slice W))(B:P.funcs[u]?=h fn)(O:(fn.name== "runtime.NumGoroutine")=l)(aj:fn.body.isNone=f)(R:Extern.findNext fn=n)(G:Extern.find fn=h (Extern.BytealgMakeNoZero.makeNoZero ab #[q]))(D:t.op=.call {callee:=.value cP,args:=#[o],argTypes:=dp})(aA:η cP=.n (.aq (.c (.fn (.func u) [] []))))(X:η o=.n (.aq (.c (.int .i64 k))))(aK:0<k)(T:k<=140737488355328)(C:p[d]?=h (.J (eE ad W I v1 n ag i))):
  ∀b g,bb p b->(∀ar,bx p b (g ar) (η ar))->∃(F:{aM:Nat×Nat // k<=aM.2}) (v:a5) (J:Z),(ac g t).run P b.a=.ok (.value J) v.a/\bx (p.set d (.J (eE ad W I v1 (h F.1) [] 0))) v J (cM (jG (h F.1) k)) /\
   bb (p.set d (.J (eE ad W I v1 (h F.1) [] 0))) v/\cN p b (p.set d (.J (eE ad W I v1 (h F.1) [] 0))) v/\dt b ((ac g t).events P b.a #[]):=by
 intro b g aN E;obtain⟨L,ak,aG,m⟩:=eE.row (P:=P) aN C;have z:g cP=.func (.func u) #[] #[]:=by
  have j:=E cP;rw[aA]at j;have j:=b7 j;generalize g cP=J at j;cases j with
  |fn aJ e aR ak aH aI aE aF d1 d2=>
   grind
 have ah:g o=.int .i64 k:=by have j:=E o;rw[X]at j;have j:=b7 j;generalize g o=J at j;cases j;rfl
 obtain⟨e,j,K,Q⟩:=Lib.run_makeNoZero (P:=P) b.a ab q W ai k y;have Q:=Q (by simp[maxLen];omega);have av:(callFunc u #[.int .i64 k]).run P b.a=.ok (.value (.slice (h ⟨b.a.heap.size,0,n⟩) k e.size)) (b.a.drew.drew.alloc (.cells e W)):=by rw[run_callFunc_extern B O aj R G,j];rfl
 let bi:au:=b.a.drew.drew.alloc (.cells e W);have V:bi.heap[b.a.heap.size]?=h (.cells e W (0,0)):=lV b.a.drew.drew _;have aq:bi.heap.size=b.a.heap.size+1:=by show(b.a.drew.drew.heap.push _).size=_;simp
 obtain⟨A,aa,aO,aP,aQ⟩:=m.f_;have aB:A=ak:=by rw[m.v]at aa;grind
 subst aB;have N:=aN.lt L (b9 m.l) A m.mem;have aw:b.a.heap.size≠A:=y;obtain⟨ae,t2⟩:=aN.b_ (d:=d) (j5:=eE ad W I v1 (h (b.a.heap.size,e.size)) [] 0) (cn:=⟨L.v,[A,b.a.heap.size]⟩) (bi:=bi) C m.l rfl y
  (λr x R=>iQ b.a.drew.drew _ x) (λr x=>by
   simp at x;rcases x with rfl|rfl
   .exact .inl m.mem
   grind)
  ⟨λr=>if r=A then h (.cells #[if I then L.v else .pointer n,v1] ad (0,0))else if r=b.a.heap.size then h (.cells e W (0,0))else n,⟨A,m.v,m.cell,by simp,aw,by simp,by omega,by simp[maxLen]at Q;omega,by simp,⟨e.toList,by simp[fN],by exact ht⟩,λr=>by
   grind⟩,λr aL x=>by
   by_cases w:r=A
   .subst w;simp[dH]at x;have:bi.heap[r]?=b.a.heap[r]?:=iQ b.a.drew.drew _ N;rw[this,<-x];exact m.heap _ _ m.cF
   grind,λr=>by grind⟩ rfl rfl rfl
 refine⟨⟨(b.a.heap.size,e.size),K⟩,_,_,?_,Rd.val rfl,ae,t2,?_⟩
 .simp[ac,D,resolve,Deferred.ofValue,invoke,z,ah,av,bi,jG]
 intro a az;simp[ac,D,resolve,Deferred.ofValue,invoke,z,ah]at az;have H:a∈(callFunc u #[.int .i64 k]).events P b.a #[]:=M;have ax:fn.name≠ "runtime.NumGoroutine":=M;have aD:fn.body=n:=by simpa using aj
 have key:∀s:Array aT,∀w∈(Extern.BytealgMakeNoZero.makeNoZero ab #[q] #[.int .i64 k]).events P b.a s,w∈s∨∃Y,w=⟨.mark Y,l,f⟩/\Go.Conc.Neutral Y:=by
  intro s w G;change w∈Sem.events P (underlying _ >>= _) _ _ at G;have j:¬(k:Int)<0:=y;have K:¬(281474976710656:Int)<(k:Int):=y;have ao:w∈(askRoom (grownCap b.a k 0 W)).events P b.a.drew s:=by simpa[run_underlying ai,j,K,Question.forced,newRow,grownCap]using G
  grind[Go.Conc.events_askRoom]
 have:a∈(Extern.BytealgMakeNoZero.makeNoZero ab #[q] #[.int .i64 k]).events P b.a ((#[]:Array aT).push ⟨.mark (.extern u),l,f⟩):=by have w:callFunc u #[.int .i64 k]=callFunc u #[.int .i64 k]:=rfl;simpa[callFunc,B,ax,aD,R,G,j]using H
 rcases key _ _ this with an|⟨Y,rfl,S⟩
 .simp at an;subst an;exact .inr ⟨u,rfl⟩
 exact .inl S
def Sc{N ar}(cw:t.op=.call {callee:=.builtin .unsafeString,args:=#[o,X],argTypes:=#[N,ar]})(K:P.underlying N=h (.pointer W))(H:P.cellsOf W=1){C cap}(v:p[d]?=h (.J (eE ad W I v1 (h (C,cap)) ag i)))(ab:η o=cM (.pointer (h ⟨C,0,n⟩)))(ah:η X=ax (.int .i64 (c ag))):
  a0 P t η p (ax (.V ag)) (p.set d (.J (eE ad W I v1 (h (C,cap)) ag (c ag)))):=by
 intro b q u Q;obtain⟨L,aV,aU,R⟩:=eE.row (P:=P) u v;obtain⟨aM,s,aO,aP,aQ,⟨S,B,Z⟩,aR,aF⟩:=R.at;have O:=Q o;rw[ab]at O;have O:=Rd.bd O;have aj:q X=.int .i64 (c ag):=by have z:=Q X;rw[ah]at z;have z:=b7 z;generalize q X=aW at z;cases z;rfl
 have Y:=R.heap _ _ Z;have ak:ac q t=(do pure (.value (<-Builtin.unsafeString_ #[N,ar] t.type #[q o,q X]))):=Ri;have aa:(fN ag++S).toArray.size=cap:=M;by_cases D:ag=[]
 .subst D;have az:=Lib.run_unsafeString_none (P:=P) b.a N ar t.type (h ⟨C,0,n⟩);obtain⟨w,V⟩:=R.b_ (oO:=[]) (pk:=0) (ud:=S) (bi:=b.a) u v B s E rfl (λ_ _=>rfl) M rfl rfl rfl;refine⟨.value (.string .empty),_,ht,Rd.V a E,w,V,?_⟩;rw[ak,O,aj];exact O3
 .have e:∀j o,ag[j]?=h o->b.a.cell? ((⟨C,0,n⟩:Addr).add j)=h (.int .u8 o.toNat):=by
   intro j o T;rw[gN];simp[aL,Y,cV];have av:=(cO.1 T).1;have:(fN ag)[j]?=h (.int .u8 o.toNat):=by simp[fN,T]
   grind
  have an:b.a.shape? C=h (W,cap):=by simp[World.shape?,Y];grind
  have az:=Lib.run_unsafeString_row (P:=P) b.a N ar t.type W K H C cap an ag D s y e;have ae:c ag≠0:=M;have F:(b.a.freeze ⟨C,0,n⟩ (c ag)).heap[C]?=h (.cells (fN ag++S).toArray W (0,c ag)):=by simp[World.freeze,ae,dh,Ax,dH,Y,lF];grind
  obtain⟨w,V⟩:=R.b_ (oO:=ag) (pk:=c ag) (ud:=S) (bi:=b.a.freeze ⟨C,0,n⟩ (c ag)) u v B s (bC _) zW (λaS au=>by
   simp only[World.freeze,ae,dh,Ax]
   grind) F zW zW zW
  refine⟨.value (.string ⟨ag.toArray⟩),_,?_,Rd.V E y,w,V,?_⟩
  .rw[ak,O,aj];simp only[cH,d8,az];rfl
  rw[ak,O,aj];refine jj λr x=>?_;have aB:¬(c ag:Int)<0:=y;have aG:¬(9223372036854775807:Int)<(c ag:Int):=y;have aw:=Lib.liesAt_bytes (P:=P) H (cap / P.cellsOf W) (c ag) M;have aA:IntKind.i64.max=9223372036854775807:=rfl;have J:=Lib.run_loadBytes (P:=P) b.a ag ⟨C,0,n⟩ .empty e;have aE:∀(G:m UInt8) (A:Nat) (k:ByteArray) (g:Array aT),(∀j o,G[j]?=h o->b.a.cell? ⟨C,A+j,n⟩=h (.int .u8 o.toNat))->∀r∈(loadBytes ⟨C,A,n⟩ k (c G)).events P b.a g,r∈g∨∃j,r=pz C j:=by
   intro G;induction G with
   |nil=>intro A k g _ r x;exact .inl (by simpa[loadBytes]using x)
   |cons X G ai=>
    intro A k g H r x;have ao:=H 0 X a;simp only[j']at ao;have aN:(load ⟨C,A,n⟩).run P b.a=.ok (.int .u8 X.toNat) b.a:=by grind[run_load]
    simp only[fl,loadBytes,aH,aN,aJ,Cg ao,gN]at x;rcases ai (A+1) _ _ (λj o T=>by have:=H (j+1) o M;grind) r x with aq|aq
    .grind
    grind
  have aI:(variablesAt ⟨C,0,n⟩ W (c ag)).run P b.a=.ok f b.a:=by simp[variablesAt,an,aw]
  have aD:∀g,(variablesAt ⟨C,0,n⟩ W (c ag)).events P b.a g=g:=λg=>by simp[variablesAt,an,aw]
  have aK:r∈(loadBytes ⟨C,0,n⟩ .empty (c ag)).events P b.a #[]:=by change r∈Sem.events P (asInt (.int .i64 (c ag:Int)) >>= _) _ _ at x;simpa[asInt,asIntOf,aA,aB,aG,ae,elemOf,run_underlying K,aI,aD,J]using x
  rcases aE ag 0 .empty #[] (λj o T=>by grind[gN]) r aK with aq|⟨j,rfl⟩
  .grind
  exact qp (b9 R.l) aF
end
section
variable {r:aj P}{R:m (Nat×bv)}{ad:av}{C:Bool}{v1:Z}{bO:Option (Nat×Nat)}{ag:m UInt8}{e:Nat}
def a0.exact{j}{i}(k:η o=cM aa)(m:∀(a:aB->Z) g,a o=aa->(ac a t).run P g=.ok (.value j) g/\(ac a t).events P g #[]=#[])(u:∀p e,bx p e j i):a0 P t η p i p:=by refine .aZ λe a s d=>?_;have b:=d o;rw[k]at b;have b:=Rd.bd b;obtain⟨q,r⟩:=m a e.a b;grind
def a0.fI(g:t.op=.call {callee:=.builtin .len,args:=#[o],argTypes:=dp})(e:dp[0]?=h q)(d:P.underlying q=h (.slice W)){a}{s}(j:η o=cM (.slice a k s))(i:k<=9223372036854775807):a0 P t η p (ax (.int .i64 k)) p:=
  .exact j (λm r b=>by constructor<;>simp[ac,g,resolve,invoke,builtin,Builtin.len_,b,run_underlying d,goInt,e]) (λ_ _=>Rd.int nO)
def a0.gY(g:t.op=.call {callee:=.builtin .cap,args:=#[o],argTypes:=dp})(e:dp[0]?=h q)(d:P.underlying q=h (.slice W)){a}{s}(j:η o=cM (.slice a k s))(i:s<=9223372036854775807):a0 P t η p (ax (.int .i64 s)) p:=
  .exact j (λm r b=>by constructor<;>simp[ac,g,resolve,invoke,builtin,Builtin.cap_,b,run_underlying d,goInt,e]) (λ_ _=>Rd.int nO)
def a0.h5(g:t.op=.call {callee:=.builtin .unsafeSliceData,args:=#[o],argTypes:=dp}){s}(d:η o=cM (.slice n k s)):a0 P t η p (cM (.pointer n)) p:=
  .exact d (λi j b=>by
    have e:Builtin.unsafeSliceData_ dp t.type #[.slice n k s]=pure (.pointer n):=rfl
    constructor<;>simp[ac,g,resolve,invoke,builtin,b,e]) (λ_ _=>Rd.val a)
def a0.h6(j:t.op=.call {callee:=.builtin .unsafeSliceData,args:=#[o],argTypes:=dp}){b}{s}(i:η o=cM (.slice (h b) k s))(e:s≠0):a0 P t η p (cM (.pointer (h b))) p:=
  .exact i (λq r d=>by
    obtain⟨m,rfl⟩:=Nat.exists_eq_succ_of_ne_zero e;have g:Builtin.unsafeSliceData_ dp t.type #[.slice (h b) k (m+1)]=pure (.pointer (h b)):=rfl
    constructor<;>simp[ac,j,resolve,invoke,builtin,d,g]) (λ_ _=>Rd.val a)
def a0.ja(C:t.op=.slice q o n (h X) n)(D:P.underlying q=h (.slice W)){a4}(r:P.info? W=h a4){g}{m i:Nat}(M:η o=cM (.slice (h g) k m))(K:η X=ax (.int .i64 i))(z:i<=k)(u:k<=m)(E:m≠0)(J:g.add 0=g):a0 P t η p (cM (.slice (h g) i m)) p:=by
  refine .aZ λF y e w=>?_;have j:=w o;rw[M]at j;have j:=Rd.bd j;have B:y X=.int .i64 i:=by have b:=w X;rw[K]at b;have b:=b7 b;generalize y X=N at b;cases b;rfl
  have s:((n:Option Z)=n/\(n:Option Int)=n)∨∃i x,(n:Option Z)=h (.int i x)/\(n:Option Int)=h x:=.inl ⟨rfl,rfl⟩;have e:(h (Value.int .i64 i)=n/\(h (i:Int))=n)∨∃A x,h (Value.int .i64 i)=h (.int A x)/\(h (i:Int))=h x:=.inr ⟨_,_,rfl,rfl⟩;have v:U (jf k n (h (i:Int))):=by simp[jf,z]
  obtain⟨d,_,_⟩:=vR (P:=P) (kl:=f) u s e v F.a;have I:=u3 (P:=P) (kl:=f) u s e v F.a;simp only[bT,c5]at d;refine⟨.slice (h g) i m,?_,Rd.val a,?_⟩
  · simp[ac,C,j,B,Instr.sliceAt,run_underlying D,Instr.slice,d,sizeOf,typeInfo,r,E,J]
  · simp[ac,C,j,B,Instr.sliceAt,run_underlying D,Instr.slice,d,I,sizeOf,typeInfo,r,E]
def a0.iF{i}(j:t.op=.call {callee:=.builtin .copy,args:=#[o,X],argTypes:=#[q,i]})(r:P.underlying q=h (.slice W)){a4}(e:P.info? W=h a4){g}{s}(u:η o=cM (.slice (h g) 0 s))(m:η X=cM (.slice n 0 0)):a0 P t η p (ax (.int .i64 0)) p:=by
  refine .aZ λw v k a=>?_;have d:=a o;rw[u]at d;have d:=Rd.bd d;have b:=a X;rw[m]at b;have b:=Rd.bd b;refine⟨.int .i64 0,?_,Rd.int ly,?_⟩<;>
  simp[ac,j,resolve,invoke,builtin,Builtin.copy_,d,b,run_underlying r,sizeOf,typeInfo,e,Builtin.lenOf,Builtin.firstCells,storeCells,goInt]
def a0.jS{w j}(cw:t.op=.call {callee:=.builtin .unsafeString,args:=#[o,X],argTypes:=#[w,j]})(u:η o=cM (.pointer n))(s:η X=ax (.int .i64 ((0:Nat):Int))):a0 P t η p (ax (.V [])) p:=by
  refine .du λb e r i=>?_;have g:=i o;rw[u]at g;have g:=Rd.bd g;have k:e X=.int .i64 0:=by have d:=i X;rw[s]at d;have d:=b7 d;generalize e X=v at d;cases d;rfl
  have m:ac e t=(do pure (.value (<-Builtin.unsafeString_ #[w,j] t.type #[e o,e X]))):=Ri;have q:=Lib.run_unsafeString_none (P:=P) b.a w j t.type n;refine⟨.string .empty,?_,Rd.V a E,?_⟩
  · rw[m,g,k]
    simp only[cH,d8,q];rfl
  · rw[m,g,k]
    exact O3
def a0.ir(A:p[d]?=h (.J (eE ad W C v1 bO ag e))){i dst}(u:t.op=.convert i dst o)(z:P.underlying i=h (.pointer ad))(x:P.underlying dst=h .unsafePointer){w}(a:P.info? ad=h w)(v:w.size≠0)(B:η o=aG d 0):a0 P t η p (aG d 0) p:=by
  refine .aZ λm q j k=>?_;obtain⟨L,b,k8,a'⟩:=eE.row (P:=P) j A;have g:=k o;rw[B]at g;have y:=a'.ptr g;have s:m.a.shape? b=h (ad,2):=Nw;have r:=Lib.run_to_unsafe (P:=P) m.a ⟨b,0,n⟩ z x a v s E;refine⟨q o,by simp[ac,u,y,r],g,?_⟩;have:(convert i dst (.pointer (h ⟨b,0,n⟩))).events P m.a #[]=#[]:=by simp[convert,run_underlying z,run_underlying x,Conv.unsafePointer,Conv.seenAt,viewAt,cellsIn,s,sizeOf,typeInfo,a,v]
  simp[ac,u,y,r,this]
def a0.ik(A:p[d]?=h (.J (eE ad W C v1 bO ag e))){i dst}(u:t.op=.convert i dst o)(z:P.underlying i=h .unsafePointer)(x:P.underlying dst=h (.pointer ad)){w}(a:P.info? ad=h w)(B:w.size≠0)(r:liesAt P P.depth ad (2 / P.cellsOf ad) 0 ad 1=f)(D:η o=aG d 0):a0 P t η p (aG d 0) p:=by
  refine .aZ λm q j k=>?_;obtain⟨L,b,k8,a'⟩:=eE.row (P:=P) j A;have g:=k o;rw[D]at g;have y:=a'.ptr g;have v:m.a.shape? b=h (ad,2):=Nw;have s:=Lib.run_from_unsafe (P:=P) m.a ⟨b,0,n⟩ z x a v r;refine⟨q o,by simp[ac,u,y,s],g,?_⟩;have:(convert i dst (.pointer (h ⟨b,0,n⟩))).events P m.a #[]=#[]:=by simp[convert,run_underlying z,run_underlying x,Conv.unsafePointer,Conv.seenAt,viewAt,variablesAt,v,sizeOf,typeInfo,a,B,r]
  simp[ac,u,y,s,this]
def a0.jA{i}{fn}(u:P.funcs[i]?=h fn)(r:(fn.name== "runtime.NumGoroutine")=l)(d:fn.body.isNone=f)(e:Extern.findNext fn=n)(v:Extern.find fn=h Extern.AbiNoEscape.same)(g:t.op=.call {callee:=.value cP,args:=#[o],argTypes:=dp})(D:η cP=.n (.aq (.c (.fn (.func i) [] [])))){m}(N:η o=m):a0 P t η p m p:=by
  refine .du λk a B j=>?_;have s:a cP=.func (.func i) #[] #[]:=by
    have b:=j cP;rw[D]at b;have b:=b7 b;generalize a cP=M at b;cases b with
    |fn A y F I K J w x d1 d2=>
      grind
  have C:(callFunc i #[a o]).run P k.a=.ok (.value (a o)) k.a:=by rw[run_callFunc_extern u r d e v];rfl
  have E:=Im (P:=P) u r d e v #[a o] (λ_ _=>rfl) k.a #[];refine⟨a o,?_,by grind,λz q=>?_⟩
  · simp[ac,g,resolve,Deferred.ofValue,invoke,s,C]
  · simp[ac,g,resolve,Deferred.ofValue,invoke,s,E]at q
    subst q;exact .inr ⟨_,rfl⟩
end
def Do{a p:Type}{e:a->p}:∀{g:m a},(g.map e).Nodup->∀{b d:a},b∈g->d∈g->e b=e d->b=d
 |[],_,_,_,s,_,_=>by grind
 |u::t,k,b,d,q,r,o=>by
  simp only[mi,List.nodup_cons]at k;rcases fo.1 q with j|j<;>rcases fo.1 r with i|i
  .grind
  .grind
  .grind
  exact Do k.2 j i o
def qL{bX}{a}(d:bX≠.bn)(b:jQ a=f):jQ (bX::a)=f:=by cases bX<;>first|exact b|grind
section
variable {r:aj P}
def g.bQ{aN p}(i:∀k b d,aN k b d->p k b d):∀{ar:m ij}{k:Exit}{b:bH}{d:m an},g r D aN ar k b d->g r D p ar k b d
 |[],k,b,d,a=>i k b d a
 |.code o::ar,.normal,b,d,a=>b0.mono a λ_ _ _ a=>g.bQ i a
 |.code o::ar,.exit _,b,d,a=>g.bQ (ar:=ar) i a
 |.code o::ar,.ret,b,d,a=>g.bQ (ar:=ar) i a
 |.code o::ar,.panic _,b,d,a=>g.bQ (ar:=ar) i a
 |.code o::ar,.goto _,b,d,a=>g.bQ (ar:=ar) i a
 |.code o::ar,.outgrown,b,d,a=>g.bQ (ar:=ar) i a
 |.blk id::ar,.exit q,b,d,a=>by
  simp only[g]at a⊢;split
  .rename_i k;rw[br k]at a;exact g.bQ (ar:=ar) i a
  rename_i k;rw[bm k]at a;exact g.bQ (ar:=ar) i a
 |.blk id::ar,.normal,b,d,a=>g.bQ (ar:=ar) i a
 |.blk id::ar,.ret,b,d,a=>g.bQ (ar:=ar) i a
 |.blk id::ar,.panic _,b,d,a=>g.bQ (ar:=ar) i a
 |.blk id::ar,.goto _,b,d,a=>g.bQ (ar:=ar) i a
 |.blk id::ar,.outgrown,b,d,a=>g.bQ (ar:=ar) i a
 |.ae j e::ar,.normal,b,d,a=>e'.mono a λ_ _ a=>g.bQ i a
 |.ae j e::ar,.exit _,b,d,a=>g.bQ (ar:=ar) i a
 |.ae j e::ar,.ret,b,d,a=>g.bQ (ar:=ar) i a
 |.ae j e::ar,.panic _,b,d,a=>g.bQ (ar:=ar) i a
 |.ae j e::ar,.goto _,b,d,a=>g.bQ (ar:=ar) i a
 |.ae j e::ar,.outgrown,b,d,a=>g.bQ (ar:=ar) i a
def g.fH{id}{O:bH->m an->Prop}{d s j}(a:iO id d=n)(b:iO id s=h j)(o:g r D be j .normal F p):
  g r D (v' O (g r D be s)) (.code (.exit id)::d) .normal F p:=
 g.bQ (λk e i q=>by cases k<;>exact q) (g.bt (r:=r) (D:=D) (Aj:=be) (O:=O) (F:=F) (p:=p) a b o)
end
section
variable {r:aj P}
def g.bh{fn}{u}{ao:ι->m an}(e)(aP){ah}{q}{j}(i:U ab)(bU:∀w,w<u->aP[w]?=h w)(k:fn.results.toList=[.cell q ty]:=by exact rfl)(bp:bZ ad ty=h j:=by exact rfl)(A:j.agg=f:=by exact rfl)(t:look F q=aG d 0:=by exact rfl)(gE:c7 d p=h (.cells W ah):=by exact rfl)(x:af (c ah) j.size=f:=by exact rfl)(s:ed d aP=l:=by exact rfl)(ae:km (.n (.agg ah)) (e9 aP (res e))=h ab:=by exact rfl)(I:hM (c aP) (res e)=f:=by exact rfl)(R:dv aP p=h (ao e):=by exact rfl)(C:l4 (ao e)=f:=by exact rfl)(jk:e8 aP=f:=by exact rfl):
  g r D (λai F aM=>∃w,ur ad fn u (res w) (ao w) ai F aM) (.code .ret::ar) .normal F p:=
 g.ret ⟨e,.inl a,aP,d,W,ah,q,ty,j,ab,n,nofun,k,bp,A,di x,t,ej gE,Kj s,ae,i,I,R,C,jk,bU⟩
def g.cq{fn}{i}{ao:ι->m an}(e)(aP){ah}{q bz}{j}{o}(A:U ab)(bU:∀w,w<i->aP[w]?=h w)(t:fn.results.toList=[.cell q ty,.tmp bz]:=by exact rfl)(bp:bZ ad ty=h j:=by exact rfl)(k:j.agg=f:=by exact rfl)(bc:look F q=aG d 0:=by exact rfl)(R:look F bz=.n o:=by exact rfl)(gE:c7 d p=h (.cells W ah):=by exact rfl)(x:af (c ah) j.size=f:=by exact rfl)(s:ed d aP=l:=by exact rfl)(ae:km (.Q [.agg ah,o]) (e9 aP (res e))=h ab:=by exact rfl)(I:hM (c aP) (res e)=f:=by exact rfl)(a':dv aP p=h (ao e):=by exact rfl)(C:l4 (ao e)=f:=by exact rfl)(jk:e8 aP=f:=by exact rfl):
  g r D (λai F aM=>∃w,ur ad fn i (res w) (ao w) ai F aM) (.code .ret::ar) .normal F p:=
 g.ret ⟨e,.inl a,aP,d,W,ah,q,ty,j,ab,h (bz,o),λ_ u=>by cases u;exact R,t,bp,k,di x,bc,ej gE,Kj s,ae,A,I,a',C,jk,bU⟩
def Y.bl(aR:bn P ad){d}{fn}{args}{res}(k:P.funcs[d]?=h fn)(j:(fn.name== "runtime.NumGoroutine")=l)(b:fn.body=h s)(i:ay args.length fn.ntmps=f)(o:ky args p->g r fn.ntmps (λm e a=>∃_:Unit,ur ad fn p.length res ao m e a) [.code s] .normal (h2 0 args) p):Y r d args p res ao:=
 (bk.bD (ι:=Unit) (ao:=λ_=>ao) (res:=λ_=>res) aR k j b i o).toY
end
section
variable {r:aj P}
def g.jD{I:ι->z}{e:ι->m an}(Q:dx r D all t F p I e)(T:fd D t.dst=f)(S:∀q,g r D be (.ae all bs::ar) .normal (fT t.dst (I q) F) (e q)):g r D be (.ae all (t::bs)::ar) .normal F p:=by
  intro V J u d E k i C idx j a x;cases idx with
  |nil=>exact a.elim
  |cons R idx=>
  refine Q V J u d E k i C R idx j a.1 λq X y v w b=>?_;refine S q y _ ?_ w E k i C idx j a.2 λK o A s U M O B=>x K o A s U M O (b.trans B);cases N:t.dst with
  |none=>exact u.mono b d.len
  |some W=>exact(u.mono b d.len).put (la T W N) v
def dx.gg[r.b']{bl}(aL:bk r bl cR [] res aM){aa}(aT:oN all F t=f)(bu:t.op=.call {callee:=.value cP,args:=ag,argTypes:=dp})(V:gO (bF F cP)=h (bl,cap))(bs:pT p (ag.toList.map (bF F)++e2 cap) aa)(bL:lZ aa (gq [] cR)=h ab)(a2:U ab)(aX:g6 0 cR=f)(bI:∀u,yl (res u)=f)(a1:∀u,qM (aM u)=f):dx r D all t F p res (λu=>p++aM u):=by
  intro b x ba aw j a4 ah bM bH idx g aW bp;have an:=eL ba cP;unfold gO at V;split at V
  case h_2=>cases V
  case h_1 u6 uS he=>
    cases V;rw[he]at an;have bD:=b7 an;generalize O:x.eval cP=bU at bD;cases bD with
    |fn bn J aZ ax bS bm e y bW bA=>
      have aQ:bn=[]:=jA aZ;subst aQ;have bP:b5 p b J (e2 cap):=qi (λu s br=>⟨bm u,y u M,bA u s br⟩) ax;have G:b5 p b (ag.toList.map x.eval++J) (ag.toList.map (bF F)++e2 cap):=(m6 (eL ba) ag.toList).append bP;generalize bG:ag.toList.map x.eval++J=B at G;obtain⟨⟨fn,aO,aA,bQ⟩,T⟩:=aL;have aD:∀aF,(ac x.eval t).run P aF=.ok (.enter bl B.toArray) aF:=λaF=>by grind[mO]
      have av:∀aF,(ac x.eval t).events P aF #[]=#[]:=λaF=>(mO bu aO aA bQ O aF).2;refine .next a λm a3=>?_;have W:=r.bN a3;have v:=aw.rely W;have aH:=ba.rely W aw;have bK:b5 p m B (ag.toList.map (bF F)++e2 cap):=G.mono W.aV.ext aw.len;obtain⟨R,au,bE,a7,bw,a8,bV,bx⟩:=bs m B v bK;let Q:a5:={m with l:=[],u:=au,own:=λj=>m.own j∨∃L∈m.l,j∈L.al}
      have aV:bb [] Q:=by
        refine⟨a8,a,by simp,by grind,by grind,λj g=>⟨?_,by grind⟩⟩;rcases g with g|⟨d,Y,g⟩
        · exact(v.own j g).1
        · exact v.lt d Y j g
      have aR:eW m Q:=by refine⟨rfl,a7,λj g t=>bw j (λaE=>by grind) t,a8,λj g=>?_⟩;grind
      have bY:b5 [] Q B cR:=by have bd:=tg bL a2 bx;exact(b5.sub (aP:=[]) (p:=p) (ao:=[]) (b:={m with u:=au}) (lz:=[]) rfl rfl bd aX).mono (p:=[]) (b:={m with l:=[],u:=au}) (ao:=[]) (az:=Q) ⟨λ_ _ _ w=>w,λz R L aE bo=>by grind⟩ rfl
      refine⟨_,m,_,tH aW (j1 aT _ _ _ aH) g (aD m.a),⟨⟨p,p,v,v,.refl _ _⟩,dt.seen (by rw[av];exact .nil)⟩,.aU aR (T Q B bY aV bM _ λu bT q bX a0 aB K a9=>?_)⟩;refine uG (ah:=ah) (s:=j.M x (.inRegion all.toArray (bH::idx)::a4)) K a0 λC bc=>?_;have X:=K.rely bc;have S:=a9.trans bc.aV;have bO:=aB.mono bc.aV.ext K.len
      classical
      let Z:Mem:=λj t=>if R j then m.u j t else C.u j t;have bz:∀j,(m.own j∨∃L∈m.l,j∈L.al)->C.own j:=λj g=>by rw[S.own];exact g
      have ad:nU C {C with u:=Z}:=by
        refine⟨a,a,a,λj t q O=>?_,λj t q O=>?_⟩
        · grind
        grind
      refine .b2 aj.b'.ok ad ?_;have ae:∀j t q,Z j t=h q->C.u j t=h q:=ad.e7;let A:a5:={C with u:=Z,l:=m.l++C.l,own:=m.own}
      have ak:∀j t q,m.u j t=h q->Z j t=h q:=λj t q O=>by
        by_cases o:R j
        · grind
        · simp[Z,o,dh];exact S.mem j t q (a7 j t q O)
      have ai:∀j,j<m.a.heap.size->∀t,Z j t=m.u j t:=λj g t=>by
        by_cases o:R j
        · grind
        · simp[Z,o,dh]
          rw[S.bE j g M t];grind
      have bN:c C.l=c (aM u):=X.len;have aG:fk p m (p++aM u) A:=by
        refine⟨ak,λz R L aE bo=>⟨R,L,?_,?_,.refl _ _⟩⟩
        · grind
        grind
      have aN:m.a.heap.size<=C.a.heap.size:=S.size;have bC:∀z d,(m.l++C.l)[z]?=h d->(z<c m.l/\m.l[z]?=h d)∨(c m.l<=z/\C.l[z-c m.l]?=h d):=λz d w=>by grind
      have aU:bb (p++aM u) A:=by
        refine⟨λj t q O=>X.mem j t q (ae j t q O),by simp[A,v.len,bN],?_,?_,?_,?_⟩
        · intro z R d aE Y
          rcases bC z d Y with⟨ar,e⟩|⟨aq,e⟩
          · rw[kA (by rw[<-v.len];exact ar)]at aE
            exact(v.box z R d aE e).cb aG v.len λk o=>⟨S.a6 k (.inr ⟨d,b9 e,o⟩),ai k (v.lt d (b9 e) k o)⟩
          · rw[hq (by rw[<-v.len];exact aq),<-v.len]at aE
            have aK:=X.box _ R d aE e;rcases KM (a1 u) R (b9 aE)with⟨H,rfl⟩|rfl
            · obtain⟨bj,bf,bg,bh,bR⟩:=aK
              refine⟨bj,bf,bg,bh,λk o t=>?_⟩;grind
            · trivial
        · intro z a6 E I aI aJ k N a'
          rcases bC z E aI with⟨ar,e⟩|⟨aq,e⟩<;>rcases bC a6 I aJ with⟨bt,y⟩|⟨bq,y⟩
          · exact v.a3 z a6 E I e y k N a'
          · exact absurd a' ((X.own k (bz k (.inr ⟨E,b9 e,N⟩))).2 I (b9 y))
          · exact absurd N ((X.own k (bz k (.inr ⟨I,b9 y,a'⟩))).2 E (b9 e))
          · have:=X.a3 _ _ E I e y k N a';omega
        · intro d Y k o
          rcases gl.1 Y with w|w
          · exact eA (v.lt d w k o) aN
          · exact X.lt d w k o
        · intro k o
          refine⟨eA (v.own k o).1 aN,λd Y=>?_⟩;rcases gl.1 Y with w|w
          · exact(v.own k o).2 d w
          · exact(X.own k (bz k (.inl o))).2 d w
      have aS:eW {C with u:=Z} A:=by refine⟨rfl,λ_ _ _ w=>w,λ_ _ _=>rfl,λj t q O=>X.mem j t q (ae j t q O),λk o=>?_⟩;grind
      have a_:dc p m (p++aM u) A:=by
        refine⟨aN,λk o=>S.a6 k (.inl o),ak,λk o _ t=>ai k o t,λd Y k o=>?_,aG.box,S.os,S.tape,S.output,a⟩;rcases gl.1 Y with w|w
        · grind
        · rcases S.bT d w k o with e|⟨bJ,e,_⟩
          · grind
          grind
      refine .aU aS ?_;have bB:=qs (j:=j) (x:=x) (i:=a4) all.toArray bH idx q;rw[aW]at bB;simp[n4]at bB;rw[bB];exact bp u q A (Yu (bI u) bO) aU (W.aV.trans a_)
def g.gg[r.b']{e:Type}{cP}{ag}{dp}{o}{cap}{cR}{a:e->z}{b:e->m an}(A:bk r o cR [] a b){s}(w:oN all F t=f)(j:t.op=.call {callee:=.value cP,args:=ag,argTypes:=dp})(B:gO (bF F cP)=h (o,cap))(i:pT p (ag.toList.map (bF F)++e2 cap) s){ab}(q:lZ s (gq [] cR)=h ab)(v:U ab)(x:g6 0 cR=f)(u:∀d,yl (a d)=f)(y:∀d,qM (b d)=f)(C:fd D t.dst=f)(k:∀d,g r D be (.ae all bs::ar) .normal (fT t.dst (a d) F) (p++b d)):g r D be (.ae all (t::bs)::ar) .normal F p:=.jD (dx.gg A w j B i q v x u y) C k
def g.iz[r.b']{m}(y:bk r m cR [] res aM)(A j){o}{i}(u:oN all F t=f)(d:t.op=.call {callee:=.value cP,args:=ag,argTypes:=dp})(B:gO (bF F cP)=h (m,cap))(z:(ag.toList.map (bF F)++e2 cap)[j]?=h (cM o))(b:Ah p A o i k T)(q:lZ ((ag.toList.map (bF F)++e2 cap).set j (ax (.S l i k T))) (gq [] cR)=h ab)(v:U ab)(w:g6 0 cR=f)(s:∀a,yl (res a)=f)(x:∀a,qM (aM a)=f)(C:fd D t.dst=f)(e:∀a,g r D be (.ae all bs::ar) .normal (fT t.dst (res a) F) (p++aM a)):g r D be (.ae all (t::bs)::ar) .normal F p:=
  g.gg y u d B ((pT.refl _ _).step j A z b) q v w s x C e
end
section
variable {r:aj P}
theorem dx.fe{y:ι->z}{a:ι->m an}(M:t.guard=n)(E:ey P D t F p y a):dx r D all t F p y a:=by intro T A C b Q S B O R s o q k;refine rq o q (iY M) λJ e=>?_;have g:=b.rely e;obtain⟨w,N,d,x,i,j,K,u,v,I⟩:=E J A (C.rely e b) g;exact⟨N,d,x,i,j,⟨⟨p,a w,g,u,v⟩,I⟩,k w x d K u (e.aV.trans (v.too1 g))⟩
def dx.eV{E}(K:bk r E cR dd res aM)(aP)(ah:t.guard=n)(e:t.op=.call {callee:=.value cP,args:=ag,argTypes:=dp})(i:gO (bF F cP)=h (E,cap))(Y:∀g B,b5 p g B (ag.toList.map (bF F)++e2 cap)->b5 p g B (gq aP cR))(ak:g6 (c aP) cR=f)(an:dv aP p=h dd)(R:ep dd=f)(ai:∀a,ep (aM a)=f)(w:e8 aP=f)(ao:∀a,ay (c aP) (c (aM a))=f):
  dx r D all t F p (λa=>e9 (aP++gK (c p) (c (aM a)-c aP)) (res a)) (λa=>c_ aP (aM a) p):=by
 intro g S J q ar ab U aq au y o s m;have N:=eL J cP;unfold gO at i;split at i
 case h_2=>cases i
 case h_1 u6 uS he=>
  cases i;rw[he]at N;have C:=b7 N;generalize O:S.eval cP=X at C;cases C with
  |fn W b v d V j Z k ae x=>
   have aj:=jA v;subst aj;have aa:b5 p g b (e2 cap):=qi (λa T u=>⟨j a,k a M,x a T u⟩) d;have ad:=Y g _ ((m6 (eL J) ag.toList).append aa);obtain⟨fn,Q,I,A⟩:=K.1;exact AR o s (iY ah) q (λz=>(mO e Q I A O z).1) (λz=>(mO e Q I A O z).2) K ad ak an R ai w (λa=>fc (ao a)) m
def dx.dk{e}(s:bk r e cR dd res aM)(aP)(i:t.guard=n)(d:t.op=.call {callee:=.value cP,args:=ag,argTypes:=dp})(v:gO (bF F cP)=h (e,cap))(g:k7 (ag.toList.map (bF F)++e2 cap)=gq aP cR)(k:g6 (c aP) cR=f)(m:dv aP p=h dd)(u:ep dd=f)(j:∀a,ep (aM a)=f)(b:e8 aP=f)(o:∀a,ay (c aP) (c (aM a))=f):
  dx r D all t F p (λa=>e9 (aP++gK (c p) (c (aM a)-c aP)) (res a)) (λa=>c_ aP (aM a) p):=.eV s aP i d v (λ_ _ q=>g▸uR q) k m u j b o
def dx.bV{e}(u:bk r e cR dd res aM)(aP)(j:t.guard=n)(d:t.op=.call {callee:=.value cP,args:=ag,argTypes:=dp})(v:gO (bF F cP)=h (e,cap))(g:lZ (ag.toList.map (bF F)++e2 cap) (gq aP cR)=h ab)(i:U ab)(m:g6 (c aP) cR=f)(o:dv aP p=h dd)(w:ep dd=f)(k:∀a,ep (aM a)=f)(b:e8 aP=f)(s:∀a,ay (c aP) (c (aM a))=f):
  dx r D all t F p (λa=>e9 (aP++gK (c p) (c (aM a)-c aP)) (res a)) (λa=>c_ aP (aM a) p):=.eV u aP j d v (λ_ _ q=>tg g i q) m o w k b s
def ey.fC(I:j4 P t o X W a4){aH i}{V}{d:Nat->m N}(R:a4.size=i)(ae:bF F o=ax (.S f aH 0 T))(aw:bF F X=ax (.S V i A d))(k:0<A)(j:A*a4.bytes<=140737488355328)(aL:∀C,C<A->∀ah∈d C,np ah=f):
  ey P D t F p (ι:={E:fj×m Z // eg i A d E.2}) (λE=>cM (cX E.1.1 A)) (λE=>p++[.J (ck W i E.1.1 A E.1.2)]):=by
 intro b az K g;obtain⟨a0,t2,C,cc,aq,e,aF,G,z⟩:=I.op;have J:=eL K o;rw[ae]at J;have aa:=Rd.fU (i:=aH) (gb:=a4.size) (.inr a) (b7 J);have u:=eL K X;rw[aw]at u;have u:=b7 u;obtain⟨aZ,aI,B,S,aX,aJ,av,aT,aM⟩:=aa.b1;have aN:=av a;subst aN;rw[S]at aa;have aB:Rd b.u (az.eval X) (.S V a4.size A d):=M;obtain⟨s,ab,Y,r,aA,aS,aQ,aR⟩:=vQ (P:=P) (ty:=t.type) e aF G z I.elem g aa aB y M I.bytes;have aK:=u2 (P:=P) (ty:=t.type) e aF G z I.elem g aa aB y M I.bytes;have aj:ce 0 T d=d:=by funext C;simp[ce]
 rw[R,cV,aj]at r;rw[R]at aQ;rw[cV]at aA aR;have aD:eg i A d s:=⟨r.len,r.bG,λC e aU ah v=>by
  obtain⟨aV,ad,aG⟩:=r.rd C e aU ah v
  grind[vd]⟩
 have O:∀o∈s,dW o=f:=λo ae=>by
  obtain⟨w,ar,rfl⟩:=hG ae;have ao:0<i:=M;have aP:=r.len;have e:w / i<A:=sr M;have L:w / i*i+w % i=w:=ux w i;have v:w % i<c (d (w / i)):=by rw[r.bG _ e];exact p6 _ ao
  obtain⟨aV,ad,aG⟩:=aD.bX _ e _ _ (bI v);rw[L,bI ar]at ad;cases ad;exact(aG b.u).cell
 let q:au:=b.a.drew.alloc (.cells (s++ab).toArray W);have aE:er (p++[.J (ck W i (.row b.a.heap.size Y) A s)]) {b with a:=q,l:=b.l++[⟨.nilFunc,[b.a.heap.size]⟩]} (.J (ck W i (.row b.a.heap.size Y) A s)) ⟨.nilFunc,[b.a.heap.size]⟩:=by
  refine⟨λx=>if x=b.a.heap.size then h (.cells (s++ab).toArray W (0,0))else n,⟨a,O,r.len,aA,aS,ab,aQ,a⟩,λx t U=>?_,λx=>?_,λx U t=>?_⟩
  .by_cases ai:x=b.a.heap.size
   .subst ai;simp only[dH]at U;cases U;exact lV b.a.drew _
   grind
  .by_cases ai:x=b.a.heap.size<;>simp[ai]
  simp at U;subst U;cases k:b.u b.a.heap.size t with
  |none=>rfl
  |some aW=>have:=g.block k;omega
 have aO:q.heap.size=b.a.heap.size+1:=Nr;have H:bb p {b with a:=q}/\cN p b p {b with a:=q}:=
  g.cY y (λag j=>iQ b.a.drew _ j) (λag j t=>rfl) (λag j t aW k=>by have:=g.block k;omega) a a a
 obtain⟨ak,an⟩:=H.1.b0 H.2 rfl g aE (λag j=>by grind);refine⟨⟨(.row b.a.heap.size Y,s),aD⟩,.value (.slice (h ⟨b.a.heap.size,0,n⟩) A Y),_,_,?_,.inl a,Rd.val a,ak,an,?_⟩
 .rw[ld aq,S];simp[aR];rfl
 grind[ld,jj]
def g.fC{o X}{W}{a4}(B:j4 P t o X W a4){x i A}{q}{d a:Nat->m N}(y:a4.size=i)(C:bF F o=ax (.S f x 0 d))(v:bF F X=ax (.S q i A a))(j:0<A)(e:A*a4.bytes<=140737488355328)(u:∀s,s<A->∀w∈a s,np w=f)(z:t.guard=n)(E:fd D t.dst=f)(k:∀b:{b:fj×m Z // eg i A a b.2},g r D be (.ae all bs::ar) .normal (fT t.dst (cM (cX b.1.1 A)) F) (p++[.J (ck W i b.1.1 A b.1.2)])):g r D be (.ae all (t::bs)::ar) .normal F p:=
 g.cI _ _ z E (ey.fC B y C v j e u) k
def g.fg(W)(i)(j:g r D be (.code s::ar) .normal F (p++[.J (ck W i (.nil n) 0 [])])):g r D be (.code s::ar) .normal F p:=by refine g.aU (λk q b a=>?_) j;obtain⟨m,d⟩:=a.b0 (bX:=.J (ck W i (.nil n) 0 [])) (L:=⟨.nilFunc,[]⟩) (.refl _ _) rfl a ⟨λ_=>n,⟨rfl,by simp,by simp,rfl,rfl⟩,by simp,by simp,by simp⟩ E;exact⟨{k with l:=k.l++[⟨.nilFunc,[]⟩]},rfl,⟨b.size,b.defers.imp λ_ e=>e.mono d.ext,λo=>(b.aH o).mono d.ext a.len⟩,m,d⟩
end
def FL(i:Z)(e g:Nat)(a:Nat->m N)(d b:N):Prop:=b=d∨(d=.val i/\b=.S l e g a)
def bb.fy{aM e_}{i}{bO}{ag}(r:bb (aM++[.J (ck W i bO k ag)]) b)(aw:eg i k T ag){t}{eJ}{A q}{C lQ:Nat->m N}(z:aM[t]?=h (.h eJ A q C))(aU:e_=aM.set t (.h eJ A q lQ))(az:kk (c e_) e_=f)(ab:∀o,o<q->c (lQ o)=c (C o))(Z:∀o,o<q->∀(w:Nat) (K:N),(lQ o)[w]?=h K->∃y,(C o)[w]?=h y/\FL (cX bO k) i k T y K):
  ∃s:a5,bb e_ s/\eW b s/\(∀aj Q,bx (aM++[.J (ck W i bO k ag)]) b aj Q->hM (c e_) Q=f->bx e_ s aj Q)/\∀{p:m an} {x:a5},dc p x (aM++[.J (ck W i bO k ag)]) b->p.length<=c e_->dc p x e_ s:=by
 have G:=(cO.1 z).1;have aE:(aM++[an.J (ck W i bO k ag)])[c aM]?=h (.J (ck W i bO k ag)):=E
 obtain⟨L,cd,au,av,ao,S,aJ,aK⟩:=ck.fJ aE T (λo g=>⟨aw.ek o g,λaT w y aV u aI=>by
  obtain⟨aW,aP,aQ⟩:=aw.bX o g w y u
  grind⟩) b r
 obtain⟨D,F⟩:=r.b7 (cd:=cd) (bi:=b.a) (d':=.x) (cn:=⟨L.v,[]⟩) aE au rfl (bC _) (λ_ _ _=>rfl) (λj _ e ad=>ao j e ad) av S E rfl rfl rfl v;have O:(aM++[an.J (ck W i bO k ag)]).set (c aM) .x=aM++[.x]:=E;rw[O]at D F;have ax:(aM++[an.x])[t]?=h (.h eJ A q C):=M;have aR:=D.len;have R:=bI (l:=b.l.set (c aM) ⟨L.v,[]⟩) (i:=t) M;generalize(b.l.set (c aM) ⟨L.v,[]⟩)[t]'_=sk at R;have H:=D.box t _ sk ax R;have ae:fE (.h eJ A q C) sk (.h eJ A q lQ) sk:=⟨λ_=>rfl,bC _⟩
 have aS:(b.l.set (c aM) ⟨L.v,[]⟩).set t sk=b.l.set (c aM) ⟨L.v,[]⟩:=mY;obtain⟨aq,I⟩:=D.b7 (cd:=cd) (bi:=b.a) (d':=.h eJ A q lQ) (cn:=sk) ax R ae (bC _) (λ_ _ _=>rfl) (λ_ _ _ _=>rfl) (λ_ _ _ aG=>aG) S
  (λj e=>⟨.inl e,D.lt sk (b9 R) j e⟩) a a a (by
   rcases H with⟨dK,eG⟩|⟨j,U,B,ak,dK,eG,jM,V,X,ar,Y⟩
   .exact .inl ⟨dK,eG⟩
   .refine .inr ⟨j,U,B,ak,dK,eG,jM,V,X,⟨ar.len,λo g=>by rw[ab o g];exact ar.bG o g,λo g w K u=>?_⟩,Y⟩;obtain⟨y,aF,aA⟩:=Z o g w K u;obtain⟨aO,ah,ai⟩:=ar.rd o g w y aF;refine⟨aO,ah,?_⟩;rcases aA with rfl|⟨rfl,rfl⟩
    .exact ai
    grind[Rd.bd])
 have aD:(aM++[an.x]).set t (.h eJ A q lQ)=e_++[.x]:=M;rw[aD]at aq I;have J:=F.trans I;refine⟨_,aq.drop (bs:=[.x]) az,⟨a,av,λj e ad=>ao j (e L (b9 au)) ad,S,λj e=>?_⟩,λaj Q aL aa=>(aL.mono J.ext r.len).drop (bs:=[.x]) aa,λ{p x} aN ae=>(aN.trans (J.too1 r)).drop (bs:=[.x]) ae⟩;rcases e with e|⟨cn,aB,e⟩
 .exact .inl e
 have aH:=hf aB;grind
def bk.fy{P:aI}{d:Type}{I:aj P}{K}{args}{p}{b:d->z}{aM e_:d->m an}{W i k}{bO:d->fj}{ag:d->m Z}{o:Nat->m N}(M:bk I K args p b (λa=>aM a++[.J (ck W i (bO a) k (ag a))]))(ab:∀a,eg i k o (ag a))(Q){eJ}{R r:Nat}{s:d->Nat->m N}{lQ:Nat->m N}(ad:∀a,(aM a)[Q]?=h (.h eJ R r (s a)))(X:∀a,e_ a=(aM a).set Q (.h eJ R r lQ))(aa:∀a,kk (c (e_ a)) (e_ a)=f)(V:∀a,hM (c (e_ a)) (b a)=f)(Y:∀a,c p<=c (e_ a))(ai:∀a g,g<r->c (lQ g)=c (s a g))(ak:∀a g,g<r->∀(O:Nat) (S:N),(lQ g)[O]?=h S->∃J,(s a g)[O]?=h J/\FL (cX (bO a) k) i k o J S):bk I K args p b e_:=by refine⟨M.1,λae B D A U w y=>M.2 ae B D A U w λa x T ah C e q F=>?_⟩;obtain⟨E,t,j,u,v⟩:=q.fy (ab a) (ad a) (X a) (aa a) (ai a) (ak a);exact .aU j (y a x T E (C.mono j.mem) (u T _ e (V a)) t (v F (Y a)))
def So(aR:bn P ad){parts}(u:t.op=.buildSlice q k parts){i}{T}(g:rP ad η q k parts.toList=h (i,T)){e}(s:bZ ad q=h e)(ae:e.desc=.slice W){ρ:aB->Z}(K:∀ar,bx p b (ρ ar) (η ar)):
  ∃r:m Z,eZ b.u i k (λe=>T.getD e []) r/\k<=16777216/\0<i/\(ac ρ t).run P b.a=.ok (.value (.slice (h ⟨b.a.heap.size,0,n⟩) k k)) (b.newRow W r).a/\(ac ρ t).events P b.a #[]=#[]:=by
 unfold rP at g;simp[s,ae]at g
 .skip
  cases w:bZ ad W with
  |none=>grind
  |some d=>
   simp[w]at g;cases A:af d.size 0 with
   |true=>grind
   |false=>
    simp[A]at g;cases G:ay (k*d.size) 16777216 with
    |false=>grind
    |true=>
     simp[G]at g;cases aa:px η parts.toList with
     |none=>grind
     |some U=>
      simp[aa]at g;cases aq:rF (λi=>h (i*d.size,d.size)) U (aY (k*d.size) O.any)with
      |none=>grind
      |some D=>
       simp[aq]at g;cases H:h3 D with
       |none=>grind
       |some aF=>
        simp[H]at g;cases ab:rA d.size k aF with
        |none=>grind
        |some ai=>
         simp only[ab,eU,lG]at g;obtain⟨rfl,rfl⟩:=g;have aL:d.size≠0:=λaA=>by rw[aA]at A;cases A
         have aD:=fc G;obtain⟨ao,o,Nl,aH,aI,a,ag,aJ,aK⟩:=(aR W d w).c';have an:o.cells.size=d.size:=by have:=eK List.length ag;grind
         have ak:∀j∈o.cells.toList,dW j=f:=by intro j L;have ah:lH j∈o.cells.toList.map lH:=k4.2 ⟨j,L,rfl⟩;rw[ag]at ah;obtain⟨aM,_,I⟩:=k4.1 ah;exact(Rd.fq (bB:=b.u) I.symm).cell
         have z:∀aE,(∀j∈(aC aE).map (λv=>o.cells[v % o.cells.size]!),dW j=f):=by grind[Nat.mod_lt]
         have au:∀B:m Z,(∀j∈B,dW j=f)->bN p b B (aY (c B) O.any):=by
          intro B;induction B with
          |nil=>intro _;trivial
          |cons j B N=>intro L;exact⟨L j E,N λaG x=>L aG M⟩
         obtain⟨R,S⟩:=yQ (p:=p) (b:=b) K aa;have aN:bN p b ((Array.range (k*d.size)).map (λv=>o.cells[v % o.cells.size]!)).toList (aY (k*d.size) O.any):=by have:=au _ (z (k*d.size));simpa using this
         obtain⟨r,V,X⟩:=x' (p:=p) (b:=b) (vJ:=λi=>h (i*d.size,d.size)) (λi aO J=>J) aq R S aN;have nH:=rC H X;obtain⟨az,C⟩:=BE (bB:=b.u) (B:=r.toList) ab (by simpa using nH.cM) nH.eX;refine⟨r.toList,C,fG (uu k y) aD,by omega,?_,?_⟩
         rotate_left
         .exact Q3
         have x:=(aR q e s).run_underlying (Q:=b.a);rw[ae]at x;have av:(zeroValue W).run P b.a=.ok o b.a:=NH;have F:Instr.fill (λi=>h (i*d.size,d.size)) ((Array.range (k*d.size)).map (λv=>o.cells[v % o.cells.size]!)) (parts.map λ(e,Y)=>(e,ρ Y)).toList=h r:=by simpa using V
         by_cases ax:k*d.size=0
         .have aw:k=0:=by grind[Nat.mul_eq_zero]
          subst aw;have aj:Array.range 0=#[]:=rfl;simp[aj]at F;simp[ac,u,Instr.buildSlice,x,(aR W d w).bb,aj,F,Go.newRow,a5.newRow]
         rw[show ac ρ t=(do pure (.value (<-Instr.buildSlice q k (parts.map λ(e,Y)=>(e,ρ Y))))) by simp[ac,u]];simp only[Instr.buildSlice,cH,x,c1,(aR W d w).bb,ax,dh,av,show¬k*d.size>2 ^ 24 by omega,sE,F,d8];simp[Go.newRow,a5.newRow]
section
variable {r:aj P}
def g.gR(aR:bn P ad){parts}(C:t.op=.buildSlice q k parts){i}{T}{e}(v:bZ ad q=h e)(M:e.desc=.slice W)(s:rP ad (bF F) q k parts.toList=h (i,T))(S:t.guard=n)(V:fd D t.dst=f)(w:g r D be (.ae all bs::ar) .normal (fT t.dst (cz (c p) (.S k i 0 k)) F) (p++[.h W i k (λe=>T.getD e [])])):g r D be (.ae all (t::bs)::ar) .normal F p:=by
 refine g.cI (ι:=Unit) (λ_=>cz (c p) (.S k i 0 k)) (λ_=>p++[.h W i k (λe=>T.getD e [])]) S V (λb A O j=>?_) λ_=>w;obtain⟨o,y,I,E,B,K⟩:=So (p:=p) (b:=b) (ρ:=A.eval) aR C s v M (λX=>eL O X);have aE:er (p++[.h W i k (λe=>T.getD e [])]) {b with a:=(b.newRow W o).a,l:=b.l++[⟨.slice (h ⟨b.a.heap.size,0,n⟩) 0 k,[b.a.heap.size]⟩]} (.h W i k (λe=>T.getD e [])) ⟨.slice (h ⟨b.a.heap.size,0,n⟩) 0 k,[b.a.heap.size]⟩:=by
  refine .inr ⟨b.a.heap.size,k,o,[],a,by rw[h1];exact lV b.a _,by rw[h1];exact y.len,bC _,by omega,y,λt=>?_⟩;cases m:b.u b.a.heap.size t with
  |none=>rfl
  |some U=>have:=j.block m;omega
 have z:bb p {b with a:=(b.newRow W o).a}/\cN p b p {b with a:=(b.newRow W o).a}:=
  j.cY (by simp[a5.newRow]) (λu d=>iQ b.a _ d) (λu d t=>rfl) (λu d t U m=>by have:=j.block m;omega) a a a
 obtain⟨R,Q⟩:=z.1.b0 z.2 rfl j aE (λu d=>by simp at d;subst d;exact⟨bC _,by simp[a5.newRow]⟩);refine⟨(),.value (.slice (h ⟨b.a.heap.size,0,n⟩) k k),{b with a:=(b.newRow W o).a,l:=b.l++[⟨.slice (h ⟨b.a.heap.size,0,n⟩) 0 k,[b.a.heap.size]⟩]},_,B,.inl rfl,?_,R,Q,by rw[K];exact .nil⟩;refine⟨.slice (h ⟨b.a.heap.size,0,n⟩) 0 k,⟨_,_,k,k,a,bC _,by simp,by omega,a,λ_=>⟨_,a,by simp⟩⟩,by simp,λY J N x s=>?_⟩;simp at s;obtain⟨_,_,rfl,_⟩:=s;exact⟨bC _,λ_=>⟨_,by show(b.l++[_])[c p]?=_;rw[<-j.len,wT],a⟩⟩
end
def uW(p j k:Nat)(g:Nat->m N):O->O×m Prop
 |.R b (.S i a e d)=>match af b p with
  |true=>match af a j with
   |true=>(.c (.S l j d (hz e g)),[i=k,e+d<=k])
   |false=>(.R b (.S i a e d),[])
  |false=>(.R b (.S i a e d),[])
 |o=>(o,[])
def pb(g e i:Nat)(a:Nat->m N):m O->m O×m Prop
 |[]=>([],[])
 |j::p=>match uW g e i a j with
  |(b,k)=>match pb g e i a p with
   |(d,o)=>(b::d,gB k o)
def BS(i g j:Nat)(a:Nat->m N):E1->E1×m Prop
 |.aq k=>match uW i g j a k with|(b,e)=>(.aq b,e)
 |.agg d=>match pb i g j a d with|(o,e)=>(.agg o,e)
def BR(g e i:Nat)(a:Nat->m N):z->z×m Prop
 |.n k=>match BS g e i a k with|(b,j)=>(.n b,j)
 |d=>(d,[])
def uX(e d g:Nat)(a:Nat->m N):bH->bH×m Prop
 |[]=>([],[])
 |(q,j)::p=>match BR e d g a j with
  |(i,k)=>match uX e d g a p with
   |(b,o)=>((q,i)::b,gB k o)
def iI(g k o:Nat)(b:Nat->m N):Nat->m an->m an×m Prop
 |_,[]=>([],[])
 |j,d::s=>match iI g k o b (j+1) s with
  |(a,i)=>match af j g with
   |true=>(.x::a,i)
   |false=>match d with
    |.cells p e=>match pb g k o b e with|(q,r)=>(.cells p q::a,gB r i)
    |d=>(d::a,i)
section
variable {b3:a5}{W i:Nat}
structure l'(p:m an)(b:a5)(d i k:Nat)(T:Nat->m N)(ao:m an)(b3:a5):Prop where
 a6:∀aa x,cx p b aa x->cx ao b3 aa x
 eY:∀aa gb t A,cx p b aa (.R d (.S k gb t A))->gb=i->t+A<=k->Rd b3.u aa (.S l i A (hz t T))
def l'.cB(g:l' p b d i k T ao b3){aa}{x}(m:U (uW d i k T x).2)(j:cx p b aa x):cx ao b3 aa (uW d i k T x).1:=by
 unfold uW at m⊢;split
 .rename_i r C q t A;split
  .rename_i a;split
   .rename_i e;simp[a,e]at m;have a:=di a;have e:=di e;subst a;obtain⟨rfl,o⟩:C=k/\t+A<=k:=m;exact g.eY aa _ _ _ j e o
   exact g.a6 aa _ j
  exact g.a6 aa _ j
 exact g.a6 aa _ j
def l'.gq(j:l' p b d i k T ao b3):∀{B:m Z}{a:m O},U (pb d i k T a).2->bN p b B a->bN ao b3 B (pb d i k T a).1
 |[],[],_,_=>trivial
 |[],_::_,_,e=>e.elim
 |_::_,[],_,e=>e.elim
 |q::B,o::a,g,e=>by simp only[pb]at g⊢;rw[U.Y]at g;exact⟨j.cB g.1 e.1,j.gq g.2 e.2⟩
def l'.n(e:l' p b d i k T ao b3){o}(a:U (BS d i k T o).2)(g:et p b aa o):et ao b3 aa (BS d i k T o).1:=by
 cases o with
 |aq r=>exact e.cB a g
 |agg m=>obtain⟨B,q,j⟩:=g;exact⟨B,q,e.gq a j⟩
def l'.c9(m:l' p b d i k T ao b3)(a:c b.l=c p)(j:fk p b ao b3){aa}{I}(g:U (BR d i k T I).2)(e:bx p b aa I):bx ao b3 aa (BR d i k T I).1:=by
 cases I with
 |n q=>exact m.n g e
 |Q o=>exact e.mono j a
 |any=>trivial
def l'.b4(r:l' p b d i k T ao b3)(g:c b.l=c p)(o:fk p b ao b3):∀{F:bH}{q:Nat}{m:Z},U (uX d i k T F).2->bx p b m (look F q)->bx ao b3 m (look (uX d i k T F).1 q)
 |[],_,_,_,_=>trivial
 |(s,t)::u,q,m,j,a=>by
  simp only[uX]at j⊢;rw[U.Y]at j;simp[look]at a⊢;cases e:af s q with
  |true=>rw[e]at a;exact r.c9 g o j.1 a
  |false=>rw[e]at a;exact r.b4 g o j.2 a
theorem BP:∀{p:m an}{e w:Nat},(iI d i k T e p).1[w]?=match p[w]? with
  |none=>n
  |some a=>h (match af (e+w) d with|true=>.x|false=>match a with|.cells j b=>.cells j (pb d i k T b).1|a=>a)
 |[],e,w=>by simp[iI]
 |a::g,e,0=>by simp[iI,j',m8];grind
 |a::g,e,w+1=>by have o:=BP (p:=g) (e:=e+1) (w:=w);have q:e+1+w=e+(w+1):=y;rw[q]at o;simp[iI,n2];grind
def HK:∀{p:m an}{e w:Nat}{g:av}{a:m O},U (iI d i k T e p).2->p[w]?=h (.cells g a)->e+w≠d->U (pb d i k T a).2
 |[],e,w,_,_,_,b,_=>by grind
 |q::o,e,0,g,a,j,b,r=>by simp at b;subst b;simp[iI]at j;grind[Nat.eq_of_beq_eq_true,U.Y]
 |q::o,e,w+1,g,a,j,b,r=>by simp at b;refine HK (p:=o) (e:=e+1) (w:=w) ?_ b y;simp[iI]at j;grind[U.Y]
theorem BQ:∀{p:m an}{e:Nat},(iI d i k T e p).1.length=c p
 |[],_=>rfl
 |g::a,e=>by simp[iI];have b:=BQ (p:=a) (e:=e+1);grind
def bb.bw(s:bb p b)(aE:p[d]?=h (.h W i k T))(aq:U (iI d i k T 0 p).2):
  ∃q:a5,q.a=b.a/\bb (iI d i k T 0 p).1 q/\cN p b (iI d i k T 0 p).1 q/\l' p b d i k T (iI d i k T 0 p).1 q:=by
 have z:d<c p:=(cO.1 aE).1;have ae:b.l[d]?=h (b.l[d]'(by rw[s.len];exact z)):=bI _;generalize b.l[d]'M=L at ae;have aZ:=s.box _ _ L aE ae;obtain⟨cd,av,aw,ax,az⟩:∃cd:Mem,(∀m e r,b.u m e=h r->cd m e=h r)/\(∀m,m∉L.al->∀e,cd m e=b.u m e)/\(∀m e r,cd m e=h r->b.a.cell? ⟨m,e,n⟩=h r) /\
   (∀r o e I,cx p b r (.R d (.S k o e I))->o=i->e+I<=k->Rd cd r (.S l i I (hz e T))):=by
  rcases aZ with⟨rfl,rfl⟩|⟨m,ak,B,a8,rfl,hw,aU,aV,aT,aK,a4⟩
  .refine⟨b.u,λ_ _ _ S=>S,λ_ _ _=>rfl,s.mem,λr o e I J t aG=>?_⟩;obtain⟨au,⟨aP,aj,Z,ak,X,u,w,G,aI,aN⟩,_,aM⟩:=J;grind[Rd.dH]
  let cd:Mem:=λA e=>if A=m then B[e]? else b.u A e;have aO:∀A e r,b.u A e=h r->cd A e=h r:=λA e r X=>by grind
  refine⟨cd,aO,λA aS e=>M,λA e r X=>?_,λr o e I J t aG=>?_⟩
  .by_cases t:A=m
   .subst t;simp[cd,dH]at X;simp[aL,hw];grind
   simp[cd,t,dh]at X;exact s.mem A e r X
  subst t;obtain⟨au,⟨aP,aj,Z,a3,X,u,w,G,aI,aN⟩,_,aM⟩:=J;obtain⟨cn,D,aH⟩:=(aM _ _ _ _ aE).2 rfl;rw[ae]at D;cases D;rw[aI]at aH;cases aH;rw[X];have ag:∀j,j<I->∀F R,(hz e T j)[F]?=h R->∃aB,B[(e+j)*o+F]?=h aB/\Rd b.u aB R:=λj g F R x=>by rw[yK]at x;exact aK.rd (e+j) y F R x
  refine .S m (e*o) (λj F=>(B[(e+j)*o+F]?).getD K) u y E (λj g=>by rw[yK];exact aK.bG _ y) (λa6=>M) (λj g F R x=>M) (λj g F R x=>?_);obtain⟨aB,aD,aF⟩:=ag j g F R x;rw[aD];exact aF.mono aO
 obtain⟨N,aA⟩:=s.b7 (cd:=cd) (bi:=b.a) (d':=.x) (cn:=⟨L.v,[]⟩) aE ae v (bC _) (λ_ _ _=>rfl) (λm _ V e=>aw m V e) av ax E rfl rfl rfl v;let q:a5:=⟨b.l.set d ⟨L.v,[]⟩,cd,b.a,b.own⟩
 have ag:∀j Q,p[j]?=h Q->j≠d->(iI d i k T 0 p).1[j]?=h (match Q with|.cells W aa=>.cells W (pb d i k T aa).1|m=>m):=λj Q g aW=>by grind[BP,Nat.eq_of_beq_eq_true]
 have aJ:(iI d i k T 0 p).1[d]?=h .x:=by
  rw[BP,aE];have:af (0+d) d=f:=by rw[cV];exact sF d
  grind
 have r1:cN (p.set d .x) q (iI d i k T 0 p).1 q:=by
  refine⟨bC _,λ_ _ _=>rfl,λ_ _ _ S=>S,λ_ _ _ _=>rfl,λcn D m V=>.inr ⟨cn,D,V⟩,λj Q cn g D=>?_,a,a,a,a⟩;by_cases t:j=d
  .subst t;rw[im z]at g;cases g;exact⟨.x,cn,aJ,D,a⟩
  rw[kC (λS=>t S.symm)]at g;refine⟨_,cn,ag j Q g t,D,?_⟩;cases Q<;>first|exact fE.refl _ _|rfl
 have ad:=aA.trans r1;have ab:l' p b d i k T (iI d i k T 0 p).1 q:=⟨λr aP J=>J.mono ad.ext s.len,λr o e I J t aG=>az r o e I J t aG⟩
 refine⟨q,a,⟨N.mem,by rw[BQ,<-s.len];grind,λj Q cn g D=>?_,N.a3,N.lt,N.own⟩,ad,ab⟩;by_cases t:j=d
 .subst t;rw[aJ]at g;cases g;trivial
 have O:j<c p:=by grind[BQ]
 have ah:=bI O;have a1:b.l[j]?=h cn:=M;have a2:=s.box j _ cn ah a1;have Y:=N.box j _ cn (by rw[kC (λS=>t S.symm)];exact ah) D;have C:=ag j _ ah t;rw[g]at C;have C:=rn C;generalize aR:p[j]=ai at *;cases ai with
 |cells eJ aa=>
  subst C;obtain⟨m,B,u,w,G,aN⟩:=a2;obtain⟨A,aX,H,aQ,_,a0⟩:=Y;rw[u]at H;cases H;exact⟨m,B,u,w,ab.gq (HK aq ah y) G,a0⟩
 |r=>subst C;exact Y
 |J=>subst C;exact Y
 |x=>subst C;trivial
 |loop a_ a9 J=>
  subst C;obtain⟨ar,tmps,fn,an,u,w,G,aN,ao⟩:=Y;exact⟨ar,tmps,fn,an,u,w,G,λa7=>(aN a7).mono r1.ext N.len,ao⟩
 |bn=>subst C;exact Y
 |h=>subst C;exact Y
end
section
variable {r:aj P}{dE:bH}
def g.bw(d){W i k}{a:Nat->m N}{ab dr}(u:c7 d p=h (.h W i k a))(C:uX d i k a F=(dE,ab))(A:iI d i k a 0 p=(ao,dr))(w:U ab)(E:U dr)(v:g r D be (.code s::ar) .normal dE ao):g r D be (.code s::ar) .normal F p:=by refine g.aU (λI x o e=>?_) v;obtain⟨y,t,b,j,z⟩:=e.bw (ej u) M;rw[A]at b j z;refine⟨y,t,⟨o.size,o.defers.imp λ_ B=>B.mono j.ext,λq=>?_⟩,b,j⟩;have:=z.b4 e.len j.ext (F:=F) (q:=q) M (o.aH q);grind
end
def bb.e0{aM}{i}{bO}{ag}(j:bb (aM++[.J (ck W i bO k ag)]) b)(u:eg i k T ag)(I:kk (c aM) aM=f):
  ∃g:a5,bb aM g/\eW b g/\Rd g.u (cX bO k) (.S l i k T)/\∀{e:m an} {o:a5},dc e o (aM++[.J (ck W i bO k ag)]) b->e.length<=c aM->dc e o aM g:=by
 have aE:(aM++[an.J (ck W i bO k ag)])[c aM]?=h (.J (ck W i bO k ag)):=E
 obtain⟨L,cd,B,A,x,y,U,R⟩:=ck.fJ aE T (λw p=>⟨u.ek w p,λS Q D V s N=>by
  obtain⟨X,Y,O⟩:=u.bX w p Q D s
  grind⟩) b j
 obtain⟨z,q⟩:=j.b7 (cd:=cd) (bi:=b.a) (d':=.x) (cn:=⟨L.v,[]⟩) aE B rfl (bC _) (λ_ _ _=>rfl) (λr _ d t=>x r d t) A y E rfl rfl rfl v;have C:(aM++[an.J (ck W i bO k ag)]).set (c aM) .x=aM++[.x]:=E;rw[C]at z q;refine⟨_,z.drop (bs:=[.x]) I,⟨a,A,λr d t=>x r (d L (b9 B)) t,y,λr d=>?_⟩,R,λ{e o} K J=>(K.trans (q.too1 j)).drop (bs:=[.x]) J⟩;rcases d with d|⟨cn,F,d⟩
 .exact .inl d
 have M:=hf F;grind
def bk.e0{P:aI}{b:Type}{C:aj P}{D}{args}{p}{aM:b->m an}{W i}{k:b->Nat}{d:b->fj}{o:b->m Z}{T:b->Nat->m N}(E:bk C D args p (λa=>cM (cX (d a) (k a))) (λa=>aM a++[.J (ck W i (d a) (k a) (o a))]))(K:∀a,eg i (k a) (T a) (o a))(M:∀a,kk (c (aM a)) (aM a)=f)(J:∀a,c p<=c (aM a)):bk C D args p (λa=>ax (.S l i (k a) (T a))) aM:=by refine⟨E.1,λQ B y w I t v=>E.2 Q B y w I t λa u F R x e j A=>?_⟩;obtain⟨z,q,g,r,s⟩:=j.e0 (K a) (M a);have O:F=cX (d a) (k a):=Rd.bd e;exact .aU g (v a u F z (x.mono g.mem) (by rw[O];exact r) q (s A (J a)))
section
variable {r:aj P}
def iC.cH{y}{bg}{res}{bs:ι->m an}(q:iC r y bg p res λa=>aM a++bs a)(g:∀a,c (aM a)=c p)(I:∀a (k:Nat)(w:an),(aM a)[k]?=h w->z_ (c (aM a)) p k w):iC r y bg p res aM:=by
 intro K B k D e i;obtain⟨fn,tmps,A,x,s,t,E⟩:=q K B k D e i;refine⟨fn,tmps,A,x,s,t,λz C o u=>E z C o λa j b v=>?_⟩;have J:eW j (j.cut (c (aM a))):=⟨rfl,λ_ _ _ q=>q,λ_ _ _=>rfl,b.mem,λx d=>d.imp id λ⟨L,F,d⟩=>⟨L,hf F,d⟩⟩
 exact .aU J (u a _ (e.gX (g a).symm (I a) b) (v.drop (Nat.le_of_eq (g a).symm)))
end
section
variable {r:aj P}
def g.e1(q d){ah}{gC}(i:look F q=aG d 0)(a:c7 d p=h (.cells W ah))(e:h3 ah=h gC)(b:g r D be (.ae all bs::ar) .normal ((q,ax (.O gC))::F) (c_.cn d .x p)):g r D be (.ae all bs::ar) .normal F p:=by grind[mP,g.hh,bY.freeze]
def iA.cons{a}{q}{b}(k:look F q=b)(g:iA F a):iA F ((q,b)::a):=by
 intro j m o i d;simp only[look];cases e:af q i with
 |false=>exact g _ _ _ _ d
 |true=>
  exact ub
end
section
variable {r:aj P}
def R_{j:aK}{i}{x}{bs}{X}(I:j.kind≠.early)(w:aD[e]?=h t)(M:aU t (yielded aD x.tmps)=f)(q:bb p b)(Y:∀d,bb p d->(ac x.eval t).run P d.a=.ok (.enter X B.toArray) d.a/\dt d ((ac x.eval t).events P d.a #[]))(aj:bk r X cR dd res aM)(ax:b5 p b B (gq aP cR))(aq:g6 (c aP) cR=f)(C:dv aP p=h dd)(K:ep dd=f)(ab:∀g,ep (aM g)=f)(v:e8 aP=f)(u:∀g,c aP<=c (aM g))(E:∀g A az,bx (c_ aP (aM g) p) az A (e9 (aP++gK (c p) (c (aM g)-c aP)) (res g))->bb (c_ aP (aM g) p) az->dc p b (c_ aP (aM g) p) az->cb r bq (G (j.M (x.put t.dst A) (.inRegion aD bs::i)) ah) az):
  cb r bq (G (j.M x (.inRegion aD (e::bs)::i)) ah) b:=by obtain⟨_,O⟩:=aj;refine .next a λd y=>?_;have m:=r.bN y;have k:=q.rely m;obtain⟨z,S⟩:=vU (kL:=d.l) C k.len;obtain⟨W,o⟩:=k.sub C S K v;have au:=ax.mono m.aV.ext q.len;have aa:b5 dd {d with l:=z,own:=oF d z} B cR:=(au.sub (b:=d) C S aq).mono (p:=dd) (b:={d with l:=z}) (ao:=dd) (az:={d with l:=z,own:=oF d z}) ⟨λ_ _ _ E=>E,λaA Z L aE F=>⟨Z,L,aE,F,.refl _ _⟩⟩ W.len;refine⟨_,d,_,tH w M I (Y d k).1,⟨⟨p,p,k,k,.refl _ _⟩,dt.seen (Y d k).2⟩,.aU o (O _ B aa W bq _ λg ar A av J H Q ai=>?_)⟩;refine uG (ah:=ah) (s:=j.M x (.inRegion aD (e::bs)::i)) Q J λaw T=>?_;have V:=Q.rely T;have U:=ai.trans T.aV;obtain⟨R,ag,ad,an,ae,aN,ak,N⟩:=frame k C S v (ab g) V U (u g) (H.mono T.aV.ext Q.len);refine .aU (eW.cO k V U ag aN ak N) ?_;have D:=qs (j:=j) (x:=x) (i:=i) aD e bs A;rw[w]at D;simp[n4]at D;rw[D];exact E g A R ad an (m.aV.trans ae)
def eb.cell(aR:bn P ad){d q C}{W}{aa}{e}(s:c7 d p=h (.J (eb C W aa)))(g:bZ ad q=h e)(x:dW aa=f)(w:hc e [.c (.val aa)]=h (.aq (.c (.val aa)))){b}(bP:bb p b):
  (loadVar q ⟨C,0,n⟩).run P b.a=.ok aa b.a/\dt b ((loadVar q ⟨C,0,n⟩).events P b.a #[]):=by
 have aE:=ej s;have A:d<c b.l:=hY;have o:=bI A;generalize b.l[d]=L at o;obtain⟨z,⟨D,r,R⟩,I,J,N⟩:=bP.box d _ L aE o;have u:=I C _ r;have O:=(J C).2 M
 have F:bN p b [aa] [.c (.val aa)]:=⟨Rd.val x,v⟩;obtain⟨K,E,y⟩:=tD (b:=b) (p:=p) (P:=P) (aR q e g) (j:=C) (off:=0) (B:=[aa]) (ah:=[.c (.val aa)]) (ai:=.aq (.c (.val aa))) (λt S i=>by
  simp[aL,u]
  grind) F w
 have Q:=Rd.bd y;subst Q;refine⟨E,λm a=>?_⟩;obtain⟨t,i,rfl⟩:=pd (aR q e g) (k:=1) (λt i=>⟨K,by simp[aL,u];grind⟩) (by have:=r_ w;grind) m a;exact qp (b9 o) O
def aV.eD(aR:bn P ad){q C}(d){o}{e}(K:oN all F t=f)(u:t.op=.load q o)(N:bF F o=ax (.val (.pointer (h ⟨C,0,n⟩))))(s:c7 d p=h (.J (eb C W aa)))(m:bZ ad q=h e)(A:dW aa=f)(M:hc e [.c (.val aa)]=h (.aq (.c (.val aa)))):
  aV r D all t F p (ax (.val aa)) p:=by
 intro U B x k Q S E O T w j v i;refine rq j v (j1 K _ _ _ x) λz y=>?_;have b:=k.rely y;have g:=eL x o;rw[N]at g;have g:=Rd.bd (b7 g);obtain⟨I,J⟩:=eb.cell aR s m A M b;have R:ac B.eval t=(do pure (.value (<-loadVar q ⟨C,0,n⟩))):=by simp[ac,u,g,Instr.loadAt,Instr.sureAddr]
 refine⟨.value aa,z,aa,by simp_all,.inl a,⟨⟨p,p,b,b,.refl _ _⟩,?_⟩,i aa z (Rd.val A) b y.aV⟩;simp_all
def Nh(q)(a)(b):Builtin.ssaWrapNilChk_ #[q] q #[.pointer (h a),strVal "",strVal b]=pure (.pointer (h a)):=rfl
def nT(P:aI)(g:m an)(b:av)(e:Z)(name:String)(i:a3)(j:Z):Prop:=∀a,bb g a->∀d,(Go.method (d+1) b e name).run P a.a=.ok (i,j) a.a/\dt a ((Go.method (d+1) b e name).events P a.a #[])
def nT.ptr{g}{name}{k}{e}{A}{r}(m:P.info? g=h e)(j:e.methods.find? (·.name==name)=h A)(o:A.path=#[])(q:A.func=h (k,f))(s:P.underlying g=h (.pointer r)):nT P p g aa name k aa:=by
 intro u t v;have i:∀d,(typeInfo g).run P d=.ok e d:=λd=>by simp[typeInfo,m]
 have b:∀d,(underlying g).run P d=.ok (.pointer r) d:=λd=>by simp[underlying,s]
 unfold Go.method;constructor
 .simp only[cH,i,j,o,q,c1,follow,d8,receiverAt,b];rfl
 have:∀a,((do pure (k,<-receiverAt g (.val aa) f (if A.path.isEmpty then h ((name.splitOn ".").getLastD name)else n))):Sem (a3×Z)).events P u.a a=a:=λa=>by simp[receiverAt,b,Place.get]
 simp[aH,cH,i,j,o,q,c1,aJ,follow,d8,Sem.events_pure,receiverAt,b,events_typeInfo,events_underlying,Place.get];exact .nil
def nT.deref(aR:bn P ad){C}{g}{name}{u}{e}{A}{w}(r:P.info? g=h e)(k:e.methods.find? (·.name==name)=h A)(t:A.path=#[])(v:A.func=h (u,l))(D:P.underlying g=h (.pointer q))(s:c7 d p=h (.J (eb C W aa)))(y:bZ ad q=h w)(E:dW aa=f)(B:hc w [.c (.val aa)]=h (.aq (.c (.val aa)))):nT P p g (.pointer (h ⟨C,0,n⟩)) name u aa:=by
 intro J o F;have i:∀b,(typeInfo g).run P b=.ok e b:=λb=>by simp[typeInfo,r]
 have j:∀b,(underlying g).run P b=.ok (.pointer q) b:=λb=>by simp[underlying,D]
 obtain⟨x,z⟩:=eb.cell aR s y E B o;have I:A.path.isEmpty=f:=M;unfold Go.method;constructor
 .simp only[cH,i,k,t,v,c1,follow,d8,receiverAt,j,Place.get];simp[Nh,asAddr,x]
 intro m a;refine z m ?_;simp[aH,cH,i,k,t,v,c1,aJ,follow,d8,Sem.events_pure,receiverAt,j,events_typeInfo,events_underlying,Place.get]at a;simpa[Nh,asAddr,x]using a
def Cu{a:aB->Z}{o}{b}{name}(e:t.op=.call {callee:=.invoke o name,args:=b,argTypes:=dp}){j}{d}(m:a o=.iface j d):
  ac a t=callMethod (.iface j d) name (b.toList.map a).toArray:=by
 have g:#[a o]++b.map a=(.iface j d::b.toList.map a).toArray:=M;have i:(Value.iface j d::b.toList.map a).toArray.extract 1 (Value.iface j d::b.toList.map a).toArray.size=(b.toList.map a).toArray:=M;have k:ac a t=invoke (.fn (.method name) #[]) (#[a o]++b.map a):=by simp[ac,e];rfl
 rw[k,g];show callMethod (.iface j d) name ((Value.iface j d::b.toList.map a).toArray.extract 1 (Value.iface j d::b.toList.map a).toArray.size)=_;rw[i]
def g.ds{an}{name}{au}{aA z}(aj:bk r au cR dd res aM)(aP)(V:nT P p an aA name au z)(H:oN all F t=f){o}{u}(y:t.op=.call {callee:=.invoke o name,args:=u,argTypes:=dp})(aa:bF F o=ax (.cd an (.val aA)))(Y:dW z=f)(aQ:k7 (ax (.val z)::u.toList.map (bF F))=gq aP cR)(aE:g6 (c aP) cR=f)(aN:dv aP p=h dd)(X:ep dd=f)(aB:∀i,ep (aM i)=f)(W:e8 aP=f)(aF:∀i,ay (c aP) (c (aM i))=f)(R:fd D t.dst=f)(aL:∀i,g r D be (.ae all bs::ar) .normal (fT t.dst (e9 (aP++gK (c p) (c (aM i)-c aP)) (res i)) F) (c_ aP (aM i) p)):g r D be (.ae all (t::bs)::ar) .normal F p:=by
 intro b E N k aH ab v aG idx w d S;cases idx with
 |nil=>exact d.elim
 |cons aX idx=>
 have O:=eL N o;rw[aa]at O;have O:=b7 O;generalize aq:E.eval o=aU at O;cases O with
 |@cd _ aT _ K aK=>
  have Z:=Rd.bd K;subst Z;obtain⟨fn,G,a,aW⟩:=aj.1;have aw:fn.name≠ "runtime.NumGoroutine":=M;have av:fn.body≠n:=M;obtain⟨ae,ak⟩:∃ae,P.types.size+Made.depth=ae+1:=⟨P.types.size+Made.depth-1,by exact cQ⟩
  have az:∀s,(program:Sem aI).run P s=.ok P s:=λs=>by simp
  have aV:∀s j,(program:Sem aI).events P s j=j:=λs j=>by simp
  have aO:b5 p b (z::u.toList.map E.eval) (gq aP cR):=by rw[<-aQ];exact uR (p:=p) (b:=b) ⟨Rd.val Y,m6 (eL N) u.toList⟩
  refine R_ (aP:=aP) w d.1 (j1 H _ _ _ N) k (B:=z::u.toList.map E.eval) (λah aD=>?_) aj aO aE aN X aB W (λi=>fc (aF i)) λi aU ag m x q=>?_
  .obtain⟨ao,ad⟩:=V ah aD ae;constructor
   .rw[Cu y aq];simp[callMethod,az,ak,ao,callFunc,G,aw,av]
   intro J e;refine ad J ?_;rw[Cu y aq]at e;simpa[callMethod,az,aV,ak,ao,callFunc,G,aw,av]using e
  refine aL i ag _ ?_ x aH ab v aG idx w d.2 λL C ai I aR aJ Q A=>S L C ai I aR aJ Q (q.trans A);cases T:t.dst with
  |none=>exact N.mono q k.len
  |some aS=>exact(N.mono q k.len).put (la R aS T) m
def a0.dS{o}(g:t.op=.nilCheck o){i}(j:η o=ax (.val (.pointer (h i)))):a0 P t η p (ax (.val (.pointer (h i)))) p:=by refine .aZ λm d k b=>?_;have a:=b o;rw[j]at a;have e:=Rd.bd (b7 a);exact⟨d o,by simp[ac,g,e],a,by simp[ac,g,e]⟩
def a0.e9(aR:bn P ad){o}(u:t.op=.load q o){cap ae i}{ag}{z}{ai}(F:η o=ax (.val (.pointer (h ⟨j,off,n⟩))))(az:off=e*i+ae)(D:p[d]?=h (.J (ck W i (.row j cap) k ag)))(ah:eg i k T ag)(y:bZ ad q=h z)(Q:hc z ((fR ae (T e)).map O.c)=h ai)(ab:e<k):a0 P t η p (.n ai) p:=by
 refine .du λb I bP E=>?_;have G:=E o;rw[F]at G;have G:=Rd.bd (b7 G);have ao:d<c b.l:=hY;have B:=bI ao;generalize b.l[d]=L at B;obtain⟨aj,a,an,H,S⟩:=bP.box d _ L D B;obtain⟨av,aA,X,aw⟩:=ck.lookup a;have aa:=(H j).2 M;have au:=an j _ X;let C:Nat->Z:=λg=>ag.getD (e*i+g) K;have J:∀g s,(fR ae (T e))[g]?=h s->ag[e*i+(ae+g)]?=h (C (ae+g))/\Rd b.u (C (ae+g)) s:=by intro g s m;rw[rD,p5]at m;obtain⟨v,aq,ar⟩:=ah.bX e ab (ae+g) s m;grind
 have aN:=DP (p:=p) (b:=b) (C:=C) (bg:=fR ae (T e)) (A:=ae) (λg s m=>(J g s m).2);have R:∀g v,((aC (c (fR ae (T e)))).map λg=>C (ae+g))[g]?=h v->b.a.cell? ⟨j,off+g,n⟩=h v:=by
  intro g v m;simp[m']at m;by_cases U:g<c (fR ae (T e))
  .simp[U]at m;subst m;have ak:=(J g _ (bI U)).1;simp[aL,au];grind
  grind
 obtain⟨v,V,Y⟩:=tD (b:=b) (p:=p) (P:=P) (aR q z y) (j:=j) (off:=off) (ai:=ai) R aN Q;have w:ac I t=(do pure (.value (<-loadVar q ⟨j,off,n⟩))):=Rc;refine⟨v,by rw[w];simp[V],Y,λx r=>?_⟩;rw[w]at r;have N:x∈(loadVar q ⟨j,off,n⟩).events P b.a #[]:=by simpa[V]using r
 obtain⟨g,m,rfl⟩:=pd (aR q z y) (k:=c (fR ae (T e))) (λg m=>⟨_,R g (C (ae+g)) M⟩) (by have:=r_ Q;grind) x N;exact qp (b9 B) aa
def a0.jV(aR:bn P ad){o}(y:t.op=.slice q o n (h X) n){e}(D:bZ ad q=h e)(I:e.desc=.slice W)(J:bZ ad W=h a4){cap}{kd}{A}(N:η o=ax (.val (.slice (h ⟨j,0,n⟩) k cap)))(K:η X=ax (.int kd A))(z:k<=cap)(O:0<=A)(v:A<=k):a0 P t η p (ax (.val (.slice (h ⟨j,0,n⟩) A.toNat cap))) p:=by
 refine .aZ λb s C d=>?_;have i:=d o;rw[N]at i;have i:=Rd.bd (b7 i);have m:kG η n=h n:=rfl;have B:kG η (h X)=h (h A):=by simp[kG,K]
 have r:U (jf k n (h A)):=⟨O,v⟩;obtain⟨w,R,M⟩:=vR (P:=P) (kl:=f) z (kb d m) (kb d B) r b.a;have u:=(aR q e D).run_underlying (Q:=b.a);rw[I]at u;have x:(aX f k cap n (h (s X)) n).run P b.a=.ok (0,A.toNat,cap) b.a:=w;have F:=u3 (P:=P) (kl:=f) z (kb d m) (kb d B) r b.a;have E:∀g,(aX f k cap n (h (s X)) n).events P b.a g=g:=F;refine⟨_,?_,Rd.val a,?_⟩
 .simp[ac,y,i,Instr.sliceAt,u,Instr.slice,x,(aR W a4 J).bb,gN]
 simp[ac,y,i,Instr.sliceAt,u,Instr.slice,x,E]
def LA{b}:∀{B:m Z}{d:m N},c B=c d->∀g:Nat->Z,(∀a,a<c B->B[a]?=h (g a))->(∀a(e:N),d[a]?=h e->Rd b.u (g a) e)->bN p b B (d.map O.c)
 |[],[],_,_,_,_=>trivial
 |[],_::_,i,_,_,_=>by grind
 |_::_,[],i,_,_,_=>by grind
 |r::B,e::d,i,g,k,j=>⟨by have:=k 0 E;cases this;exact j 0 e rfl,LA M (λa=>g (a+1)) (λa o=>by grind) λa q o=>j (a+1) q M⟩
def a0.ga(aR:bn P ad){o}{i}(u:t.op=.typeAssert o i q l){e}(j:bZ ad q=h e)(v:vk e.desc=l){ah}(F:η o=ax (.cD q ah)):a0 P t η p (.n (.agg (ah.map O.c))) p:=by
 refine .aZ λd r C m=>?_;have b:=m o;rw[F]at b;replace b:=b7 b;generalize s:r o=J at b;have x:=(aR q e j).run_underlying (Q:=d.a);have K:∀w,e.desc≠.interface w:=by intro w y;rw[y]at v;cases v
 cases b with
 |@cD I B ah k z E D=>
  have g:(Instr.typeAssert (.iface q (.agg B.toArray)) i q l).run P d.a=.ok (.agg B.toArray) d.a/\(Instr.typeAssert (.iface q (.agg B.toArray)) i q l).events P d.a #[]=#[]:=by
   constructor
   .unfold Instr.typeAssert;simp only[cH,x,c1];cases A:e.desc<;>first|simp|simp
   unfold Instr.typeAssert;simp only[x,aH,aJ,events_underlying];cases A:e.desc<;>first|simp|simp
  exact⟨.agg B.toArray,by simp[ac,u,s,cH,g.1,c1,d8],⟨B,a,LA k z E D⟩,by simp[ac,u,s,aH,g.1,g.2,aJ,Sem.events_pure]⟩
def g.h2(aR:bn P ad)(d){q C}{o}{b}{e}(ao:t.op=.store q o X)(x:bZ ad q=h e)(T:e.size=1)(I:bF F o=ax (.val (.pointer (h ⟨C,0,n⟩))))(J:bF F X=ax (.val b))(U:b.cells=#[b])(V:dW b=f)(m:c7 d p=h (.J (eb C W aa)))(ai:t.guard=n)(B:fd D t.dst=f)(R:g r D be (.ae all bs::ar) .normal (fT t.dst .any F) (p.set d (.J (eb C W b)))):g r D be (.ae all (t::bs)::ar) .normal F p:=by
 refine g.cI (ι:=Unit) (λ_=>.any) (λ_=>p.set d (.J (eb C W b))) ai B (λk ak aN bP=>?_) λ_=>R;have H:=eL aN o;rw[I]at H;have H:=Rd.bd (b7 H);have y:=eL aN X;rw[J]at y;have y:=Rd.bd (b7 y);have m:=ej m;have Z:d<c k.l:=hY;have G:=bI Z;generalize k.l[d]=L at G;obtain⟨an,⟨z,A,aq⟩,aw,ab,ag⟩:=bP.box d _ L m G;have O:=(ab C).2 M;have Q:=aw C _ A;have N:∀S∈[b],S.oneCell'=f:=λS av=>by have:dW S=f:=M;exact this
 have ae:=run_storeCells_at P C 0 W [b] 0 #[aa] k.a Q E N;have aA:∀i,i≠C->(k.a.setRow C #[b]).heap[i]?=k.a.heap[i]?:=λi s=>setRow_other k.a C i _ s;have aB:=setRow_heap k.a C #[aa] #[b] W (0,0) Q;obtain⟨aj,ah⟩:=bP.b_ (d:=d) (j5:=eb C W b) (cn:=L) (bi:=k.a.setRow C #[b]) m G rfl E
  (λi s au=>aA i M) (λi s=>.inl s)
  ⟨λi=>if i=C then h (.cells #[b] W (0,0))else n,⟨z,by simp,λi s=>by grind⟩,λi t s=>by grind,λi=>by grind⟩ a a a
 have u:ac ak.eval t=(do storeVar q ⟨C,0,n⟩ b;pure .skip):=by simp[ac,ao,H,y,Instr.storeAt,Instr.sureAddr]
 have Y:=ae;refine⟨(),.skip,_,K,?_,.inr ⟨a,a⟩,v,aj,ah,?_⟩
 .rw[u];simp[storeVar,(aR q e x).bb,U,T,Y]
 intro w j;rw[u]at j;have az:w∈(storeCells ⟨C,0,n⟩ [b] 0).events P k.a #[]:=by simp[storeVar,aH,(aR q e x).bb,T,U,aJ,events_sizeOf,dZ,hr,dh,cH,c1,Sem.events_pure]at j;simpa[Y]using j
 rcases nh [b] 0 #[aa] k.a #[] Q E N w az with aD|⟨aE,_,_,rfl⟩
 .grind
 exact og (b9 G) O (ag C O _)
def g.jE(q d)(C i){I}(H:look F q=aG d 0)(m:c7 d p=h (.cells W [.c (.S f I 0 T)]))(z:∀j b,g r D be (.code s::ar) .normal ((q,cM (.pointer (h ⟨j,0,n⟩)))::F) (p.set d (.J (eb j W (cX (.nil b) 0)))++[.J (ck C i (.nil b) 0 [])])):g r D be (.code s::ar) .normal F p:=by
 refine b0.e3 (ι:=Nat×Option Addr) (dE:=λt=>(q,cM (.pointer (h ⟨t.1,0,n⟩)))::F) (ao:=λt=>p.set d (.J (eb t.1 W (cX (.nil t.2) 0)))++[an.J (ck C i (.nil t.2) 0 [])]) (λu ai x bP=>?_) λt=>z t.1 t.2;have m:=ej m;have X:d<c u.l:=hY;have w:=bI X;generalize u.l[d]=L at w;obtain⟨j,B,rfl,ae,N,ad⟩:=bP.box d _ L m w
 match B,N with
 |[aa],⟨S,_⟩=>
  obtain⟨b,J,aN,rfl,_,_,ab,_,_⟩:=(show Rd u.u aa (.S f I 0 T)from S).b1;have U:=ab a;subst U;obtain⟨G,A⟩:=bP.b7 (cd:=u.u) (bi:=u.a) (d':=.J (eb j W (cX (.nil b) 0))) (cn:=⟨.pointer (h ⟨j,0,n⟩),[j]⟩) m w rfl (bC _) (λ_ _ _=>rfl) (λ_ _ _ _=>rfl) (λ_ _ _ V=>V) bP.mem (λo e=>⟨.inl e,bP.lt _ (b9 w) o e⟩) rfl rfl rfl
   ⟨λo=>if o=j then h (.cells #[.slice b 0 0] W (0,0))else n,⟨rfl,by simp[cX],λo e=>by grind⟩,λo Y e=>by grind,λo=>by by_cases y:o=j<;>simp[y],λo e Y=>by grind⟩
  obtain⟨R,Q⟩:=G.b0 (bX:=.J (ck C i (.nil b) 0 [])) (L:=⟨.nilFunc,[]⟩) (.refl _ _) rfl G ⟨λ_=>n,⟨rfl,by simp,by simp,rfl,rfl⟩,by simp,by simp,by simp⟩ E;have v:=A.trans Q;refine⟨(j,b),{u with l:=u.l.set d ⟨.pointer (h ⟨j,0,n⟩),[j]⟩++[⟨.nilFunc,[]⟩]},rfl,⟨x.size,x.defers.imp λ_ k=>k.mono v.ext,λM=>?_⟩,R,v⟩;simp only[look];cases e:af q M with
  |false=>exact(x.aH M).mono v.ext bP.len
  |true=>
   have y:=di e;subst y;have k:=x.aH q;rw[H]at k;obtain⟨_,ah,ag,K,O,Z⟩:=(k:cx p u _ (.ptr d 0));rw[w]at K;cases K;cases O;rw[Z];exact Rd.val a
theorem aV.fe{k:Type}{o}{ao}(u:t.guard=n)(w:ey P D t F p (λ_:k=>o) λ_=>ao):aV r D all t F p o ao:=λy q v g s j b m x a e i d=>dx.fe u w y q v g s j b m x a e i λ_=>d
section
variable {o:Nat->z}{b3:Bool->Bool->m an}{cL I:Nat}
abbrev pg(a:Bool->Bool->m an)(d b:Nat):(Nat->Bool)->m an:=λz=>a (z d) (z b)
def cp.jG(cS:af cL e=l)(dq:af I e=l)(i:∀a b,aV r D all t (dy all F o e) (b3 a b) (o e) (b3 a b)):cp r D all F o (pg b3 cL I) e t:=by intro z _ _;have d:dm e z cL=z cL:=EO;have g:dm e z I=z I:=EN;grind
def cp.dr(aR:bn P ad)(iP:a8 r CT)(u:∀x j,hA ad CT [] all (dy all F o e) (b3 x j) t=h (o e,n,cf):=by intro x j;cases x<;>cases j<;>rfl)(cS:af cL e=l:=by rfl)(dq:af I e=l:=by rfl)(cw:U cf:=by simp only[U,a9];omega):cp r D all F o (pg b3 cL I) e t:=.jG cS dq λx j=>aV.eval aR iP (u x j) cw
def cp.bI(aR:bn P ad:=by exact bd)(iP:a8 r CT:=by first|assumption|exact a8.nil)(u:∀x j,hA ad CT [] all (dy all F o e) (b3 x j) t=h (o e,n,[]):=by intro x j;cases x<;>cases j<;>rfl)(cS:af cL e=l:=by rfl)(dq:af I e=l:=by rfl):cp r D all F o (pg b3 cL I) e t:=.dr (cf:=[]) aR iP u cS dq v
def cp.hd(cS:af cL e=l)(dq:af I e=l)(i:eh all cL e=f)(g:eh all I e=f)(j:aV r D all t (dy all F o e) (b3 l l) (o e) (b3 l l)):cp r D all F o (pg b3 cL I) e t:=by intro z _ d;have a:dm e z cL=z cL:=EO;have b:dm e z I=z I:=EN;grind
def cp.gA(dq:af I cL=l)(d:eh all I cL=f)(g:aV r D all t (dy all F o cL) (b3 l l) (o cL) (b3 f l)):cp r D all F o (pg b3 cL I) cL t:=by intro z _ e;have a:dm cL z cL=f:=zV;have b:dm cL z I=z I:=EN;grind
def cp.gB(cS:af cL I=l)(e:eh all I cL=f)(g:aV r D all t (dy all F o I) (b3 f l) (o I) (b3 f f)):cp r D all F o (pg b3 cL I) I t:=by intro z aR d;have a:dm I z cL=z cL:=EO;have b:dm I z I=f:=zV;grind
end
end
inductive dG where
 |nil
 |ax (d:dG) (x j:Int) (a':dG)
def eu(k:av):dG->Z->(Nat->Option Obj)->Prop
 |.nil,m,a=>m=.pointer n/\∀j,a j=n
 |.ax r o j s,m,a=>∃i q p e b,m=.pointer (h ⟨i,0,n⟩)/\(a7 .i64 o/\a7 .i64 j)/\eu k r q e/\eu k s p b/\a i=h (.cells #[.int .i64 o,.int .i64 j,q,p] k (0,0))/\e i=n/\b i=n /\
   (∀d g,e d=h g->b d=n/\a d=h g)/\(∀d g,b d=h g->a d=h g)/\∀d g,a d=h g->d=i∨e d=h g∨b d=h g
def eu.cell{q}(a:eu W q aa k8):dW aa=f:=by
 cases q with
 |nil=>rw[a.1];rfl
 |ax=>obtain⟨_,_,_,_,_,rfl,_⟩:=a;rfl
section
def bb.hR{ad:Nat->Prop}(o:bb p b)(C:az.a=b.a)(M:az.u=b.u)(F:az.own=b.own)(S:c az.l=c ao)(X:c p<=c ao)(z:∀a,a<c p->¬ad a->ao[a]?=p[a]?/\az.l[a]?=b.l[a]?)(T:∀a d,(ad a∨c p<=a)->az.l[a]?=h d->∀e∈d.al,∃x L,ad x/\b.l[x]?=h L/\e∈L.al)(J:∀a i L d,(ad a∨c p<=a)->(ad i∨c p<=i)->az.l[a]?=h L->az.l[i]?=h d->∀e∈L.al,e∈d.al->a=i)(box:∀a t L,ad a->p[a]?=h t->b.l[a]?=h L->∃u d,ao[a]?=h u/\az.l[a]?=h d/\fE t L u d)(ok:fk p b ao az->∀a t L,(ad a∨c p<=a)->ao[a]?=h t->az.l[a]?=h L->er ao az t L):bb ao az/\cN p b ao az:=by
 have K:=o.len;have Q:∀(a:Nat) t (L:Loc),p[a]?=h t->b.l[a]?=h L->∃u d,ao[a]?=h u/\az.l[a]?=h d/\fE t L u d:=λa t L aE j=>by
  by_cases y:ad a
  .grind
  obtain⟨k,q⟩:=z a (cO.1 aE).1 y;exact⟨t,L,k.trans aE,q.trans j,.refl _ _⟩
 have D:fk p b ao az:=⟨λe N R y=>M▸y,Q⟩
 have v:∀(a:Nat) (d:Loc),az.l[a]?=h d->(ad a∨c p<=a)∨(a<c p/\¬ad a/\b.l[a]?=h d):=λa d y=>by grind
 have I:∀(a:Nat) (d:Loc),az.l[a]?=h d->∀e∈d.al,∃(x:Nat) (L:Loc),b.l[x]?=h L/\e∈L.al:=λa d y e g=>by grind
 have Y:∀(a i:Nat) (L d:Loc),(ad a∨c p<=a)->¬ad i->az.l[a]?=h L->b.l[i]?=h d->∀e∈L.al,e∈d.al->False:=λa i L d k q j m e g w=>by obtain⟨x,A,B,r,O⟩:=T a L k j e g;exact q (o.a3 x i A d r m e O w▸B)
 refine⟨⟨λe N R y=>?_,S,λa t L aE j=>?_,λa i L d j m e g w=>?_,λL j e g=>?_,λe g=>?_⟩,⟨?_,?_,D.mem,?_,λd m e g=>?_,Q,?_,?_,?_,F⟩⟩
 .rw[M]at y;rw[C];exact o.mem e N R y
 .rcases v a L j with k|⟨k,q,W⟩
  .grind
  rw[(z a k q).1]at aE;exact(o.box a t L aE W).cb D K λe _=>⟨by rw[C],λN=>by rw[M]⟩
 .rcases v a L j with k|⟨_,k,q⟩<;>rcases v i d m with V|⟨_,V,U⟩
  .grind
  .grind
  .grind
  exact o.a3 a i L d q U e g w
 .obtain⟨a,s,rfl⟩:=hG j;obtain⟨x,A,B,r⟩:=I a _ (bI s) e g;rw[C];exact o.lt A (b9 B) e r
 .rw[F]at g;refine⟨C▸(o.own e g).1,λL j E=>?_⟩;obtain⟨a,s,rfl⟩:=hG j;obtain⟨x,A,B,r⟩:=I a _ (bI s) e E;exact(o.own e g).2 A (b9 B) r
 .grind
 .grind
 .grind
 .obtain⟨a,s,rfl⟩:=hG m;obtain⟨x,A,B,r⟩:=I a _ (bI s) e g;grind
 all_goals rw[C]
def bb.j4(t:bb p b){A i}{L e}{bE}{q}(aE:p[d]?=h A)(ae:b.l[d]?=h L)(aa:fE A L i e)(Y:c q=bE.length)(sub:∀w∈e::q,∀x∈w.al,x∈L.al)(U:(e::q).Pairwise λw F=>∀x∈w.al,x∉F.al)(ok:∀m:a5,m.a=b.a->m.u=b.u->m.l=b.l.set d e++q->er (p.set d i++bE) m i e/\∀(D:Nat) v B,bE[D]?=h v->q[D]?=h B->er (p.set d i++bE) m v B):
  bb (p.set d i++bE) {b with l:=b.l.set d e++q}/\cN p b (p.set d i++bE) {b with l:=b.l.set d e++q}:=by
 have T:=t.len;have X:d<c p:=(cO.1 aE).1;have Z:=iE.1 U;have r:∀g o,(g=d∨c p<=g)->(b.l.set d e++q)[g]?=h o->(g=d/\o=e)∨(c p<=g/\q[g-c p]?=h o):=λg o j k=>by grind
 refine bb.hR (ad:=λg=>g=d) t a a a M E (λg j C=>M) (λg o j k W S=>M) (λg z o V j u k s W S ab=>?_) (λg v o j y k=>?_) (λQ g v o j y k=>?_)
 .rcases r g o j k with⟨cS,rfl⟩|⟨cS,dq⟩<;>rcases r z V u s with⟨R,rfl⟩|⟨R,O⟩
  .omega
  .grind
  .grind
  obtain⟨I,J⟩:=cO.1 dq;obtain⟨K,N⟩:=cO.1 O;exact Fc
 .grind
 grind
def is:dG->Nat->O
 |.nil,_=>.c .bk
 |.ax ..,a=>.aR a
def hi(a:av):dG->m an
 |.nil=>[]
 |.ax e b d g=>[.J (eu a (.ax e b d g))]
def mq(a:m Nat):dG->Z->(Nat->Option Obj)->m Loc
 |.nil,_,_=>[]
 |.ax ..,d,b=>[⟨d,a.filter λe=>(b e).isSome⟩]
def jh:dG->Nat->m an->m an
 |.nil,_,a=>a
 |.ax ..,b,a=>a.set b .x
def bb.gx(bP:bb p b){lt ct}{q r:Int}(aE:p[d]?=h (.J (eu W (.ax lt q r ct)))):
  ∃g,g.a=b.a/\(∃j L,b.l[d]?=h L/\L.v=.pointer (h ⟨j,0,n⟩)/\g.l[d]?=h ⟨L.v,[j]⟩)/\bb (p.set d (.cells W [.c (.int .i64 q),.c (.int .i64 r),is lt (c p),is ct (c p+c (hi W lt))])++(hi W lt++hi W ct)) g /\
   cN p b (p.set d (.cells W [.c (.int .i64 q),.c (.int .i64 r),is lt (c p),is ct (c p+c (hi W lt))])++(hi W lt++hi W ct)) g:=by
 have ar:d<c p:=(cO.1 aE).1;have Y:d<c b.l:=hY;have E:=bI Y;generalize b.l[d]=L at E;obtain⟨I,⟨j,D,C,i,y,A,⟨Z,z⟩,t,u,aj,ae,aN,U,ag,ah⟩,aa,J,ad⟩:=bP.box d _ L aE E;have aq:=bP.len;have O:j∈L.al:=(J j).2 M;refine⟨{b with l:=b.l.set d ⟨.pointer (h ⟨j,0,n⟩),[j]⟩++(mq L.al lt D i++mq L.al ct C y)},rfl,⟨j,L,E,A,M⟩,bP.j4 aE E (show _=_ from A.symm) ?_ ?_ ?_ λg V e m=>?_⟩
 .cases lt<;>cases ct<;>rfl
 .intro bB e X B;rcases fo.1 e with rfl|e
  .grind
  rcases gl.1 e with e|e
  .cases lt with
   |nil=>cases e
   |ax=>rw[mq,gY]at e;grind
  cases ct with
  |nil=>cases e
  |ax=>rw[mq,gY]at e;grind
 .refine iE.2 ⟨λbB e X B au=>?_,?_⟩
  .rw[gY]at B;subst B;rcases gl.1 e with e|e
   .cases lt with
    |nil=>cases e
    |ax=>rw[mq,gY]at e;grind
   cases ct with
   |nil=>cases e
   |ax=>rw[mq,gY]at e;grind
  cases lt<;>cases ct<;>simp[mq,p8,h1,uz,iE,List.Pairwise.nil,gY,forall_eq,sz,false_implies,implies_true,a9]
  exact ER
 have H:∀X o,i X=h o->I X=h o:=λX o k=>(U X o k).2;have ab:er (p.set d (.cells W [.c (.int .i64 q),.c (.int .i64 r),is lt (c p),is ct (c p+c (hi W lt))])++(hi W lt++hi W ct)) g (.J (eu W lt)) ⟨D,L.al.filter λX=>(i X).isSome⟩:=
  ⟨i,t,λX o k=>by grind,λX=>⟨λk=>(kD.1 k).2,λk=>kD.2 ⟨(J X).2 ER,k⟩⟩,λX B o=>by rw[e];grind⟩
 have ai:er (p.set d (.cells W [.c (.int .i64 q),.c (.int .i64 r),is lt (c p),is ct (c p+c (hi W lt))])++(hi W lt++hi W ct)) g (.J (eu W ct)) ⟨C,L.al.filter λX=>(y X).isSome⟩:=
  ⟨y,u,λX o k=>by grind,λX=>⟨λk=>(kD.1 k).2,λk=>kD.2 ⟨(J X).2 ER,k⟩⟩,λX B o=>by rw[e];grind⟩
 have F:=t.cell;have x:=u.cell;have K:g.a.heap[j]?=h (.cells (List.toArray [.int .i64 q,.int .i64 r,D,C]) W (0,0)):=M;have Q:∀o,g.u j o=n:=λo=>by rw[e];grind
 have R:∀w,(b.l.set d ⟨.pointer (h ⟨j,0,n⟩),[j]⟩++(mq L.al lt D i++mq L.al ct C y))[c p+w]?=(mq L.al lt D i++mq L.al ct C y)[w]?:=λw=>by grind
 have s:∀w,(p.set d (.cells W [.c (.int .i64 q),.c (.int .i64 r),is lt (c p),is ct (c p+c (hi W lt))])++(hi W lt++hi W ct))[c p+w]?=(hi W lt++hi W ct)[w]?:=λw=>by grind
 refine⟨⟨j,_,a,K,⟨Rd.int Z,Rd.int z,?_,?_,v⟩,Q⟩,?_⟩
 .cases lt with
  |nil=>rw[t.1];exact Rd.bk
  |ax=>exact⟨λS aE=>by have G:=(s 0).symm.trans aE;cases G;rfl,_,by rw[m];exact R 0,rfl,F⟩
 .cases ct with
  |nil=>rw[u.1];exact Rd.bk
  |ax=>
   cases lt with
   |nil=>exact⟨λS aE=>by rw[s]at aE;cases aE;rfl,_,by rw[m];exact R 0,rfl,x⟩
   |ax=>exact⟨λS aE=>by rw[s]at aE;cases aE;rfl,_,by rw[m];exact R 1,rfl,x⟩
 intro ao ak an T N;cases lt<;>cases ct<;>simp only[hi,mq,p8,h1,uz,List.getElem?_nil]at T N
 .cases T
 .grind
 .grind
 grind
def Hu(t:bb p b){q}(k:cx p b aa (is q e))(m:q≠.nil->p[e]?=h (.J (eu W q))):
  ∃i d,eu W q aa i/\(∀g j,i g=h j->b.a.heap[g]?=h j)/\(∀g,g∈d↔(i g).isSome=f)/\(∀g∈d,∀j,b.u g j=n)/\(match q with|.nil=>d=[]|.ax ..=>b.l[e]?=h ⟨aa,d⟩):=by
 cases q with
 |nil=>
  have k:Rd b.u aa .bk:=k;cases k;exact⟨λ_=>n,[],⟨a,λ_=>rfl⟩,by simp,by simp,by simp,a⟩
 |ax=>
  obtain⟨_,L,r,rfl,_⟩:=k;obtain⟨i,s,u,o,v⟩:=t.box e _ L (m nofun) r;exact⟨i,L.al,s,u,o,v,r⟩
def rN:dG->Nat->Z->m Loc->m Loc
 |.nil,_,_,a=>a
 |.ax ..,b,d,a=>a.set b ⟨d,[]⟩
def bb.cW(t:bb p b){lt ct}{F j}(aE:p[d]?=h (.cells W [.c (.int .i64 F),.c (.int .i64 j),is lt e,is ct w]))(I:lt≠.nil->p[e]?=h (.J (eu W lt)))(J:ct≠.nil->p[w]?=h (.J (eu W ct)))(G:lt≠.nil->ct≠.nil->e≠w):
  ∃r,r.a=b.a/\(∃L,b.l[d]?=h L/\∃U,r.l[d]?=h U/\U.v=L.v)/\bb (jh ct w (jh lt e (p.set d (.J (eu W (.ax lt F j ct)))))) r/\cN p b (jh ct w (jh lt e (p.set d (.J (eu W (.ax lt F j ct)))))) r:=by
 have aV:d<c p:=(cO.1 aE).1;have aU:=t.len;have N:d<c b.l:=y;have ab:=bI N;generalize b.l[d]=L at ab;obtain⟨q,B,rfl,aK,u,aL⟩:=t.box d _ L aE ab
 match B,u with
 |[aD,aB,Q,R],⟨ae,ag,aN,az,_⟩=>
 obtain⟨s,A,ai,aF,aG,aH,X⟩:=Hu t aN I;obtain⟨T,C,d1,d2,d3,d4,e4⟩:=Hu t az J;have ae:Rd b.u aD (.int .i64 F):=ae;have ag:Rd b.u aB (.int .i64 j):=ag;cases ae with|int an=>
 cases ag with|int ao=>
 have aS:q∉A:=λm=>by
  cases lt with
  |nil=>grind
  |ax=>have:=t.a3 d e _ _ ab X q E m;grind
 have aT:q∉C:=λm=>by
  cases ct with
  |nil=>grind
  |ax=>have:=t.a3 d w _ _ ab e4 q E m;grind
 have aP:∀i∈A,i∉C:=λi m aA=>by
  cases lt with
  |nil=>grind
  |ax=>
   cases ct with
   |nil=>grind
   |ax=>exact G nofun nofun (t.a3 e w _ _ X e4 i m aA)
 have z:s q=n:=by cases m:s q with|none=>rfl|some x=>grind
 have aQ:T q=n:=by cases m:T q with|none=>rfl|some x=>grind
 have aw:∀i x,s i=h x->T i=n:=λi x m=>by
  cases u:T i with
  |none=>rfl
  |some K=>grind
 have ok:∀V r,r.a=b.a->r.u=b.u->er V r (.J (eu W (.ax lt F j ct))) ⟨.pointer (h ⟨q,0,n⟩),q::(A++C)⟩:=λV r ak aj=>by
  refine⟨λi=>if i=q then h (.cells #[.int .i64 F,.int .i64 j,Q,R] W (0,0))else(s i).or (T i),⟨q,Q,R,s,T,a,⟨an,ao⟩,ai,d1,br a,z,aQ,λi x m=>⟨aw i x m,M⟩,λi x m=>?_,λi x m=>?_⟩,λi x m=>?_,λi=>?_,λi D x=>?_⟩
  .have:i≠q:=M;dsimp only;rw[bm this,m];cases u:s i with
   |none=>rfl
   |some K=>grind
  .by_cases Z:i=q
   .grind
   dsimp only at m;rw[bm Z]at m;cases u:s i with
   |none=>grind
   |some K=>grind
  .rw[ak];by_cases Z:i=q
   .grind
   dsimp only at m;rw[bm Z]at m;cases u:s i with
   |none=>grind
   |some K=>grind
  .grind
  rw[aj];grind
 refine⟨{b with l:=rN ct w R (rN lt e Q (b.l.set d ⟨.pointer (h ⟨q,0,n⟩),q::(A++C)⟩))},rfl,?_⟩
 classical
 have aX:lt≠.nil->e<c p/\e≠d:=λm=>⟨(cO.1 (I m)).1,λZ=>by grind⟩
 have aM:ct≠.nil->w<c p/\w≠d:=λm=>⟨(cO.1 (J m)).1,λZ=>by grind⟩
 have ar:b.l[d]?=h ⟨.pointer (h ⟨q,0,n⟩),[q]⟩:=ab;let ad:Nat->Prop:=λo=>o=d∨(lt≠.nil/\o=e)∨(ct≠.nil/\o=w);have O:∀o,(jh ct w (jh lt e (p.set d (.J (eu W (.ax lt F j ct))))))[o]?=if o=d then h (.J (eu W (.ax lt F j ct)))else if(lt≠.nil/\o=e)∨(ct≠.nil/\o=w)then h .x else p[o]?:=λo=>by cases lt<;>cases ct<;>simp[jh,o2,sq]<;>grind
 have Y:∀o,(rN ct w R (rN lt e Q (b.l.set d ⟨.pointer (h ⟨q,0,n⟩),q::(A++C)⟩)))[o]?=if o=d then h ⟨.pointer (h ⟨q,0,n⟩),q::(A++C)⟩else if ct≠.nil/\o=w then h ⟨R,[]⟩else if lt≠.nil/\o=e then h ⟨Q,[]⟩else b.l[o]?:=λo=>by cases lt<;>cases ct<;>simp[rN,o2,sq]<;>grind
 have aaa:∀S e d,c (jh S e d)=c d:=λS e d=>by cases S<;>simp[jh]
 have aab:∀S e au d,c (rN S e au d)=c d:=λS e au d=>by cases S<;>simp[rN]
 have aI:∀i∈A,lt≠.nil/\b.l[e]?=h ⟨Q,A⟩:=λi D=>by grind
 have aJ:∀i∈C,ct≠.nil/\b.l[w]?=h ⟨R,C⟩:=λi D=>by grind
 refine⟨⟨_,ar,_,(Y d).trans (br a),a⟩,bb.hR (ad:=ad) t a a a M M (λo v aR=>M) (λo ah v k i D=>?_) (λo aO ah ax v aq k aa i D aW=>?_) (λo av ah v g k=>?_) (λ_ o av ah v g k=>?_)⟩
 .rw[Y]at k;split at k
  .cases k;rcases fo.1 D with rfl|D
   .grind
   rcases gl.1 D with D|D
   .grind
   grind
  have:o<c b.l∨c b.l<=o:=dY _ _;grind
 .rw[Y]at k aa;grind
 .rw[O,Y];rcases v with rfl|⟨m,rfl⟩|⟨m,rfl⟩
  .rw[ar]at k;cases k;rw[aE]at g;cases g;exact⟨_,_,br a,br a,a⟩
  .have H:b.l[o]?=h ⟨Q,A⟩:=M;rw[I m]at g;rw[H]at k;cases g;cases k;grind[fE]
  have H:b.l[o]?=h ⟨R,C⟩:=M;rw[J m]at g;rw[H]at k;cases g;cases k;grind[fE]
 rw[O]at g;rw[Y]at k;split at g
 .grind
 split at g
 .cases g;trivial
 grind
def eH:dG->N
 |.nil=>.bk
 |.ax d a b e=>.O [.int .i64 a,.int .i64 b,eH d,eH e]
def eu.rd{W}{bB}:∀{q:dG}{s:Z}{e:Nat->Option Obj},eu W q s e->(∀d B b j,e d=h (.cells B b j)->∀p r,B[p]?=h r->bB d p=h r)->Rd bB s (eH q)
 |.nil,_,_,g,_=>by rw[g.1];exact .bk
 |.ax J u v N,_,e,⟨t,F,E,x,R,y,⟨C,A⟩,m,o,I,_,_,z,D,_⟩,k=>by
  subst y;have Q:=m.rd (bB:=bB) λd B b j g=>k d B b j (z d _ g).2;have M:=o.rd (bB:=bB) λd B b j g=>k d B b j (D d _ g);have O:=k t _ _ _ I;refine Rd.O t 0 (λi=>[Value.int .i64 u,.int .i64 v,F,E].getD i K) (λi w a=>?_) (λi w a=>?_)
  .match i,a with
   |0,_|1,_|2,_|3,_=>grind
  .match i,a with
   |0,a=>cases a;exact Rd.int C
   |1,a=>cases a;exact Rd.int A
   |2,a=>grind
   |3,a=>grind
def bb.gj(i:bb p b){q}(aE:p[d]?=h (.J (eu W q))):
  ∃k,k.a=b.a/\k.l=b.l/\(∀L,b.l[d]?=h L->Rd k.u L.v (eH q))/\bb (p.set d .x) k/\cN p b (p.set d .x) k:=by
 have N:d<c p:=(cO.1 aE).1;have M:=i.len;have x:=bI (show d<c b.l by omega);generalize b.l[d]=L at x;obtain⟨w,T,E,K,O⟩:=i.box d _ L aE x;let j:Mem:=λe g=>match w e with|some (.cells B _ _)=>B[g]?|_=>b.u e g
 have D:∀e,e∉L.al->∀g,j e g=b.u e g:=λe u g=>by grind
 have Q:∀e g v,b.u e g=h v->j e g=h v:=λe g v s=>by grind
 have z:cN p b (p.set d .x) {b with u:=j}:=by
  refine⟨bC _,λ_ _ _=>rfl,Q,λe _ F g=>D e (F L (b9 x)) g,λo m e u=>.inr ⟨o,m,u⟩,λy A o r m=>?_,a,a,a,a⟩;by_cases t:d=y
  .subst t;rw[aE]at r;cases r;exact⟨.x,o,by grind,m,a⟩
  exact⟨A,o,by grind,m,.refl _ _⟩
 refine⟨{b with u:=j},rfl,rfl,λo m=>?_,⟨λe g v s=>?_,by grind,λy A o r m=>?_,i.a3,i.lt,i.own⟩,z⟩
 .rw[x]at m;cases m;exact T.rd λe B C U u g V X=>by grind
 .by_cases u:e∈L.al
  .have s:j e g=h v:=s;cases I:w e with
   |none=>grind
   |some S=>
    have R:=E e S I;simp[j,I]at s;split at s
    .rename_i B C U t;cases t;show b.a.cell? _=_;simp[aL,R,s]
    grind
  exact i.mem e g v ((D e u g).symm.trans s)
 by_cases t:d=y
 .subst t;rw[im N]at r;cases r;trivial
 rw[kC t]at r;exact(i.box y A o r m).cb z.ext M λe u=>⟨a,λg=>D e (λJ=>t (i.a3 d y L o x m e J u)) g⟩
end
section
variable {r:aj P}
def bY.gw{d}{q}{j}(e:bY D p b F d)(i:c b.l=c p)(a:cN p b ao az)(o:bx ao az (d.tmps.getD q K) j):bY D ao az ((q,j)::F) d:=
 ⟨e.size,e.defers.imp λ_ g=>g.mono a.ext,λk=>by
  simp only[look];cases m:af q k with
  |false=>exact(e.aH k).mono a.ext i
  |true=>grind[Nat.eq_of_beq_eq_true]⟩
def g.gx(q d){W}{lt ct}{o j}(B:look F q=.n (.aq (.aR d)))(e:c7 d p=h (.J (eu W (.ax lt o j ct))))(k:g r D be (.code s::ar) .normal ((q,aG d 0)::F) (p.set d (.cells W [.c (.int .i64 o),.c (.int .i64 j),is lt (c p),is ct (c p+c (hi W lt))])++(hi W lt++hi W ct))):g r D be (.code s::ar) .normal F p:=by refine g.aU (λN K t b=>?_) k;have w:=t.aH q;rw[B]at w;obtain⟨_,L,C,y,_⟩:=w;obtain⟨m,i,⟨E,J,a,v,z⟩,A,u⟩:=b.gx (ej e);rw[C]at a;cases a;have x:d<c p:=(cO.1 (ej e)).1;refine⟨m,i,t.gw b.len u ⟨λI aE=>?_,_,E,z,v,y.trans v⟩,A,u⟩;rw[kA M,im x]at aE;cases aE;rfl
def g.cW(q d e w){W}{lt ct}{a j}(S:look F q=aG d 0)(o:c7 d p=h (.cells W [.c (.int .i64 a),.c (.int .i64 j),is lt e,is ct w]))(y:lt≠.nil->c7 e p=h (.J (eu W lt)))(A:ct≠.nil->c7 w p=h (.J (eu W ct)))(Q:lt≠.nil->ct≠.nil->e≠w)(C:g r D be (.code s::ar) .normal ((q,.n (.aq (.aR d)))::F) (jh ct w (jh lt e (p.set d (.J (eu W (.ax lt a j ct))))))):g r D be (.code s::ar) .normal F p:=by
 refine g.aU (λaa Z I m=>?_) C;have K:=I.aH q;rw[S]at K;obtain⟨_,L,ad,V,O,ae⟩:=K;obtain⟨E,x,⟨N,k,v,T,z⟩,R,J⟩:=m.cW (ej o) (λi=>ej (y i)) (λi=>ej (A i)) Q;rw[V]at k;cases k;have M:d<c p:=(cO.1 (ej o)).1;have t:(jh ct w (jh lt e (p.set d (.J (eu W (.ax lt a j ct))))))[d]?=h (.J (eu W (.ax lt a j ct)))∨(jh ct w (jh lt e (p.set d (.J (eu W (.ax lt a j ct))))))[d]?=h .x:=by
  have ab:(p.set d (.J (eu W (.ax lt a j ct))))[d]?=h (.J (eu W (.ax lt a j ct))):=im M;have Y:∀u B b,b[d]?=h (.J (eu W (.ax lt a j ct)))∨b[d]?=h .x->(jh u B b)[d]?=h (.J (eu W (.ax lt a j ct)))∨(jh u B b)[d]?=h .x:=λu B b i=>by
   cases u with
   |nil=>exact i
   |ax=>simp[jh,o2];grind
  grind
 refine⟨E,x,I.gw m.len J ⟨λX aE=>?_,v,T,?_,?_⟩,R,J⟩
 .rcases t with t|t<;>(rw[t]at aE;cases aE;rfl)
 .grind
 exact ht
def g.gj(q d){W}{t}(w:look F q=.n (.aq (.aR d)))(i:c7 d p=h (.J (eu W t)))(b:g r D be (.code s::ar) .normal ((q,ax (eH t))::F) (c_.cn d .x p)):g r D be (.code s::ar) .normal F p:=by rw[mP]at b;refine g.aU (λA z k a=>?_) b;have o:=k.aH q;rw[w]at o;obtain⟨_,L,y,u,_⟩:=o;obtain⟨j,e,_,x,v,m⟩:=a.gj (ej i);exact⟨j,e,k.gw a.len m (show Rd _ _ _ from u▸x L y),v,m⟩
end
section
variable {r:aj P}{aN:fs}{ai:Exit}
def nV(i:Nat)(aN:fs):fs:=λm k g=>∃d a,(∀e j,bY i g e k j->bb g e->∃b:a5,b.a=e.a/\bY i a b d j/\bb a b/\cN g e a b)/\aN m d a
theorem nV.of(d:aN ai F p):nV D aN ai F p:=⟨F,p,λe g b a=>⟨e,rfl,b,a,.refl _ _⟩,d⟩
def nV.step{d}(v:∀b e,bY D p b F e->bb p b->∃a:a5,a.a=b.a/\bY D ao a d e/\bb ao a/\cN p b ao a)(y:nV D aN ai d ao):nV D aN ai F p:=by obtain⟨r,g,m,B⟩:=y;refine⟨r,g,λb e t o=>?_,B⟩;obtain⟨z,i,w,k,q⟩:=v b e t o;obtain⟨u,j,x,A,s⟩:=m z e w k;exact⟨u,j.trans i,x,A,q.trans s⟩
theorem nV.freeze(q d){W}{ah}{gC}(j:look F q=aG d 0)(b:c7 d p=h (.cells W ah))(g:h3 ah=h gC)(e:nV D aN ai ((q,ax (.O gC))::F) (c_.cn d .x p)):nV D aN ai F p:=by rw[mP]at e;exact .step (λm k i a=>bY.freeze q d j b g i a) e
def db.iX(K:db r D s (nV D aN) F p):db r D s aN F p:=by
 intro T I R u J N o E t d q;refine K T I R u J N o E t d λA U C g b x O a i=>?_;obtain⟨k,m,S,x⟩:=x;obtain⟨e,Q,M,z,y⟩:=S g b O a;have B:=y.too1 a;have j:=q A k m e b x M z (i.trans B);have w:eW g e:=.of a z Q B;cases A<;>first
  |exact j.elim
  |exact .aU w j
  |exactλpre=>.aU w (j pre)
  |exactλpre v=>.aU w (j pre v)
def db.bf(d)(ao){dr}(q:iS F d=h ab)(J:U ab)(b:jm p ao=h dr)(w:U dr)(M:db r D s aN d ao):db r D s aN F p:=by intro y x K a j v m B u e t;have o:=jP b w;have A:=(o y a).2.1;exact M y x ((K.le (eD q J)).al o a) (o y a).1 j v m B u e λC E i z k N I b g=>t C E i z k N I b ((A.too1 a).trans g)
def db.jL{o}{ab}{assign body}{g}{o'}{d:ι->m an}(q:∀e i,bY D p e F i->bb p e->∃j:m Z,i.eval o=.func (.func g) #[] j.toArray/\b5 p e j o')(s:bk r g (.n (.aq (.aR (c p)))::o') (p++[.loop D F {state:=.ready,pending:=n,fn:=0,tmps:=#[],params:=ab,assign:=assign,body:=body,defers:=0}]) res d)(a:∀b,∃fU,(d b)[c p]?=h (.loop D F fU)/\fU.state≠.busy/\∃k,yS fU.pending=h k/\aN k F ((d b).set (c p) .x++[.bn])):db r D (.rangeFunc o ab assign body) aN F p:=
 db.rangeFunc (fU:=λb=>(a b).choose) q s (λb=>⟨(a b).choose_spec.1,(a b).choose_spec.2.1⟩) λb=>(a b).choose_spec.2.2
def bk.jf{d}{fn}{args}{ao:ι->m an}(B:P.funcs[d]?=h fn)(x:(fn.name== "runtime.NumGoroutine")=l)(i:fn.body=h s)(v:ay args.length fn.ntmps=f)(y:db r fn.ntmps s (nV fn.ntmps λw o b=>∃k,k2 P fn p.length (res k) (ao k) w o b) (h2 0 args) p):bk r d args p res ao:=
 bk.gv B x i (fc v) λC t d z u A e q j a g=>db.iX y C t d z u A e q j a g
def k2.cells(aR:bn P ad){fn}{d}{res}(aP)(e:tB ad fn.results.toList aP F res=h ab)(m:U ab)(k:dv aP p=h ao)(j:l4 ao=f)(i:e8 aP=f)(g:∀b,b<d->aP[b]?=h b):k2 P fn d res ao .ret F p:=by refine⟨.inl a,aP,?_⟩;unfold tB at e;grind[oV.fc]
end
def x8:O->Option Z
 |.c (.val a)=>h a
 |_=>n
def u5:m O->Option (m Z)
 |[]=>h []
 |a::d=>match x8 a with
  |some e=>match u5 d with
   |some b=>h (e::b)
   |none=>n
  |none=>n
def x9:z->Option Z
 |.n (.aq b)=>x8 b
 |.n (.agg a)=>match u5 a with
  |some d=>h (.agg d.toArray)
  |none=>n
 |_=>n
def s0:m z->Option (m Z)
 |[]=>h []
 |a::d=>match x9 a with
  |some e=>match s0 d with
   |some b=>h (e::b)
   |none=>n
  |none=>n
section
variable {r:aj P}
def Jb{d}:∀{a:O},cx p b aa a->x8 a=h d->aa=d
 |.c (.val i),g,e=>by cases e;exact Rd.bd g
theorem Jc:∀{e:m O}{B a:m Z},bN p b B e->u5 e=h a->B=a
 |[],[],a,_,g=>by cases g;rfl
 |[],_::_,_,d,_=>d.elim
 |_::_,[],_,d,_=>d.elim
 |k::o,r::B,a,d,g=>by
  simp[u5]at g;cases i:x8 k with
  |none=>grind
  |some s=>
   cases j:u5 o with
   |none=>grind
   |some q=>
    simp[i,j]at g;subst g;rw[Jb d.1 i,Jc d.2 j]
def XS{g}:∀{d:z},bx p b aa d->x9 d=h g->aa=g
 |.n (.aq j),e,a=>Jb e a
 |.n (.agg i),⟨B,k,e⟩,a=>by simp[x9]at a;grind[Jc]
def Cs:∀{e:m z}{B a:m Z},b5 p b B e->s0 e=h a->B=a
 |[],[],a,_,g=>by cases g;rfl
 |[],_::_,_,d,_=>d.elim
 |_::_,[],_,d,_=>d.elim
 |k::o,r::B,a,d,g=>by
  simp[s0]at g;cases i:x9 k with
  |none=>grind
  |some s=>
   cases j:s0 o with
   |none=>grind
   |some q=>
    simp[i,j]at g;subst g;rw[XS d.1 i,Cs d.2 j]
def hZ(P:aI)(i:Nat)(e:ap)(g:bH)(j:m an)(d:a3)(args:m Z):Prop:=∀k b,bY i j k g b->∀a,(ac b.eval e).run P a=(callFunc d args.toArray).run P a/\(ac b.eval e).events P a #[]=(callFunc d args.toArray).events P a #[]
def hZ.eb{a}{args}(e:t.op=.call {callee:=.value (.func a),args:=ag,argTypes:=dp})(j:s0 (ag.toList.map (bF F))=h args):hZ P D t F p a args:=by
 intro o b i q;have k:=Cs (m6 (eL i) ag.toList) j;have d:ag.map b.eval=args.toArray:=M;have g:b.eval (.func a)=.func (.func a) #[] #[]:=rfl;have m:ac b.eval t=callFunc a args.toArray:=by simp[ac,e,resolve,g,Deferred.ofValue,invoke,d]
 grind
def hZ.invoke{r}{i}{name}{e}{m u}{args}(k:t.op=.call {callee:=.invoke o name,args:=i,argTypes:=dp})(x:bF F o=ax (.val (.iface e m)))(w:s0 (i.toList.map (bF F))=h args)(d:∀a,(Go.method (P.types.size+Made.depth) e m name).run P a=.ok (r,u) a/\∀b,(Go.method (P.types.size+Made.depth) e m name).events P a b=b):hZ P D t F p r (u::args):=by
 intro z y s a;have g:=eL s o;rw[x]at g;have g:=Rd.bd (b7 g);have j:=Cs (m6 (eL s) i.toList) w;have q:∀a,(program:Sem aI).run P a=.ok P a:=λa=>by simp
 have v:∀a b,(program:Sem aI).events P a b=b:=λa b=>by simp
 rw[Cu k g,j];constructor
 .simp[callMethod,q,(d a).1]
 simp[callMethod,q,v,(d a).1,(d a).2]
structure jw(P:aI)(ae:a3)(ai:Array Z->Sem Z):Prop where
 fn:∃fn,P.funcs[ae]?=h fn/\(fn.name== "runtime.NumGoroutine")=l/\fn.body.isNone=f/\Extern.findNext fn=n/\Extern.find fn=h ai
def jw.run{d}{g:Array Z->Sem Z}(r:jw P d g){args}{e}(p:(g args).run P e=.ok aa bi):(callFunc d args).run P e=.ok (.value aa) bi/\∀a,(callFunc d args).events P e a=(g args).events P e (a.push ⟨.mark (.extern d),l,f⟩):=by
 obtain⟨fn,o,q,k,b,m⟩:=r.fn;have i:fn.name≠ "runtime.NumGoroutine":=M;have j:fn.body=n:=dA;constructor
 .rw[run_callFunc_extern o q k b m,p];rfl
 intro a;simp[callFunc,o,i,j,b,m,p]
def ey.ext{B:ι->z}{d:ι->m an}{s}{r:Array Z->Sem Z}{args}(N:hZ P D t F p s args)(J:jw P s r)(o:∀g,bb p g->∃j b q,(r args.toArray).run P g.a=.ok q b.a/\bx (d j) b q (B j)/\bb (d j) b/\cN p g (d j) b/\∀k,∀e∈(r args.toArray).events P g.a k,e∈k∨h4 g e):ey P D t F p B d:=by
 intro g C I w;obtain⟨u,v⟩:=N g C I g.a;obtain⟨j,b,q,M,x,y,A,O⟩:=o g w;obtain⟨K,E⟩:=J.run M;refine⟨j,.value q,b,q,u.trans K,.inl a,x,y,A,λe i=>?_⟩;rw[v,E]at i;rcases O _ e i with o|o
 .simp at o;subst o;exact .inr ⟨s,a⟩
 grind
def ey.ed{i}{e:Array Z->Sem Z}{args}{o}(m:hZ P D t F p i args)(j:jw P i e)(k:∀d,(e args.toArray).run P d=.ok aa d)(s:∀d a,(e args.toArray).events P d a=a)(q:∀b,bx p b aa o):ey P D t F p (λ_:Unit=>o) λ_=>p:=
 .ext m j λb g=>⟨(),b,aa,k b.a,q b,g,.refl _ _,λa r u=>.inl M⟩
def ey.g5{v}{i:Array Z->Sem Z}{args}{aa:Nat->Z}{o:Nat->z}{bz}(J:hZ P D t F p v args)(A:jw P v i)(I:∀q,(i args.toArray).run P q=.ok (aa q.heap.size) (q.alloc (.cells #[bz] W)))(Q:∀q j,(i args.toArray).events P q j=j)(K:∀r p d,bx p d (aa r) (o r)):
  ey P D t F p o λr=>p++[.J (eb r W bz)]:=
 .ext J A λd g=>by
  have u:cN p d p {d with a:=d.a.alloc (.cells #[bz] W)}:=⟨by simp,λe b _=>iQ _ _ b,λ_ _ _ w=>w,λ_ _ _ _=>rfl,λL C e b=>.inr ⟨L,C,b⟩,λN bX L k s=>⟨bX,L,k,s,.refl _ _⟩,rfl,rfl,rfl,rfl⟩
  have O:∀t,d.u d.a.heap.size t=n:=λt=>by
   cases m:d.u d.a.heap.size t with
   |none=>rfl
   |some aa=>exact absurd (g.block m) (wZ _)
  have k:=(g.cY (bi:=d.a.alloc (.cells #[bz] W)) (cd:=d.u) E (λe b=>iQ d.a _ b) (λe b t=>rfl) (λe b t aa m=>by have:=g.block m;omega) a a a).1;obtain⟨y,x⟩:=k.b0 (bX:=.J (eb d.a.heap.size W bz)) (L:=⟨.pointer (h ⟨d.a.heap.size,0,n⟩),[d.a.heap.size]⟩) u rfl g
   ⟨λe=>if e=d.a.heap.size then h (.cells #[bz] W (0,0))else n,⟨rfl,by simp,λe b=>by grind⟩,λe t b=>by
    by_cases i:e=d.a.heap.size
    .subst i;simp[dH]at b;grind[lV]
    grind,λe=>by by_cases i:e=d.a.heap.size<;>simp[i],λe b t=>by grind⟩
   (λe b=>by simp_all)
  exact⟨d.a.heap.size,_,_,I d.a,K _ _ _,y,x,λj B w=>.inl M⟩
def eb.own{C}(j:c7 d p=h (.J (eb C W aa)))(bP:bb p b):b.a.heap[C]?=h (.cells #[aa] W (0,0))/\b.a.cell? ⟨C,0,n⟩=h aa/\(∀a,h4 b ⟨.cell ⟨C,a,n⟩,l,l⟩)/\∀a,h4 b ⟨.cell ⟨C,a,n⟩,f,l⟩:=by have aE:=ej j;have m:d<c b.l:=hY;have e:=bI m;generalize b.l[d]=L at e;obtain⟨o,⟨t,i,u⟩,r,s,q⟩:=bP.box d _ L aE e;have k:=r C _ i;have g:=(s C).2 M;exact⟨k,by simp[aL,k],λa=>qp (b9 e) g,λa=>og (b9 e) g (q C g _)⟩
def eb.b_{d C}{W}{aa bz}(g:c7 d p=h (.J (eb C W aa)))(bP:bb p b):bb (p.set d (.J (eb C W bz))) {b with a:=b.a.setRow C #[bz]}/\cN p b (p.set d (.J (eb C W bz))) {b with a:=b.a.setRow C #[bz]}:=by
 have g:=ej g;have s:d<c b.l:=hY;have m:=bI s;generalize b.l[d]=L at m;obtain⟨q,⟨j,k,B⟩,o,u,y⟩:=bP.box d _ L g m;have z:=(u C).2 M;have r:=o C _ k;have t:∀e,e≠C->(b.a.setRow C #[bz]).heap[e]?=b.a.heap[e]?:=λe i=>setRow_other b.a C e _ i;have x:=setRow_heap b.a C #[aa] #[bz] W (0,0) r;have w:b.l.set d L=b.l:=mY;have D:=bP.b_ (d:=d) (j5:=eb C W bz) (cn:=L) (bi:=b.a.setRow C #[bz]) g m a E
  (λe i v=>t e M) (λe i=>.inl i)
  ⟨λe=>if e=C then h (.cells #[bz] W (0,0))else n,⟨j,by simp,λe i=>by grind⟩,λe A i=>by grind,λe=>by grind⟩ a a a
 grind
def ey.g6{m}{j:Array Z->Sem Z}{args}{bz}{o}(d){C}(k:c7 d p=h (.J (eb C W bz)))(x:hZ P D t F p m args)(r:jw P m j)(w:∀i,i.cell? ⟨C,0,n⟩=h bz->(j args.toArray).run P i=.ok aa i/\∀a,∀b∈(j args.toArray).events P i a,b∈a∨b=⟨.cell ⟨C,0,n⟩,l,l⟩)(y:∀g,bx p g aa o):ey P D t F p (λ_:Unit=>o) λ_=>p:=
 .ext x r λg e=>by obtain⟨_,u,z,_⟩:=eb.own k e;obtain⟨s,q⟩:=w g.a u;exact⟨(),g,aa,s,y g,e,.refl _ _,λa b v=>(q a b v).imp id λA=>by grind⟩
def ey.iM{s}{q:Array Z->Sem Z}{args}{bz EG}{o}(d i){C m}{k}(g:c7 d p=h (.J (eb C W EG)))(u:c7 i p=h (.J (eb m k bz)))(I:hZ P D t F p s args)(y:jw P s q)(A:∀j,j.heap[C]?=h (.cells #[EG] W (0,0))->j.cell? ⟨m,0,n⟩=h bz->(q args.toArray).run P j=.ok aa (j.setRow C #[bz])/\∀b,∀a∈(q args.toArray).events P j b,a∈b∨a=⟨.cell ⟨m,0,n⟩,l,l⟩∨a=⟨.cell ⟨C,0,n⟩,f,l⟩)(K:∀p r,bx p r aa o):ey P D t F p (λ_:Unit=>o) λ_=>p.set d (.J (eb C W bz)):=
 .ext I y λr e=>by obtain⟨v,_,_,E⟩:=eb.own g e;obtain⟨_,B,J,_⟩:=eb.own u e;obtain⟨z,N⟩:=A r.a v B;obtain⟨x,w⟩:=eb.b_ (bz:=bz) g e;refine⟨(),_,aa,z,K _ _,x,w,λb a M=>?_⟩;grind
def g.cU{M:ι->z}{b:ι->m an}(T:oN all F t=f)(N:fd D t.dst=f)(U:ey P D t F p M b)(V:∀k,g r D be (.ae all bs::ar) .normal (fT t.dst (M k) F) (b k)):g r D be (.ae all (t::bs)::ar) .normal F p:=by
 intro ai R I j S A u Q idx i a y;cases idx with
 |nil=>exact a.elim
 |cons ah idx=>
 refine rq i a.1 (j1 T _ _ _ I) λag v=>?_;have e:=j.rely v;have B:=I.rely v j;obtain⟨k,ae,o,ab,x,d,O,J,K,ad⟩:=U ag R B e;have w:=K.too1 e;refine⟨ae,o,ab,x,d,⟨⟨p,b k,e,J,K⟩,ad⟩,?_⟩;refine V k o _ ?_ J S A u Q idx i a.2 λW q C s X Y d E=>y W q C s X Y d ((v.aV.trans w).trans E);cases aa:t.dst with
 |none=>exact B.mono w e.len
 |some Z=>exact(B.mono w e.len).put (la N Z aa) O
def g.iL(q){ad}{ah}(y:look F q=ax (.cd ad (.O ah)))(m:∀o:Addr,g r D be (.code s::ar) .normal ((q,cM (.iface ad (.pointer (h o))))::F) p):g r D be (.code s::ar) .normal F p:=by
 refine b0.e3 (ι:=Addr) (dE:=λo=>(q,cM (.iface ad (.pointer (h o))))::F) (ao:=λ_=>p) (λC u e k=>?_) m;have b:=e.aH q;rw[y]at b;have b:=b7 b;generalize x:u.tmps.getD q K=I at b;cases b with
 |@cd _ t _ i z=>
  cases i with
  |O v d E A B=>
   refine⟨⟨v,d,n⟩,C,a,⟨e.size,e.defers,λt=>?_⟩,k,.refl _ _⟩;simp only[look];cases j:af q t with
   |false=>exact e.aH t
   |true=>
    have w:=di j;subst w;rw[x];exact Rd.val a
def g.g4(q){ad}{o}(k:look F q=ax (.cd ad (.val o)))(j:g r D be (.ae all bs::ar) .normal ((q,cM (.iface ad o))::F) p):g r D be (.ae all bs::ar) .normal F p:=by
 refine e'.le j λp v w t b=>?_;simp[look];cases i:af q t with
 |false=>exact b
 |true=>
  have m:=di i;subst m;rw[k]at b;have d:=b;cases d with
  |@cd _ u _ e s=>
   obtain rfl:=Rd.bd e;exact Rd.val a
def g.hK(q d)(N:look F q=aG d 0)(j:c7 d p=h (.cells W [.c .bk]))(w:∀b,g r D be (.code s::ar) .normal ((q,cM (.pointer (h ⟨b,0,n⟩)))::F) (p.set d (.J (eb b W (.pointer n))))):g r D be (.code s::ar) .normal F p:=by
 refine b0.e3 (ι:=Nat) (dE:=λb=>(q,cM (.pointer (h ⟨b,0,n⟩)))::F) (ao:=λb=>p.set d (.J (eb b W (.pointer n)))) (λo Q u bP=>?_) w;have j:=ej j;have C:d<c o.l:=hY;have t:=bI C;generalize o.l[d]=L at t;obtain⟨b,B,rfl,S,K,U⟩:=bP.box d _ L j t
 match B,K with
 |[R],⟨x,_⟩=>
  have x:=x;cases x;obtain⟨M,m⟩:=bP.b7 (cd:=o.u) (bi:=o.a) (d':=.J (eb b W (.pointer n))) (cn:=⟨.pointer (h ⟨b,0,n⟩),[b]⟩) j t rfl (bC _) (λ_ _ _=>rfl) (λ_ _ _ _=>rfl) (λ_ _ _ A=>A) bP.mem (λk e=>⟨.inl e,bP.lt _ (b9 t) k e⟩) rfl rfl rfl
   ⟨λk=>if k=b then h (.cells #[.pointer n] W (0,0))else n,⟨rfl,by simp,λk e=>by grind⟩,λk J e=>by grind,λk=>by by_cases v:k=b<;>simp[v],λk e J=>by grind⟩
  refine⟨b,{o with l:=o.l.set d ⟨.pointer (h ⟨b,0,n⟩),[b]⟩},rfl,⟨u.size,u.defers.imp λ_ i=>i.mono m.ext,λz=>?_⟩,M,m⟩;simp only[look];cases e:af q z with
  |false=>exact(u.aH z).mono m.ext bP.len
  |true=>
   have v:=di e;subst v;have i:=u.aH q;rw[N]at i;obtain⟨_,T,O,y,I,E⟩:=(i:cx p o _ (.ptr d 0));rw[t]at y;cases y;cases I;rw[E];exact Rd.val a
end
section
variable {r:aj P}
def vv:m O->Option (m Z)
 |[]=>h []
 |.c (.int a b)::e=>match vv e with
  |some d=>h (.int a b::d)
  |none=>n
 |_=>n
def Ks:∀{e:m O}{B b:m Z}{r:a5},bN p r B e->vv e=h b->B=b/\∀d i,bN d i b e
 |[],[],b,_,_,g=>by cases g;exact⟨a,λ_ _=>trivial⟩
 |[],_::_,_,_,j,_=>j.elim
 |_::_,[],_,_,j,_=>j.elim
 |.c (.int u v)::w,x::B,b,r,j,g=>by
  simp only[vv]at g;cases o:vv w with
  |none=>rw[o]at g;cases g
  |some y=>
   rw[o]at g;cases g;obtain⟨k,s⟩:=j;obtain⟨rfl,t⟩:=Ks s o;have k:Rd r.u x (.int u v):=k;cases k with
   |int q=>exact⟨rfl,λd i=>⟨Rd.int q,t d i⟩⟩
def ey.hv{b}{ah}{j}(q:t.op=.makeFunc (.func b) #[o] #[])(w:bF F o=.n (.agg ah))(i:vv ah=h j):
  ey P D t F p (λ_:{_u:Unit // ∀a k,bN a k j ah}=>ax (.val (.func (.func b) #[.agg j.toArray] #[]))) λ_=>p:=by
 intro r s u g;have m:=eL u o;rw[w]at m;obtain⟨B,v,d⟩:=m;obtain⟨rfl,e⟩:=Ks d i;refine⟨⟨(),e⟩,.value (.func (.func b) #[.agg B.toArray] #[]),r,_,?_,.inl rfl,Rd.val rfl,g,.refl _ _,?_⟩
 .simp only[ac,q,Instr.makeFunc];simp[v]
 have:(ac s.eval t).events P r.a #[]=#[]:=by simp only[ac,q,Instr.makeFunc];rfl
 rw[this];exact .nil
def LM(cw:t.op=.call {callee:=.value cP,args:=#[o],argTypes:=dp}){b}{fn}(I:P.funcs[b]?=h fn)(i:(fn.name== "runtime.NumGoroutine")=l)(g:fn.body.isNone=l){a:Act}{e}(C:a.eval cP=.func (.func b) #[e] #[])(d):
  (ac a.eval t).run P d=.ok (.enter b [e,a.eval o].toArray) d/\(ac a.eval t).events P d #[]=#[]:=by
 have s:fn.name≠ "runtime.NumGoroutine":=M;have j:fn.body≠n:=M;constructor
 .exact Oo
 exact Oo
def aV.gV(R:∀p B j,bY D p B F j->aU t (yielded all.toArray j.tmps)=f)(d:t.op=.call {callee:=.value cP,args:=#[o],argTypes:=dp}){I}{ah}{k}{X res}(V:bF F cP=ax (.val (.func (.func I) #[.agg k.toArray] #[])))(Z:∀m b,bN m b k ah)(W:BC (bF F o)=X)(N:Y r I [.n (.agg ah),X] [] res [])(s:g6 0 [.n (.agg ah),X]=f)(u:gq [] [.n (.agg ah),X]=[.n (.agg ah),X])(ab:e9 [] res=res):aV r D all t F p res p:=by
 intro B j q y ae U ag ad ai A x z w;have M:=eL q cP;rw[V]at M;have O:=Rd.bd (b7 M);obtain⟨fn,K,J,E⟩:=N.1;have Q:=Hr (eL q o);rw[W]at Q;have T:b5 p B [.agg k.toArray,j.eval o] (gq [] [.n (.agg ah),X]):=by rw[u];exact⟨⟨k,a,Z _ _⟩,Q,v⟩
 refine Gi (aP:=[]) (dd:=[]) (aM:=[]) x z (R _ _ _ q) y (λC=>(LM d K J E O C).1) (λC=>(LM d K J E O C).2) N T s a a a a (bC _) ?_;intro aa b e g i;have S:c_ [] [] p=p:=by simp[c_]
 rw[S]at e g i;refine w aa b ?_ g i;simpa[ab,gK]using e
def dx.cJ(ai:∀p i b,bY D p i F b->aU t (yielded all.toArray b.tmps)=f)(e:t.op=.call {callee:=.value cP,args:=ag,argTypes:=dp}){I}(g:gO (bF F cP)=h (I,cap))(O:bk r I cR p res aM)(W:lZ (ag.toList.map (bF F)++e2 cap) cR=h ab)(ae:U ab):dx r D all t F p res aM:=by
 intro i b y s ak Z S aj an A q u o;have N:=eL y cP;unfold gO at g;split at g
 case h_2=>cases g
 case h_1 u6 uS he=>
  cases g;rw[he]at N;have J:=b7 N;generalize Q:b.eval cP=V at J;cases J with
  |fn k a w d T j X m ad z=>
   have ah:k=[]:=jA w;subst ah;have Y:b5 p i a (e2 cap):=qi (λx R v=>⟨j x,m x M,z x R v⟩) d;have aa:b5 p i (ag.toList.map b.eval++a) cR:=tg W ae ((m6 (eL y) ag.toList).append Y);obtain⟨fn,K,E,C⟩:=O.1;exact Gj q u (ai _ _ _ y) s (λB=>(mO e K E C Q B).1) (λB=>(mO e K E C Q B).2) O aa o
def g.hj(d){q}(aE:p[d]?=h q)(B:∀L,fE q L .x L)(o:g r D be (.code s::ar) .normal F (p.set d .x)):g r D be (.code s::ar) .normal F p:=by
 refine g.aU (λb E m bP=>?_) o;have t:d<c b.l:=hY;have j:=bI t;generalize b.l[d]=L at j;have y:b.l.set d L=b.l:=by
  apply p';intro A;by_cases u:d=A
  .subst u;rw[im t,j]
  rw[kC u]
 obtain⟨w,i⟩:=bP.b7 (cd:=b.u) (bi:=b.a) aE j (B L) (bC _) (λ_ _ _=>rfl) (λ_ _ _ _=>rfl) (λ_ _ _ z=>z) bP.mem (λx e=>⟨.inl e,bP.lt L (b9 j) x e⟩) rfl rfl rfl v;rw[y]at w i;exact⟨b,a,⟨m.size,m.defers.imp λ_ k=>k.mono i.ext,λC=>(m.aH C).mono i.ext bP.len⟩,w,i⟩
def g.cK(d){b}(aE:c7 d p=h b)(e:∀L,fE b L .x L)(a:g r D be (.code s::ar) .normal F (p.set d .x)):g r D be (.code s::ar) .normal F p:=.hj d (ej aE) e a
def g.eM{s}:∀d{b:m an},g r D be (.code s::ar) .normal F (b++aY d .x)->g r D be (.code s::ar) .normal F b
 |0,b,a=>by simpa using a
 |d+1,b,a=>by refine g.fg 0 1 (g.hj (c b) (wT) bl (g.eM d ?_));rw[List.set_append_right _ _ (bC _)];simpa[List.replicate_succ]using a
end
section
variable {r:aj P}{s:Type}{o:s->Nat->z}{bq:s->(Nat->Bool)->m an}{fa:s->(Nat->Bool)->Prop}
def ez(s:aj P)(r:Nat)(a:m ap)(q:bH){i:Type}(j:i->Nat->z)(o:i->(Nat->Bool)->m an)(d:i->(Nat->Bool)->Prop)(e:Nat)(t:ap):Prop:=
 ∀g (z:Nat->Bool),d g z->(∀b,eh a e b=f->z b=f)->(∀b,(b=e∨eh a b e=f)->z b=l)->dx s r a t (dy a q (j g) e) (o g z) (λk:{p:i // (∀b,z b=f->j p b=j g b)/\d p (dm e z)}=>j k.1 e) (λk=>o k.1 (dm e z))
def uf{P}(j:aj P)(g:Nat)(b:m ap)(e:bH){d:Type}(o:d->Nat->z)(i:d->(Nat->Bool)->m an)(a:d->(Nat->Bool)->Prop):m ap->Nat->Prop
 |[],_=>True
 |p::q,k=>ez j g b e o i a k p/\uf j g b e o i a q (k+1)
theorem uf.get{all}:∀{i:m ap}{g:Nat},uf r D all F o bq fa i g->∀d b,i[d]?=h b->ez r D all F o bq fa (g+d) b
 |[],_,_,d,b,e=>by grind
 |j::k,g,e,0,b,a=>by simp at a;subst a;exact e.1
 |j::k,g,e,d+1,b,a=>by have:=uf.get e.2 d b M;grind
def g.g_{id}(J:P.follows Departure.mixedOrders=f)(u:s->Nat->z)(o:s->(Nat->Bool)->m an)(a:s->(Nat->Bool)->Prop)(q:s)(I:a q λ_=>l)(K:o q (λ_=>l)=p)(x:kO aD.toList=f)(y:n5 aD.toList 0=f)(A:od D aD.toList=f)(k:uf r D aD.toList F u o a aD.toList 0)(C:∀d z,a d z->(∀i,i<c aD.toList->z i=f)->g r D be ar .normal (nl aD.toList F (u d)) (o d z)):g r D be (.code (.region id aD f)::ar) .normal F p:=by
 have:=b0.reg (r:=r) (D:=D) (F:=F) (p:=p) J (all:=aD.toList) (c aD.toList) u o a q I K x y A (bC _)
  (λi b e=>absurd e (n1.2 b)) (λd z _ _ i b e=>absurd e (n1.2 b))
  (λd z i w t j _ E B v=>by have b:=k.get i w j;rw[cV]at b;exact b d z t (AV v i w j B) (F8 v E))
  (aN:=g r D be ar) (λd z t M=>by rw[sB];exact .nil (C d z t M)) id
 exact tY
theorem ez.of(J:∀a (z:Nat->Bool),fa a z->(∀d,eh all e d=f->z d=f)->(∀d,(d=e∨eh all d e=f)->z d=l)->fa a (dm e z)/\aV r D all t (dy all F (o a) e) (bq a z) (o a e) (bq a (dm e z))):ez r D all F o bq fa e t:=by intro a z I j k M A E q B K i g idx b p s m;obtain⟨C,u⟩:=J a z I j k;exact u M A E q B K i g idx b p s λN y v w x=>m ⟨a,λ_ _=>rfl,C⟩ N y v w x
def ez.hG(S:∀k (z:Nat->Bool),fa k z->(∀a,eh all e a=f->z a=f)->(∀a,(a=e∨eh all a e=f)->z a=l) ->
  ∃(i:Type) (M:i->Go.AM.z) (b:i->m an),dx r D all t (dy all F (o k) e) (bq k z) M b/\∀a,∃j,((∀I,z I=f->o j I=o k I)/\fa j (dm e z))/\M a=o j e/\b a=bq j (dm e z)):ez r D all F o bq fa e t:=by intro k z U v w W N Q A O T u s idx g y B x;obtain⟨i,M,b,V,J⟩:=S k z U v w;refine V W N Q A O T u s idx g y B λa X K d p q=>?_;obtain⟨j,R,C,E⟩:=J a;rw[C]at d;rw[E]at d p q;exact x ⟨j,R⟩ X K d p q
end
section
variable {r:aj P}{o:Option ι->Nat->z}{b:Option ι->Bool->Bool->Bool->m an}{ai ae I:Nat}
abbrev mg(g:Option ι->Bool->Bool->Bool->m an)(d e b:Nat):Option ι->(Nat->Bool)->m an:=λa z=>g a (z d) (z e) (z b)
abbrev mb(a:Type)(d:Nat):Option a->(Nat->Bool)->Prop:=λb z=>b.isSome=z d
def ez.aZ(m:af A e=l)(j:af ai e=l)(k:af ae e=l)(q:af I e=l)(p:∀a d g i,aV r D all t (dy all F (o a) e) (b a d g i) (o a e) (b a d g i)):
  ez r D all F o (mg b ai ae I) (mb ι A) e t:=by grind[ez.of,nI]
def ez.jK(q:af A e=l)(g:af ai e=l)(i:af ae e=l)(u:af I e=l)(s:eh all e A=f)(p:∀a j k m,aV r D all t (dy all F (o (h a)) e) (b (h a) j k m) (o (h a) e) (b (h a) j k m)):
  ez r D all F o (mg b ai ae I) (mb ι A) e t:=by
 refine ez.of λd z w aR _=>⟨?_,?_⟩
 .grind [nI]
 show aV r D all t _ (b d (z ai) (z ae) (z I)) _ (b d (dm e z ai) (dm e z ae) (dm e z I));rw[nI g,nI i,nI u];have v:=aR A s;cases d with
 |none=>grind
 |some a=>exact p _ _ _ _
def ez.jJ(aR:bn P ad)(iP:a8 r CT)(cw:U cf)(u:∀C x j s,hA ad CT [] all (dy all F (o C) e) (b C x j s) t=h (o C e,n,cf):=by intro C x j s;cases C<;>cases x<;>cases j<;>cases s<;>rfl)(pn:af A e=l:=by rfl)(cS:af ai e=l:=by rfl)(dq:af ae e=l:=by rfl)(w:af I e=l:=by rfl):ez r D all F o (mg b ai ae I) (mb ι A) e t:=.aZ pn cS dq w λC x j s=>aV.eval aR iP (u C x j s) cw
def ez.fP(aR:bn P ad:=by exact bd)(iP:a8 r CT:=by first|assumption|exact a8.nil)(u:∀C x j s,hA ad CT [] all (dy all F (o C) e) (b C x j s) t=h (o C e,n,[]):=by intro C x j s;cases C<;>cases x<;>cases j<;>cases s<;>rfl)(pn:af A e=l:=by rfl)(cS:af ai e=l:=by rfl)(dq:af ae e=l:=by rfl)(w:af I e=l:=by rfl):ez r D all F o (mg b ai ae I) (mb ι A) e t:=.jJ (cf:=[]) aR iP v u pn cS dq w
def ez.dV(aR:bn P ad:=by exact bd)(iP:a8 r CT:=by first|assumption|exact a8.nil)(u:∀w x j s,hA ad CT [] all (dy all F (o (h w)) e) (b (h w) x j s) t=h (o (h w) e,n,[]):=by intro w x j s;cases x<;>cases j<;>cases s<;>rfl)(pn:af A e=l:=by rfl)(cS:af ai e=l:=by rfl)(dq:af ae e=l:=by rfl)(i:af I e=l:=by rfl)(C:eh all e A=f:=by rfl):ez r D all F o (mg b ai ae I) (mb ι A) e t:=.jK pn cS dq i C λw x j s=>aV.y aR iP (u w x j s)
def ez.iO(m:af ai A=l)(p:af ae A=l)(C:af I A=l)(k:eh all ai A=f)(q:eh all I A=f)(x:∀e g,g=A∨eh all g A=f∨o (h e) g=o n g)(u:∀j,dx r D all t (dy all F (o n) A) (b n l j l) (λe=>o (h e) A) (λe=>b (h e) l j l)):ez r D all F o (mg b ai ae I) (mb ι A) A t:=by
 refine ez.hG λi z B aR d=>?_;have s:=d A (.inl a);have v:=d ai (.inr k);have w:=d I (.inr q);have y:i=n:=by
  cases i with
  |none=>rfl
  |some e=>grind
 grind[wd,nI]
def ez.gZ(k:af A ai=l)(i:af ae ai=l)(s:af I ai=l)(e:eh all ai A=f)(u:eh all I ai=f)(p:∀a d,aV r D all t (dy all F (o (h a)) ai) (b (h a) l d l) (o (h a) ai) (b (h a) f d l)):ez r D all F o (mg b ai ae I) (mb ι A) ai t:=by
 refine ez.of λg z q aR j=>?_;have m:=aR A e;cases g with
 |none=>grind
 |some a=>
  grind[nI,wd]
def ez.g1(g:af A ae=l)(e:af ai ae=l)(j:af I ae=l)(i:eh all I ae=f)(k:∀a d,aV r D all t (dy all F (o a) ae) (b a d l l) (o a ae) (b a d f l)):ez r D all F o (mg b ai ae I) (mb ι A) ae t:=by grind[ez.of,nI,wd]
def ez.g2(k:af A I=l)(g:af ai I=l)(i:af ae I=l)(d:eh all I A=f)(s:eh all I ai=f)(u:eh all I ae=f)(q:∀a,aV r D all t (dy all F (o (h a)) I) (b (h a) f f l) (o (h a) I) (b (h a) f f f)):ez r D all F o (mg b ai ae I) (mb ι A) I t:=by
 refine ez.of λe z p aR j=>?_;have m:=aR A d;cases e with
 |none=>grind
 |some a=>
  grind[nI,wd]
end
def Rd.jM{q}{i}(y:Rd bB aa (.S q i k T)):∃o a p b,aa=.slice o k a/\k<=a/\a<=9223372036854775807/\(0<k->o=h ⟨p,b,n⟩)/\(∀d,d<k->c (T d)=i)/\∀d,d<k->∀m e,(T d)[m]?=h e->∃w,bB p (b+d*i+m)=h w/\Rd bB w e:=by
 cases y with
 |@S o _ a _ _ _ p b A x s z t r u v=>exact⟨o,a,p,b,rfl,x,s,r,t,λd g m e j=>⟨_,u d g m e j,v d g m e j⟩⟩
def Rd.hT{p}{cap i}(e:k<=cap)(g:cap<=9223372036854775807)(s:0<k->p=h ⟨j,off,n⟩)(r:∀a,a<k->c (T a)=i)(u:∀a,a<k->∀b d,(T a)[b]?=h d->∃q,bB j (off+a*i+b)=h q/\Rd bB q d):Rd bB (.slice p k cap) (.S l i k T):=by refine .S j off (λa b=>(bB j (off+a*i+b)).getD K) e g (λt=>by cases t) r s (λa m b d o=>M) λa m b d o=>?_;grind
section
variable {r:aj P}{I:m ij}
end
section
variable {r:aj P}{o:Option ι->Nat->z}{b:Option ι->Bool->Bool->Bool->m an}{s x I:Nat}
def ez.iQ(m:af s A=l)(p:af x A=l)(J:af I A=l)(E:eh all s A=f)(K:eh all I A=f)(ok:Bool->ι->Prop)(B:∀j d,ok j d->∀g,g=A∨eh all g A=f∨(g=x/\j=l)∨o (h d) g=o n g)(w:∀j,dx r D all t (dy all F (o n) A) (b n l j l) (λd:{d // ok j d}=>o (h d.1) A) (λd=>b (h d.1) l j l)):ez r D all F o (mg b s x I) (mb ι A) A t:=by
 refine ez.hG λv z M aR e=>?_;have y:=e A (.inl a);have q:=e s (.inr E);have u:=e I (.inr K);have C:v=n:=by
  cases v with
  |none=>rfl
  |some d=>grind
 subst C;have key:=w (z x);refine⟨{d // ok (z x) d},λd=>o (h d.1) A,λd=>b (h d.1) l (z x) l,?_,λd=>⟨h d.1,⟨λg k=>?_,?_⟩,a,?_⟩⟩
 .show dx r D all t _ (b n (z s) (z x) (z I)) _ _;rw[q,u];exact key
 .rcases B _ d.1 d.2 g with i|i|⟨i,eG⟩|i
  .subst i;rw[y]at k;cases k
  .have:=e g (.inr i);rw[this]at k;cases k
  .subst i;rw[eG]at k;cases k
  exact i
 .show (h d.1).isSome=dm A z A;rw[zv];rfl
 show b (h d.1) l (z x) l=b (h d.1) (dm A z s) (dm A z x) (dm A z I);rw[mV m,mV p,mV J,q,u]
end
section
open Go.Conc
def gk(d:a5):Prop:=∀a b e,d.u a b=h e->d.a.cell? ⟨a,b,n⟩=h e
def jx(a:Nat->Prop):Go.Loc->Prop
  |.cell b=>a b.block
  |.obj d=>a d
  |_=>False
structure gM(s:Nat->Prop)(b:a5):Prop where
  own:∀j,s j->¬b.own j
  l:∀j,s j->∀L∈b.l,j∉L.al
  u:∀j,s j->∀t,b.u j t=n
  lt:∀j,s j->j<b.a.heap.size
section
variable {s:Nat->Prop}
def gM.step(g:gM s b)(e:cN p b ao az):gM s az:=by
  refine⟨λd a=>by rw[e.own];exact g.own d a,λd a L k j=>?_,λd a q=>by rw[e.bE d (g.lt d a) (g.l d a)];exact g.u d a q,λd a=>eA (g.lt d a) e.size⟩;rcases e.bT L k d j with i|⟨o,m,i⟩
  · exact absurd (g.lt d a) (n1.2 i)
  · exact g.l d a o m i
theorem gM.aU(g:gM s b)(k:eW b az):gM s az:=by
  have i:∀d,s d->¬(az.own d∨∃L∈az.l,d∈L.al):=λd a e=>by
    rcases k.blk d e with e|⟨L,j,e⟩
    · exact g.own d a e
    · exact g.l d a L j e
  exact⟨λd a e=>i d a (.inl e),λd a L j e=>i d a (.inr ⟨L,j,e⟩),λd a m=>by rw[k.bE d (g.l d a)];exact g.u d a m,λd a=>by rw[k.a];exact g.lt d a⟩
def gM.b2(e:gM s b)(g:nU b az):gM s az:=by
  refine⟨λd a=>by rw[g.own];exact e.own d a,λd a=>by rw[g.l];exact e.l d a,λd a i=>?_,λd a=>by rw[g.a];exact e.lt d a⟩;cases j:az.u d i with
  |none=>rfl
  |some k=>rw[<-g.e7 d i k j,e.u d a i]
def gM.at(a:gM s b)(d):gM s {b with a:=b.a.at d}:=⟨a.own,a.l,a.u,a.lt⟩
def gk.at(d:gk b)(a):gk {b with a:=b.a.at a}:=d
theorem gk.aU(a:eW b az):gk az:=λe g i d=>by rw[a.a];exact a.cell e g i d
def gk.b2(j:gk b)(d:nU b az):gk az:=λa e g i=>by rw[d.a];exact j a e g (d.e7 a e g i)
def gk.lt(e:gk b){t}(d:b.u j t=h aa):j<b.a.heap.size:=by
  have:=e j t aa d;rcases dY j b.a.heap.size with a|a
  · exact a
  · simp[aL,Av a]at this
def cU.at(d:gk b)(a):cU b {b with a:=b.a.at a}:=⟨rfl,rfl,rfl,bC _,λ_ _=>rfl,d,rfl,rfl,rfl⟩
def To{o}(q:bb p b)(r:gM s b)(g:h4 b o){t}(aE:b.a.heap.size<=t):EvL (jx s) t o:=by
  obtain⟨u,wr,y⟩:=o;cases u with
  |cell m=>
    obtain⟨j,k,a⟩:=g;simp only at j k a;subst j;have key:¬s m.block/\m.block<b.a.heap.size:=by
      rcases a with a|⟨⟨L,i,a⟩,_⟩|⟨_,A,a⟩
      · exact a.elim
      · exact⟨λe=>r.l _ e L i a,q.lt L i _ a⟩
      · refine⟨λe=>?_,gk.lt q.mem a⟩
        rw[r.u _ e]at a;cases a
    exact evL_cell m wr key.1 (eA key.2 aE)
  |obj z=>
    obtain⟨j,k⟩:=g;simp only at j k;subst j;obtain⟨L,i,a⟩:=k.resolve_left id;refine⟨λe d v=>?_,by simp,by simp,?_⟩
    · simp[aO,MemAct.touch?]at d
      subst d;exact absurd a (r.l _ v L i)
    · simp[aO,MemAct.low,Loc.low]
      exact eA (q.lt L i _ a) aE
  |mark x=>
    simp[h4]at g;rcases g with rfl|⟨w,rfl⟩
    · exact⟨λe d=>by simp[aO,MemAct.touch?]at d,by simp,by simp,by simp[aO,MemAct.low]⟩
    · exact⟨λe d=>by simp[aO,MemAct.touch?]at d,by simp,by simp,by simp[aO,MemAct.low]⟩
  |_=>exact g.elim
end
def m5(b:Trace):Prop:=∀a,NoRelease a b
def m5.app{q}(e:m5 q){C}{fn}{pos}{T}(j:∀d∈T,∀a,d.loc≠.mark (.release a)):m5 (q++MemOp.ofEvents C fn pos T):=
  λa=>(e a).app λi b g=>by grind[Go.Conc.mem_ofEvents,Go.ConcR.loc_of_ofEvent]
def Tp{a}(i:h4 b a)(g):a.loc≠.mark (.release g):=by intro d;obtain⟨loc,wr,k⟩:=a;simp only at d;subst d;rcases i with e|⟨j,e⟩<;>cases e
def Kr{a:aT}(e:a.mute=f)(d):a.loc≠.mark (.release d):=by intro b;obtain⟨loc,wr,g⟩:=a;simp only at b;subst b;simp[Event.mute]at e
def kX(P:aI)(s:ak)(g:a5)(p:ak->a5->Prop):Prop:=
  ∀(m:Nat->Prop) b dD i (t:Nat->Nat),gk g->b[0]?=h s->Leavers P i b t->Past (jx m) g.a.heap.size i->gM m g->m5 i ->
    ∃(o:Nat) (k:Nat->Prop) (j:Array ak) (d:ak) (a:a5) (q:Option (Nat×Nat)) (e:Trace) (r:Nat->Nat),
      runNT P o (crowd b g.a dD) i=(.next (crowd j a.a q),e)/\gk a/\j[0]?=h d/\Leavers P e j r/\Past (jx k) a.a.heap.size e/\gM k a/\m5 e/\p d a
def aj.aJ(P):aj P:={b5:=f,rely:=λb a=>cU b a/\∃d,a={b with a:=b.a.at d},de:=kX P,bN:=λe=>e.1,dQ:=True}
instance (P:aI):(aj.aJ P).b':=⟨v⟩
theorem DU{P}:∀b a {e i:Machine} {j g:Trace},runNT P b e j=(.next i,g)->runNT P (b+a) e j=runNT P a i g
  |0,a,e,i,j,g,d=>by simp[runNT]at d;grind
  |b+1,a,e,i,j,g,d=>by
    rw[show b+1+a=(b+a)+1 by omega];simp[runNT]at d⊢;cases m:stepT P e with
    |mk p k=>
      rw[m]at d;cases p with
      |next o=>exact DU b a d
      |ended q r=>grind
def kX.trans{s:ak->a5->Prop}(B:kX P C b s)(I:∀a d,s a d->kX P a d bq):kX P C b bq:=by intro x e dD S Q o g j k m p;obtain⟨u,F,w,a,d,z,R,W,D,i,V,O,U,J,E,T⟩:=B x e dD S Q o g j k m p;obtain⟨t,v,y,K,r,A,M,q,k1,N⟩:=I a d T F w z R W i V O U J E;exact⟨u+t,v,y,K,r,A,M,q,by grind[DU],N⟩
def kX.jY{ad:ak->a5->Prop}(aA:C.status=.running)(S:∀(r:Nat->Prop) d B dD g (j:Nat->Nat),gk b->d[0]?=h C->Leavers P g d j->Past (jx r) b.a.heap.size g->gM r b->m5 g ->
      ∃F G x e,runT P (crowd d (b.a.at B) dD) 0=(.next (crowd F x.a dD),e)/\gk x/\F[0]?=h G/\Leavers P (g++e) F j/\Past (jx r) x.a.heap.size (g++e)/\gM r x/\m5 (g++e)/\ad G x):kX P C b ad:=by
  intro r d dD g j;have key:∀X d B dD g (j:Nat->Nat),Go.ConcN.sumTo d.size j<=X->gk b->d[0]?=h C->Leavers P g d j->Past (jx r) b.a.heap.size g->gM r b->m5 g ->
      ∃(Z:Nat) (W:Nat->Prop) (I:Array ak) (k:ak) (o:a5) (A:Option (Nat×Nat)) (O:Trace) (Y:Nat->Nat),
        runNT P Z (crowd d (b.a.at B) dD) g=(.next (crowd I o.a A),O)/\gk o/\I[0]?=h k/\Leavers P O I Y/\Past (jx W) o.a.heap.size O/\gM W o/\m5 O/\ad k o:=by
    intro X;induction X with
    |zero=>?_
    |succ X aq=>?_
    all_goals
      intro d B dD g j aG v s m t u p;have ar:∀C∈d,awake C:=by
        intro w aB;obtain⟨i,q,rfl⟩:=Array.mem_iff_getElem.1 aB;rcases n3 i with rfl|ae
        · grind[awake_of]
        · exact awake_of ((m.old i _ ae (iD q)).status.elim .inl λw=>.inr (.inr w))
      obtain⟨i,w,d2,A,q,aN,ah⟩:=crowd_pick (P:=P) (w:=b.a.at B) (sl:=dD) ar ⟨0,C,s,aA⟩;rw[show(b.a.at B).at d2=b.a.at d2 from a]at ah;rcases n3 i with rfl|ae
      · obtain⟨F,G,x,e,k1,L,aw,ab,ax⟩:=S r d d2 A g j v s m t u p
        exact⟨1,r,F,G,x,A,g++e,j,by simp[runNT,ah,k1],L,aw,ab,ax⟩
      · have U:=m.old i w ae q
        have au:(i==0)=l:=M;have H:i<d.size:=(jb.1 q).1;cases aj:j i with
        |zero=>rw[aj]at U;rw[U.1]at aN;cases aN
        |succ D=>
          rw[aj]at U;rcases U with⟨aF,_⟩|⟨_,k,T,z,ao,aL⟩
          · grind
          have aJ:Go.ConcN.sumTo d.size (Go.ConcN.upd j i D)+(D+1)=Go.ConcN.sumTo d.size j+D:=by have:=Go.ConcN.sumTo_upd j D id H;simpa[aj]using this
          first
          | (exfalso;omega)
          | (have aH:=runT_crowd_go (P:=P) (sl:=A) (i:=i) q (by rw[au];exact ao (b.a.at d2))
             have aK:((d.map (woken P w k (b.a.at d2))).setIfInBounds i k).size=d.size:=E;obtain⟨Z,W,I,av,o,N,O,Y,k1,L⟩:=aq ((d.map (woken P w k (b.a.at d2))).setIfInBounds i k) d2 A (g++MemOp.ofEvents i w.frame.fn w.frame.place T) (Go.ConcN.upd j i D) M v
              (by grind[woken_run])
              ⟨λV aM J R=>by
                by_cases ai:i=V
                · grind[Go.ConcN.upd_same,Deaf_own]
                · rw[sG ai,Array.getElem?_map]at R
                  obtain⟨aI,az,rfl⟩:=rj.1 R;have an:=m.old V aI J az;rw[woken_quitsD an,Go.ConcN.upd_ne j D (p_ ai),Deaf_other g ai _ (λag K=>by grind[Go.Conc.mem_ofEvents])];exact an,λV J=>by
                rw[Deaf_other g (g':=i) M _ (λag K=>by grind[Go.Conc.mem_ofEvents])]
                exact m.above V M⟩
              (t.mute y z) u (p.app λaE aa aD=>Kr (z aE aa) aD)
             exact⟨Z+1,W,I,av,o,N,O,Y,by simp[runNT,ah,aH];exact k1,L⟩)
  intro v s m t u p;have:=key _ d b.a.drawn dD g j (bC _) v s m t u p
  rwa [show b.a.at b.a.drawn=b.a from a]at this
def _root_.Go.Conc.Leavers.own{d}{s}{q}{o:Nat->Nat}(m:Leavers P q gs o){aD}(g:∀b∈aD,b.g=0)(u:0<gs.size):Leavers P (q++aD) ((gs.map (woken P C d s)).setIfInBounds 0 d) o:=
  ⟨λj v e i=>by
    have p:0≠j:=y;rw[sG p,Array.getElem?_map]at i;obtain⟨t,r,rfl⟩:=rj.1 i;have k:=m.old j t e r;rw[woken_quitsD k,Deaf_other q y _ (λb a=>g b a)];exact k,λj e=>by
    rw[Deaf_other q (g':=0) M _ (λb a=>g b a)]
    exact m.above j M⟩
def cb.aJ{P:aI}{O:ak->a5->Prop}{C}{b}(E:cb (aj.aJ P) O C b):kX P C b O:=by
  induction E with
  |stop E=>intro q m dD v u o g i j k p;exact⟨0,q,m,_,_,dD,v,u,a,o,g,i,j,k,p,E⟩
  |aU d _ s=>
    intro q m dD v u o g i j k p;have:=s q m dD v u (.aU d) g i (by rw[d.a];exact j) (k.aU d) p
    rwa [d.a]at this
  |b2 _ d _ s=>
    intro q m dD v u o g i j k p;have:=s q m dD v u (o.b2 d) g i (by rw[d.a];exact j) (k.b2 d) p
    rwa [d.a]at this
  |de K _ s=>exact kX.trans K s
  |@step C b ab z W M F I _ s=>
    refine kX.trans (kX.jY (ad:=λw A=>∃y,(aj.aJ P).rely b y/\w=ab y/\A=z y) M λq m r dD v u o g i j k x=>?_) λw A ⟨y,k1,Z,aa⟩=>by subst Z aa;exact s y k1
    have B:(aj.aJ P).rely b {b with a:=b.a.at r}:=⟨cU.at o r,r,rfl⟩;obtain⟨⟨ae,T,J,X,t⟩,S⟩:=I _ B;have V:=(jb.1 g).1;have R:gM q {b with a:=b.a.at r}:=k.at r;exact⟨_,_,z {b with a:=b.a.at r},_,runT_crowd_go (P:=P) (sl:=dD) (i:=0) g (show aq P (0==0) C (b.a.at r)=_ from F _ B),X.mem,by grind,
      i.own (λY Q=>by grind[Go.Conc.mem_ofEvents]) V,((j.mono t.size).own λD N=>To J R (S D N) t.size),R.step t,x.app λD N U=>Tp (S D N) U,_,B,rfl,rfl⟩
inductive cj where
 |leaf
 |node (ae:a5->cj)
def cj.lt:cj->cj->Prop
 |_,.leaf=>False
 |d,.node a=>∃b,d=a b∨cj.lt d (a b)
def cj.fr:∀g:cj,Acc cj.lt g
 |.leaf=>⟨_,λ_ b=>b.elim⟩
 |.node d=>⟨_,λ_ ⟨e,a⟩=>a.elim (λa=>a▸cj.fr (d e)) λb=>(cj.fr (d e)).inv b⟩
def cj.dG:Nat->cj
 |0=>.leaf
 |a+1=>.node λ_=>cj.dG a
def cj.gu(k)(b:a5):cj.lt (cj.dG k) (cj.dG (k+1)):=⟨b,.inl a⟩
def wP(e:Nat)(d z:Nat->cj):Prop:=∃a,a<e/\cj.lt (d a) (z a)/\∀b,b≠a->d b=z b
def Na:∀b,WellFounded (wP b)
 |0=>⟨λ_=>⟨_,λ_ ⟨e,g,_⟩=>absurd g (iF e)⟩⟩
 |b+1=>by
  have o:=Na b;have key:∀d:cj,∀z:Nat->cj,z b=d->Acc (wP (b+1)) z:=by
   intro d;induction cj.fr d with
   |intro d _ r=>
    intro z;induction o.apply z with
    |intro z _ m=>
     intro s;refine⟨_,λq g=>?_⟩;obtain⟨e,p,k,i⟩:=g;rcases dY e b with j|j
     .exact m q ⟨e,j,k,i⟩ M
     grind
  exact⟨λz=>key _ z a⟩
section
def gy(g:aj P)(m:a5->a5->Array aT->Prop)(k:ak->a5->Prop):cj->ak->a5->Prop
 |.leaf,e,d=>k e d
 |.node o,e,d=>k e d∨(∃a,(eW d a∨(g.dQ/\nU d a))/\gy g m k (o d) e a) ∨
   (e.status=.running/\∀i,g.rely d i->∃j a b,aq P g.b5 e i.a=.go j a.a b/\(kz i a b∨m i a b)/\gy g m k (o i) j a)
variable {r:aj P}{W:a5->a5->Array aT->Prop}{s:ak->a5->Prop}
def ds(d:aj P)(a:a5->a5->Array aT->Prop)(b:ak->a5->Prop)(e:ak)(i:a5):Prop:=∃g,gy d a b g e i
theorem ds.aU(d:eW b az)(a:ds r W bq C az):ds r W bq C b:=by obtain⟨e,a⟩:=a;exact⟨.node λ_=>e,.inr (.inl ⟨az,.inl d,a⟩)⟩
def ds.b2(a:r.dQ)(e:nU b az)(d:ds r W bq C az):ds r W bq C b:=by obtain⟨g,d⟩:=d;exact⟨.node λ_=>g,.inr (.inl ⟨az,.inr ⟨a,e⟩,d⟩)⟩
def ds.step(p:C.status=.running)(k:∀e,r.rely b e->∃g a d,aq P r.b5 C e.a=.go g a.a d/\(kz e a d∨W e a d)/\ds r W bq g a):ds r W bq C b:=by
 classical
 have i:∀e,∃m:cj,r.rely b e->∃g a d,aq P r.b5 C e.a=.go g a.a d/\(kz e a d∨W e a d)/\gy r W bq m g a:=by
  intro e;by_cases j:r.rely b e
  .obtain⟨g,a,d,cS,dq,m,o⟩:=k e j;exact⟨m,λ_=>⟨g,a,d,cS,dq,o⟩⟩
  exact⟨.leaf,λk=>absurd k j⟩
 exact⟨.node λe=>Classical.choose (i e),.inr (.inr ⟨p,λe j=>Classical.choose_spec (i e) j⟩)⟩
def ds.bind(d:ds r W bq C b)(j:∀C b,bq C b->ds r W s C b):ds r W s C b:=by
 obtain⟨k,d⟩:=d;induction k generalizing C b with
 |leaf=>exact j C b d
 |node q g=>
  rcases d with d|⟨m,a,e⟩|⟨i,d⟩
  .grind
  .rcases a with a|⟨gE,a⟩
   .exact .aU a (g _ e)
   exact .b2 gE a (g _ e)
  exact .step i λp o=>by grind
def cb.toW(s:∀C b q,¬r.de C b q)(i:cb r bq C b):ds r W bq C b:=by
 induction i with
 |stop i=>exact⟨.leaf,i⟩
 |step u v t o j k _ d=>exact .step o λg e=>⟨_,_,_,j g e,.inl (k g e),d g e⟩
 |aU a _ d=>exact .aU a d
 |b2 m a _ d=>exact .b2 m a d
 |de p _ _=>grind
def gy.bf(o:a5->Prop)(C:∀g b,eW g b->o g->o b)(A:r.dQ->∀g b,nU g b->o g->o b):∀{D:cj}{s:ak}{g:a5},gy r W bq D s g->o g ->
  (∃b,o b/\bq s b)∨(s.status=.running/\∃b,o b/\∀m,r.rely b m->∃i j d p,aq P r.b5 s m.a=.go i j.a d/\(kz m j d∨W m j d)/\gy r W bq p i j/\cj.lt p D)
 |.leaf,_,g,q,k=>.inl ⟨g,k,q⟩
 |.node E,s,g,q,k=>by
  rcases q with q|⟨b,x,y⟩|⟨I,q⟩
  .grind
  .have e:o b:=x.elim (λt=>C g b t k) λt=>A t.1 g b t.2 k;rcases gy.bf o C A y e with B|⟨B,j,F,J⟩
   .grind
   refine .inr ⟨B,j,F,λm z=>?_⟩;obtain⟨i,v,d,p,k1,u,w,K⟩:=J m z;exact⟨i,v,d,p,k1,u,w,g,.inr K⟩
  refine .inr ⟨I,g,k,λm z=>?_⟩;obtain⟨i,v,d,k1,u,w⟩:=q m z;exact⟨i,v,d,E m,k1,u,w,m,.inl a⟩
def ds.goes{de:au->au->Prop}{z:au->au->Array aT->Prop}{Stop:ak->au->Prop}(m:a5->Prop)(v:∀b d,m b->r.rely b d->m d)(q:∀b d,m b->r.rely b d->de b.a d.a)(A:∀b e,m b->∀k,z b.a k e->k=b.a/\(kz b b e∨W b b e))(w:∀b,m b->r.rely b b)(x:∀i b,m b->Stop i b.a->ds r W bq i b):
  ∀s i b,m b->Goes P r.b5 de z Stop s i b.a->ds r W bq i b
 |0,i,b,g,o=>x i b g (o b.a (q b b g (w b g)))
 |s+1,i,b,g,o=>by
  rcases o with o|⟨D,o⟩
  .grind
  refine .step D λd y=>?_;have j:=o d.a (q b d g y);have t:=v b d g y;cases u:aq P r.b5 i d.a with
  |go p k e=>
   rw[u,goes_go]at j;obtain⟨C,E⟩:=j;obtain⟨rfl,B⟩:=A d e t k C;exact⟨p,d,e,a,B,ds.goes m v q A w x s p d t E⟩
  |_=>rw[u]at j;exact j.elim
end
theorem cU.aU{o}(i:cU b {b with a:=o})(g:eW b az):cU az {az with a:=o}:=by
 refine⟨a,a,a,by rw[g.a];exact i.size,λd e=>by rw[g.a];exact i.a6 d (g.blk d e),λd j k m=>?_,by rw[g.a];exact i.os,by rw[g.a];exact i.tape,by rw[g.a];exact i.output⟩;have q:=g.cell d j k m;by_cases e:∃L∈b.l,d∈L.al
 .have:=i.a6 d (.inr e);simp only[aL]at q⊢;grind
 have:b.u d j=h k:=by rw[<-g.bE d (λL r p=>e ⟨L,r,p⟩)];exact m
 exact i.mem d j k this
def cU.b2{k}(d:cU b {b with a:=k})(a:nU b az):cU az {az with a:=k}:=
 ⟨rfl,rfl,rfl,by rw[a.a];exact d.size,λe g=>by rw[a.a];exact d.a6 e (by rw[<-a.own,<-a.l];exact g),λe i j m=>d.mem e i j (a.e7 e i j m),by rw[a.a];exact d.os,by rw[a.a];exact d.tape,by rw[a.a];exact d.output⟩
def cU.eo(a:gk b):cU b b:=⟨rfl,rfl,rfl,bC _,λ_ _=>rfl,a,rfl,rfl,rfl⟩
def cU.fV{a}(d:cU b {b with a:=a}):cU {b with a:=a} {b with a:=a}:=cU.eo d.mem
def cU.trans{b i b3}(a:cU b i)(d:cU i b3):cU b b3:=
 ⟨d.l.trans a.l,d.u.trans a.u,d.own.trans a.own,fG a.size d.size,λg e=>by rw[d.a6 g (by rw[a.own,a.l];exact e),a.a6 g e],λg k m j=>d.mem g k m (by rw[a.u];exact j),d.os.trans a.os,d.tape.trans a.tape,d.output.trans a.output⟩
end
section
open Go.Conc
open Go.ConcN (fork_knows RelBy)
open Go.ConcR (stA smA)
def hR:Go.Loc->Option Nat
 |.cell a=>h a.block
 |.obj b=>h b
 |_=>n
def Ka{d}(b:d.isMemory=f):∃a,hR d=h a:=by cases d<;>simp[Go.Loc.isMemory]at b<;>exact⟨_,rfl⟩
def ael{d:MemAct}{e}{bX}(b:d.touch?=h e)(g:d.low bX)(a:hR e.loc=h j):j<bX:=by
 cases d with
 |access i=>
  simp[MemAct.touch?]at b;subst b;simp only at a;obtain⟨loc,wr,m⟩:=i;cases loc<;>simp[hR]at a<;>subst a<;>exact g
 |mark k=>
  cases k<;>simp[MemAct.touch?]at b<;>subst b<;>simp[hR]at a<;>subst a<;>exact g
 |_=>exact cQ
structure hE where
 bC:Nat->Prop
 bO:Nat
 f:Nat
 aj:Nat
 base:Nat
 aQ:Nat
def o0(d:hE)(g:Nat->Nat)(e:Touch):Prop:=
 (∃a,e.loc=.cell a/\a.block=d.f/\e.kind≠.plain)∨(∃b,hR e.loc=h b/\g b=0/\b≠d.f/\b≠d.aj/\¬d.bC b/\e.kind=.plain)
def n0(b:hE)(j:Nat->Nat)(k:Mem)(i:Nat)(a:Touch):Prop:=
 (∃e,a.loc=.cell e/\e.block=b.f/\a.kind=.atomic) ∨
 (a.kind=.plain/\((∃g,hR a.loc=h g/\j g=b.base+i)∨(∃d,a.loc=.cell ⟨b.aj,d,n⟩/\b.aQ*i<=d/\d<b.aQ*i+b.aQ)∨(a.write=l/\∃g d m,a.loc=.cell ⟨g,d,n⟩/\k g d=h m)))
structure fz(J:hE)(I:Nat->Nat)(ae:Nat->Mem)(q:Trace)(w bX:Nat):Prop where
 base:1<=J.base
 cG:I J.f=0
 c_:I J.aj=0
 b3:J.aj≠J.f
 dW:¬J.bC J.f
 eu:¬J.bC J.aj
 er:∀j,J.bC j->I j=0
 bF:∀o,o<w->∀j t aa,ae o j t=h aa->I j=0/\j≠J.aj/\j≠J.f/\¬J.bC j
 bO:J.bO<=q.size
 ej:∀said,¬Race said q
 seen:∀op∈q,op.act.low bX
 old:∀e x,e<J.bO->touchAt q e=h x->x.loc.isMemory=f->Knows q 0 e∨(jx J.bC x.loc/\x.kind=.atomic)
 ea:∀o,o<w->∀e x,e<J.bO->touchAt q e=h x->x.loc.isMemory=f->Knows q (J.base+o) e∨(jx J.bC x.loc/\x.kind=.atomic)
 eJ:∀e x j,e<J.bO->touchAt q e=h x->hR x.loc=h j->I j=0
 new:∀e x,J.bO<=e->touchAt q e=h x->x.loc.isMemory=f->(q.g? e=h 0/\o0 J I x)∨(∃o,o<w/\q.g? e=h (J.base+o)/\n0 J I (ae o) o x)
 ei:∀o,o<w->∀e x,J.bO<=e->touchAt q e=h x->q.g? e=h 0->x.write=f->∀j t aa,x.loc=.cell ⟨j,t,n⟩->ae o j t=h aa->Knows q (J.base+o) e
 over:∀e C,e<J.bO->q.g? e=h C->C≠0->q.counts e->∃i,q.g? i=h 0/\HappensBefore q e i
section
variable {J:hE}{I ek:Nat->Nat}{ae:Nat->Mem}{q bz:Trace}{bX d':Nat}
theorem zo{a}{C}(g:touchAt q e=h a)(b:q.g? e=h C):Knows q C e:=by
 obtain⟨i,d,_⟩:=touch_of g;have:i.g=C:=by simpa[Trace.g?,d]using b
 grind[knows_own]
def fz.low(k:fz J I ae q w bX){b}(g:touchAt q e=h b)(a:hR b.loc=h j):j<bX:=by obtain⟨m,i,d⟩:=touch_of g;exact ael d (k.seen m (uw i)) a
def fz.eL(d:fz J I ae q w bX)(e:∀b,b<bX->ek b=I b)(aE:bX<=d')(B:J.f<bX)(u:J.aj<bX)(C:∀b,J.bC b->b<bX)(D:∀i,i<w->∀b s t,ae i b s=h t->b<bX):fz J ek ae q w d':=by
 have F:∀m g,touchAt q m=h g->o0 J I g->o0 J ek g:=λm g o a=>by
  rcases a with a|⟨b,a,j,z⟩
  .exact .inl a
  exact .inr ⟨b,a,by rw[e b (d.low o a)];exact j,z⟩
 have E:∀i m g,touchAt q m=h g->n0 J I (ae i) i g->n0 J ek (ae i) i g:=λi m g o a=>by
  rcases a with a|⟨y,⟨b,a,j⟩|a⟩
  .exact .inl a
  .exact .inr ⟨y,.inl ⟨b,a,by rw[e b (d.low o a)];exact j⟩⟩
  exact .inr ⟨y,.inr a⟩
 refine⟨d.base,by rw[e _ B];exact d.cG,by rw[e _ u];exact d.c_,d.b3,d.dW,d.eu,λb k=>by rw[e b (C b k)];exact d.er b k,λi A b s t x=>by rw[e b (D i A b s t x)];exact d.bF i A b s t x,
  d.bO,d.ej,λv r=>MemAct.low_mono aE (d.seen v r),d.old,d.ea,λm g b p o k=>by rw[e b (d.low o k)];exact d.eJ m g b p o k,λm g p o I=>?_,d.ei,d.over⟩
 rcases d.new m g p o I with⟨a,j⟩|⟨i,a,j,z⟩
 .grind
 grind
def fz.fD(a:fz J I ae q w bX):J.bO<=(q++bz).size:=fG a.bO E
theorem oj(a:e<q.size):(q++bz).g? e=q.g? e:=by simp[Trace.g?,getElem?_append_old a]
def fz.fN(p:fz J I ae q w bX)(bz):∀a i,a<J.bO->(q++bz).g? a=h i->i≠0->(q++bz).counts a->∃g,(q++bz).g? g=h 0/\HappensBefore (q++bz) a g:=by
 intro a i d b e k;have o:=eA d p.bO;rw[oj o]at b;obtain⟨g,m,j⟩:=p.over a i d b e ((counts_old o).1 k);have r:g<q.size:=by unfold Trace.g? at m;grind
 exact⟨g,by grind[oj],hb_app bz j⟩
def L9{a:Nat->Prop}{d}(e:jx a d)(b:hR d=h j):a j:=by cases d<;>simp[hR]at b<;>subst b<;>exact e
def fz.ez(b:fz J I ae q w bX){o}(u:o<w){a j}{said}(aR:o0 J I j)(p:n0 J I (ae o) o a)(gE:a.loc=j.loc)(m:a.kind=.plain∨j.kind=.plain∨(said=f/\a.kind=.said/\j.kind=.said))(A:j.kind=.plain->j.write=f->∀d t aa,j.loc=.cell ⟨d,t,n⟩->ae o d t≠h aa)(y:a.write=f∨j.write=f):False:=by
 have x:=b.base;rcases p with⟨g,dK,eG,jM⟩|⟨X,⟨s,dK,eG⟩|⟨t,dK,_⟩|⟨dK,d,t,aa,eG,jM⟩⟩
 .rcases aR with⟨e,ai,C,i⟩|⟨s,ai,C,i,_⟩
  .grind
  exact OC
 .rcases aR with⟨e,ai,C,i⟩|⟨k,ai,C,i,_⟩
  .rw[gE,ai]at dK;simp[hR,eU]at dK;rw[<-dK,C,b.cG]at eG;omega
  grind
 .rcases aR with⟨e,ai,C,i⟩|⟨k,ai,C,i,r,_⟩
  .rw[<-gE,dK]at ai;cases ai;exact b.b3 C
  exact OC
 obtain⟨v,B,O,z⟩:=b.bF o u d t aa jM;rcases aR with⟨e,ai,C,i⟩|⟨k,ai,C,i,r,_,N⟩
 .grind
 grind
def fz.app0(u:fz J I ae q w bX)(C:∀a∈bz,a.g=0)(B:∀a∈bz,a.act.low bX)(z:∀a∈bz,∀b,a.act.touch?=h b->b.loc.isMemory=f->o0 J I b)(T:∀a∈bz,∀b,a.act.touch?=h b->b.kind=.plain->b.write=f->∀k,k<w->∀m t v,b.loc=.cell ⟨m,t,n⟩->ae k m t≠h v):fz J I ae (q++bz) w bX:=by
 have F:∀{d:Nat} {b:Touch},touchAt (q++bz) d=h b->(d<q.size/\touchAt q d=h b)∨(q.size<=d/\(q++bz).g? d=h 0/\∃a∈bz,a.act.touch?=h b):=by
  intro d b i;obtain⟨k,p,W⟩:=touch_of i;rcases getElem?_append_cases p with⟨bp,G⟩|⟨bp,Q⟩
  .grind [touchAt_of]
  exact .inr ⟨bp,by simp[Trace.g?,p,C k Q],k,Q,W⟩
 refine⟨u.base,u.cG,u.c_,u.b3,u.dW,u.eu,u.er,u.bF,u.fD,λsaid=>?_,seen_app u.seen B,λd b bp i I=>?_,λk p d b bp i I=>?_,λd b m bp i r=>?_,λd b bp i I=>?_,λk p d b bp i x N m t v K E=>?_,u.fN bz⟩
 .refine noRace_append (u.ej said) C λd b i a g m r e=>?_;have V:m.loc.isMemory=f:=by rw[<-e.1];exact e.2.1
  have aR:=z a g m r V;rcases dY d J.bO with bp|bp
  .rcases u.old d b bp i e.2.1 with bU|⟨ar,L⟩
   .exact bU
   exfalso;obtain⟨X,s⟩:=Ka e.2.1;have R:=L9 ar s;rcases aR with⟨y,dK,eG,jM⟩|⟨H,dK,eG,jM,D,bB,S⟩
   .rw[e.1,dK]at s;simp[hR,eU]at s;rw[<-s,eG]at R;exact u.dW R
   rw[e.1,dK]at s;grind
  rcases u.new d b bp i e.2.1 with⟨x,_⟩|⟨k,p,x,O⟩
  .grind [zo]
  exact(u.ez p aR O e.1 e.2.2.2 (λo j=>T a g m r o j k p) e.2.2.1).elim
 .have A:touchAt q d=h b:=Fv;exact(u.old d b bp A I).imp (·.app bz) id
 .have A:touchAt q d=h b:=Fv;exact(u.ea k p d b bp A I).imp (·.app bz) id
 .have A:touchAt q d=h b:=Fv;exact u.eJ d b m bp A r
 .rcases F i with⟨o,j⟩|⟨_,j,a,g,M⟩
  .rw[oj o];exact u.new d b bp j I
  grind
 rcases F i with⟨o,j⟩|⟨_,j,a,g,M⟩
 .rw[oj o]at x;exact(u.ei k p d b bp j x N m t v K E).app bz
 exfalso;rcases z a g b M ht with⟨y,dK,eG,jM⟩|⟨H,_,_,_,_,_,S⟩
 .rw[K]at dK;cases dK;exact(u.bF k p m t v E).2.2.1 eG
 grind
def fz.h9(u:fz J I ae q w bX){o}(N:o<w)(V:∀m∈bz,m.g=J.base+o)(S:∀m∈bz,m.act.low bX)(ao:∀m∈bz,∀e,m.act.touch?=h e->e.loc.isMemory=f->n0 J I (ae o) o e):fz J I ae (q++bz) w bX:=by
 have Y:=u.base;have ab:∀{g:Nat} {e:Touch},touchAt (q++bz) g=h e->(g<q.size/\touchAt q g=h e)∨(q.size<=g/\(q++bz).g? g=h (J.base+o)/\∃m∈bz,m.act.touch?=h e):=by
  intro g e bc;obtain⟨x,y,P⟩:=touch_of bc;rcases getElem?_append_cases y with⟨bp,aa⟩|⟨bp,U⟩
  .grind [touchAt_of]
  exact .inr ⟨bp,by simp[Trace.g?,y,V x U],x,U,P⟩
 refine⟨u.base,u.cG,u.c_,u.b3,u.dW,u.eu,u.er,u.bF,u.fD,λsaid=>?_,seen_app u.seen S,λg e bp bc I=>?_,λx y g e bp bc I=>?_,λg e Q bp bc K=>?_,λg e bp bc I=>?_,λx y g e bp bc z H Q k p ag aN=>?_,u.fN bz⟩
 .refine noRace_append (u.ej said) V λg e bc m C Q K j=>?_;have ah:Q.loc.isMemory=f:=by rw[<-j.1];exact j.2.1
  have aR:=ao m C Q K ah;obtain⟨ax,v⟩:=Ka j.2.1;rcases dY g J.bO with bp|bp
  .rcases u.ea o N g e bp bc j.2.1 with M|⟨T,Z⟩
   .exact M
   exfalso;have E:=L9 T v;rw[j.1]at v;rcases aR with⟨R,dK,eG,jM⟩|⟨an,⟨ar,dK,eG⟩|⟨k,dK,_⟩|⟨dK,s,k,p,eG,jM⟩⟩
   .rw[dK]at v;simp[hR,eU]at v;rw[<-v,eG]at E;exact u.dW E
   .rw[dK]at v;simp[eU]at v;rw[<-v]at E;rw[u.er _ E]at eG;omega
   .rw[dK]at v;simp[hR,eU]at v;rw[<-v]at E;exact u.eu E
   rw[eG]at v;simp[hR,eU]at v;rw[<-v]at E;exact(u.bF o N s k p jM).2.2.2 E
  rcases u.new g e bp bc j.2.1 with⟨z,F⟩|⟨x,y,z,aj⟩
  ·
   by_cases G:e.write=f/\∃s k p,e.loc=.cell ⟨s,k,n⟩/\ae o s k=h p
   .obtain⟨i,s,k,p,r,W⟩:=G;exact u.ei o N g e bp bc z i s k p r W
   exfalso;refine u.ez (said:=said) N F aR j.1.symm ?_ (λ_ ai s k p t aN=>G ⟨ai,s,k,p,t,aN⟩) j.2.2.1.symm;rcases j.2.2.2 with M|M|⟨i,r,W⟩
   .grind
   .grind
   grind
  by_cases L:x=o
  .grind [zo]
  exfalso;obtain⟨t,_,H,av⟩:=j;rcases aj with⟨R,dK,eG,jM⟩|⟨an,⟨g1,dK,eG⟩|⟨k,dK,X,aw⟩|⟨dK,s,k,p,eG,jM⟩⟩
  .rcases aR with⟨O,d,A,B⟩|⟨b4,⟨iH,d,A⟩|⟨k,d,_⟩|⟨d,s,k,p,A,B⟩⟩
   .grind
   .rw[<-t,dK]at d;simp[hR,eU]at d;rw[<-d,eG,u.cG]at A;omega
   .rw[<-t,dK]at d;cases d;exact u.b3 eG
   rw[<-t,dK]at A;cases A;exact(u.bF o N s k p B).2.2.1 eG
  .rcases aR with⟨O,d,A,B⟩|⟨b4,⟨iH,d,A⟩|⟨k,d,_⟩|⟨d,s,k,p,A,B⟩⟩
   .rw[t,d]at dK;simp[hR,eU]at dK;rw[<-dK,A,u.cG]at eG;omega
   .grind
   .rw[t,d]at dK;simp[hR,eU]at dK;rw[<-dK,u.c_]at eG;omega
   rw[t,A]at dK;simp[hR,eU]at dK;rw[<-dK,(u.bF o N s k p B).1]at eG;omega
  .rcases aR with⟨O,d,A,B⟩|⟨b4,⟨iH,d,A⟩|⟨D,d,bq,ak⟩|⟨d,s,D,p,A,B⟩⟩
   .rw[<-t,dK]at d;cases d;exact u.b3 A
   .rw[<-t,dK]at d;simp[hR,eU]at d;rw[<-d,u.c_]at A;omega
   .rw[<-t,dK]at d;cases d;rcases Nat.lt_or_gt_of_ne L with i|i
    .have:=wW J.aQ (show x+1<=o from i);grind
    have:=wW J.aQ (show o+1<=x from i);grind
   rw[<-t,dK]at A;cases A;exact(u.bF o N _ _ p B).2.1 a
  rcases aR with⟨O,d,A,B⟩|⟨b4,⟨iH,d,A⟩|⟨D,d,bq,ak⟩|⟨d,aq,D,au,A,B⟩⟩
  .rw[<-t,eG]at d;cases d;exact(u.bF x y s k p jM).2.2.1 A
  .rw[<-t,eG]at d;simp[hR,eU]at d;rw[<-d,(u.bF x y s k p jM).1]at A;omega
  .rw[<-t,eG]at d;cases d;exact(u.bF x y _ _ p jM).2.1 a
  grind
 .have b:touchAt q g=h e:=Fu;exact(u.old g e bp b I).imp (·.app bz) id
 .have b:touchAt q g=h e:=Fu;exact(u.ea x y g e bp b I).imp (·.app bz) id
 .have b:touchAt q g=h e:=Fu;exact u.eJ g e Q bp b K
 .rcases ab bc with⟨i,r⟩|⟨_,r,m,C,ad⟩
  .rw[oj i];exact u.new g e bp r I
  grind
 rcases ab bc with⟨i,r⟩|⟨_,r,_⟩
 .rw[oj i]at z;exact(u.ei x y g e bp r z H Q k p ag aN).app bz
 grind
def fz.mute(b:fz J I ae q w bX){C}(z:∀i∈bz,i.g=C)(m:∀i∈bz,i.act.low bX)(u:∀i∈bz,i.act.touch?=n):fz J I ae (q++bz) w bX:=by
 have old:∀{d:Nat} {e:Touch},touchAt (q++bz) d=h e->d<q.size/\touchAt q d=h e:=by intro d e g;obtain⟨E,D,B⟩:=touch_of g;grind[touchAt_of]
 refine⟨b.base,b.cG,b.c_,b.b3,b.dW,b.eu,b.er,b.bF,b.fD,λsaid=>noRace_append (b.ej said) z λd e _ i r k j _=>M,seen_app b.seen m,λd e a g I=>(b.old d e a (old g).2 I).imp (·.app bz) id,
  λp o d e a g I=>(b.ea p o d e a (old g).2 I).imp (·.app bz) id,λd e k a g j=>b.eJ d e k a (old g).2 j,λd e a g I=>?_,λp o d e a g s v k x A t y=>?_,b.fN bz⟩
 .rw[oj (old g).1];exact b.new d e a (old g).2 I
 rw[oj (old g).1]at s;exact(b.ei p o d e a (old g).2 s v k x A t y).app bz
def fz.gi(i:fz J I ae q w bX){o X}(O:o.g=0/\o.act=.go (J.base+w))(D:X.g=J.base+w/\X.act=.start)(E:Deaf q 0=0)(v:Deaf q (J.base+w)=0)(T:∀e t u,ae w e t=h u->I e=0/\e≠J.aj/\e≠J.f/\¬J.bC e):fz J I ae (q++#[o,X]) (w+1) bX:=by
 have z:∀g∈#[o,X],g.act.touch?=n:=by
  intro g a;simp[List.mem_toArray,fo,sz,or_false]at a;rcases a with rfl|rfl
  .exact ht
  exact ht
 have N:∀g∈#[o,X],g.act.low bX:=by
  intro g a;simp[List.mem_toArray,fo,sz,or_false]at a;rcases a with rfl|rfl
  .exact ht
  exact ht
 have old:∀{j:Nat} {m:Touch},touchAt (q++#[o,X]) j=h m->j<q.size/\touchAt q j=h m:=by intro j m p;obtain⟨r,B,S⟩:=touch_of p;grind[touchAt_of]
 have k:∀r,r<w+1->∀e t u,ae r e t=h u->I e=0/\e≠J.aj/\e≠J.f/\¬J.bC e:=λr B e t u x=>by
  rcases dY r w with b|b
  .exact i.bF r b e t u x
  grind
 refine⟨i.base,i.cG,i.c_,i.b3,i.dW,i.eu,i.er,k,i.fD,λsaid=>?_,seen_app i.seen N,λj m d p I=>(i.old j m d (old p).2 I).imp (·.app _) id,
  λr B j m d p I=>?_,λj m e d p s=>i.eJ j m e d (old p).2 s,λj m d p I=>?_,λr B j m d p A R e t u Q x=>?_,i.fN _⟩
 .have F:q++#[o,X]=(q++#[o])++#[X]:=M;rw[F];refine noRace_append (g:=J.base+w) (noRace_append (g:=0) (i.ej said) (λg a=>by grind) (λj m _ g a e s _=>M)) (λg a=>by grind) (λj m _ g a e s _=>?_);grind
 .rcases dY r w with b|b
  .exact(i.ea r b j m d (old p).2 I).imp (·.app _) id
  obtain rfl:r=w:=y;exact(i.old j m d (old p).2 I).imp (fork_knows O D E v) id
 .rw[oj (old p).1];rcases i.new j m d (old p).2 I with b|⟨r,b,K⟩
  .grind
  grind
 rw[oj (old p).1]at A;rcases dY r w with b|b
 .exact(i.ei r b j m d (old p).2 A R e t u Q x).app _
 obtain rfl:r=w:=y;exact fork_knows O D E v (zo (old p).2 A)
def fz.jF(i:fz J I ae q w bX)(H:Deaf q 0=0)(y:NoRelease (stA J.f) q){bc}(F:q.act? bc=h (.mark (.acquire (stA J.f))))(C:q.g? bc=h 0)(E:q.heard bc)(Q:∀d,d<w->∃k,RelBy (stA J.f) q (J.base+d) k/\k<bc):Past (jx λp=>J.bC p∨p=J.f) bX q:=by
 have B:∀d,d<w->∀a,q.g? a=h (J.base+d)->q.counts a->HappensBefore q a bc:=by
  intro d s a j o;obtain⟨k,t,O⟩:=Q d s;have S:HappensBefore q k bc:=.single (.inr ⟨.marked O (.inr t.act) F (λU _ _=>y U),t.heard,E⟩);have L:a<=k:=Nat.le_of_not_lt λA=>t.after a A j o;rcases dY a k with A|G
  .exact .trans (.single (.inl ⟨A,_,j,t.g⟩)) S
  grind
 have V:∀{u:Go.Loc},jx J.bC u->jx (λp=>J.bC p∨p=J.f) u:=λ{u} r=>by cases u<;>first|exact .inl r|exact r
 refine⟨i.ej,λa g m I=>?_,λa T j N o=>?_,H,i.seen⟩
 .rcases dY a J.bO with b|b
  .exact(i.old a g b m I).imp id λ⟨e,v⟩=>⟨V e,v⟩
  rcases i.new a g b m I with⟨e,_⟩|⟨d,s,j,aR⟩
  .grind [zo]
  rcases aR with⟨R,dK,eG,jM⟩|⟨bB,_⟩
  .exact .inr ⟨by rw[dK];exact .inr eG,jM⟩
  left;have o:q.counts a:=⟨g,m,I,.inl M⟩
  obtain⟨W,K,D⟩:=rj.1 C;exact⟨bc,W,K,D,.inr (B d s a j o)⟩
 rcases dY a J.bO with b|b
 .exact i.over a T b j N o
 obtain⟨g,m,I,x⟩:=o;rcases i.new a g b m I with⟨e,_⟩|⟨d,s,z,aR⟩
 .grind
 exact⟨bc,C,B d s a z ⟨g,m,I,x⟩⟩
def fz.start{J}{q}{bX}{o:Nat->Mem}(d:Past (jx J.bC) bX q)(aR:J.bO=q.size)(i:1<=J.base)(g:J.aj≠J.f)(t:¬J.bC J.f)(r:¬J.bC J.aj):fz J (λ_=>0) o q 0 bX:=
 ⟨i,rfl,rfl,g,t,r,λ_ _=>rfl,λb a=>absurd a (iF b),by omega,d.clean,d.seen,λe k _ j m=>d.known e k j m,λb a=>absurd a (iF b),λ_ _ _ _ _ _=>rfl,
  λe k s j _=>by
   obtain⟨b,a,_⟩:=touch_of j
   grind,λb a=>absurd a (iF b),λe p _ u g v=>d.over e p u g v⟩
end
end
section
open Go.Conc
open Go.ConcN (WD CTag Mode Vc Ssum pend phi cnt WgLive PayAt Has RW DWs WSit RelBy sumTo upd upd_same upd_ne AtR0 get_map_set get_map_set_same norel_of Deaf_still)
open Go.ConcR (KK WgAt stA smA rd wr mk Payload g_of_ofEvents)
def aj.c6(P):aj P:={b5:=l,rely:=cU,de:=λ_ _ _=>False,bN:=id,dQ:=True}
def aj.aG(P)(d:av)(a:Nat):aj P:={b5:=f,rely:=λe b=>cU e b/\(WgLive d a e.a->WgLive d a b.a),de:=λ_ _ _=>False,bN:=λg=>g.1,dQ:=False}
instance (P:aI):(aj.c6 P).b':=⟨v⟩
def eJ:a5->a5->Array aT->Prop:=λ_ _ _=>False
def dS(b:Nat):a5->a5->Array aT->Prop:=λg e a=>e=g/\∃d:Addr,d.block=b/\(a=#[mk (.read d)]∨a=#[mk (.write d)])
def pW:Nat->Go.Loc->Prop:=λ_ _=>False
variable [Payload]
structure RJ(N D eY i:Nat)(B:Nat->Z)(Q bi:au):Prop where
 tape:bi.tape=Q.tape
 os:bi.os=Q.os
 output:bi.output=Q.output
 size:bi.heap.size=Q.heap.size
 block:∀j,j≠N->bi.heap[j]?=Q.heap[j]?
 bR:PayAt N D bi
 hH:∀t,(t<eY∨eY+i<=t)->bi.cell? ⟨N,t,n⟩=Q.cell? ⟨N,t,n⟩
 new:∀e,e<i->bi.cell? ⟨N,eY+e,n⟩=h (B e)
section
variable (P:aI)(ty:av)(J:hE)(D:Nat)(val:Nat->Nat->Z)
def uh(a:Nat)(g:ak)(i:a5):Prop:=
 g.status=.running/\∀w1,cU i {i with a:=w1}->PayAt J.aj D w1->WgLive ty J.f w1 ->
  ∃d w2 b,aq P l g w1=.go d w2 b/\RJ J.aj D (J.aQ*a) J.aQ (val a) w1 w2/\(∀j∈b,∃e,j=⟨.cell ⟨J.aj,e,n⟩,f,l⟩/\J.aQ*a<=e/\e<J.aQ*a+J.aQ) /\
   ∃k,Goes P l (RW ty J.f J.aj D 0 (J.aQ*a)) Go.ConcR.DC0 (AtR0 P ty J.f J.aj D 0 (J.aQ*a+1) (val a 0)) k d w2
end
structure ho(ae:Nat->Nat)(a':Mem)(C:Nat)(b:a5):Prop where
 blk:∀j,(b.own j∨∃L∈b.l,j∈L.al)->ae j=C/\j<b.a.heap.size
 u:∀j t aa,b.u j t=h aa->(ae j=C∨a' j t=h aa)/\j<b.a.heap.size
structure gj(J:hE)(ae:Nat->Nat)(O:Nat->Mem)(w:Nat)(b:a5):Prop where
 blk:∀j,(b.own j∨∃L∈b.l,j∈L.al)->ae j=0/\j≠J.aj/\j≠J.f/\¬J.bC j/\j<b.a.heap.size
 u:∀j t aa,b.u j t=h aa->ae j=0/\j≠J.aj/\j≠J.f/\¬J.bC j/\j<b.a.heap.size
 bF:∀o,o<w->∀j t aa,O o j t=h aa->b.u j t=h aa
structure lC(J:hE)(ae:Nat->Nat)(a':Mem)(X:Nat)(Q bi:au):Prop where
 size:Q.heap.size<=bi.heap.size
 blk:∀j,j<Q.heap.size->ae j=J.base+X->bi.heap[j]?=Q.heap[j]?
 cell:∀j t aa,a' j t=h aa->Q.cell? ⟨j,t,n⟩=h aa->bi.cell? ⟨j,t,n⟩=h aa
 bR:∀t,J.aQ*X<=t->t<J.aQ*X+J.aQ->bi.cell? ⟨J.aj,t,n⟩=Q.cell? ⟨J.aj,t,n⟩
 os:bi.os=Q.os
 tape:bi.tape=Q.tape
 output:bi.output=Q.output
omit [Payload]in
def lC.refl(J)(a:Nat->Nat)(d)(X)(Q):lC J a d X Q Q:=⟨bC _,λ_ _ _=>rfl,λ_ _ _ _ b=>b,λ_ _ _=>rfl,rfl,rfl,rfl⟩
omit [Payload]in
def lC.at(J)(b:Nat->Nat)(e)(X)(Q)(a):lC J b e X Q (Q.at a):=⟨bC _,λ_ _ _=>rfl,λ_ _ _ _ d=>d,λ_ _ _=>rfl,rfl,rfl,rfl⟩
structure rh(J:hE)(ae:Nat->Nat)(Q bi:au):Prop where
 size:Q.heap.size<=bi.heap.size
 blk:∀j,j<Q.heap.size->ae j=0->j≠J.aj->j≠J.f->bi.heap[j]?=Q.heap[j]?
 os:bi.os=Q.os
 tape:bi.tape=Q.tape
 output:bi.output=Q.output
omit [Payload]in
def nd{a:au}(b:bi.heap[j]?=a.heap[j]?)(t):bi.cell? ⟨j,t,n⟩=a.cell? ⟨j,t,n⟩:=by simp[aL,b]
omit [Payload]in
def cU.eF{Q}(e:cU b {b with a:=Q})(q:Q.heap.size<=bi.heap.size)(m:∀d,(b.own d∨∃L∈b.l,d∈L.al)->bi.heap[d]?=Q.heap[d]?)(a:∀d g i,b.u d g=h i->Q.cell? ⟨d,g,n⟩=h i->bi.cell? ⟨d,g,n⟩=h i)(o:bi.os=Q.os)(p:bi.tape=Q.tape)(r:bi.output=Q.output):cU b {b with a:=bi}:=
 ⟨rfl,rfl,rfl,fG e.size q,λd j=>by show bi.heap[d]?=_;rw[m d j];exact e.a6 d j,λd g i k=>a d g i k (e.mem d g i k),o.trans e.os,p.trans e.tape,r.trans e.output⟩
section
variable {J:hE}{ae ek:Nat->Nat}{O:Nat->Mem}{X:Nat}{Q:au}
omit [Payload]in
def ho.dh(m:ho ae (O X) (J.base+X) b)(k:cU b {b with a:=Q})(a:lC J ae (O X) X Q bi):cU b {b with a:=bi}:=by
 have o:=k.size;refine k.eF a.size (λe q=>?_) (λe g p r j=>?_) a.os a.tape a.output
 .obtain⟨d,i⟩:=m.blk e q;exact a.blk e (eA i o) d
 obtain⟨d,i⟩:=m.u e g p r;rcases d with d|d
 .rw[nd (a.blk e (eA i o) d) g];exact j
 exact a.cell e g p d j
omit [Payload]in
def ho.eL{i}{C}(g:ho ae i C b)(q:b.a.heap.size<=Q.heap.size)(p:∀a,a<Q.heap.size->ek a=ae a):ho ek i C b:=
 ⟨λa j=>let ⟨d,e⟩:=g.blk a j;⟨by grind,e⟩,λa k o m=>let ⟨d,e⟩:=g.u a k o m;⟨by grind,e⟩⟩
omit [Payload]in
def gj.dh(k:gj J ae O w b)(j:cU b {b with a:=Q})(a:rh J ae Q bi):cU b {b with a:=bi}:=by
 have o:=j.size;refine j.eF a.size (λe q=>?_) (λe m s r p=>?_) a.os a.tape a.output
 .obtain⟨d,g,i,H,z⟩:=k.blk e q;exact a.blk e (eA z o) d g i
 obtain⟨d,g,i,H,z⟩:=k.u e m s r;rw[nd (a.blk e (eA z o) d g i) m];exact p
omit [Payload]in
def gj.eL(e:gj J ae O w b)(q:b.a.heap.size<=Q.heap.size)(p:∀a,a<Q.heap.size->ek a=ae a):gj J ek O w b:=
 ⟨λa j=>let ⟨d,g,i,H,z⟩:=e.blk a j;⟨by grind,g,i,H,z⟩,
  λa k o m=>let ⟨d,g,i,H,z⟩:=e.u a k o m;⟨by grind,g,i,H,z⟩,e.bF⟩
omit [Payload]in
def ho.rely{j}{C}(i:ho ae j C b)(g:b.a.heap.size<=Q.heap.size):ho ae j C {b with a:=Q}:=
 ⟨λa k=>let ⟨d,e⟩:=i.blk a k;⟨d,eA e g⟩,λa m p o=>let ⟨d,e⟩:=i.u a m p o;⟨d,eA e g⟩⟩
omit [Payload]in
def gj.rely(e:gj J ae O w b)(j:b.a.heap.size<=Q.heap.size):gj J ae O w {b with a:=Q}:=
 ⟨λa k=>let ⟨d,g,i,H,z⟩:=e.blk a k;⟨d,g,i,H,eA z j⟩,λa m p o=>let ⟨d,g,i,H,z⟩:=e.u a m p o;⟨d,g,i,H,eA z j⟩,e.bF⟩
omit [Payload]in
theorem ho.aU{e}{C}(a:ho ae e C b)(i:eW b az):ho ae e C az:=by
 refine⟨λj s=>by rw[i.a];exact a.blk j (i.blk j s),λj g k bc=>?_⟩;rw[i.a];by_cases s:∃L∈b.l,j∈L.al
 .obtain⟨d,m⟩:=a.blk j (.inr s);grind
 exact a.u j g k Rg
omit [Payload]in
def ho.b2{i}{C}(e:ho ae i C b)(a:nU b az):ho ae i C az:=
 ⟨λd k=>by rw[a.a];exact e.blk d (by rw[<-a.own,<-a.l];exact k),λd g j m=>by rw[a.a];exact e.u d g j (a.e7 d g j m)⟩
omit [Payload]in
theorem gj.aU(a:gj J ae O w b)(i:eW b az):gj J ae O w az:=by
 refine⟨λj s=>by rw[i.a];exact a.blk j (i.blk j s),λj d e bc=>?_,λk g j d e bc=>i.mem _ _ _ (a.bF k g j d e bc)⟩;rw[i.a];by_cases s:∃L∈b.l,j∈L.al
 .exact a.blk j (.inr s)
 exact a.u j d e Rg
def lW(d:Nat->Nat)(b e:Nat):Nat->Nat:=λa=>if a<b then d a else e
omit [Payload]in
theorem li{b:Nat->Nat}{a C}(d:j<a):lW b a C j=b j:=by simp[lW,d]
omit [Payload]in
theorem CU{b:Nat->Nat}{a C}(d:a<=j):lW b a C j=C:=by simp[lW,n1.2 d]
omit [Payload]in
def ho.step{m}{C}(i:ho ae m C b)(G:bb ao az)(e:cN p b ao az):ho (lW ae b.a.heap.size C) m C az:=by
 refine⟨λa d=>?_,λa r t k=>?_⟩
 .rcases d with d|⟨L,W,d⟩
  .rw[e.own]at d;obtain⟨g,s⟩:=i.blk a (.inl d);exact⟨by grind[li],eA s e.size⟩
  have j:=G.lt L W a d;rcases e.bT L W a d with g|⟨q,o,g⟩
  .grind [CU]
  obtain⟨k1,aN⟩:=i.blk a (.inr ⟨q,o,g⟩);grind[li]
 have j:=gk.lt G.mem k;rcases dY a b.a.heap.size with g|g
 .rw[li g];by_cases d:∃L∈b.l,a∈L.al
  .exact⟨.inl (i.blk a (.inr d)).1,j⟩
  rw[e.bE a g (λL W u=>d ⟨L,W,u⟩)]at k;exact⟨(i.u a r t k).1,j⟩
 grind[CU]
omit [Payload]in
def gj.step(i:gj J ae O w b)(G:bb ao az)(d:cN p b ao az)(B:J.f<b.a.heap.size)(y:J.aj<b.a.heap.size)(A:∀a,J.bC a->a<b.a.heap.size):gj J (lW ae b.a.heap.size 0) O w az:=by
 have F:∀a,b.a.heap.size<=a->a<az.a.heap.size->lW ae b.a.heap.size 0 a=0/\a≠J.aj/\a≠J.f/\¬J.bC a/\a<az.a.heap.size:=λa g m=>
  ⟨CU g,by omega,by omega,λI=>by grind,m⟩
 refine⟨λa e=>?_,λa k o j=>?_,λD v a k o j=>d.mem _ _ _ (i.bF D v a k o j)⟩
 .rcases e with e|⟨L,W,e⟩
  .rw[d.own]at e;obtain⟨g,m,C,H,z⟩:=i.blk a (.inl e);exact⟨by grind[li],m,C,H,eA z d.size⟩
  have t:=G.lt L W a e;rcases d.bT L W a e with g|⟨x,u,g⟩
  .grind
  obtain⟨k1,aN,q,s,r⟩:=i.blk a (.inr ⟨x,u,g⟩);grind[li]
 have t:=gk.lt G.mem j;rcases dY a b.a.heap.size with g|g
 .by_cases e:∃L∈b.l,a∈L.al
  .obtain⟨k1,aN,q,s,r⟩:=i.blk a (.inr e);grind[li]
  rw[d.bE a g (λL W E=>e ⟨L,W,E⟩)]at j;obtain⟨k1,aN,q,s,r⟩:=i.u a k o j;grind[li]
 grind
end
end
section
open Go.Conc
open Go.ConcN (WD CTag Mode Vc Ssum pend phi cnt WgLive PayAt Has RW DWs WSit RelBy sumTo upd upd_same upd_ne AtR0 get_map_set get_map_set_same norel_of Deaf_still)
open Go.ConcR (KK WgAt stA smA rd wr mk Payload g_of_ofEvents)
variable [Payload]
section
variable (P:aI)(ty:av)(J:hE)(D:Nat)(val:Nat->Nat->Z)(d:Nat->Nat)(s:Nat->Mem)
inductive hF (o:Nat):Nat->Nat->cj->Nat->ak->au->Prop
 |c7 {a':cj} {C:ak} {b:a5} {Q:au}:gy (aj.c6 P) eJ (uh P ty J D val o) a' C b->cU b {b with a:=Q}->ho d (s o) (J.base+o) b->hF o 1 7 a' 0 C Q
 |rel {A:Nat} {C:ak} {Q:au}:Goes P l (RW ty J.f J.aj D 0 (J.aQ*o)) Go.ConcR.DC0 (AtR0 P ty J.f J.aj D 0 (J.aQ*o+1) (val o 0)) A C Q->hF o 0 7 (cj.dG A) 0 C Q
 |tail {b8 A I:Nat} {C:ak} {Q:au}:b8<=6->WSit P ty J.f J.aj D pW pW 0 (J.aQ*o+1) (val o 0) b8 A I C Q->hF o 0 b8 (cj.dG A) I C Q
structure ih(w:Nat)(gs:Array ak)(Q:au)(q:Trace)(z:Nat->WD)(O:Nat->Nat)(ar:Nat->cj)(k:Nat):Prop where
 size:gs.size=J.base+w
 dn:∀e C,0<e->e<J.base->gs[e]?=h C->∃A,ar e=cj.dG A/\QuitsD P A (Deaf q e) C
 above:∀e,J.base+w<=e->Deaf q e=0
 c5:∀o,o<w->∃C,gs[J.base+o]?=h C/\hF P ty J D val d s o (O o) (z o).stage (ar (J.base+o)) (z o).deaf C Q
 br:fz J d s q w Q.heap.size
 dT:m5 q
 dz:Deaf q 0=k
 dA:∀o,o<w->Deaf q (J.base+o)=(z o).deaf
 rel:∀o,o<w->(z o).stage<=6->∃a',RelBy (stA J.f) q (J.base+o) a'
 dj:∀o,o<w->O o=0->∀e,1<=e->e<J.aQ->Q.cell? ⟨J.aj,J.aQ*o+e,n⟩=h (val o e)
 dO:∀o,o<w->(z o).stage<=6->Has J.aj (J.aQ*o) (val o 0) Q
 bR:PayAt J.aj D Q
 cV:WgLive ty J.f Q
 ck:J.f<Q.heap.size
 cw:J.aj<Q.heap.size
 dm:∀j,J.bC j->j<Q.heap.size
 aQ:0<J.aQ
 dE:∀X,X<w->∀j t aa,s X j t=h aa->j<Q.heap.size
end
section
variable {P:aI}{ty:av}{J:hE}{D:Nat}{val:Nat->Nat->Z}{d ek:Nat->Nat}{s:Nat->Mem}{o:Nat}{Q:au}{q:Trace}{z:Nat->WD}{O:Nat->Nat}{ar:Nat->cj}{k:Nat}
def RW.dh(j:lC J d (s o) o Q bi)(b:WgLive ty J.f bi)(e:PayAt J.aj D bi)(i:0<J.aQ):RW ty J.f J.aj D 0 (J.aQ*o+1-1) Q bi:=
 ⟨λg a=>absurd a (iF g),λ_=>b,λ_=>e,j.bR _ (bC _) M⟩
def hF.dh{q b8 r}{u}{C}(v:hF P ty J D val d s o q b8 u r C Q)(p:lC J d (s o) o Q bi)(i:WgLive ty J.f bi)(t:PayAt J.aj D bi)(g:0<J.aQ)(m:∀j,j<Q.heap.size->ek j=d j):
  hF P ty J D val ek s o q b8 u r C bi:=by
 cases v with
 |c7 a b e=>exact .c7 a (e.dh b p) (e.eL b.size m)
 |rel a=>exact .rel (Goes.rely (λ_ _ _ a b=>a.trans b) a (RW.dh p i t g))
 |tail k a=>exact .tail k (a.rely (RW.dh p i t g))
omit [Payload]in
def gy.run{j:aj P}{i:a5->a5->Array aT->Prop}{e:ak->a5->Prop}(g:∀b d,e b d->b.status=.running):∀{a':cj}{b:ak}{d:a5},gy j i e a' b d->b.status=.running
 |.leaf,_,_,a=>g _ _ a
 |.node k,b,d,a=>by
  rcases a with a|⟨m,_,a⟩|⟨a,_⟩
  .grind
  .exact gy.run g (a':=k d) a
  grind
def hF.status{e b8 g}{i}{C}(b:hF P ty J D val d s o e b8 i g C Q):C.status=.running∨C.status=.finished:=by
 cases b with
 |c7 a _ _=>exact .inl (a.run λC j b=>b.1)
 |rel a=>exact .inl (Goes.running (λ_ _ o=>o.1) Q (Go.ConcN.RW.refl Q) a)
 |tail _ a=>exact a.status
def hF.woken{a b8 b}{i}{C}(g:hF P ty J D val d s o a b8 i b C Q)(j e)(bi):woken P j e bi C=C:=by
 unfold Go.Conc.woken;split
 .exact again_running _ g.status
 simp
def ih.at(a:ih P ty J D val d s w gs Q q z O ar k)(e):ih P ty J D val d s w gs (Q.at e) q z O ar k:=
 ⟨a.size,a.dn,a.above,λg b=>let ⟨C,cS,dq⟩:=a.c5 g b;⟨C,cS,dq.dh (.at ..) a.cV a.bR a.aQ λ_ _=>rfl⟩,a.br,a.dT,a.dz,a.dA,a.rel,a.dj,a.dO,a.bR,a.cV,a.ck,a.cw,a.dm,a.aQ,a.dE⟩
def ih.aV(u:ih P ty J D val d s w gs Q q z O ar k)(W:o<w){r}{fn}{pos}{T}{x p A}{N}(K:∀t,t<Q.heap.size->ek t=d t)(F:Q.heap.size<=bi.heap.size)(Z:∀b,b<w->b≠o->lC J d (s b) b Q bi)(aB:hF P ty J D val ek s o x p N A r bi)(az:∀g∈T,(aO g).low bi.heap.size)(a:∀g∈T,∀E,(aO g).touch?=h E->E.loc.isMemory=f->n0 J ek (s o) o E)(ak:∀g∈T,∀E,g.loc≠.mark (.release E))(ax:deafBehind (z o).deaf T=A)(aA:p<=6->∃aa,RelBy (stA J.f) (q++MemOp.ofEvents (J.base+o) fn pos T) (J.base+o) aa)(aq:x=0->∀e,1<=e->e<J.aQ->bi.cell? ⟨J.aj,J.aQ*o+e,n⟩=h (val o e))(ao:p<=6->Has J.aj (J.aQ*o) (val o 0) bi)(H:PayAt J.aj D bi)(aj:WgLive ty J.f bi):
  ih P ty J D val ek s w ((gs.map (woken P C r bi)).setIfInBounds (J.base+o) r) bi (q++MemOp.ofEvents (J.base+o) fn pos T) (upd z o ⟨p,0,A⟩) (upd O o x) (upd ar (J.base+o) N) k:=by
 have I:=u.br.base;have R:∀b,b≠o->J.base+o≠J.base+b:=λb j g=>j y;have an:∀e G,0<e->e<J.base->((gs.map (Go.Conc.woken P C r bi)).setIfInBounds (J.base+o) r)[e]?=h G->gs[e]?=h G:=by intro e G bp m i;rw[get_map_set _ _ _ _ y]at i;obtain⟨aw,X,rfl⟩:=rj.1 i;obtain⟨ai,_,av⟩:=u.dn e aw bp m X;grind[woken_quitsD]
 refine⟨by simp[u.size],λe G bp m i=>?_,λe bp=>?_,λb j=>?_,?_,u.dT.app ak,by rw[Deaf_other q y _ g_of_ofEvents,u.dz],λb j=>?_,λb j B=>?_,λb j S e L aN=>?_,λb j B=>?_,H,aj,eA u.ck F,eA u.cw F,λt I=>eA (u.dm t I) F,u.aQ,λb j t Y ab U=>eA (u.dE b j t Y ab U) F⟩
 .obtain⟨ai,ae,ag⟩:=u.dn e G bp m (an e G bp m i);refine⟨ai,by rw[upd_ne ar _ y];omega,?_⟩;rw[Deaf_other q y _ g_of_ofEvents];omega
 .exact N_
 .by_cases g:b=o
  .subst g;exact⟨r,get_map_set_same _ _ _ (by rw[u.size];omega),by rw[upd_same,upd_same,upd_same];omega⟩
  obtain⟨G,i,ad⟩:=u.c5 b j;refine⟨G,by rw[get_map_set _ _ _ _ (R b g),i,lF,ad.woken],?_⟩;rw[upd_ne O _ g,upd_ne z _ g,upd_ne ar _ (R b g).symm];exact ad.dh (Z b j g) aj H u.aQ K
 .refine(u.br.eL K F u.ck u.cw u.dm λb j t Y ab U=>?_).h9 W (λM v=>by grind[Go.Conc.mem_ofEvents]) (λM v=>?_) (λM v E S ah=>?_)
  .exact u.dE b j t Y ab U
  .exact E6
  grind[Go.Conc.mem_ofEvents]
 .by_cases g:b=o
  .subst g;rw[Deaf_own,u.dA b j,upd_same];omega
  rw[Deaf_other q (R b g) _ g_of_ofEvents,u.dA b j,upd_ne z _ g]
 .by_cases g:b=o
  .subst g;rw[upd_same]at B;grind
  rw[upd_ne z _ g]at B;obtain⟨aa,V⟩:=u.rel b j B;exact⟨aa,V.appOther g_of_ofEvents (R b g)⟩
 .by_cases g:b=o
  .subst g;rw[upd_same]at S;grind
  rw[upd_ne O _ g]at S;rw[(Z b j g).bR _ y y];exact u.dj b j S e L aN
 by_cases g:b=o
 .subst g;rw[upd_same]at B;grind
 rw[upd_ne z _ g]at B;have:=u.dO b j B;have au:=u.aQ;simp only[Has]at this⊢;rw[(Z b j g).bR _ y y];omega
def ih.h0(u:ih P ty J D val d s w gs Q q z O ar k){hk}{fn}{pos}{T}(v:∀o,o<Q.heap.size->ek o=d o)(A:Q.heap.size<=bi.heap.size)(I:∀b,b<w->lC J d (s b) b Q bi)(aN:∀p∈T,(aO p).low bi.heap.size)(R:∀p∈T,∀j,(aO p).touch?=h j->j.loc.isMemory=f->o0 J ek j)(ag:∀p∈T,∀j,(aO p).touch?=h j->j.kind=.plain->j.write=f->∀U,U<w->∀o B K,j.loc=.cell ⟨o,B,n⟩->s U o B≠h K)(V:∀p∈T,∀j,p.loc≠.mark (.release j))(M:PayAt J.aj D bi)(S:WgLive ty J.f bi):
  ih P ty J D val ek s w ((gs.map (woken P C hk bi)).setIfInBounds 0 hk) bi (q++MemOp.ofEvents 0 fn pos T) z O ar (deafBehind k T):=by
 have t:=u.br.base;have aa:=u.aQ;refine⟨by simp[u.size],λe N bp x i=>?_,λe bp=>?_,λb g=>?_,?_,u.dT.app V,by rw[Deaf_own,u.dz],λb g=>by rw[Deaf_other q y _ g_of_ofEvents,u.dA b g],λb g E=>?_,λb g F e H W=>?_,λb g E=>?_,M,S,eA u.ck A,eA u.cw A,λo t=>eA (u.dm o t) A,u.aQ,λb g o B K a=>eA (u.dE b g o B K a) A⟩
 .rw[get_map_set _ _ _ _ y]at i;obtain⟨ae,Y,rfl⟩:=rj.1 i;obtain⟨ab,L,X⟩:=u.dn e ae bp x Y;exact⟨ab,L,by rw[woken_quitsD X,Deaf_other q y _ g_of_ofEvents];omega⟩
 .exact N_
 .obtain⟨N,i,G⟩:=u.c5 b g;exact⟨N,by rw[get_map_set _ _ _ _ y,i,lF,G.woken],G.dh (I b g) S M u.aQ v⟩
 .refine(u.br.eL v A u.ck u.cw u.dm u.dE).app0 (λr m=>by grind[Go.Conc.mem_ofEvents]) (λr m=>E6) (λr m j F ah=>E6) (λr m j F=>?_);grind[Go.Conc.mem_ofEvents]
 .obtain⟨ad,Z⟩:=u.rel b g E;exact⟨ad,Z.appOther g_of_ofEvents y⟩
 .rw[(I b g).bR _ y y];exact u.dj b g F e H W
 have:=u.dO b g E;simp only[Has]at this⊢;rw[(I b g).bR _ y y];omega
def ih.bt(b:ih P ty J D val d s w gs Q q z O ar k)(R:0<e)(Y:e<J.base){j}{fn}{pos}{T}(V:∀g∈T,g.mute=f)(L:QuitsD P A (deafBehind (Deaf q e) T) j):
  ih P ty J D val d s w ((gs.map (woken P C j Q)).setIfInBounds e j) Q (q++MemOp.ofEvents e fn pos T) z O (upd ar e (cj.dG A)) k:=by
 have K:=b.br.base;have S:∀g∈T,∀x,g.loc≠.mark (.release x):=λg N x=>Kr (V g N) x;refine⟨by simp[b.size],λv B m p a=>?_,λv m=>?_,λu o=>?_,?_,b.dT.app S,by rw[Deaf_other q y _ g_of_ofEvents,b.dz],λu o=>by rw[Deaf_other q y _ g_of_ofEvents,b.dA u o],λu o I=>?_,b.dj,b.dO,b.bR,b.cV,b.ck,b.cw,b.dm,b.aQ,b.dE⟩
 .by_cases g:v=e
  .subst g;rw[get_map_set_same _ _ _ M]at a;cases a;exact⟨A,by rw[upd_same],by grind[Deaf_own]⟩
  rw[get_map_set _ _ _ _ (p_ g)]at a;obtain⟨X,F,rfl⟩:=rj.1 a;obtain⟨E,H,W⟩:=b.dn v X m p F;exact⟨E,by rw[upd_ne ar _ g];omega,by rw[woken_quitsD W,Deaf_other q (p_ g) _ g_of_ofEvents];omega⟩
 .rw[Deaf_other q y _ g_of_ofEvents];exact b.above v m
 .obtain⟨B,a,t⟩:=b.c5 u o;exact⟨B,by rw[get_map_set _ _ _ _ y,a,lF,t.woken],by rw[upd_ne ar _ y];omega⟩
 .exact b.br.mute (C:=e) (λr i=>by grind[Go.Conc.mem_ofEvents]) (λr i=>by grind[Go.Conc.mem_ofEvents,low_mute]) (λr i=>by grind[Go.Conc.mem_ofEvents,touch_mute])
 obtain⟨U,G⟩:=b.rel u o I;exact⟨U,G.appOther g_of_ofEvents y⟩
def ih.spawn(e:ih P ty J D val d s w gs Q q z O ar 0){fF rz}{o X}{K}(Y:o.g=0/\o.act=.go (J.base+w))(H:X.g=J.base+w/\X.act=.start)(L:∀j B E,s w j B=h E->d j=0/\j≠J.aj/\j≠J.f/\¬J.bC j/\j<Q.heap.size)(aN:gy (aj.c6 P) eJ (uh P ty J D val w) K rz b)(R:cU b {b with a:=Q})(G:ho d (s w) (J.base+w) b):
  ih P ty J D val d s (w+1) ((gs.setIfInBounds 0 fF).push rz) Q (q++#[o,X]) (upd z w ⟨7,0,0⟩) (upd O w 1) (upd ar (J.base+w) K) 0:=by
 have Z:=e.br.base;have ad:∀i∈#[o,X],i=o∨i=X:=M;have I:∀i∈#[o,X],i.act≠.mark .disable/\i.act≠.mark .enable:=M;have aa:∀k,0<k->k<J.base+w->((gs.setIfInBounds 0 fF).push rz)[k]?=gs[k]?:=λk m a=>by rw[Array.getElem?_push_lt (by simp[e.size];omega),<-iD,sG y]
 refine⟨by simp[e.size];omega,λk T m x u=>?_,λk m=>?_,λg C=>?_,e.br.gi Y H e.dz (e.above _ (bC _)) λj B E U=>let ⟨r,t,W,V,_⟩:=L j B E U;⟨r,t,W,V⟩,λS=>(e.dT S).app λi A=>?_,by rw[Deaf_still q 0 _ I,e.dz],λg C=>?_,λg C p=>?_,λg C N=>?_,λg C p=>?_,e.bR,e.cV,e.ck,e.cw,e.dm,e.aQ,λg C j B E U=>?_⟩
 .rw[aa k m y]at u;obtain⟨ab,r,t⟩:=e.dn k T m x u;exact⟨ab,by rw[upd_ne ar _ y];exact r,by rw[Deaf_still q _ _ I];exact t⟩
 .rw[Deaf_still q _ _ I];exact e.above k y
 .rcases dY g w with a|v
  .obtain⟨T,u,F⟩:=e.c5 g a;exact⟨T,by grind,by rw[upd_ne z _ y,upd_ne O _ y,upd_ne ar _ y];omega⟩
  obtain rfl:g=w:=y;refine⟨rz,?_,by rw[upd_same,upd_same,upd_same];exact .c7 aN R G⟩;rw[show J.base+g=(gs.setIfInBounds 0 fF).size by simp[e.size],Array.getElem?_push_size]
 .grind
 .rw[Deaf_still q _ _ I];rcases dY g w with a|v
  .rw[e.dA g a,upd_ne z _ y]
  obtain rfl:g=w:=y;rw[upd_same];exact e.above _ (bC _)
 .rcases dY g w with a|v
  .rw[upd_ne z _ y]at p;obtain⟨K,R⟩:=e.rel g a p;refine⟨K,R.appNot λi A=>?_⟩;grind
  obtain rfl:g=w:=y;rw[upd_same]at p;grind
 .rcases dY g w with a|v
  .rw[upd_ne O _ y]at N;exact e.dj g a N
  obtain rfl:g=w:=y;rw[upd_same]at N;grind
 .rcases dY g w with a|v
  .rw[upd_ne z _ y]at p;exact e.dO g a p
  obtain rfl:g=w:=y;rw[upd_same]at p;grind
 rcases dY g w with a|v
 .exact e.dE g a j B E U
 grind
end
end
section
open Go.Conc
open Go.ConcN (WD CTag Mode Vc Ssum pend phi cnt WgLive PayAt Has RW DWs WSit RelBy sumTo upd upd_same upd_ne AtR0)
open Go.ConcR (KK WgAt stA smA rd wr mk Payload g_of_ofEvents again_blocked)
variable [Payload]
section
variable (P:aI)(ty:av)(J:hE)(D:Nat)(val:Nat->Nat->Z)(k:Nat)(ad d:ak->a5->Prop)
def z4(d:ak)(g:a5):Prop:=d.status=.running/\∃a,(∀e,aq P f d e=.go a e #[mk (.acquire (stA J.f))])/\∀b,(aj.aG P ty J.f).rely g b->ad a b
def wJ(d:ak)(g:a5):Prop:=d.status=.running/\∃a,(∀e,aq P f d e=.go a e #[mk .enable])/\∀b,(aj.aG P ty J.f).rely g b->(ds (aj.aG P ty J.f) (dS J.f)) (z4 P ty J ad) a b
def z9(d:ak)(e:a5):Prop:=d.status=.running/\∀a,(aj.aG P ty J.f).rely e a->WgAt ty J.f a.a 0 0->∃b,aq P f d a.a=.go b a.a #[rd (stA J.f)]/\(ds (aj.aG P ty J.f) (dS J.f)) (wJ P ty J ad) b a
def oT(b:ak)(g:a5):Prop:=b.status=.running/\b.offers=n/\∀a,(aj.aG P ty J.f).rely g a ->
 ((∃e,WgAt ty J.f a.a e 0)->aq P f b a.a=.go {b with status:=.blocked} a.a #[]) /\
 (WgAt ty J.f a.a 0 1->∃d,aq P f b a.a=.go d (a.a.setCell (smA J.f) (.int .u32 0)) (semEvents (smA J.f))/\(ds (aj.aG P ty J.f) (dS J.f)) (z9 P ty J ad) d {a with a:=a.a.setCell (smA J.f) (.int .u32 0)})
def z8(B:Nat)(g:ak)(i:a5):Prop:=g.status=.running/\∀b,(aj.aG P ty J.f).rely i b->∀e:Nat,e<2147483648->WgAt ty J.f b.a (e*KK) 0 ->
 (e=B->∃a,aq P f g b.a=.go a (b.a.setCell (stA J.f) (.int .u64 (e*KK+1))) #[rd (stA J.f),wr (stA J.f)]/\(ds (aj.aG P ty J.f) (dS J.f)) (oT P ty J ad) a {b with a:=b.a.setCell (stA J.f) (.int .u64 (e*KK+1))}) /\
 (e≠B->∃a,aq P f g b.a=.go a b.a #[rd (stA J.f)]/\d a b)
def q'(g:ak)(i:a5):Prop:=g.status=.running/\∀b,(aj.aG P ty J.f).rely i b->∀e:Nat,e<2147483648->WgAt ty J.f b.a (e*KK) 0 ->
 ∃a,aq P f g b.a=.go a b.a #[rd (stA J.f)]/\(e=0->(ds (aj.aG P ty J.f) (dS J.f)) (wJ P ty J ad) a b)/\(e≠0->(ds (aj.aG P ty J.f) (dS J.f)) (z8 P ty J ad d e) a b)
def z5(e:ak)(i:a5):Prop:=e.status=.running/\∃a,(∀g,aq P f e g=.go a g #[mk .disable])/\∀b,(aj.aG P ty J.f).rely i b->d a b
def a5.dx(a:a5):a5:={l:=[],u:=a.u,a:=a.a,own:=λ_=>False}
def wI(g:Nat)(Next:ak->a5->Prop)(e:ak)(i:a5):Prop:=e.status=.running/\∀b,(aj.aG P ty J.f).rely i b ->
 ∃d a,aq P f e b.a=.spawn d a b.a #[]/\a.status=.running/\ds (aj.c6 P) eJ (uh P ty J D val g) a b.dx/\Next d b
def z7(g:Nat)(Next:ak->a5->Prop)(d:ak)(i:a5):Prop:=d.status=.running/\∃a,(∀e,aq P f d e=.go a e #[mk .enable])/\∀b,(aj.aG P ty J.f).rely i b->(ds (aj.aG P ty J.f) (dS J.f)) (wI P ty J D val g Next) a b
def z3(g:Nat)(Next:ak->a5->Prop)(e:ak)(i:a5):Prop:=e.status=.running/\∀a,(aj.aG P ty J.f).rely i a->∀d:Nat,d<2147483647->WgAt ty J.f a.a (d*KK) 0 ->
 ∃b,aq P f e a.a=.go b (a.a.setCell (stA J.f) (.int .u64 ((d+1)*KK))) #[rd (stA J.f),wr (stA J.f)]/\(ds (aj.aG P ty J.f) (dS J.f)) (z7 P ty J D val g Next) b {a with a:=a.a.setCell (stA J.f) (.int .u64 ((d+1)*KK))}
def z6(g:Nat)(Next:ak->a5->Prop)(d:ak)(i:a5):Prop:=d.status=.running/\∃a,(∀e,aq P f d e=.go a e #[mk .disable])/\∀b,(aj.aG P ty J.f).rely i b->(ds (aj.aG P ty J.f) (dS J.f)) (z3 P ty J D val g Next) a b
def oZ:Nat->ak->a5->Prop
 |0,a,b=>(ds (aj.aG P ty J.f) (dS J.f)) (z5 P ty J d) a b
 |e+1,a,b=>(ds (aj.aG P ty J.f) (dS J.f)) (z6 P ty J D val (k-(e+1)) (oZ e)) a b
def cj.ef:cj->cj
 |.leaf=>.node λ_=>.leaf
 |.node a=>.node λb=>cj.ef (a b)
omit [Payload]in
def cj.hk:∀{d b:cj},cj.lt d b->cj.lt d.ef b.ef
 |_,.leaf,a=>a.elim
 |_,.node _,⟨g,a⟩=>⟨g,a.elim (λe=>.inl (by rw[e])) λa=>.inr (cj.hk a)⟩
omit [Payload]in
def cj.jk(a:a5):∀d:cj,∃e,cj.lt e d.ef
 |.leaf=>⟨.leaf,a,.inl rfl⟩
 |.node b=>⟨(b a).ef,a,.inl rfl⟩
inductive hd:CTag->Nat->cj->Nat->ak->a5->Prop
 |ff {a':Nat} {c0:cj} {C:ak} {b:a5}:a'<k->(gy (aj.aG P ty J.f) (dS J.f)) (z6 P ty J D val (k-(a'+1)) (oZ P ty J D val k d a')) c0 C b->hd (.sp a' 5) (k-(a'+1)) c0 0 C b
 |fQ {a':Nat} {c0:cj} {C:ak} {b:a5}:a'<k->(gy (aj.aG P ty J.f) (dS J.f)) (z3 P ty J D val (k-(a'+1)) (oZ P ty J D val k d a')) c0 C b->hd (.sp a' 4) (k-(a'+1)) c0 1 C b
 |fS {a':Nat} {c0:cj} {C:ak} {b:a5}:a'<k->(gy (aj.aG P ty J.f) (dS J.f)) (z7 P ty J D val (k-(a'+1)) (oZ P ty J D val k d a')) c0 C b->hd (.sp a' 3) (k-(a'+1)) c0 1 C b
 |fR {a':Nat} {c0:cj} {C:ak} {b:a5}:a'<k->(gy (aj.aG P ty J.f) (dS J.f)) (wI P ty J D val (k-(a'+1)) (oZ P ty J D val k d a')) c0 C b->hd (.sp a' 2) (k-(a'+1)) c0 0 C b
 |kd {c0:cj} {C:ak} {b:a5}:(gy (aj.aG P ty J.f) (dS J.f)) (z5 P ty J d) c0 C b->hd .kd k c0 0 C b
 |w1 {c0:cj} {C:ak} {b:a5}:(gy (aj.aG P ty J.f) (dS J.f)) (q' P ty J ad d) c0 C b->hd .w1 k c0 1 C b
 |w2 {B:Nat} {c0:cj} {C:ak} {b:a5}:(gy (aj.aG P ty J.f) (dS J.f)) (z8 P ty J ad d B) c0 C b->hd (.w2 B) k c0 1 C b
 |w3 {c0:cj} {C:ak} {b:a5}:(gy (aj.aG P ty J.f) (dS J.f)) (oT P ty J ad) c0 C b->hd .w3 k c0.ef 1 C b
 |blk {c0:cj} {C:ak} {b:a5}:oT P ty J ad C b->hd .blk k c0 1 {C with status:=.blocked} b
 |w4 {c0:cj} {C:ak} {b:a5}:(gy (aj.aG P ty J.f) (dS J.f)) (z9 P ty J ad) c0 C b->hd .w4 k c0 1 C b
 |ke {c0:cj} {C:ak} {b:a5}:(gy (aj.aG P ty J.f) (dS J.f)) (wJ P ty J ad) c0 C b->hd .ke k c0 1 C b
 |acq {c0:cj} {C:ak} {b:a5}:(gy (aj.aG P ty J.f) (dS J.f)) (z4 P ty J ad) c0 C b->hd .acq k c0 0 C b
structure wM(R:Nat->Nat)(t:Nat->Mem)(A:Machine)(q:Trace):Prop where
 hH:∃(gs:Array ak) (Q:au) (dD:Option (Nat×Nat)) (x:ak) (b:a5) (bc:Nat->Nat),A=crowd gs Q dD/\gs[0]?=h x/\gs.size=J.base+k/\ad x {b with a:=Q}/\cU b {b with a:=Q}/\gj J R t k b /\
  Leavers P q gs bc/\Past (jx λj=>J.bC j∨j=J.f) Q.heap.size q/\m5 q/\PayAt J.aj D Q/\(∀o,o<k->∀e,e<J.aQ->Q.cell? ⟨J.aj,J.aQ*o+e,n⟩=h (val o e))/\J.aj<Q.heap.size/\J.f<Q.heap.size/\∀j,J.bC j->j<Q.heap.size
abbrev pU:=Nat×((Nat->cj)×cj)
def k0(a:Nat):pU->pU->Prop:=Prod.Lex (· < ·) (Prod.Lex (wP a) cj.lt)
omit [Payload]in
def aal(bB):WellFounded (k0 bB):=(Prod.lex Nat.lt_wfRel ⟨_,(Prod.lex ⟨wP bB,Na bB⟩ ⟨cj.lt,⟨cj.fr⟩⟩).wf⟩).wf
structure lA(μ:pU)(gs:Array ak)(Q:au)(q:Trace)(R:Nat->Nat)(t:Nat->Mem)(w:Nat)(z:Nat->WD)(O:Nat->Nat)(ar:Nat->cj)(d0:Nat)(tag:CTag)(c0:cj)(x:ak)(b:a5)(b8 oL:Int):Prop where
 dw:gs[0]?=h x
 dy:hd P ty J D val k ad d tag w c0 d0 x b
 rely:cU b {b with a:=Q}
 aG:gj J R t w b
 ai:ih P ty J D val R t w gs Q q z O ar d0
 bZ:WgAt ty J.f Q b8 oL
 mode:Go.ConcN.Mode w z tag b8 oL
 eG:μ=(phi k (Vc w z) tag+Ssum w z+sumTo w O,(ar,c0))
def fa(p:pU)(r:Machine)(v:Trace):Prop:=
 ∃(a:Array ak) (i:au) (dD:Option (Nat×Nat)) (t:Nat->Nat) (s:Nat->Mem) (q:Nat) (z:Nat->WD) (O:Nat->Nat) (j:Nat->cj) (o:Nat) (tag:CTag) (b:cj) (m:ak) (u:a5) (g e:Int),
  r=crowd a i dD/\lA P ty J D val k ad d p a i v t s q z O j o tag b m u g e
end
section
variable {P:aI}{ty:av}{J:hE}{D:Nat}{val:Nat->Nat->Z}{k:Nat}{ad d:ak->a5->Prop}{R ek:Nat->Nat}{t:Nat->Mem}{tag:CTag}{c0:cj}{I:Nat}{x:ak}{Q:au}
omit [Payload]in
def mE(d:cU b {b with a:=Q})(a:WgLive ty J.f Q):(aj.aG P ty J.f).rely b {b with a:=Q}:=⟨d,λ_=>a⟩
omit [Payload]in
def oT.rely{s}(a:oT P ty J ad C b)(g:(aj.aG P ty J.f).rely b s):oT P ty J ad C s:=
 ⟨a.1,a.2.1,λd e=>a.2.2 d ⟨g.1.trans e.1,λi=>e.2 (g.2 i)⟩⟩
def hd.status(a:hd P ty J D val k ad d tag w c0 I x b):(x.status=.running/\tag≠.blk)∨(x.status=.blocked/\tag=.blk):=by
 cases a with
 |ff _ a=>exact .inl ⟨a.run λ_ _ e=>e.1,by simp⟩
 |fQ _ a=>exact .inl ⟨a.run λ_ _ e=>e.1,by simp⟩
 |fS _ a=>exact .inl ⟨a.run λ_ _ e=>e.1,by simp⟩
 |fR _ a=>exact .inl ⟨a.run λ_ _ e=>e.1,by simp⟩
 |kd a=>exact .inl ⟨a.run λ_ _ e=>e.1,by simp⟩
 |w1 a=>exact .inl ⟨a.run λ_ _ e=>e.1,by simp⟩
 |w2 a=>exact .inl ⟨a.run λ_ _ e=>e.1,by simp⟩
 |w3 a=>exact .inl ⟨a.run λ_ _ e=>e.1,by simp⟩
 |blk a=>grind
 |w4 a=>exact .inl ⟨a.run λ_ _ e=>e.1,by simp⟩
 |ke a=>exact .inl ⟨a.run λ_ _ e=>e.1,by simp⟩
 |acq a=>exact .inl ⟨a.run λ_ _ e=>e.1,by simp⟩
def hd.h3(o:hd P ty J D val k ad d tag w c0 I x b)(C i)(bi):
  ∃a m,hd P ty J D val k ad d a w m I (woken P C i bi x) b/\(a=tag∨(tag=.blk/\a=.w3))/\(mayWake P C=f->i.status=.running->a≠.blk):=by
 unfold Go.Conc.woken;split
 .rcases o.status with⟨e,j⟩|⟨_,rfl⟩
  .grind [again_running]
  cases o with
  |blk g=>exact⟨.w3,cj.ef .leaf,by rw[again_blocked g.1 g.2.1];exact .w3 (show gy _ _ _ .leaf _ _ from g),.inr ⟨rfl,rfl⟩,λ_ _=>by simp⟩
 grind
def wj{W:pU}{dD:Option (Nat×Nat)}{ax:Trace}{z:Nat->WD}{O:Nat->Nat}{X:Nat->cj}{aw av:Int}(q:lA P ty J D val k ad d W gs Q ax R t w z O X I tag c0 x b aw av){g:Nat}(Y:g<w){p:ak}{o:Array aT}{m i j:Nat}{v:cj}{ae G:Int}(ao:gs[J.base+g]?=h C)(E:aq P l C Q=.go p bi o)(F:∀ag,ag<Q.heap.size->ek ag=R ag)(S:Q.heap.size<=bi.heap.size)(aG:∀ab,ab<w->ab≠g->lC J R (t ab) ab Q bi)(aE:rh J R Q bi)(aK:hF P ty J D val ek t g m i v j p bi)(L:∀A∈o,(aO A).low bi.heap.size)(T:∀A∈o,∀x,(aO A).touch?=h x->x.loc.isMemory=f->n0 J ek (t g) g x)(N:∀A∈o,∀x,A.loc≠.mark (.release x))(aF:deafBehind (z g).deaf o=j)(aN:i<=6->∃aS,RelBy (stA J.f) (ax++MemOp.ofEvents (J.base+g) C.frame.fn C.frame.place o) (J.base+g) aS)(an:m=0->∀Z,1<=Z->Z<J.aQ->bi.cell? ⟨J.aj,J.aQ*g+Z,n⟩=h (val g Z))(aj:i<=6->Has J.aj (J.aQ*g) (val g 0) bi)(aI:PayAt J.aj D bi)(az:WgAt ty J.f bi ae G)(H:∀e,(e=tag∨(tag=.blk/\e=.w3))->(mayWake P C=f->p.status=.running->e≠.blk)->Go.ConcN.Mode w (upd z g ⟨i,0,j⟩) e ae G)(a:(i+m<(z g).stage+O g/\cnt ⟨i,0,j⟩<=cnt (z g))∨(i=(z g).stage/\m=O g/\cj.lt v (X (J.base+g))))(aA:J.base+w<=J.base+k):
  ∃aD r u,runT P (crowd gs Q dD) (J.base+g)=(.next aD,r)/\k0 (J.base+k) u W/\fa P ty J D val k ad d u aD (ax++r):=by
 have aR:=q.ai.br.base;obtain⟨e,s,aJ,aB,V⟩:=q.dy.h3 C p bi;have K:(J.base+g==0)=l:=M;have aH:=runT_crowd_go (P:=P) (sl:=dD) (i:=J.base+g) ao (by rw[K];exact E)
 have aL:=Go.ConcN.sumTo_upd z (⟨i,0,j⟩:WD) cnt Y;have aM:=Go.ConcN.sumTo_upd z (⟨i,0,j⟩:WD) WD.stage Y;have aP:sumTo w (upd O g m)+O g=sumTo w O+m:=Go.ConcN.sumTo_upd O m id Y;refine⟨_,_,(phi k (Vc w (upd z g ⟨i,0,j⟩)) e+Ssum w (upd z g ⟨i,0,j⟩)+sumTo w (upd O g m),(upd X (J.base+g) v,s)),aH,?_,
  _,bi,dD,ek,t,w,_,_,_,I,e,s,woken P C p bi x,b,ae,G,rfl,⟨by rw[Go.ConcN.get_map_set _ _ _ _ y,q.dw];rfl,aJ,q.aG.dh q.rely aE,q.aG.eL q.rely.size F,
   q.ai.aV Y F S aG aK L T N aF aN an aj aI ⟨_,_,az⟩,az,H e aB V,rfl⟩⟩
 rw[q.eG,Go.ConcN.phi_retag k _ aB];simp only[Vc,Ssum]at *;rcases a with⟨au,DK⟩|⟨au,DK,tv⟩
 .refine Prod.Lex.left _ _ ?_;have:=Go.ConcN.phi_mono k (v':=sumTo w λx=>cnt (upd z g ⟨i,0,j⟩ x)) (v:=sumTo w λx=>cnt (z x)) y tag;omega
 have aQ:cnt (⟨i,0,j⟩:WD)=cnt (z g):=ht;have ai:(sumTo w λx=>cnt (upd z g ⟨i,0,j⟩ x))=sumTo w λx=>cnt (z x):=y;have B:(sumTo w λx=>(upd z g ⟨i,0,j⟩ x).stage)=sumTo w λx=>(z x).stage:=y;have ah:sumTo w (upd O g m)=sumTo w O:=y;rw[ai,B,ah];exact Prod.Lex.right _ (Prod.Lex.left _ _ ⟨J.base+g,by omega,by rw[upd_same];exact tv,λaU ar=>upd_ne X _ ar⟩)
end
end
section
open Go.Conc
open Go.ConcN (WD CTag Vc Ssum pend phi cnt WgLive PayAt Has RW DWs WSit RelBy sumTo upd upd_same upd_ne AtR0 isW3 isOpen OpenSt deafBehind_idle bk_cell okW_none Vc_upd Vc_le le_sumTo others_uncounted)
open Go.ConcR (KK WgAt stA smA rd wr mk Payload g_of_ofEvents Bk bk_of_mute ofEvent_loc_mark ofEvent_cell)
variable [Payload]
section
variable {J:hE}{ad G:ak->a5->Prop}{W ek:Nat->Nat}{me:Nat->Mem}{tag:CTag}{c0:cj}{I:Nat}{x:ak}{Q:au}
omit [Payload]in
def lC.bZ(b:Aside J.f Q bi)(m:W J.f=0)(p:1<=J.base)(g:∀a d i,me w a d=h i->a≠J.f)(e:J.aj≠J.f):lC J W (me w) w Q bi:=
 ⟨by rw[b.size];grind,λa _ j=>b.block a (λo=>by grind),λa d i H k=>by rw[nd (b.block a (g a d i H))];exact k,λd _ _=>nd (b.block _ e) d,b.os,b.tape,b.output⟩
omit [Payload]in
def rh.bZ(a:Aside J.f Q bi):rh J W Q bi:=⟨by rw[a.size];grind,λb _ _ _ d=>a.block b d,a.os,a.tape,a.output⟩
omit [Payload]in
def rh.refl(Q):rh J W Q Q:=⟨bC _,λ_ _ _ _ _=>rfl,rfl,rfl,rfl⟩
omit [Payload]in
def Gw{d}{b:Array aT}(j:∀a∈b,Bk J.f a)(k:J.f<d):∀a∈b,(aO a).low d:=by
 intro a i;rcases j a i with g|g|⟨e,wr,rfl,m⟩
 .rw[ofEvent_loc_mark g];trivial
 .rw[ofEvent_loc_mark g];trivial
 rw[ofEvent_cell];show e.block<d;grind
omit [Payload]in
def Sf{o}{e:Array aT}(p:∀d∈e,Bk J.f d):∀d∈e,∀g,(aO d).touch?=h g->g.loc.isMemory=f->n0 J W (me o) o g:=by
 intro d m q b _;rcases p d m with j|j|⟨i,wr,rfl,k⟩
 .rw[ofEvent_loc_mark j]at b;cases b
 .rw[ofEvent_loc_mark j]at b;cases b
 rw[ofEvent_cell]at b;simp[MemAct.touch?,eU]at b;subst b;exact .inl ⟨i,a,k,a⟩
omit [Payload]in
def Gx{b:Array aT}(i:∀a∈b,Bk J.f a):∀a∈b,∀d,a.loc≠.mark (.release d):=by
 intro a g d j;rcases i a g with k|k|⟨e,wr,rfl,_⟩
 .grind
 .grind
 grind
omit [Payload]in
def aeA{o}{b3}{T}(v:ho W (me o) (J.base+o) b)(u:bb p b)(y:dt b T)(r:cN p b ao b3):
  (∀e∈T,(aO e).low b3.a.heap.size)/\(∀e∈T,∀k,(aO e).touch?=h k->k.loc.isMemory=f->n0 J (lW W b.a.heap.size (J.base+o)) (me o) o k) /\
  (∀e∈T,e.loc≠.mark .disable/\e.loc≠.mark .enable)/\∀e∈T,∀k,e.loc≠.mark (.release k):=by
 have key:∀e∈T,(aO e).low b3.a.heap.size/\(∀k,(aO e).touch?=h k->k.loc.isMemory=f->n0 J (lW W b.a.heap.size (J.base+o)) (me o) o k)/\(e.loc≠.mark .disable/\e.loc≠.mark .enable)/\∀k,e.loc≠.mark (.release k):=by
  intro e A;have m:=y e A;obtain⟨loc,wr,C⟩:=e;cases loc with
  |cell g=>
   obtain⟨q,t,d⟩:=m;simp only at q t d;subst q;have s:g.block<b.a.heap.size:=by
    rcases d with d|⟨⟨L,aN,d⟩,_⟩|⟨_,x,d⟩
    .exact d.elim
    .exact u.lt L aN _ d
    exact gk.lt u.mem d
   refine⟨by rw[ofEvent_cell];exact eA s r.size,λj i _=>?_,⟨by simp,by simp⟩,by simp⟩;rw[ofEvent_cell]at i;simp[MemAct.touch?,eU]at i;subst i;refine .inr ⟨a,?_⟩;rcases d with d|⟨⟨L,aN,d⟩,_⟩|⟨z,x,d⟩
   .exact d.elim
   .exact .inl ⟨g.block,a,by rw[li s];exact(v.blk _ (.inr ⟨L,aN,d⟩)).1⟩
   rcases(v.u _ _ _ d).1 with w|w
   .exact .inl ⟨g.block,a,by grind[li]⟩
   refine .inr (.inr ⟨z,g.block,g.off,x,?_,w⟩);obtain⟨j,F,sp⟩:=g;grind
  |obj B=>
   obtain⟨q,t⟩:=m;simp only at q t;subst q;obtain⟨L,aN,d⟩:=t.resolve_left id;have s:=u.lt L aN _ d;refine⟨?_,λj i _=>?_,⟨by simp,by simp⟩,by simp⟩
   .simp[aO,MemAct.low,Loc.low];exact eA s r.size
   simp[aO,MemAct.touch?]at i;subst i;exact .inr ⟨a,.inl ⟨B,a,by rw[li s];exact(v.blk _ (.inr ⟨L,aN,d⟩)).1⟩⟩
  |mark E=>
   simp[h4]at m;rcases m with rfl|⟨D,rfl⟩
   .exact Qz
   exact Qz
  |_=>exact m.elim
 grind
def acT{a8}{dD}{q}{z:Nat->WD}{O:Nat->Nat}{b5:Nat->cj}{b8 oL}(i:lA P ty J D val k ad G a8 gs Q q W me w z O b5 I tag c0 x b b8 oL)(cv:k<2147483648)(cu:w<=k)(cb:w+pend tag<=k){o}(g5:o<w)(a2:gs[J.base+o]?=h C)(a3:C.status=.running):
  ∃p K R,runT P (crowd gs Q dD) (J.base+o)=(.next p,K)/\k0 (J.base+k) R a8/\fa P ty J D val k ad G R p (q++K):=by
 have bb:=i.ai.br.base;obtain⟨br,bP,a4⟩:=i.ai.c5 o g5;obtain rfl:C=br:=M;generalize X:(z o).stage=aL at a4;generalize bj:b5 (J.base+o)=b3 at a4;generalize a1:(z o).deaf=aA at a4;generalize aR:O o=cn at a4;have bg:Deaf q (J.base+o)=aA:=by rw[i.ai.dA o g5,a1]
 have b7:=Vc_le w z;have same:∀u r,Go.ConcN.Mode w (upd z o ⟨aL,u,r⟩) tag b8 oL:=λu r=>by have:=i.mode.same (i:=o) u r;grind
 cases a4 with
 |@c7 b3 C aV Q bx aW bQ=>
  rcases bx.bf (λaV=>cU aV {aV with a:=Q}/\ho W (me o) (J.base+o) aV) (λaV v aD aI=>⟨aI.1.aU aD,aI.2.aU aD⟩) (λ_ aV v aD aI=>⟨aI.1.b2 aD,aI.2.b2 aD⟩) ⟨aW,bQ⟩with⟨v,⟨k1,bO⟩,g⟩|⟨_,v,⟨k1,bO⟩,e⟩
  ·
   obtain⟨j,w2,T,d,az,bh,bz,ag⟩:=g.2 Q k1 i.ai.bR i.ai.cV;have b_:=i.ai.aQ;refine wj i g5 a2 d (ek:=W) (λ_ _=>rfl) (by rw[az.size];grind) (λa' aS bn=>⟨by rw[az.size];grind,λY _ aQ=>az.block Y (λai=>by rw[ai,i.ai.br.c_]at aQ;omega),λY aU ao H bS=>?_,λaU bl bm=>az.hH aU ?_,az.os,az.tape,az.output⟩)
    ⟨by rw[az.size];grind,λY _ _ aW _=>az.block Y aW,az.os,az.tape,az.output⟩ (.rel ag) (λai s=>?_) (λai s Y aQ _=>?_) (λai s=>?_) ?_ (λt=>absurd t ca) (λ_ b2 _ aI=>az.new b2 aI) (λt=>absurd t ca) az.bR
    (i.bZ.of_block (az.block _ (p_ i.ai.br.b3))) (λ_ aj _=>(same _ _).retag aj) (.inl ⟨by omega,by simp[cnt,X]⟩) y
   .rw[nd (az.block Y (i.ai.br.bF a' aS Y aU ao H).2.1)];exact bS
   .rcases Nat.lt_or_gt_of_ne bn with t|t
    .have:=wW J.aQ (show a'+1<=o from t);grind
    have:=wW J.aQ (show o+1<=a' from t);grind
   .obtain⟨aU,rfl,_⟩:=bh ai s;rw[ofEvent_cell];show J.aj<_;rw[az.size];exact i.ai.cw
   .obtain⟨aU,rfl,bl,bm⟩:=bh ai s;rw[ofEvent_cell]at aQ;simp[MemAct.touch?,eU]at aQ;subst aQ;exact .inr ⟨a,.inr (.inl ⟨aU,a,bl,bm⟩)⟩
   .grind
   rw[a1];exact deafBehind_idle (λai s=>by grind) 0
  ·
   obtain⟨j,b4,T,cx,d,bF,bL,bR⟩:=e _ k1;obtain⟨⟨cy,ck,cl,bk,A⟩,cg⟩:=bF.resolve_right id;have bw:ho W (me o) (J.base+o) {v with a:=Q}:=bO.rely k1.size;obtain⟨aG,aH,bq,bV⟩:=aeA bw cl cg A;have Z:∀Y,Y<Q.heap.size->W Y≠J.base+o->b4.a.heap[Y]?=Q.heap[Y]?:=λY aQ bJ=>A.a6 Y aQ λL aN bD=>bJ (bw.blk Y (.inr ⟨L,aN,bD⟩)).1;refine wj i g5 a2 d (ek:=lW W Q.heap.size (J.base+o)) (λY aQ=>li aQ) A.size (λa' aS bn=>⟨A.size,λY aQ b9=>Z Y aQ y,λY aU ao H bS=>?_,λaU _ _=>nd (Z _ i.ai.cw (by rw[i.ai.br.c_];omega)) aU,A.os,A.tape,A.output⟩)
    ⟨A.size,λY aQ cq _ _=>Z Y aQ y,A.os,A.tape,A.output⟩ (.c7 bL (cU.eo bk.mem) (bw.step bk A)) aG aH bV (by rw[a1];exact deafBehind_idle bq 0) (λt=>absurd t ca) (λt=>absurd t ca) (λt=>absurd t ca) ?_
    (i.bZ.of_block (Z _ i.ai.ck (by rw[i.ai.br.cG];omega))) (λ_ aj _=>(same _ _).retag aj) (.inr ⟨X.symm,aR.symm,by grind⟩) y
   .rw[nd (Z Y (i.ai.dE a' aS Y aU ao H) (by rw[(i.ai.br.bF a' aS Y aU ao H).1];omega))];exact bS
   obtain⟨bp,bT,bU⟩:=i.ai.bR;exact⟨bp,(Z _ i.ai.cw (by rw[i.ai.br.c_];omega)).trans bT,bU⟩
 |@rel bz C Q t=>
  rcases Goes.cases t with g|⟨u,rfl,e⟩
  ·
   obtain⟨_,bX,j,d,ax,ag⟩:=g Q (Go.ConcN.RW.refl Q);refine wj i g5 a2 d (ek:=W) (λ_ _=>rfl) (bC _) (λa' _ _=>.refl ..) (.refl Q) (.tail ca (.k1 ag)) (λai s=>?_) (λai s Y aQ _=>?_) (λai s=>?_) ht (λ_=>⟨q.size,RelBy.new bg _ _⟩) (λ_=>i.ai.dj o g5 aR) (λ_=>by grind) i.ai.bR i.bZ
    (λ_ aj _=>(i.mode.counted g5 y (.inl a) _ _).retag aj) (.inl ⟨by omega,by simp[cnt,X]⟩) y
   .simp at s;subst s;exact i.ai.ck
   .simp at s;subst s;exact cQ
   simp at s;subst s;simp[mk]
  obtain⟨j,N,T,d,⟨rfl,rfl⟩,F⟩:=e Q (Go.ConcN.RW.refl Q);exact wj i g5 a2 d (ek:=W) (λ_ _=>rfl) (bC _) (λa' _ _=>.refl ..) (.refl N) (.rel F) E E E cQ (λt=>absurd t ca) (λ_=>i.ai.dj o g5 aR) (λt=>absurd t ca) i.ai.bR i.bZ (λ_ aj _=>(same _ _).retag aj)
   (.inr ⟨X.symm,aR.symm,by rw[bj];exact cj.gu _ b⟩) y
 |@tail aL bz aA C Q bW t=>
  have aM:∀{j:ak} {N:au} {T:Array aT} {v u r:Nat} {av ar:Int},aq P l C Q=.go j N T->Aside J.f Q N->WgAt ty J.f N av ar->(∀ai∈T,Bk J.f ai) ->
    (∀hO ai,T[hO]?=h ai->(aO ai).touch?=n∨0<deafBehind aA (T.extract 0 hO))->v<=6->WSit P ty J.f J.aj D pW pW 0 (J.aQ*o+1) (val o 0) v u r j N->deafBehind aA T=r ->
    (∀S,(S=tag∨(tag=.blk/\S=.w3))->(mayWake P C=f->j.status=.running->S≠.blk)->Go.ConcN.Mode w (upd z o ⟨v,0,r⟩) S av ar)->((v<aL/\cnt ⟨v,0,r⟩<=cnt (z o))∨(v=aL/\u+1=bz)) ->
    ∃p K R,runT P (crowd gs Q dD) (J.base+o)=(.next p,K)/\k0 (J.base+k) R a8/\fa P ty J D val k ad G R p (q++K):=by
   intro j N T v u r av ar d V aK ab bu a5 aE bf ah bR;obtain⟨bp,bs,bt⟩:=i.ai.bR;refine wj i g5 a2 d (ek:=W) (λ_ _=>rfl) (by rw[V.size];grind) (λa' aS _=>.bZ V i.ai.br.cG bb (λY aU ao H=>(i.ai.br.bF a' aS Y aU ao H).2.2.1) i.ai.br.b3) (.bZ V) (.tail a5 aE) (Gw ab (by rw[V.size];exact i.ai.ck)) (Sf ab) (Gx ab) M
    (λ_=>let ⟨b3,bZ⟩:=i.ai.rel o g5 y;⟨b3,bZ.book bg _ _ ab bu⟩) (λ_ b2 bG bH=>(nd (V.block _ i.ai.br.b3) _).trans (i.ai.dj o g5 aR b2 bG bH)) (λ_=>(nd (V.block _ i.ai.br.b3) _).trans (i.ai.dO o g5 y)) ⟨bp,(V.block _ i.ai.br.b3).trans bs,bt⟩ aK ah
    (bR.imp (λt=>⟨by omega,t.2⟩) λt=>⟨by omega,aR.symm,by rw[bj,<-t.2];exact cj.gu _ b⟩) y
  have book:∀{j:ak} {N:au} {T:Array aT} {v u r:Nat} {av ar:Int},aq P l C Q=.go j N T->Aside J.f Q N->WgAt ty J.f N av ar->(∀ai∈T,Bk J.f ai) ->
    (∀hO ai,T[hO]?=h ai->(aO ai).touch?=n∨0<deafBehind aA (T.extract 0 hO))->v<=6->WSit P ty J.f J.aj D pW pW 0 (J.aQ*o+1) (val o 0) v u r j N->deafBehind aA T=r ->
    Go.ConcN.Mode w (upd z o ⟨v,0,r⟩) tag av ar->((v<aL/\cnt ⟨v,0,r⟩<=cnt (z o))∨(v=aL/\u+1=bz)) ->
    ∃p K R,runT P (crowd gs Q dD) (J.base+o)=(.next p,K)/\k0 (J.base+k) R a8/\fa P ty J D val k ad G R p (q++K):=
   λd V aK ab bu a5 aE bf ah bR=>aM d V aK ab bu a5 aE bf (λ_ aj _=>ah.retag aj) bR
  have an:∀{j:ak} {u:Nat},aq P l C Q=.go j Q #[]->WSit P ty J.f J.aj D pW pW 0 (J.aQ*o+1) (val o 0) aL u aA j Q->u+1=bz ->
    ∃p K R,runT P (crowd gs Q dD) (J.base+o)=(.next p,K)/\k0 (J.base+k) R a8/\fa P ty J D val k ad G R p (q++K):=by intro j u d aE W;exact book d (.refl J.f Q) i.bZ E E bW aE a (same _ _) (.inr ⟨a,W⟩)
  cases t with
  |r0 t=>omega
  |k1 t=>
   rcases Goes.cases t with g|⟨u,rfl,e⟩
   .obtain⟨_,j,d,ax,ag⟩:=g Q (Go.ConcN.RW.refl Q);exact book d (.refl J.f Q) i.bZ (by intro ai s;simp at s;subst s;exact .inl a) (by intro hO ai s;exact .inl (by have:=uw s;simp at this;exact ht)) ca (.d1 ag) a (i.mode.counted g5 y (.inr a) _ _) (.inl ⟨by omega,by simp[cnt,X]⟩)
   obtain⟨j,N,T,d,⟨rfl,rfl⟩,F⟩:=e Q (Go.ConcN.RW.refl Q);exact an d (.k1 F) a
  |d1 t=>
   rcases Goes.cases t with g|⟨u,rfl,e⟩
   .obtain⟨_,a0⟩:=g Q (Go.ConcN.RW.refl Q);have m:=i.bZ;have aw:=i.mode;have bE:cnt (z o)=1:=by simp[cnt,X]
    have b6:1<=Vc w z:=by have:=le_sumTo (f:=λo=>cnt (z o)) g5;simp[Vc];omega
    have aX:∀ai∈#[rd (stA J.f),wr (stA J.f)],Bk J.f ai:=by intro ai s;simp at s;rcases s with rfl|rfl<;>exact bk_cell _ _ rfl
    have aZ:∀hO ai,(#[rd (stA J.f),wr (stA J.f)]:Array aT)[hO]?=h ai->(aO ai).touch?=n∨0<deafBehind 1 ((#[rd (stA J.f),wr (stA J.f)]:Array aT).extract 0 hO):=by
     intro hO ai s
     match hO,s with
     |0,_=>exact .inr ae1
     |1,_=>exact .inr (by simp[deafBehind,rd])
     |hO+2,s=>simp at s
    have cc:∀a_,cnt (⟨1,a_,1⟩:WD)=0:=λ_=>rfl;have bo:∀a_,OpenSt w z->OpenSt w (upd z o ⟨1,a_,1⟩):=λa_ t x bd=>by
     by_cases ai:x=o
     .subst ai;exact wq
     rw[upd_ne z _ ai];exact t x bd
    generalize b1:b8=cf at aw m;generalize b0:oL=cd at aw m;cases aw with
    |opn bx aW bQ=>
     obtain⟨ao,H⟩:∃ao,Vc w z+pend tag=ao+1:=⟨Vc w z+pend tag-1,by omega⟩
     rw[H]at m;have a6:WgAt ty J.f Q (((ao:Nat)+1)*KK+((0:Nat):Int)) 0:=M;obtain⟨j,d,_,aa⟩:=a0 ao 0 y y a6;obtain⟨a_,aa⟩:=aa y;have bM:Vc w (upd z o ⟨1,0,1⟩)+pend tag=ao:=Nu;refine book d (aside_setCell Q (stA J.f) _) (m.setSt _) aX aZ ca (.quit aa) a ?_ (.inl ⟨by omega,by grind⟩);have ai:((ao:Nat):Int)*KK+((0:Nat):Int)=((Vc w (upd z o ⟨1,0,1⟩)+pend tag:Nat):Int)*KK:=M;rw[ai];exact .opn bx (bo 0 aW) (λB cp=>by grind)
    |reg bx aW bQ=>
     obtain⟨ao,H⟩:∃ao,Vc w z=ao+1:=⟨Vc w z-1,by omega⟩
     rw[H]at m;have cw:pend tag=0:=by cases tag<;>first|rfl|exact bx.elim
     have a6:WgAt ty J.f Q (((ao:Nat)+1)*KK+((1:Nat):Int)) 0:=M;obtain⟨j,d,bY,aa⟩:=a0 ao 1 y y a6;by_cases bN:ao=0
     .subst bN;obtain⟨ax,ag⟩:=bY ⟨rfl,rfl⟩;refine book d (aside_setCell Q (stA J.f) _) (m.setSt _) aX aZ ca (.d2 ag) a ?_ (.inl ⟨by omega,by simp[cnt]⟩);have aJ:∀x,x<w->x≠o->(z x).stage=1:=λx bd ai=>by have bB:=others_uncounted g5 H bE x bd ai;have:=aW x bd;simp only[cnt]at bB;split at bB<;>omega
      have:=Go.ConcN.Mode.last (j:=w) (D:=upd z o ⟨4,0,1⟩) (tag:=tag) o bx g5 wq (λx bd ai=>by rw[upd_ne z _ ai];grind);rw[upd_same]at this;grind
     obtain⟨a_,aa⟩:=aa y;have bM:Vc w (upd z o ⟨1,0,1⟩)=ao:=Nu;refine book d (aside_setCell Q (stA J.f) _) (m.setSt _) aX aZ ca (.quit aa) a ?_ (.inl ⟨by omega,by grind⟩);have ai:((ao:Nat):Int)*KK+((1:Nat):Int)=((Vc w (upd z o ⟨1,0,1⟩):Nat):Int)*KK+1:=M;rw[ai];exact .reg bx (bo 0 aW) y
    |last L _ aW bQ cz=>
     grind
    |sema aW=>have:=aW o g5;omega
    |fin _ aW=>have:=aW o g5;omega
   obtain⟨j,N,T,d,⟨rfl,rfl⟩,F⟩:=e Q (Go.ConcN.RW.refl Q);exact an d (.d1 F) a
  |d2 t=>
   rcases Goes.cases t with g|⟨u,rfl,e⟩
   .obtain⟨_,aF⟩:=g Q (Go.ConcN.RW.refl Q);obtain⟨aB,aJ,aG,aH⟩:=i.mode.isLast g5 y;have m:=i.bZ;rw[aG,aH,X]at m;obtain⟨j,d,ax,ag⟩:=aF M;refine book d (.refl J.f Q) m Re Q4 ca (.d3 ag) a ?_ (.inl ⟨by omega,by simp[cnt]⟩);have:=Go.ConcN.Mode.last (j:=w) (D:=upd z o ⟨3,0,1⟩) (tag:=tag) o aB g5 wq (λx bd ai=>by rw[upd_ne z _ ai];grind);rw[upd_same]at this;grind
   obtain⟨j,N,T,d,⟨rfl,rfl⟩,F⟩:=e Q (Go.ConcN.RW.refl Q);exact an d (.d2 F) a
  |d3 t=>
   rcases Goes.cases t with g|⟨u,rfl,e⟩
   .obtain⟨_,aF⟩:=g Q (Go.ConcN.RW.refl Q);obtain⟨aB,aJ,aG,aH⟩:=i.mode.isLast g5 y;have m:=i.bZ;rw[aG,aH,X]at m;obtain⟨j,d,ax,ag⟩:=aF M;refine book d (aside_setCell Q (stA J.f) _) (m.setSt 0) Re Q4 ca (.d4 ag) a ?_ (.inl ⟨by omega,by simp[cnt]⟩);have:=Go.ConcN.Mode.last (j:=w) (D:=upd z o ⟨2,0,1⟩) (tag:=tag) o aB g5 wq (λx bd ai=>by rw[upd_ne z _ ai];grind);rw[upd_same]at this;grind
   obtain⟨j,N,T,d,⟨rfl,rfl⟩,F⟩:=e Q (Go.ConcN.RW.refl Q);exact an d (.d3 F) a
  |d4 t=>
   rcases Goes.cases t with g|⟨u,rfl,e⟩
   .obtain⟨_,bI,aF⟩:=g Q (Go.ConcN.RW.refl Q);obtain⟨aB,aJ,aG,aH⟩:=i.mode.isLast g5 y;have m:=i.bZ;rw[aG,aH,X]at m;obtain⟨j,d,a_,aa⟩:=aF M;have bc:j.status=.running:=by
     cases a_ with
     |zero=>exact absurd aa.2 ca
     |succ a_=>exact aa.elim (λo=>absurd o.2 ca) (λo=>o.1)
    refine aM d (aside_setCell Q (smA J.f) _) (m.setSm 1) (T:=semEvents (smA J.f)) ?_ ?_ ca (.quit aa) cQ ?_ (.inl ⟨by omega,by simp[cnt]⟩)
    .intro ai s;simp[semEvents]at s;rcases s with rfl|rfl|rfl|rfl
     .exact .inl a
     .exact bk_cell _ _ a
     .exact bk_cell _ _ a
     exact .inr (.inl a)
    .intro hO ai s
     match hO,s with
     |0,s=>simp[semEvents]at s;subst s;exact .inl a
     |1,_=>exact .inr NQ
     |2,_=>exact .inr NQ
     |3,s=>simp[semEvents]at s;subst s;exact .inl a
     |hO+4,s=>simp[semEvents]at s
    intro S aj cm;have b':=cm bI bc;have bq:S=.w3:=by
     rcases aj with rfl|⟨_,rfl⟩
     .cases S<;>first|rfl|exact aB.elim|grind
     simp
    subst bq;simp only[dH];exact .sema λx bd=>by
     by_cases ai:x=o
     .subst ai;rw[upd_same]
     rw[upd_ne z _ ai];grind
   obtain⟨j,N,T,d,⟨rfl,rfl⟩,F⟩:=e Q (Go.ConcN.RW.refl Q);exact an d (.d4 F) a
  |quit t=>
   cases bz with
   |zero=>rw[t.1]at a3;cases a3
   |succ a_=>
    rcases t with⟨cr,_⟩|⟨_,j,T,aP,e,aa⟩
    .grind
    have ab:∀ai∈T,Bk J.f ai:=λai s=>bk_of_mute (aP ai s);have bK:∀hO ai,T[hO]?=h ai->(aO ai).touch?=n∨0<deafBehind aA (T.extract 0 hO):=λhO ai s=>.inl (touch_mute (aP ai (uw s)));exact book (e Q) (.refl J.f Q) i.bZ ab bK ca (.quit aa) a (same _ _) (.inr ⟨a,a⟩)
end
end
section
open Go.Conc
open Go.ConcN (WD CTag Vc Ssum pend phi cnt WgLive PayAt Has RW DWs WSit RelBy sumTo upd upd_same upd_ne AtR0 isW3 isOpen OpenSt deafBehind_idle bk_cell okW_none Vc_upd Vc_le le_sumTo others_uncounted sumTo_upd_out bk_dis bk_en bk_rd bk_rw bk_sem allQuit_of exists_counted)
open Go.ConcR (KK WgAt stA smA rd wr mk Payload g_of_ofEvents Bk bk_of_mute ofEvent_loc_mark ofEvent_cell ofEvent_mk)
variable [Payload]
section
variable {J:hE}{ad i:ak->a5->Prop}{d ek:Nat->Nat}{cL G:Nat->Mem}{tag:CTag}{c0:cj}{I:Nat}{x:ak}{Q:au}{de:pU}{dD:Option (Nat×Nat)}{q:Trace}{z:Nat->WD}{O:Nat->Nat}{ar:Nat->cj}{b8 oL:Int}
omit [Payload]in
def fz.congr{j}(b:fz J d cL q w j)(k:∀i,i<w->G i=cL i):fz J d G q w j:=
 ⟨b.base,b.cG,b.c_,b.b3,b.dW,b.eu,b.er,λe H=>by rw[k e H];exact b.bF e H,b.bO,b.ej,b.seen,b.old,b.ea,b.eJ,λo m g a d=>(b.new o m g a d).imp id λ⟨e,H,p,r⟩=>⟨e,H,p,by grind⟩,
  λe H=>by rw[k e H];exact b.ei e H,b.over⟩
def hF.congr{o x b8 I}{e}(i:hF P ty J D val d cL o x b8 e I C Q)(k:G o=cL o):hF P ty J D val d G o x b8 e I C Q:=by
 cases i with
 |c7 a g j=>exact .c7 a g M
 |rel a=>exact .rel a
 |tail b a=>exact .tail b a
def ih.congr{k}(a:ih P ty J D val d cL w gs Q q z O ar k)(e:∀b,b<w->G b=cL b):ih P ty J D val d G w gs Q q z O ar k:=
 ⟨a.size,a.dn,a.above,λi H=>let ⟨C,m,j⟩:=a.c5 i H;⟨C,m,j.congr (e i H)⟩,a.br.congr e,a.dT,a.dz,a.dA,a.rel,a.dj,a.dO,a.bR,a.cV,a.ck,a.cw,a.dm,a.aQ,λb g=>by rw[e b g];exact a.dE b g⟩
omit [Payload]in
def Z'{b3}{T}(D:gj J d cL w b)(R:bb p b)(aN:dt b T)(A:cN p b ao b3):
  (∀g∈T,(aO g).low b3.a.heap.size)/\(∀g∈T,∀e,(aO g).touch?=h e->e.loc.isMemory=f->o0 J (lW d b.a.heap.size 0) e) /\
  (∀g∈T,∀e,(aO g).touch?=h e->e.kind=.plain->e.write=f->∀o,o<w->∀j m u,e.loc=.cell ⟨j,m,n⟩->cL o j m≠h u) /\
  (∀g∈T,g.loc≠.mark .disable/\g.loc≠.mark .enable)/\∀g∈T,∀e,g.loc≠.mark (.release e):=by
 have key:∀g∈T,(aO g).low b3.a.heap.size/\(∀e,(aO g).touch?=h e->e.loc.isMemory=f->o0 J (lW d b.a.heap.size 0) e) /\
   (∀e,(aO g).touch?=h e->e.kind=.plain->e.write=f->∀o,o<w->∀j m u,e.loc=.cell ⟨j,m,n⟩->cL o j m≠h u)/\(g.loc≠.mark .disable/\g.loc≠.mark .enable)/\∀e,g.loc≠.mark (.release e):=by
  intro g K;have x:=aN g K;obtain⟨loc,wr,Q⟩:=g;cases loc with
  |cell i=>
   obtain⟨B,C,k⟩:=x;simp only at B C k;subst B;have E:i.block<b.a.heap.size/\d i.block=0/\i.block≠J.aj/\i.block≠J.f/\¬J.bC i.block:=by
    rcases k with k|⟨⟨L,I,k⟩,_⟩|⟨_,u,k⟩
    .exact k.elim
    .obtain⟨k1,q,F,r,t⟩:=D.blk _ (.inr ⟨L,I,k⟩);grind
    obtain⟨k1,q,F,r,t⟩:=D.u _ _ _ k;grind
   refine⟨by rw[ofEvent_cell];exact eA E.1 A.size,λj s _=>?_,λj s _ y o H v m u z M=>?_,⟨by simp,by simp⟩,by simp⟩
   .rw[ofEvent_cell]at s;simp[MemAct.touch?,eU]at s;subst s;exact .inr ⟨i.block,a,by grind[li],E.2.2.2.1,E.2.2.1,E.2.2.2.2,a⟩
   rw[ofEvent_cell]at s;simp[MemAct.touch?,eU]at s;subst s;simp only at y z;have N:=D.bF o H v m u M;grind
  |obj O=>
   obtain⟨B,C⟩:=x;simp only at B C;subst B;obtain⟨L,I,k⟩:=C.resolve_left id;obtain⟨k1,q,F,r,t⟩:=D.blk _ (.inr ⟨L,I,k⟩);refine⟨?_,λj s _=>?_,λj s _ _ o _ v m u z=>?_,⟨by simp,by simp⟩,by simp⟩
   .simp[aO,MemAct.low,Loc.low];exact eA t A.size
   .simp[aO,MemAct.touch?]at s;subst s;exact .inr ⟨O,a,by grind[li],F,q,r,a⟩
   simp[aO,MemAct.touch?]at s;grind
  |mark U=>
   simp[h4]at x;rcases x with rfl|⟨S,rfl⟩
   .exact O0
   exact O0
  |_=>exact x.elim
 grind
def Df(cD:lA P ty J D val k ad i de gs Q q d cL w z O ar I tag c0 x b b8 oL){t}{T}{qU}{nE}{m j}(K:aq P f x Q=.go t bi T)(Y:∀F,F<Q.heap.size->ek F=d F)(N:Q.heap.size<=bi.heap.size)(E:∀U,U<w->lC J d (cL U) U Q bi)(A:∀u∈T,(aO u).low bi.heap.size)(R:∀u∈T,∀x,(aO u).touch?=h x->x.loc.isMemory=f->o0 J ek x)(S:∀u∈T,∀x,(aO u).touch?=h x->x.kind=.plain->x.write=f->∀W,W<w->∀F V ag,x.loc=.cell ⟨F,V,n⟩->cL W F V≠h ag)(M:∀u∈T,∀x,u.loc≠.mark (.release x))(B:PayAt J.aj D bi)(p:WgAt ty J.f bi m j)(v:hd P ty J D val k ad i qU w nE (deafBehind I T) t az)(o:cU az {az with a:=bi})(Z:gj J ek cL w az)(ab:Go.ConcN.Mode w z qU m j)(aa:phi k (Vc w z) qU<phi k (Vc w z) tag∨(phi k (Vc w z) qU=phi k (Vc w z) tag/\cj.lt nE c0)):
  ∃g r s,runT P (crowd gs Q dD) 0=(.next g,r)/\k0 (J.base+k) s de/\fa P ty J D val k ad i s g (q++r):=by
 have ah:=cD.ai.br.base;have C:=runT_crowd_go (P:=P) (sl:=dD) (i:=0) cD.dw (by simpa using K)
 refine⟨_,_,(phi k (Vc w z) qU+Ssum w z+sumTo w O,(ar,nE)),C,?_,_,bi,dD,ek,cL,w,z,O,ar,deafBehind I T,qU,nE,t,az,m,j,a,
  ⟨Go.ConcN.get_map_set_same _ _ _ EJ,v,o,Z,cD.ai.h0 Y N E A R S M B ⟨_,_,p⟩,p,ab,rfl⟩⟩
 rw[cD.eG];rcases aa with ai|⟨ae,X⟩
 .exact Prod.Lex.left _ _ y
 rw[ae];exact Prod.Lex.right _ (Prod.Lex.right _ X)
def nC(m:lA P ty J D val k ad i de gs Q q d cL w z O ar I tag c0 x b b8 oL){K}{T}{nE}{s1}(ak:cU s1 {s1 with a:=Q})(aj:gj J d cL w s1)(B:aq P f x Q=.go K az.a T)(S:kz {s1 with a:=Q} az T∨dS J.f {s1 with a:=Q} az T)(s:hd P ty J D val k ad i tag w nE I K az)(aw:cj.lt nE c0):
  ∃u E F,runT P (crowd gs Q dD) 0=(.next u,E)/\k0 (J.base+k) F de/\fa P ty J D val k ad i F u (q++E):=by
 rcases S with⟨⟨p,ao,aE,t,C⟩,aN⟩|⟨rfl,A,N,au⟩
 .have X:gj J d cL w {s1 with a:=Q}:=aj.rely ak.size;obtain⟨ab,ae,ag,ah,ai⟩:=Z' X aE aN C;have e:∀g,g<Q.heap.size->(d g≠0∨g=J.aj∨g=J.f)->az.a.heap[g]?=Q.heap[g]?:=λg o av=>C.a6 g o λL aB R=>by obtain⟨aG,aH,aI,_⟩:=X.blk g (.inr ⟨L,aB,R⟩);grind
  have V:=m.ai.br.base;refine Df m B (ek:=lW d Q.heap.size 0) (λg o=>li o) C.size (λaA U=>⟨C.size,λg o an=>e g o (.inl y),λg W ax aD _=>t.mem g W ax (C.mem _ _ _ (aj.bF aA U g W ax aD)),λW _ _=>nd (e _ m.ai.cw (.inr (.inl a))) W,C.os,C.tape,C.output⟩) ab ae ag ai ?_
   (m.bZ.of_block (e _ m.ai.ck (.inr (.inr a)))) (az:=az) (qU:=tag) (nE:=nE) (by rw[deafBehind_idle ah];exact s) (cU.eo t.mem) (X.step t C m.ai.ck m.ai.cw m.ai.dm) m.mode (.inr ⟨rfl,aw⟩)
  obtain⟨aa,Y,Z⟩:=m.ai.bR;exact⟨aa,(e _ m.ai.cw (.inr (.inl a))).trans Y,Z⟩
 have j:∀r∈T,r=mk (.read A)∨r=mk (.write A):=M;refine Df m B (ek:=d) (λg o=>rfl) (bC _) (λaA U=>.refl ..) (λr v=>?_) (λr v g o _=>?_) (λr v g o aF=>?_) (λr v=>?_) m.ai.bR m.bZ (az:={s1 with a:=Q}) (qU:=tag) (nE:=nE) ?_ (ak.fV ) (aj.rely ak.size) m.mode (.inr ⟨rfl,aw⟩)
 .have hW:=m.ai.ck;rcases j r v with rfl|rfl<;>(rw[ofEvent_mk];show A.block<_;grind)
 .rcases j r v with rfl|rfl<;>(rw[ofEvent_mk]at o;simp[MemAct.touch?]at o;subst o;exact .inl ⟨A,rfl,N,by simp⟩)
 .rcases j r v with rfl|rfl<;>(rw[ofEvent_mk]at o;simp[MemAct.touch?]at o;grind)
 .rcases j r v with rfl|rfl<;>simp[mk]
 rw[deafBehind_idle (λr v=>by rcases j r v with rfl|rfl<;>simp[mk])];exact s
def l1(p:lA P ty J D val k ad i de gs Q q d cL w z O ar I tag c0 x b b8 oL){C}{T}{e}{t}{v u}{s1}(ag:cU s1 {s1 with a:=Q})(j:gj J d cL w s1)(R:aq P f x Q=.go C bi T)(K:Aside J.f Q bi)(B:WgAt ty J.f bi v u)(g:∀F∈T,Bk J.f F)(A:hd P ty J D val k ad i e w t (deafBehind I T) C {s1 with a:=bi})(m:Go.ConcN.Mode w z e v u)(ae:phi k (Vc w z) e<phi k (Vc w z) tag∨(phi k (Vc w z) e=phi k (Vc w z) tag/\cj.lt t c0)):
  ∃o r y,runT P (crowd gs Q dD) 0=(.next o,r)/\k0 (J.base+k) y de/\fa P ty J D val k ad i y o (q++r):=by
 obtain⟨V,M,N⟩:=p.ai.bR;have X:cU s1 {s1 with a:=bi}:=j.dh ag (rh.bZ K);refine Df p R (ek:=d) (λS s=>rfl) (by rw[K.size];grind) (λai W=>.bZ K p.ai.br.cG p.ai.br.base (λS ab ah Z=>(p.ai.br.bF ai W S ab ah Z).2.2.1) p.ai.br.b3) (Gw g (by rw[K.size];exact p.ai.ck)) (λF U S s d=>?_) (λF U S s aa=>?_) (Gx g)
  ⟨V,(K.block _ p.ai.br.b3).trans M,N⟩ B A X.fV (j.rely X.size) m ae
 .rcases g F U with bc|bc|⟨E,wr,rfl,Y⟩
  .exact zC
  .exact zC
  rw[ofEvent_cell]at s;simp[MemAct.touch?,eU]at s;subst s;exact .inl ⟨E,a,Y,by simp⟩
 rcases g F U with bc|bc|⟨E,wr,rfl,Y⟩
 .exact zC
 .exact zC
 rw[ofEvent_cell]at s;simp[MemAct.touch?,eU]at s;grind
end
section
variable {J:hE}{ad ae:ak->a5->Prop}{R ek:Nat->Nat}{bz i:Nat->Mem}{tag:CTag}{c0:cj}{I:Nat}{x:ak}{Q:au}{bX:pU}{dD:Option (Nat×Nat)}{q:Trace}{z:Nat->WD}{O:Nat->Nat}{ar:Nat->cj}{b8 W:Int}
def hd.gb(a:hd P ty J D val k ad ae tag w c0 I x b):w+pend tag<=k:=by cases a<;>simp[pend]<;>(try simp)<;>omega
omit [Payload]in
def ny(q:gy (aj.aG P ty J.f) (dS J.f) bq c0 x b)(r:cU b {b with a:=Q})(p:gj J R bz w b)(i:WgLive ty J.f Q):
  (∃a,cU a {a with a:=Q}/\gj J R bz w a/\bq x a)∨∃a,cU a {a with a:=Q}/\gj J R bz w a/\∃j e g m,aq P f x Q=.go j e.a g/\(kz {a with a:=Q} e g∨dS J.f {a with a:=Q} e g)/\gy (aj.aG P ty J.f) (dS J.f) bq m j e/\cj.lt m c0:=by
 rcases q.bf (λd=>cU d {d with a:=Q}/\gj J R bz w d) (λd a N k=>⟨k.1.aU N,k.2.aU N⟩) (λG=>False.elim G) ⟨r,p⟩with⟨a,⟨k1,s⟩,o⟩|⟨_,a,⟨k1,s⟩,o⟩
 .grind
 exact .inr ⟨a,k1,s,o _ ⟨k1,λ_=>i⟩⟩
def hF.quits{o x b8 I}{e}{C}(b:hF P ty J D val R bz o x b8 e I C Q)(a:b8=1):∃d,QuitsD P d I C:=by
 cases b with
 |c7 _ _ _=>cases a
 |rel _=>cases a
 |tail _ b=>exact⟨_,b.quits a⟩
def hF.j0{o x b8 I}{d}(a:hF P ty J D val R bz o x b8 d I C Q)(b:b8=1):x=0:=by
 cases a with
 |c7 _ _ _=>cases b
 |rel _=>rfl
 |tail _ a=>rfl
def acP(cD:lA P ty J D val k ad ae bX gs Q q R bz w z O ar I tag c0 x b b8 W)(bN:k<2147483648)(a1:∀C b,ae C b->ds (aj.aG P ty J.f) (dS J.f) (q' P ty J ad ae) C b)(bb:x.status=.running):
  ∃aB j,runT P (crowd gs Q dD) 0=(.next aB,j)/\((∃ek aT,wM P J D val k ad ek aT aB (q++j))∨∃m,k0 (J.base+k) m bX/\fa P ty J D val k ad ae m aB (q++j)):=by
 have bG:=Vc_le w z;have bw:=cD.ai.br.base;have e:=cD.ai.cV;have fin:∀{r:Prop},(∃aB j m,runT P (crowd gs Q dD) 0=(.next aB,j)/\k0 (J.base+k) m bX/\fa P ty J D val k ad ae m aB (q++j)) ->
   ∃aB j,runT P (crowd gs Q dD) 0=(.next aB,j)/\((∃ek aT,wM P J D val k ad ek aT aB (q++j))∨∃m,k0 (J.base+k) m bX/\fa P ty J D val k ad ae m aB (q++j)):=
  λ{_} ⟨aB,j,m,aE,an,aI⟩=>⟨aB,j,aE,.inr ⟨m,an,aI⟩⟩
 have bk:=cD.dy.gb;have bx:=cD.dy;have A:=cD.bZ;have ak:=cD.mode;cases bx with
 |@ff g c0 C b F Y=>
  rcases ny Y cD.rely cD.aG e with⟨az,k1,s,_,hk,H,d⟩|⟨az,k1,s,hk,b3,T,i,H,aa,d,aN⟩
  .obtain⟨ab,d⟩:=d {az with a:=Q} (mE k1 e);exact fin (r:=True) (l1 cD k1 s (H Q) (.refl J.f Q) A bk_dis (.fQ F d) (ak.reopen v v a E) (.inl l_))
  exact fin (r:=True) (nC cD k1 s H aa (.ff F d) aN)
 |@fQ g c0 C b F Y=>
  rcases ny Y cD.rely cD.aG e with⟨az,k1,s,_,aD⟩|⟨az,k1,s,hk,b3,T,i,H,aa,d,aN⟩
  .obtain⟨aq,K,S,_⟩:=ak.open_inv v;rw[K,S]at A;obtain⟨fF,H,ab,d⟩:=aD {az with a:=Q} (mE k1 e) (Vc (k-(g+1)) z) y (by simpa[pend]using A);refine fin (r:=True) (l1 cD k1 s H (aside_setCell Q (stA J.f) _) (A.setSt _) bk_rw (.fS F d) ?_ (.inl l_));have ai:(((Vc (k-(g+1)) z:Nat):Int)+1)*KK=((Vc (k-(g+1)) z+pend (.sp g 3):Nat):Int)*KK:=by simp[pend]
   rw[ai];exact .opn v aq E
  exact fin (r:=True) (nC cD k1 s H aa (.fQ F d) aN)
 |@fS g c0 C b F Y=>
  rcases ny Y cD.rely cD.aG e with⟨az,k1,s,_,hk,H,d⟩|⟨az,k1,s,hk,b3,T,i,H,aa,d,aN⟩
  .obtain⟨ab,d⟩:=d {az with a:=Q} (mE k1 e);exact fin (r:=True) (l1 cD k1 s (H Q) (.refl J.f Q) A bk_en (.fR F d) (ak.reopen v v a E) (.inl l_))
  exact fin (r:=True) (nC cD k1 s H aa (.fS F d) aN)
 |@fR g c0 C b F Y=>
  rcases ny Y cD.rely cD.aG e with⟨az,k1,s,_,aD⟩|⟨az,k1,s,hk,b3,T,i,H,aa,d,aN⟩
  .obtain⟨fF,rz,bn,_,⟨rc,bp⟩,aw⟩:=aD {az with a:=Q} (mE k1 e);obtain⟨aq,K,S,_⟩:=ak.open_inv v;rw[K,S]at A;have t:=runT_crowd_spawn (P:=P) (sl:=dD) (i:=0) cD.dw (by simpa using bn);rw[cD.ai.size]at t;have bt:=s.rely k1.size;let aT:=upd bz (k-(g+1)) az.u;have a2:∀X,X<k-(g+1)->aT X=bz X:=λX bd=>upd_ne bz _ y;have aJ:aT (k-(g+1))=az.u:=upd_same bz _ _;have aL:cU (a5.dx {az with a:=Q}) {a5.dx {az with a:=Q}with a:=Q}:=cU.eo k1.mem;have aZ:ho R (aT (k-(g+1))) (J.base+(k-(g+1))) (a5.dx {az with a:=Q}):=by
    refine⟨λa0 aA=>?_,λa0 br bs u=>⟨.inr (by rw[aJ];exact u),(bt.u a0 br bs u).2.2.2.2⟩⟩;rcases aA with aA|⟨L,bF,_⟩
    .exact aA.elim
    simp[a5.dx]at bF
   have V:=(cD.ai.congr a2).spawn (fF:=fF) (o:={g:=0,fn:=x.frame.fn,pos:=x.frame.place,act:=.go (J.base+(k-(g+1)))}) (X:={g:=J.base+(k-(g+1)),fn:=rz.frame.fn,pos:=x.frame.place,act:=.start}) ⟨rfl,rfl⟩ ⟨rfl,rfl⟩
    (λa0 br bs u=>by rw[aJ]at u;exact bt.u a0 br bs u) bp aL aZ
   have bh:Vc (k-(g+1)+1) (upd z (k-(g+1)) ⟨7,0,0⟩)=Vc (k-(g+1)) z+1:=by simp[Vc,sumTo,upd_same];rw[sumTo_upd_out z _ cnt (bC _)];rfl
   have bg:Ssum (k-(g+1)+1) (upd z (k-(g+1)) ⟨7,0,0⟩)=Ssum (k-(g+1)) z+7:=by simp[Ssum,sumTo,upd_same];rw[sumTo_upd_out z _ WD.stage (bC _)]
   have bf:sumTo (k-(g+1)+1) (upd O (k-(g+1)) 1)=sumTo (k-(g+1)) O+1:=by have:sumTo (k-(g+1)) (upd O (k-(g+1)) 1)=sumTo (k-(g+1)) O:=sumTo_upd_out O 1 id (i:=k-(g+1)) (j:=k-(g+1)) (bC _);show sumTo (k-(g+1)) (upd O (k-(g+1)) 1)+upd O (k-(g+1)) 1 (k-(g+1))=_;rw[upd_same];grind
   have ax:OpenSt (k-(g+1)+1) (upd z (k-(g+1)) ⟨7,0,0⟩):=λZ ao=>by
    by_cases ai:Z=k-(g+1)
    .subst ai;exact wq
    rw[upd_ne z _ ai];exact aq Z y
   have a3:((gs.setIfInBounds 0 fF).push rz)[0]?=h fF:=by have bj:0<gs.size:=EJ;grind
   have bu:gj J R aT (k-(g+1)+1) {az with a:=Q}:=⟨bt.blk,bt.u,λX bd a0 br bs u=>by
    rcases dY X (k-(g+1))with aE|aE
    .rw[a2 X aE]at u;exact bt.bF X aE a0 br bs u
    .obtain rfl:X=k-(g+1):=y
     rw[aJ]at u;exact u⟩
   have bB:k-(g+1)+1=k-g:=y;rw[bB]at V bh bg bf ax bu;have aH:∀av,pend av=0->((Vc (k-(g+1)) z+pend (.sp g 2):Nat):Int)*KK=((Vc (k-g) (upd z (k-(g+1)) ⟨7,0,0⟩)+pend av:Nat):Int)*KK:=λav bO=>by exact ht
   cases g with
   |zero=>
    obtain⟨aS,d⟩:=aw;simp only[sy]at V bh bg bf ax aH bu;refine⟨_,_,t,.inr ⟨(phi k (Vc k (upd z (k-(0+1)) ⟨7,0,0⟩)) .kd+Ssum k (upd z (k-(0+1)) ⟨7,0,0⟩)+sumTo k (upd O (k-(0+1)) 1),(upd ar (J.base+(k-(0+1))) rc,aS)),by rw[cD.eG];exact Prod.Lex.left _ _ l_,
     _,Q,dD,R,aT,k,_,_,_,0,.kd,aS,fF,{az with a:=Q},_,_,rfl,⟨a3,.kd d,k1.fV,bu,V,A,?_,rfl⟩⟩⟩
    rw[aH .kd a];exact .opn v ax E
   |succ i=>
    obtain⟨aS,d⟩:=aw;refine⟨_,_,t,.inr ⟨(phi k (Vc (k-(i+1)) (upd z (k-(i+1+1)) ⟨7,0,0⟩)) (.sp i 5)+Ssum (k-(i+1)) (upd z (k-(i+1+1)) ⟨7,0,0⟩)+sumTo (k-(i+1)) (upd O (k-(i+1+1)) 1),(upd ar (J.base+(k-(i+1+1))) rc,aS)),by rw[cD.eG];exact Prod.Lex.left _ _ l_,
     _,Q,dD,R,aT,k-(i+1),_,_,_,0,.sp i 5,aS,fF,{az with a:=Q},_,_,rfl,⟨a3,.ff y d,k1.fV,bu,V,A,?_,rfl⟩⟩⟩
    rw[aH (.sp i 5) a];exact .opn v ax E
  exact fin (r:=True) (nC cD k1 s H aa (.fR F d) aN)
 |kd Y=>
  rcases ny Y cD.rely cD.aG e with⟨az,k1,s,_,hk,H,d⟩|⟨az,k1,s,hk,b3,T,i,H,aa,d,aN⟩
  .obtain⟨ab,d⟩:=a1 _ _ (d {az with a:=Q} (mE k1 e));exact fin (r:=True) (l1 cD k1 s (H Q) (.refl J.f Q) A bk_dis (.w1 d) (ak.reopen v v a E) (.inl l_))
  exact fin (r:=True) (nC cD k1 s H aa (.kd d) aN)
 |w1 Y=>
  rcases ny Y cD.rely cD.aG e with⟨az,k1,s,_,aD⟩|⟨az,k1,s,hk,b3,T,i,H,aa,d,aN⟩
  .obtain⟨aq,K,S,_⟩:=ak.open_inv v;rw[K,S]at A;have bM:=Vc_le k z;obtain⟨fF,H,bj,bm⟩:=aD {az with a:=Q} (mE k1 e) (Vc k z) y M;by_cases u:Vc k z=0
   .obtain⟨ab,d⟩:=bj u;refine fin (r:=True) (l1 cD k1 s H (.refl J.f Q) A bk_rd (.ke d) ?_ (.inl l_));have ai:((Vc k z+pend .w1:Nat):Int)*KK=0:=M;rw[ai];exact .fin v (allQuit_of aq u)
   obtain⟨ab,d⟩:=bm u;refine fin (r:=True) (l1 cD k1 s H (.refl J.f Q) A bk_rd (.w2 d) ?_ (.inl l_));have:=ak.reopen (tag':=.w2 (Vc k z)) v v a (λB ai=>by grind);grind
  exact fin (r:=True) (nC cD k1 s H aa (.w1 d) aN)
 |@w2 B c0 C b Y=>
  rcases ny Y cD.rely cD.aG e with⟨az,k1,s,_,aD⟩|⟨az,k1,s,hk,b3,T,i,H,aa,d,aN⟩
  .obtain⟨aq,K,S,bo⟩:=ak.open_inv v;rw[K,S]at A;obtain⟨bJ,aE⟩:=bo B rfl;obtain⟨a_,aU⟩:=aD {az with a:=Q} (mE k1 e) (Vc k z) y M;by_cases ai:Vc k z=B
   .obtain⟨fF,H,ab,d⟩:=a_ ai;exact fin (r:=True) (l1 cD k1 s H (aside_setCell Q (stA J.f) _) (A.setSt _) bk_rw (.w3 d) (.reg v aq y) (.inl l_))
   obtain⟨fF,H,d⟩:=aU ai;obtain⟨ab,d⟩:=a1 _ _ d;refine fin (r:=True) (l1 cD k1 s H (.refl J.f Q) A bk_rd (.w1 d) ?_ (.inl l_));have:=ak.reopen (tag':=.w1) v v a E;grind
  exact fin (r:=True) (nC cD k1 s H aa (.w2 d) aN)
 |@w3 c0 C b Y=>
  rcases ny Y cD.rely cD.aG e with⟨az,k1,s,aW⟩|⟨az,k1,s,hk,b3,T,i,H,aa,d,aN⟩
  .obtain⟨_,a',aD⟩:=aW;obtain⟨aK,aX⟩:=aD {az with a:=Q} (mE k1 e);obtain⟨o,p⟩:=cj.jk b c0;have aR:=oT.rely ⟨bb,a',aD⟩ (mE k1 e);generalize b8=bL at ak A;generalize W=bK at ak A;cases ak with
   |opn aE _ _=>exact aE.elim
   |reg aE an aI=>exact fin (r:=True) (l1 cD k1 s (aK ⟨_,A⟩) (.refl J.f Q) A E (.blk (c0:=o) aR) (.reg v an aI) (.inr ⟨rfl,p⟩))
   |last L aE an aI bE=>exact fin (r:=True) (l1 cD k1 s (aK ⟨_,A⟩) (.refl J.f Q) A E (.blk (c0:=o) aR) (.last L v an aI bE) (.inr ⟨rfl,p⟩))
   |sema an=>
    obtain⟨fF,H,ab,d⟩:=aX A;exact fin (r:=True) (l1 cD k1 s H (aside_setCell Q (smA J.f) _) (A.setSm 0) bk_sem (.w4 d) (.fin v an) (.inl l_))
   |fin aE _=>exact aE.elim
  exact fin (r:=True) (nC cD k1 s H aa (.w3 d) (cj.hk aN))
 |blk Y=>grind
 |w4 Y=>
  rcases ny Y cD.rely cD.aG e with⟨az,k1,s,_,aD⟩|⟨az,k1,s,hk,b3,T,i,H,aa,d,aN⟩
  .obtain⟨ah,K,S⟩:=ak.fin_inv v;rw[K,S]at A;obtain⟨fF,H,ab,d⟩:=aD {az with a:=Q} (mE k1 e) A;exact fin (r:=True) (l1 cD k1 s H (.refl J.f Q) A bk_rd (.ke d) (.fin v ah) (.inl l_))
  exact fin (r:=True) (nC cD k1 s H aa (.w4 d) aN)
 |ke Y=>
  rcases ny Y cD.rely cD.aG e with⟨az,k1,s,_,hk,H,d⟩|⟨az,k1,s,hk,b3,T,i,H,aa,d,aN⟩
  .obtain⟨ab,d⟩:=d {az with a:=Q} (mE k1 e);obtain⟨ah,K,S⟩:=ak.fin_inv v;rw[K,S]at A;exact fin (r:=True) (l1 cD k1 s (H Q) (.refl J.f Q) A bk_en (.acq d) (.fin v ah) (.inl l_))
  exact fin (r:=True) (nC cD k1 s H aa (.ke d) aN)
 |acq Y=>
  rcases ny Y cD.rely cD.aG e with⟨az,k1,s,_,fF,H,d⟩|⟨az,k1,s,hk,b3,T,i,H,aa,d,aN⟩
  .obtain⟨ah,K,S⟩:=ak.fin_inv v;have t:=runT_crowd_go (P:=P) (sl:=dD) (i:=0) cD.dw (by simpa using H Q);have a8:MemOp.ofEvents 0 x.frame.fn x.frame.place #[mk (.acquire (stA J.f))]=#[{g:=0,fn:=x.frame.fn,pos:=x.frame.place,act:=.mark (.acquire (stA J.f))}]:=by rw[ofEvents_eq];simp[ofEvent_mk]
   have aF:=cD.ai.h0 (C:=x) (hk:=fF) (fn:=x.frame.fn) (pos:=x.frame.place) (T:=#[mk (.acquire (stA J.f))]) (ek:=R) (bi:=Q) (λ_ _=>rfl) (bC _) (λX _=>.refl ..) (by simp;exact cD.ai.ck) (by intro ai ag a0 aA;simp at ag;subst ag;exact cQ) (by intro ai ag a0 aA;simp at ag;subst ag;simp[mk,aO,MemAct.touch?]at aA) (by intro ai ag;simp at ag;subst ag;simp[mk]) cD.ai.bR e;have bH:deafBehind 0 #[mk (.acquire (stA J.f))]=0:=rfl;have bd:(q++#[({g:=0,fn:=x.frame.fn,pos:=x.frame.place,act:=.mark (.acquire (stA J.f))}:MemOp)])[q.size]?=h {g:=0,fn:=x.frame.fn,pos:=x.frame.place,act:=.mark (.acquire (stA J.f))}:=E
   have aV:=aF.br.jF (by rw[aF.dz];rfl) (aF.dT _) (bc:=q.size) (by rw[a8,act?_of bd]) (by rw[a8];simp[Trace.g?]) (by rw[a8];exact⟨0,by simp[Trace.g?],by rw[deaf_old (bC _)];exact cD.ai.dz⟩) (λo p=>by
    obtain⟨g,F⟩:=cD.ai.rel o p (by rw[ah o p];omega)
    exact⟨g,F.appOther g_of_ofEvents y,lt_of_act? F.act⟩)
   have aP:∃bc,Leavers P (q++MemOp.ofEvents 0 x.frame.fn x.frame.place #[mk (.acquire (stA J.f))]) ((gs.map (woken P x fF Q)).setIfInBounds 0 fF) bc:=by
    have aG:∀Z,∃bq,∀C,0<Z->((gs.map (woken P x fF Q)).setIfInBounds 0 fF)[Z]?=h C->QuitsD P bq (Deaf (q++MemOp.ofEvents 0 x.frame.fn x.frame.place #[mk (.acquire (stA J.f))]) Z) C:=by
     intro Z;cases aM:((gs.map (woken P x fF Q)).setIfInBounds 0 fF)[Z]? with
     |none=>simp
     |some C=>
      rcases n3 Z with ai|au
      .exact⟨0,λhk Y=>by omega⟩
      rcases dY Z J.base with aN|bI
      .obtain⟨bq,_,bl⟩:=aF.dn Z C au aN aM;exact⟨bq,λhk _ a4=>by grind⟩
      obtain⟨o,rfl⟩:∃o,Z=J.base+o:=⟨Z-J.base,by omega⟩
      have p:o<k:=by have:=(jb.1 aM).1;rw[aF.size]at this;omega
      obtain⟨bD,a6,aQ⟩:=aF.c5 o p;rw[aM]at a6;cases a6;obtain⟨bq,bl⟩:=aQ.quits (ah o p);refine⟨bq,λhk _ a4=>?_⟩;cases a4;rw[aF.dA o p];omega
    exact⟨λZ=>Classical.choose (aG Z),λZ C ao N=>Classical.choose_spec (aG Z) C ao N,λZ ao=>aF.above Z (by rw[aF.size]at ao;exact ao)⟩
   obtain⟨bc,aP⟩:=aP;refine⟨_,_,t,.inl ⟨R,bz,⟨_,Q,dD,fF,az,bc,rfl,Go.ConcN.get_map_set_same _ _ _ EJ,aF.size,d {az with a:=Q} (mE k1 e),k1,s,aP,aV,aF.dT,cD.ai.bR,λo p Z ao=>?_,cD.ai.cw,cD.ai.ck,cD.ai.dm⟩⟩⟩;obtain⟨bD,_,aQ⟩:=cD.ai.c5 o p;rcases n3 Z with ai|au
   .subst ai;exact cD.ai.dO o p (by rw[ah o p];omega)
   exact cD.ai.dj o p (aQ.j0 (ah o p)) Z au ao
  exact fin (r:=True) (nC cD k1 s H aa (.acq d) aN)
end
end
section
open Go.Conc
open Go.ConcN (WD CTag Vc Ssum pend phi cnt WgLive PayAt Has WSit RelBy sumTo upd upd_same upd_ne exists_counted)
open Go.ConcR (KK WgAt stA smA Payload)
variable [Payload]
section
variable {J:hE}{ad s:ak->a5->Prop}{d:Nat->Nat}{bz:Nat->Mem}{tag:CTag}{c0:cj}{I:Nat}{x:ak}{Q:au}{ae:pU}{dD:Option (Nat×Nat)}{q:Trace}{z:Nat->WD}{O:Nat->Nat}{ar:Nat->cj}{b8 R:Int}
def hF.running_of{o x b8 I}{g}{C}(e:hF P ty J D val d bz o x b8 g I C Q)(b:b8≠1):C.status=.running:=by
 cases e with
 |c7 a _ _=>exact a.run λ_ _ o=>o.1
 |rel a=>exact Goes.running (λ_ _ o=>o.1) Q (Go.ConcN.RW.refl Q) a
 |tail _ a=>exact a.running_of b
def acA(g:lA P ty J D val k ad s ae gs Q q d bz w z O ar I tag c0 x b b8 R):∃(o:Nat)(e:ak),gs[o]?=h e/\e.status=.running:=by
 rcases g.dy.status with⟨i,_⟩|⟨_,rfl⟩
 .exact⟨0,x,g.dw,i⟩
 have r:=g.mode;cases r with
 |opn a _ _=>exact a.elim
 |reg _ _ p=>
  obtain⟨o,m,u⟩:=exists_counted p;obtain⟨e,j,i⟩:=g.ai.c5 o m;exact⟨_,e,j,i.running_of y⟩
 |last L _ t p _=>
  obtain⟨e,j,i⟩:=g.ai.c5 L t;exact⟨_,e,j,i.running_of y⟩
 |fin a _=>exact a.elim
def RU(e:lA P ty J D val k ad s ae gs Q q d bz w z O ar I tag c0 x b b8 R):∀o∈gs,awake o:=by
 intro o y E;obtain⟨j,a⟩:=Array.mem_iff_getElem?.1 y;rcases n3 j with rfl|r
 .rw[e.dw]at a;cases a;rcases e.dy.status with⟨i,_⟩|⟨i,_⟩<;>rw[i]<;>simp
 rcases dY j J.base with u|C
 .obtain⟨A,_,v⟩:=e.ai.dn j o r u a;rcases v.status with g|g<;>rw[g]<;>simp
 obtain⟨m,rfl⟩:∃m,j=J.base+m:=⟨j-J.base,by omega⟩
 have B:m<w:=by have:=(jb.1 a).1;rw[e.ai.size]at this;omega
 obtain⟨t,p,i⟩:=e.ai.c5 m B;rw[a]at p;cases p;rcases i.status with g|g<;>rw[g]<;>simp
def lA.at(e:lA P ty J D val k ad s ae gs Q q d bz w z O ar I tag c0 x b b8 R)(Ia):lA P ty J D val k ad s ae gs (Q.at Ia) q d bz w z O ar I tag c0 x b b8 R:=
 ⟨e.dw,e.dy,e.rely.eF (bC _) (λ_ _=>rfl) (λ_ _ _ _ g=>g) a a a,e.aG,e.ai.at Ia,e.bZ,e.mode,e.eG⟩
def acO(i:lA P ty J D val k ad s ae gs Q q d bz w z O ar I tag c0 x b b8 R)(r:0<e)(F:e<J.base)(v:gs[e]?=h C)(A:C.status=.running):
  ∃E j o,runT P (crowd gs Q dD) e=(.next E,j)/\k0 (J.base+k) o ae/\fa P ty J D val k ad s o E (q++j):=by
 obtain⟨u,G,N⟩:=i.ai.dn e C r F v;cases u with
 |zero=>rw[N.1]at A;cases A
 |succ u=>
  rcases N with⟨H,_⟩|⟨_,p,T,X,V,K⟩
  .grind
  .have Y:(e==0)=l:=M;have U:=runT_crowd_go (P:=P) (sl:=dD) (i:=e) v (by rw[Y];exact V Q)
   obtain⟨g,m,W,B,Z⟩:=i.dy.h3 C p Q;have S:Go.ConcN.Mode w z g b8 R:=i.mode.retag B;refine⟨_,_,(phi k (Vc w z) g+Ssum w z+sumTo w O,(upd ar e (cj.dG u),m)),U,?_,_,Q,dD,d,bz,w,z,O,_,I,g,m,woken P C p Q x,b,b8,R,a,
    ⟨by rw[Go.ConcN.get_map_set _ _ _ _ y,i.dw];rfl,W,i.rely,i.aG,i.ai.bt r F X K,i.bZ,S,rfl⟩⟩
   rw[i.eG,Go.ConcN.phi_retag k _ B];exact Prod.Lex.right _ (Prod.Lex.left _ _ ⟨e,by omega,by rw[upd_same,G];exact cj.gu _ b,λaa t=>upd_ne ar _ t⟩)
def Ye(N:k<2147483648)(y:∀r u,s r u->ds (aj.aG P ty J.f) (dS J.f) (q' P ty J ad s) r u){A}(C:fa P ty J D val k ad s ae A q):
  ∃e a,stepT P A=(.next e,a)/\((∃g d,wM P J D val k ad g d e (q++a))∨∃i,k0 (J.base+k) i ae/\fa P ty J D val k ad s i e (q++a)):=by
 obtain⟨B,O,dD,X,Z,x,S,R,U,V,tag,K,W,u,M,Y,rfl,b⟩:=C;obtain⟨m,r,o,t,j,p,E⟩:=crowd_pick (P:=P) (w:=O) (sl:=dD) (RU b) (acA b);rw[E];have w:=b.at o;have z:x<=k:=by have:=b.dy.gb;omega
 rcases n3 m with rfl|I
 .rw[b.dw]at j;cases j;exact acP (dD:=t) w N y p
 rcases dY m J.base with Q|T
 .obtain⟨e,a,i,H,G,F⟩:=acO (dD:=t) w I Q j p;grind
 obtain⟨v,rfl⟩:∃v,m=J.base+v:=⟨m-J.base,by omega⟩
 have L:v<x:=by have:=(jb.1 j).1;rw[b.ai.size]at this;omega
 obtain⟨e,a,i,H,G,F⟩:=acT (dD:=t) w N z b.dy.gb L j p;grind
def Yf(B:k<2147483648)(y:∀u w,s u w->ds (aj.aG P ty J.f) (dS J.f) (q' P ty J ad s) u w):∀j(r:Machine)g,fa P ty J D val k ad s j r g ->
  ∃q p m b a,runNT P q r g=(.next p,m)/\wM P J D val k ad b a p m:=by
 intro j;induction(aal (J.base+k)).apply j with
 |intro j _ A=>
  intro r g x;obtain⟨t,d,v,e⟩:=Ye B y x;rcases e with⟨b,a,e⟩|⟨i,e,o⟩
  .exact⟨1,t,g++d,b,a,by simp[runNT,v],e⟩
  obtain⟨q,p,m,b,a,k1,z⟩:=A i e t (g++d) o;exact⟨q+1,p,m,b,a,by simp only[runNT,v];exact k1,z⟩
def kX.gi{cF}{Y:ak->a5->Prop}(vl)(an:0<vl)(bo N)(aI:k<2147483648)(au:N≠bo)(Z:eW b cF)(aL:C.status=.running)(ad:∃L∈b.l,N∈L.al)(ag:∃L∈b.l,bo∈L.al)(aB:∀d,(b.own d∨∃L∈b.l,d∈L.al)->d<b.a.heap.size)(bd:∀d,(d=N∨d=bo)->¬cF.own d/\(∀L∈cF.l,d∉L.al)/\∀p,cF.u d p=n)(aE:WgAt ty bo b.a 0 0)(Q:PayAt N D b.a)(bc:∀m:hE,m.f=bo->m.aj=N->m.aQ=vl->∃X U,(∀C b,U C b->ds (aj.aG P ty m.f) (dS m.f) (q' P ty m X U) C b)/\oZ P ty m D val k U k C cF /\
   ∀aa j,X aa j->gk j->PayAt N D j.a->(∀g,g<k->∀s,s<vl->j.a.cell? ⟨N,vl*g+s,n⟩=h (val g s))->N<j.a.heap.size->(∀d,(d=N∨d=bo)->¬j.own d/\(∀L∈j.l,d∉L.al)/\∀p,j.u d p=n) ->
    ∃x,Y aa x/\x.a=j.a/\gk x/\∀i:Nat->Prop,gM i j->¬i N->gM i x):kX P C b Y:=by
 intro i q T aO a7 bk K G ae y av;have ba:¬i N:=λS=>let ⟨L,G,e⟩:=ad;y.l N S L G e
 have bb:¬i bo:=λS=>let ⟨L,G,e⟩:=ag;y.l bo S L G e
 have O:=aB N (.inr ad);have a_:=aB bo (.inr ag);have R:1<=q.size:=(jb.1 K).1;let m:hE:={bC:=i,bO:=aO.size,f:=bo,aj:=N,base:=q.size,aQ:=vl}
 obtain⟨X,U,ab,V,a'⟩:=bc m rfl rfl rfl;have aN:=y.aU Z;have I:gk cF:=.aU Z;have aQ:gj m (λ_=>0) (λ_ _ _=>n) 0 cF:=by
  refine⟨λd e=>⟨a,λo=>M,λo=>M,λo=>?_,by rw[Z.a];exact aB d (Z.blk d e)⟩,λd p aA u=>⟨a,λo=>?_,λo=>?_,λo=>?_,gk.lt I u⟩,λg r=>absurd r (iF g)⟩
  .rcases e with e|⟨L,G,e⟩
   .exact aN.own d o e
   exact aN.l d o L G e
  .grind
  .grind
  rw[aN.u d o p]at u;cases u
 have aT:ih P ty m D val (λ_=>0) (λ_ _ _=>n) 0 q b.a aO (λ_=>⟨0,0,0⟩) (λ_=>0) (λs=>cj.dG (a7 s)) 0:=
  ⟨rfl,λs C t _ ai=>⟨a7 s,rfl,G.old s C t ai⟩,G.above,λg r=>absurd r (iF g),fz.start ae a R au bb ba,av,ae.hears,λg r=>absurd r (iF g),λg r=>absurd r (iF g),λg r=>absurd r (iF g),λg r=>absurd r (iF g),
   Q,⟨_,_,aE⟩,a_,O,y.lt,an,λg r=>absurd r (iF g)⟩
 have aU:cU cF {cF with a:=b.a}:=by have:=cU.eo I;rw[<-Z.a];exact this
 have aP:∃aG,fa P ty m D val k X U aG (crowd q b.a T) aO:=by
  cases k with
  |zero=>
   obtain⟨az,V⟩:=V;exact⟨_,q,b.a,T,_,_,0,_,_,_,0,.kd,az,C,cF,_,_,a,⟨K,.kd V,aU,aQ,aT,aE,by have:=Go.ConcN.Mode.opn (j:=0) (D:=λ_=>(⟨0,0,0⟩:WD)) (tag:=.kd) v (λs t=>absurd t (iF s)) E;simpa[Vc,sumTo,pend]using this,a⟩⟩
  |succ k=>
   obtain⟨az,V⟩:=V;have B:hd P ty m D val (k+1) X U (.sp k 5) (k+1-(k+1)) az 0 C cF:=.ff (Nat.lt_succ_self k) V;rw[uA]at B;exact⟨_,q,b.a,T,_,_,0,_,_,_,0,.sp k 5,az,C,cF,_,_,a,⟨K,B,aU,aQ,aT,aE,by have:=Go.ConcN.Mode.opn (j:=0) (D:=λ_=>(⟨0,0,0⟩:WD)) (tag:=.sp k 5) v (λs t=>absurd t (iF s)) E;simpa[Vc,sumTo,pend]using this,a⟩⟩
 obtain⟨aG,aP⟩:=aP;obtain⟨bj,bf,bh,F,W,ax,⟨aV,A,a8,aF,H,bg,rfl,a0,_,aR,J,ao,aW,aX,aJ,aw,a9,aq,a3,ar⟩⟩:=Yf aI ab aG _ _ aP;have aD:gj m F W k {H with a:=A}:=ao.rely J.size;have aS:∀d,(d=N∨d=bo∨i d)->¬H.own d/\(∀L∈H.l,d∉L.al)/\∀p,H.u d p=n:=by
  intro d e;have key:∀g,(F g=0/\g≠m.aj/\g≠m.f/\¬m.bC g/\g<A.heap.size)->g≠d:=M;refine⟨λaK=>key d (aD.blk d (.inl aK)) a,λL G ah=>key d (aD.blk d (.inr ⟨L,G,ah⟩)) a,λp=>?_⟩;cases aH:H.u d p with
  |none=>rfl
  |some aA=>exact absurd rfl (key d (aD.u d p aA aH))
 obtain⟨x,aZ,a6,a4,a1⟩:=a' aF {H with a:=A} aR (λd p aA u=>J.mem d p aA u) aw a9 aq (λd e=>aS d (e.elim .inl λo=>.inr (.inl o)));have a2:gM (λd=>i d∨d=bo) {H with a:=A}:=by have aM:∀d,(i d∨d=bo)->¬H.own d/\(∀L∈H.l,d∉L.al)/\∀p,H.u d p=n:=λd e=>aS d (e.elim (λo=>.inr (.inr o)) λo=>.inr (.inl o));exact⟨λd e=>(aM d e).1,λd e=>(aM d e).2.1,λd e=>(aM d e).2.2,λd e=>e.elim (ar d) λo=>by grind⟩
 grind
end
end
section
open Go.Conc Go.RowKit Go.Conc.Lib Go.ConcR.Gen
open Go.ConcN (WgLive)
open Go.ConcR (KK WgAt stA smA rd wr mk DC0)
variable {L:WgLink}
section
variable (P:aI)(de:au->au->Prop)(L:WgLink)(bo:Nat)(hl:ak)
def Ad(b:ak)(_:au):Prop:=b.status=.running/\∃a,(∀d,aq P f b d=.go a d #[mk .enable])/\∀w1,WgLive L.tWg bo w1->∃e,Goes P f de DC0 (λb _=>b=hl) e a w1
def Rw(d:ak)(_:au):Prop:=d.status=.running/\∃b a,a.block=bo/\(∀e,aq P f d e=.go b e #[mk (.read a)])/\∀w1,WgLive L.tWg bo w1->∃g,Goes P f de DC0 (Ad P de L bo hl) g b w1
def FO(b:ak)(a:au):Prop:=b.status=.running/\∀e:Nat,e<2147483647->WgAt L.tWg bo a (e*KK) 0 ->
 ∃d,aq P f b a=.go d (a.setCell (stA bo) (.int .u64 ((e+1)*KK))) #[rd (stA bo),wr (stA bo)]/\∃g,Goes P f de DC0 (λb a=>Rw P de L bo hl b a∨Ad P de L bo hl b a) g d (a.setCell (stA bo) (.int .u64 ((e+1)*KK)))
def Rv(b:ak)(_:au):Prop:=b.status=.running/\∃a,(∀d,aq P f b d=.go a d #[mk .disable])/\∀w1,WgLive L.tWg bo w1->∃e,Goes P f de DC0 (FO P de L bo hl) e a w1
end
set_option maxRecDepth 100000 in
def RS{P}(H:WgLib P L){de:au->au->Prop}{bo}(d:∀{g w1},WgLive L.tWg bo g->de g w1->WgLive L.tWg bo w1){hI:aK}{hH}{gd:Array ap}{hN:Nat}{hS:m Nat}{hP:m Item}(g:au)(b:WgLive L.tWg bo g):
  Goes P f de DC0 (Rv P de L bo (G (hI.at (hH.put ((gd[hN]?).bind (·.dst)) (.tuple #[])) (.inRegion gd hS::hP)) ah)) 12
   (G ((base L.add).at ⟨#[.pointer (h ⟨bo,0,n⟩),.int .i64 1,K,K,K,K,K,K,K,K,K,K,K,K,K,K,K,K,K,K,K,K,K,K,K,K,K,K,K,K,K,K,K,K,K,K,K,K,K,K,K,K,K,K,K,K,K,K,K,K,K,K,K,K,K,K,K,K,K,K,K,K,K,K,K,K,K,K,K,K,K,K,K,K,K,K,K,K,K,K,K,K,K,K,K,K,K,K,K,K,K,K,K,K,K,K,K,K,K,K,K,K,K,K,K,K,K,K,K,K,K,K,K,K,K,K,K],[]⟩ [.code (body_add L)]) (hI.at hH (.inRegion gd (hN::hS)::hP)::ah)) g:=by
 lib_facts
 simp only[body_add,addFn,iq]
 repeat (u_c aw d b)
 u_cond f d b
 repeat (u_c aw d b)
 u_reg d b
 u_op d b
 u_op d b
 u_c aF d b
 repeat (u_c aw d b)
 u_cond l d b
 u_c stepG_skip d b
 repeat (u_c aw d b)
 u_reg d b
 refine Goes.stop (λu o=>?_);refine⟨a,_,λg=>stepG_mark0 .disable E a a (by k_ne) a H.f_disable (x_disable_n L) (x_disable_b L) (x_disable_x L) (x_disable_f L),λg b=>?_⟩;clear o;refine⟨40,?_⟩
 walk_nrm
 u_c aF d b
 repeat (u_c aw d b)
 u_reg d b
 u_defer d b
 u_c aF d b
 repeat (u_c aw d b)
 u_reg d b
 u_op d b
 u_c aF d b
 repeat (u_c aw d b)
 u_reg d b
 u_bub d b
 u_c aF d b
 repeat (u_c aw d b)
 u_cond l d b
 u_c stepG_skip d b
 repeat (u_c aw d b)
 u_reg d b
 u_op d b
 u_op d b
 u_op d b
 u_op d b
 u_op d b
 u_op d b
 u_call H.f_uAdd (nm_uAdd L) uAddFn d b
 repeat (u_c aw d b)
 u_reg d b
 u_op d b
 u_c aF d b
 repeat (u_c aw d b)
 u_reg d b
 u_op d b
 u_op d b
 u_op d b
 u_op d b
 refine Goes.stop (λq k=>?_);replace b:=d b k;clear k;refine⟨a,λe D i=>?_⟩;have s:KK=4294967296:=rfl;have t:IntKind.u64.wrap ((e:Int)*KK+4294967296)=((e:Int)+1)*KK:=by rw[IntKind.wrap_u64];simp only[s];omega
 refine⟨_,(stepG_add_atomic a a (by k_ne) a H.f_addU64 (x_addU64_n L) (x_addU64_b L) (x_addU64_x L) .u64 (x_addU64_f L) a a i.cellSt (i.thaw 0)).trans (by rw[t];rfl),110,?_⟩;replace b:WgLive L.tWg bo (q.setCell (stA bo) (.int .u64 (((e:Int)+1)*KK))):=⟨_,_,i.setSt _⟩
 clear i
 walk_nrm
 u_op d b
 u_c aF d b
 u_c stepG_ret' d b
 u_leave1 H.f_uAdd d b
 u_op d b
 u_c aF d b
 have z:bits .and .u64 (((e:Int)+1)*4294967296) 2147483648=0:=by have:=Go.ConcN.st_flag (e+1) 0 y y;grind
 have C:bits .and .u64 (((e:Int)+1)*4294967296) 2147483647=0:=by have:=Go.ConcN.st_waiters (e+1) 0 y y;grind
 have F:((e:Int)+1+2147483648) % 4294967296-2147483648=(e:Int)+1:=y;have A:¬((e:Int)+1<0):=y;have B:(0:Int)<(e:Int)+1:=y
 repeat (u_c aw d b)
 u_reg d b
 u_op d b
 u_op d b
 u_op d b
 u_op d b
 u_skip d b
 u_skip d b
 u_op d b
 u_c aF d b
 repeat (u_c aw d b)
 u_cond l d b
 u_c stepG_skip d b
 repeat (u_c aw d b)
 u_reg d b
 u_op d b
 u_op d b
 u_op d b
 u_op d b
 u_c aF d b
 repeat (u_c aw d b)
 u_reg d b
 u_op d b
 u_op d b
 u_op d b
 u_op d b
 u_c aF d b
 by_cases w:(e:Int)+1=1
 .repeat (u_c aw d b)
  u_reg d b
  u_op d b
  u_op d b
  u_op d b
  u_op d b
  u_op d b
  u_op d b
  u_op d b
  u_op d b
  u_op d b
  u_op d b
  u_c aF d b
  repeat (u_c aw d b)
  u_cond f d b
  repeat (u_c aw d b)
  u_reg d b
  u_op d b
  u_op d b
  u_op d b
  u_conv H.underlying_tPU32 H.room_tU32 (Go.ConcN.Gen.WgLive.cell1 b).choose_spec d b
  refine Goes.stop (λv p=>.inl ?_);clear p;refine⟨a,_,⟨bo,1,n⟩,a,λg=>stepG_markAt .read E a a (by k_ne) a H.f_raceRead (x_raceRead_n L) (x_raceRead_b L) (x_raceRead_x L) (x_raceRead_f L) (ad:=⟨bo,1,n⟩) (by simp[Act.eval]),λg b=>⟨50,?_⟩⟩
  walk_nrm
  u_c aF d b
  repeat (u_c aw d b)
  u_reg d b
  u_op d b
  u_op d b
  u_c aF d b
  repeat (u_c aw d b)
  u_cond l d b
  u_c stepG_skip d b
  repeat (u_c aw d b)
  u_reg d b
  u_op d b
  u_op d b
  u_op d b
  u_skip d b
  u_skip d b
  u_op d b
  u_op d b
  u_skip d b
  u_skip d b
  u_skip d b
  u_skip d b
  u_op d b
  u_c aF d b
  repeat (u_c aw d b)
  u_cond l d b
  u_c stepG_skip d b
  repeat (u_c aw d b)
  u_reg d b
  u_op d b
  u_op d b
  u_op d b
  u_skip d b
  u_skip d b
  u_op d b
  u_c aF d b
  repeat (u_c aw d b)
  u_cond f d b
  u_c stepG_ret' d b
  refine Goes.stop (λr j=>?_);clear j;refine⟨a,_,λg=>stepG_unwind_entry (v:=.tuple #[]) (evs:=#[mk .enable]) a H.f_enable (x_enable_n L) (x_enable_b L) (x_enable_x L) (x_enable_f L) (by simp[Extern.Race.none_]) wo wo,λg b=>⟨1,?_⟩⟩
  u_leave0 H.f_add d b
  grind[Goes.stop]
 have x:((e:Int)+1==1)=l:=M
 repeat (u_c aw d b)
 u_reg d b
 u_op d b
 u_op d b
 u_op d b
 u_op d b
 u_op d b
 u_op d b
 u_op d b
 u_op d b
 u_op d b
 u_op d b
 u_c aF d b
 repeat (u_c aw d b)
 u_cond l d b
 u_c stepG_skip d b
 repeat (u_c aw d b)
 u_reg d b
 u_op d b
 u_op d b
 u_c aF d b
 repeat (u_c aw d b)
 u_cond l d b
 u_c stepG_skip d b
 repeat (u_c aw d b)
 u_reg d b
 u_op d b
 u_op d b
 u_op d b
 u_skip d b
 u_skip d b
 u_op d b
 u_op d b
 u_skip d b
 u_skip d b
 u_skip d b
 u_skip d b
 u_op d b
 u_c aF d b
 repeat (u_c aw d b)
 u_cond l d b
 u_c stepG_skip d b
 repeat (u_c aw d b)
 u_reg d b
 u_op d b
 u_op d b
 u_op d b
 u_skip d b
 u_skip d b
 u_op d b
 u_c aF d b
 repeat (u_c aw d b)
 u_cond f d b
 u_c stepG_ret' d b
 refine Goes.stop (λr j=>.inr ?_);clear j;refine⟨a,_,λg=>stepG_unwind_entry (v:=.tuple #[]) (evs:=#[mk .enable]) a H.f_enable (x_enable_n L) (x_enable_b L) (x_enable_x L) (x_enable_f L) (by simp[Extern.Race.none_]) wo wo,λg b=>⟨1,?_⟩⟩
 u_leave0 H.f_add d b
 grind[Goes.stop]
end
section
open Go.Conc Go.RowKit Go.Conc.Lib Go.ConcR.Gen
open Go.ConcN (WgLive)
open Go.ConcR (KK WgAt stA smA rd wr mk DC0)
section
variable (P:aI)(de:au->au->Prop)(L:WgLink)(bo:Nat)(hl:ak)(x:ak->Prop)
def FP(b:ak)(_:au):Prop:=b.status=.running/\∃a,(∀d,aq P f b d=.go a d #[mk (.acquire (stA bo))])/\∀w1,WgLive L.tWg bo w1->∃e,Goes P f de DC0 (λb _=>b=hl) e a w1
def Ae(b:ak)(_:au):Prop:=b.status=.running/\∃a,(∀d,aq P f b d=.go a d #[mk .enable])/\∀w1,WgLive L.tWg bo w1->∃e,Goes P f de DC0 (FP P de L bo hl) e a w1
def FS(d:ak)(b:au):Prop:=d.status=.running/\(WgAt L.tWg bo b 0 0->∃a,aq P f d b=.go a b #[rd (stA bo)]/\∃e,Goes P f de DC0 (Ae P de L bo hl) e a b)
def FR(b:ak)(a:au):Prop:=b.status=.running/\b.offers=n/\((∃e,WgAt L.tWg bo a e 0)->aq P f b a=.go {b with status:=.blocked} a #[]) /\
 (WgAt L.tWg bo a 0 1->∃d,aq P f b a=.go d (a.setCell (smA bo) (.int .u32 0)) (semEvents (smA bo))/\∃g,Goes P f de DC0 (FS P de L bo hl) g d (a.setCell (smA bo) (.int .u32 0)))
def FT(d:ak)(_:au):Prop:=d.status=.running/\∃b a,a.block=bo/\(∀e,aq P f d e=.go b e #[mk (.write a)])/\∀w1,WgLive L.tWg bo w1->∃g,Goes P f de DC0 (FR P de L bo hl) g b w1
def FQ(B:Nat)(e:ak)(b:au):Prop:=e.status=.running/\∀d:Nat,d<2147483648->WgAt L.tWg bo b (d*KK) 0 ->
 (d=B->∃a,aq P f e b=.go a (b.setCell (stA bo) (.int .u64 (d*KK+1))) #[rd (stA bo),wr (stA bo)]/\∃g,Goes P f de DC0 (FT P de L bo hl) g a (b.setCell (stA bo) (.int .u64 (d*KK+1)))) /\
 (d≠B->∃a,aq P f e b=.go a b #[rd (stA bo)]/\∃g,Goes P f de DC0 (λe _=>x e) g a b)
def Ry(g:ak)(d:au):Prop:=g.status=.running/\∀b:Nat,b<2147483648->WgAt L.tWg bo d (b*KK) 0 ->
 ∃a,aq P f g d=.go a d #[rd (stA bo)]/\(b=0->∃e,Goes P f de DC0 (Ae P de L bo hl) e a d)/\(b≠0->∃e,Goes P f de DC0 (FQ P de L bo hl x b) e a d)
def Rx(b:ak)(_:au):Prop:=b.status=.running/\∃a,(∀d,aq P f b d=.go a d #[mk .disable])/\∀w1,WgLive L.tWg bo w1->∃e,Goes P f de DC0 (λb _=>x b) e a w1
end
def q_(L:WgLink)(b:Nat)(e:aK)(d:m aK)(g:ak):Prop:=
 ∃a:Array Z,g=G ((base L.wait).at ⟨a,[]⟩ [.code (L7 L),.inLoop (L7 L),.inBlock 0]) (e::d)/\a.size=84/\a[0]?=h (.pointer (h ⟨b,0,n⟩))
set_option maxRecDepth 100000 in
def aew{L}(H:WgLib P L){de:au->au->Prop}{bo}(d:∀{e w1},WgLive L.tWg bo e->de e w1->WgLive L.tWg bo w1){s}(e)(b:WgLive L.tWg bo e):
  Goes P f de DC0 (Rx P de L bo (q_ L bo s ah)) 6 (G ((base L.wait).at ⟨#[.pointer (h ⟨bo,0,n⟩),K,K,K,K,K,K,K,K,K,K,K,K,K,K,K,K,K,K,K,K,K,K,K,K,K,K,K,K,K,K,K,K,K,K,K,K,K,K,K,K,K,K,K,K,K,K,K,K,K,K,K,K,K,K,K,K,K,K,K,K,K,K,K,K,K,K,K,K,K,K,K,K,K,K,K,K,K,K,K,K,K,K,K],[]⟩ [.code (body_wait L)]) (s::ah)) e:=by
 lib_facts
 unfold q_;simp only[L7,body_wait,waitFn,iq]
 repeat (u_c aw d b)
 u_cond f d b
 repeat (u_c aw d b)
 u_reg d b
 refine Goes.stop (λi g=>?_);clear g;refine⟨a,_,λe=>stepG_mark0 .disable E a a (by k_ne) a H.f_disable (x_disable_n L) (x_disable_b L) (x_disable_x L) (x_disable_f L),λe b=>⟨6,?_⟩⟩
 walk_nrm
 u_c aF d b
 repeat (u_c aw d b)
 u_c stepG_block d b
 u_c stepG_loop d b
 exact Goes.stop λ_ _=>⟨_,a,a,a⟩
end
section
open Go.Conc Go.RowKit Go.Conc.Lib Go.ConcR.Gen
open Go.ConcN (WgLive)
open Go.ConcN.Gen
open Go.ConcR (KK WgAt stA smA rd wr mk DC0)
set_option maxRecDepth 100000 in
def aev{L:WgLink}(H:WgLib P L){de:au->au->Prop}{bo:Nat}(e:∀{i w1},WgLive L.tWg bo i->de i w1->WgLive L.tWg bo w1){hI:aK}{hH:Act}{gd:Array ap}{hN:Nat}{hS:m Nat}{hP:m Item}(v:ak)(a5:q_ L bo (hI.at hH (.inRegion gd (hN::hS)::hP)) ah v)(i:au)(b:WgLive L.tWg bo i):
  ∃ba,Goes P f de DC0 (Ry P de L bo (G (hI.at (hH.put ((gd[hN]?).bind (·.dst)) (.tuple #[])) (.inRegion gd hS::hP)) ah) (q_ L bo (hI.at hH (.inRegion gd (hN::hS)::hP)) ah)) ba v i:=by
 lib_facts
 obtain⟨a4,rfl,bb,D⟩:=a5;obtain⟨bl,bm,bn,bp,bq,br,bs,bt,bu,bw,F,I,J,bO,K,O,bB,Q,R,S,T,bP,U,V,bA,W,X,bK,Y,Z,aa,ab,bN,ae,bI,bD,ag,ai,aj,aN,bF,bG,an,ao,aq,bE,bx,ar,av,ax,az,aA,aB,aD,N,aE,aG,aH,bL,aI,bJ,aJ,aL,aM,aO,bQ,bz,bC,aP,aQ,aR,aS,aT,aU,aV,aW,aX,aZ,z,a0,a1,a2,a3,bH,rfl⟩:=array84 a4 bb;simp only[j7,m8,eU]at D;subst D;refine⟨30,?_⟩;unfold q_;simp only[L7,body_wait,waitFn,iq]
 u_c stepG_block e b
 repeat (u_c aw e b)
 u_reg e b
 u_op e b
 u_op e b
 u_op e b
 u_call H.f_uLoad (nm_uLoad L) uLoadFn e b
 repeat (u_c aw e b)
 u_reg e b
 u_op e b
 u_c aF e b
 repeat (u_c aw e b)
 u_reg e b
 u_op e b
 u_op e b
 u_op e b
 refine Goes.stop (λbc B=>?_);replace b:=e b B;clear B;refine⟨a,λp a' g=>?_⟩;rcases n3 p with rfl|x
 .replace g:WgAt L.tWg bo bc 0 0:=M;refine⟨_,stepG_load_atomic (v:=0) a a (by k_ne) a H.f_loadU64 (x_loadU64_n L) (x_loadU64_b L) (x_loadU64_x L) .u64 (x_loadU64_f L) a g.cellSt,λ_=>⟨80,?_⟩,λa_=>absurd a a_⟩;clear g
  walk_nrm
  u_op e b
  u_c aF e b
  u_c stepG_ret' e b
  u_leave1 H.f_uLoad e b
  u_op e b
  u_c aF e b
  repeat (u_c aw e b)
  u_reg e b
  u_op e b
  u_op e b
  u_op e b
  u_op e b
  u_c aF e b
  repeat (u_c aw e b)
  u_reg e b
  u_op e b
  u_op e b
  u_op e b
  u_op e b
  u_c aF e b
  repeat (u_c aw e b)
  u_reg e b
  u_op e b
  u_op e b
  u_c aF e b
  repeat (u_c aw e b)
  u_cond f e b
  repeat (u_c aw e b)
  u_cond f e b
  repeat (u_c aw e b)
  u_reg e b
  refine Goes.stop (λq o=>?_);clear o;refine⟨a,_,λi=>stepG_mark0 .enable E a a (by k_ne) a H.f_enable (x_enable_n L) (x_enable_b L) (x_enable_x L) (x_enable_f L),λi b=>⟨20,?_⟩⟩
  walk_nrm
  u_c aF e b
  repeat (u_c aw e b)
  u_reg e b
  u_op e b
  u_conv H.underlying_tWgP H.room_tWg (Go.ConcN.Gen.WgLive.cell0 b).choose_spec e b
  refine Goes.stop (λq o=>?_);clear o;refine⟨a,_,λi=>stepG_markAt .acquire E a a (by k_ne) a H.f_acquire (x_acquire_n L) (x_acquire_b L) (x_acquire_x L) (x_acquire_f L) EM,λi b=>⟨40,?_⟩⟩
  walk_nrm
  u_c aF e b
  repeat (u_c aw e b)
  u_reg e b
  u_op e b
  u_op e b
  u_op e b
  u_op e b
  u_op e b
  u_op e b
  u_op e b
  u_op e b
  u_skip e b
  u_skip e b
  u_op e b
  u_c aF e b
  repeat (u_c aw e b)
  u_cond l e b
  u_c stepG_skip e b
  u_c stepG_ret' e b
  u_leave0 H.f_wait e b
  grind[Goes.stop]
 obtain⟨j,d⟩:∃j:Int,(p:Int)*KK=j:=⟨_,rfl⟩;have a6:j / 4294967296=(p:Int):=NO
 have a7:bits .and .u64 j 2147483648=0:=by rw[<-d];have:=Go.ConcN.st_flag p 0 y y;simpa[KK]using this
 have a8:bits .and .u64 j 2147483647=0:=by rw[<-d];have:=Go.ConcN.st_waiters p 0 y y;simpa[KK]using this
 have a9:IntKind.i32.wrap (p:Int)=(p:Int):=by grind[IntKind.wrap_i32]
 have w1:IntKind.u64.wrap (j+1)=j+1:=by rw[IntKind.wrap_u64,<-d];simp only[KK];omega
 have bf:decide ((p:Int)<0)=l:=lE y;have bg:decide (0<(p:Int))=f:=fm y;have bh:((p:Int)==0)=l:=M;have bj:decide ((p:Int)=0)=l:=lE y;rw[d]at g;refine⟨_,stepG_load_atomic (v:=j) a a (by k_ne) a H.f_loadU64 (x_loadU64_n L) (x_loadU64_b L) (x_loadU64_x L) .u64 (x_loadU64_f L) a g.cellSt,λs=>absurd s y,λ_=>⟨80,?_⟩⟩;clear g
 walk_nrm
 u_op e b
 u_c aF e b
 u_c stepG_ret' e b
 u_leave1 H.f_uLoad e b
 u_op e b
 u_c aF e b
 repeat (u_c aw e b)
 u_reg e b
 u_op e b
 u_op e b
 u_op e b
 u_op e b
 u_c aF e b
 repeat (u_c aw e b)
 u_reg e b
 u_op e b
 u_op e b
 u_op e b
 u_op e b
 u_c aF e b
 repeat (u_c aw e b)
 u_reg e b
 u_op e b
 u_op e b
 u_c aF e b
 repeat (u_c aw e b)
 u_cnd l e b
 u_c stepG_skip e b
 repeat (u_c aw e b)
 u_reg e b
 u_op e b
 u_op e b
 u_op e b
 u_op e b
 u_op e b
 u_op e b
 u_call H.f_uCas (nm_uCas L) uCasFn e b
 repeat (u_c aw e b)
 u_reg e b
 u_op e b
 u_c aF e b
 repeat (u_c aw e b)
 u_reg e b
 u_op e b
 u_op e b
 u_op e b
 u_op e b
 u_op e b
 refine Goes.stop (λq o=>?_);replace b:=e b o;clear o;refine⟨a,λt w g=>⟨λu=>?_,λu=>?_⟩⟩
 .subst u;rw[d]at g⊢;refine⟨_,(stepG_cas_hit (v:=j) (n:=j+1) a a (by k_ne) a H.f_casU64 (x_casU64_n L) (x_casU64_b L) (x_casU64_x L) .u64 (x_casU64_f L) a a a g.cellSt (g.thaw 0)).trans oR,90,?_⟩;replace b:WgLive L.tWg bo (q.setCell (stA bo) (.int .u64 (j+1))):=⟨_,_,g.setSt _⟩
  clear g
  walk_nrm
  u_op e b
  u_c aF e b
  u_c stepG_ret' e b
  u_leave1 H.f_uCas e b
  u_c aF e b
  repeat (u_c aw e b)
  u_cond f e b
  repeat (u_c aw e b)
  u_reg e b
  u_op e b
  u_op e b
  u_op e b
  u_op e b
  u_c aF e b
  repeat (u_c aw e b)
  u_cond f e b
  repeat (u_c aw e b)
  u_reg e b
  u_op e b
  u_op e b
  u_op e b
  u_conv H.underlying_tPU32 H.room_tU32 (Go.ConcN.Gen.WgLive.cell1 b).choose_spec e b
  refine Goes.stop (λq o=>?_);clear o;refine⟨a,_,⟨bo,1,n⟩,a,λi=>stepG_markAt .write E a a (by k_ne) a H.f_raceWrite (x_raceWrite_n L) (x_raceWrite_b L) (x_raceWrite_x L) (x_raceWrite_f L) (ad:=⟨bo,1,n⟩) (by simp[Act.eval]),λi b=>⟨60,?_⟩⟩
  walk_nrm
  u_c aF e b
  repeat (u_c aw e b)
  u_reg e b
  u_op e b
  u_c aF e b
  repeat (u_c aw e b)
  u_reg e b
  u_op e b
  u_op e b
  u_op e b
  u_op e b
  u_skip e b
  u_op e b
  u_c aF e b
  repeat (u_c aw e b)
  u_cond l e b
  u_c stepG_skip e b
  repeat (u_c aw e b)
  u_reg e b
  u_op e b
  u_op e b
  u_op e b
  u_op e b
  refine Goes.stop (λbd C=>?_);replace b:=e b C;clear C;refine⟨a,a,λ⟨bk,g⟩=>stepG_semacquire_wait a a a H.f_semacquire (x_semacquire_n L) (x_semacquire_b L) (x_semacquire_x L) (x_semacquire_f L) (by simp[Act.eval,smA]) g.cellSm,λr=>?_⟩;refine⟨_,(stepG_semacquire (n:=1) a a (by k_ne) a H.f_semacquire (x_semacquire_n L) (x_semacquire_b L) (x_semacquire_x L) (x_semacquire_f L) (by simp[Act.eval,smA]) r.cellSm (by k_ne) (r.thaw 1)).trans oR,40,?_⟩;replace b:WgLive L.tWg bo (bd.setCell (smA bo) (.int .u32 0)):=⟨_,_,r.setSm 0⟩
  clear r
  walk_nrm
  u_c aF e b
  repeat (u_c aw e b)
  u_reg e b
  u_op e b
  u_op e b
  u_op e b
  u_call H.f_uLoad (nm_uLoad L) uLoadFn e b
  repeat (u_c aw e b)
  u_reg e b
  u_op e b
  u_c aF e b
  repeat (u_c aw e b)
  u_reg e b
  u_op e b
  u_op e b
  u_op e b
  refine Goes.stop (λbM A=>?_);replace b:=e b A;clear A;refine⟨a,λg=>⟨_,stepG_load_atomic (v:=0) a a (by k_ne) a H.f_loadU64 (x_loadU64_n L) (x_loadU64_b L) (x_loadU64_x L) .u64 (x_loadU64_f L) a g.cellSt,40,?_⟩⟩;clear g
  walk_nrm
  u_op e b
  u_c aF e b
  u_c stepG_ret' e b
  u_leave1 H.f_uLoad e b
  u_op e b
  u_op e b
  u_c aF e b
  repeat (u_c aw e b)
  u_cond f e b
  repeat (u_c aw e b)
  u_reg e b
  refine Goes.stop (λq o=>?_);clear o;refine⟨a,_,λi=>stepG_mark0 .enable E a a (by k_ne) a H.f_enable (x_enable_n L) (x_enable_b L) (x_enable_x L) (x_enable_f L),λi b=>⟨20,?_⟩⟩
  walk_nrm
  u_c aF e b
  repeat (u_c aw e b)
  u_reg e b
  u_op e b
  u_conv H.underlying_tWgP H.room_tWg (Go.ConcN.Gen.WgLive.cell0 b).choose_spec e b
  refine Goes.stop (λq o=>?_);clear o;refine⟨a,_,λi=>stepG_markAt .acquire E a a (by k_ne) a H.f_acquire (x_acquire_n L) (x_acquire_b L) (x_acquire_x L) (x_acquire_f L) EM,λi b=>⟨40,?_⟩⟩
  walk_nrm
  u_c aF e b
  repeat (u_c aw e b)
  u_reg e b
  u_op e b
  u_c aF e b
  repeat (u_c aw e b)
  u_cond l e b
  u_c stepG_skip e b
  u_c stepG_ret' e b
  u_leave0 H.f_wait e b
  grind[Goes.stop]
 refine⟨_,stepG_cas_miss (v:=(t:Int)*KK) (old:=j) (n:=j+1) a a (by k_ne) a H.f_casU64 (x_casU64_n L) (x_casU64_b L) (x_casU64_x L) .u64 (x_casU64_f L) a a a g.cellSt (g.thaw 0) NO,30,?_⟩;clear g
 walk_nrm
 u_op e b
 u_c aF e b
 u_c stepG_ret' e b
 u_leave1 H.f_uCas e b
 u_c aF e b
 repeat (u_c aw e b)
 u_cond l e b
 u_c stepG_skip e b
 u_c stepG_inBlock e b
 u_c stepG_inLoop e b
 exact Goes.stop λ_ _=>⟨_,a,by simp,by simp⟩
end
section
open Go.Conc Go.Conc.Lib
open Go.ConcN (WgLive)
open Go.ConcR (KK WgAt stA smA rd wr mk DC0 Payload)
def fy(b:av)(a:Nat)(d w1:au):Prop:=WgLive b a d->WgLive b a w1
def fy.refl{ty}{bo}(a):fy ty bo a a:=id
def fy.trans{ty}{bo}{a j s}(b:fy ty bo a j)(d:fy ty bo j s):fy ty bo a s:=λe=>d (b e)
def nQ(b:au->au->Prop)(a:ak->au->Prop)(d:ak)(e:au):Prop:=∀w1,b e w1->a d w1
def Goes.gI{P}{eP}{e:au->au->Prop}{z:au->au->Array aT->Prop}{a:ak->au->Prop}(aR:∀m o p,e m o->e o p->e m p):
  ∀{k:Nat} {g:ak} {j:au},Goes P eP e z a k g j->Goes P eP e z (nQ e a) k g j
 |0,g,j,d=>λw1 i w2 b=>d w2 (aR _ _ _ i b)
 |k+1,g,j,d=>by
  rcases d with d|⟨r,d⟩
  .exact .inl λw1 i w2 b=>d w2 (aR _ _ _ i b)
  refine .inr ⟨r,λw1 i=>?_⟩;have b:=d w1 i;cases q:aq P eP g w1 with
  |go t u s=>
   rw[q,goes_go]at b;rw[goes_go];exact⟨b.1,Goes.gI aR b.2⟩
  |_=>rw[q]at b;exact b.elim
structure kW(bo:Nat)(ea:a5->Prop):Prop where
 rely:∀b az,ea b->cU b az->ea az
 heap:∀b,ea b->∃p,bb p b
 iW:∀b,ea b->¬b.own bo/\(∀L∈b.l,bo∉L.al)/\∀t,b.u bo t=n
section
variable {P:aI}{L:WgLink}{bo:Nat}{ea:a5->Prop}
def il(b:av)(a:Nat)(e:a5->Prop)(d:a5):Prop:=e d/\WgLive b a d.a
def kW.hy(O:kW bo ea){b}(a:ea b):gk b:=(O.heap b a).choose_spec.mem
def kW.set(O:kW bo ea){b}(j:ea b)(e)(q:e.block=bo)(aa):cU b {b with a:=b.a.setCell e aa}:=by
 obtain⟨r,s,t⟩:=O.iW b j;have g:∀d,d≠bo->(b.a.setCell e aa).heap[d]?=b.a.heap[d]?:=λd i=>by have:=(aside_setCell b.a e aa).block d M;omega
 refine⟨a,a,a,Nat.le_of_eq (aside_setCell b.a e aa).size.symm,λd i=>g d M,λd k p o=>?_,(aside_setCell b.a e aa).os,(aside_setCell b.a e aa).tape,(aside_setCell b.a e aa).output⟩;have m:d≠bo:=M;show(b.a.setCell e aa).cell? _=_;rw[nd (g d m) k];exact O.hy j d k p o
def kW.next(O:kW bo ea){ty}{b e}(a:il ty bo ea b)(a':(aj.aG P ty bo).rely b e):il ty bo ea e:=⟨O.rely b e a.1 a'.1,a'.2 a.2⟩
def kW.jb(O:kW bo ea){ty}{b}(a:il ty bo ea b):(aj.aG P ty bo).rely b b:=⟨cU.eo (O.hy a.1),id⟩
def kW.goes(O:kW bo ea){ty}{g:ak->a5->Prop}{Stop:ak->au->Prop}(p:∀C b,il ty bo ea b->nQ (fy ty bo) Stop C b.a->ds (aj.aG P ty bo) (dS bo) g C b){k}{C}{b}(i:il ty bo ea b)(m:Goes P f (fy ty bo) DC0 Stop k C b.a):ds (aj.aG P ty bo) (dS bo) g C b:=by refine ds.goes (r:=aj.aG P ty bo) (de:=fy ty bo) (z:=DC0) (Stop:=nQ (fy ty bo) Stop) (il ty bo ea) (λb o d e=>O.next d e) (λb o _ e=>e.2) ?_ (λb d=>O.jb d) p k C b i (Goes.gI (λ_ _ _ q s=>q.trans s) m);rintro b j d t ⟨rfl,rfl⟩;exact⟨a,.inl (.aZ (O.heap b d.1).choose_spec)⟩
end
set_option maxRecDepth 100000 in
def Tk{P}{L}(H:WgLib P L){bo}:Frame.enter P L.add #[.pointer (h ⟨bo,0,n⟩),.int .i64 1] .normal=(base L.add).at ⟨#[.pointer (h ⟨bo,0,n⟩),.int .i64 1,K,K,K,K,K,K,K,K,K,K,K,K,K,K,K,K,K,K,K,K,K,K,K,K,K,K,K,K,K,K,K,K,K,K,K,K,K,K,K,K,K,K,K,K,K,K,K,K,K,K,K,K,K,K,K,K,K,K,K,K,K,K,K,K,K,K,K,K,K,K,K,K,K,K,K,K,K,K,K,K,K,K,K,K,K,K,K,K,K,K,K,K,K,K,K,K,K,K,K,K,K,K,K,K,K,K,K,K,K,K,K,K,K,K,K],[]⟩ [.code (Go.ConcR.Gen.body_add L)]:=
 (enter_at (c:=Go.ConcR.Gen.body_add L) _ H.f_add bJ).trans bJ
set_option maxRecDepth 100000 in
def Tl{P}{L}(H:WgLib P L){bo}:Frame.enter P L.wait #[.pointer (h ⟨bo,0,n⟩)] .normal=(base L.wait).at ⟨#[.pointer (h ⟨bo,0,n⟩),K,K,K,K,K,K,K,K,K,K,K,K,K,K,K,K,K,K,K,K,K,K,K,K,K,K,K,K,K,K,K,K,K,K,K,K,K,K,K,K,K,K,K,K,K,K,K,K,K,K,K,K,K,K,K,K,K,K,K,K,K,K,K,K,K,K,K,K,K,K,K,K,K,K,K,K,K,K,K,K,K,K,K],[]⟩ [.code (Go.ConcR.Gen.body_wait L)]:=
 (enter_at (c:=Go.ConcR.Gen.body_wait L) _ H.f_wait bJ).trans bJ
section
variable [Payload]{P:aI}{L:WgLink}{J:hE}{ea:a5->Prop}{D k:Nat}{val:Nat->Nat->Z}
def RR(H:WgLib P L)(O:kW J.f ea){w}{Next:ak->a5->Prop}{hI:aK}{hH}{gd}{hN}{hS}{hP}{ah}(E:∀b,il L.tWg J.f ea b->ds (aj.aG P L.tWg J.f) (dS J.f) (wI P L.tWg J D val w Next) (G (hI.at (hH.put ((gd[hN]?).bind (·.dst)) (.tuple #[])) (.inRegion gd hS::hP)) ah) b){b}(g:il L.tWg J.f ea b):
  ds (aj.aG P L.tWg J.f) (dS J.f) (z6 P L.tWg J D val w Next) (G (Frame.enter P L.add #[.pointer (h ⟨J.f,0,n⟩),.int .i64 1] .normal) (hI.at hH (.inRegion gd (hN::hS)::hP)::ah)) b:=by
 have C:∀i b,il L.tWg J.f ea b->Ad P (fy L.tWg J.f) L J.f (G (hI.at (hH.put ((gd[hN]?).bind (·.dst)) (.tuple #[])) (.inRegion gd hS::hP)) ah) i b.a->ds (aj.aG P L.tWg J.f) (dS J.f) (z7 P L.tWg J D val w Next) i b:=by rintro i b g ⟨o,d,q,r⟩;refine⟨.leaf,o,d,q,λk m=>?_⟩;have j:=O.next g m;obtain⟨v,p⟩:=r k.a j.2;exact O.goes (λi b g e=>by obtain rfl:=e b.a (.refl _);grind) j p
 have z:∀i b,il L.tWg J.f ea b->nQ (fy L.tWg J.f) (FO P (fy L.tWg J.f) L J.f (G (hI.at (hH.put ((gd[hN]?).bind (·.dst)) (.tuple #[])) (.inRegion gd hS::hP)) ah)) i b.a->ds (aj.aG P L.tWg J.f) (dS J.f) (z3 P L.tWg J D val w Next) i b:=by
  rintro i b g e;refine⟨.leaf,(e b.a (.refl _)).1,λk m x y s=>?_⟩;have j:=O.next g m;obtain⟨d,o,v,p⟩:=(e k.a m.2).2 x y s;have A:il L.tWg J.f ea {k with a:=k.a.setCell (stA J.f) (.int .u64 ((x+1)*KK))}:=⟨O.rely _ _ j.1 (O.set j.1 _ rfl _),⟨_,_,s.setSt _⟩⟩;refine⟨d,o,O.goes (λi b g e=>?_) A p⟩
  rcases e b.a (.refl _)with e|e
  .obtain⟨o,d,t,q,r,u⟩:=e;refine .step o λk m=>⟨d,k,_,r k.a,.inr ⟨a,t,q,.inl a⟩,?_⟩
   have j:=O.next g m;obtain⟨v,p⟩:=u k.a j.2;exact O.goes (λi b g e=>C i b g (e b.a (.refl _))) j p
  grind
 have s:=RS (P:=P) (L:=L) H (de:=fy L.tWg J.f) (bo:=J.f) (λe B=>B e) (hI:=hI) (hH:=hH) (gd:=gd) (hN:=hN) (hS:=hS) (hP:=hP) (ah:=ah) b.a g.2;rw[Tk H];refine O.goes (λi b g e=>?_) g s;obtain⟨o,d,q,r⟩:=e b.a (.refl _);refine⟨.leaf,o,d,q,λk m=>?_⟩;have j:=O.next g m;obtain⟨v,p⟩:=r k.a j.2;exact O.goes z j p
section
variable (P L J ea)
def fb(b a:ak)(d:a5):Prop:=il L.tWg J.f ea d/\∃e,Goes P f (fy L.tWg J.f) DC0 (λa _=>a=b) e a d.a
def wH(e:aK)(a:m aK)(b:ak)(d:a5):Prop:=il L.tWg J.f ea d/\∃g,Goes P f (fy L.tWg J.f) DC0 (λb _=>q_ L J.f e a b) g b d.a
end
variable {hI:aK}{hH:Act}{gd:Array ap}{hN:Nat}{hS:m Nat}{hP:m Item}{ah:m aK}
omit [Payload]in
def R0(H:WgLib P L)(O:kW J.f ea){s x:ak->a5->Prop}(E:∀C b,fb P L J ea (G (hI.at (hH.put ((gd[hN]?).bind (·.dst)) (.tuple #[])) (.inRegion gd hS::hP)) ah) C b->s C b)(N:∀C b,wH P L J ea (hI.at hH (.inRegion gd (hN::hS)::hP)) ah C b->x C b){C}{b}(g:wH P L J ea (hI.at hH (.inRegion gd (hN::hS)::hP)) ah C b):
  ds (aj.aG P L.tWg J.f) (dS J.f) (q' P L.tWg J s x) C b:=by
 generalize v:hI.at hH (.inRegion gd (hN::hS)::hP)=T at *;generalize aN:G (hI.at (hH.put ((gd[hN]?).bind (·.dst)) (.tuple #[])) (.inRegion gd hS::hP)) ah=o at E;have K:∀C b,il L.tWg J.f ea b->nQ (fy L.tWg J.f) (FP P (fy L.tWg J.f) L J.f o) C b.a->ds (aj.aG P L.tWg J.f) (dS J.f) (z4 P L.tWg J s) C b:=by intro C b i g;obtain⟨m,d,t,u⟩:=g b.a (.refl _);exact⟨.leaf,m,d,t,λj e=>E _ _ ⟨O.next i e,u j.a (O.next i e).2⟩⟩
 have F:∀C b,il L.tWg J.f ea b->nQ (fy L.tWg J.f) (Ae P (fy L.tWg J.f) L J.f o) C b.a->ds (aj.aG P L.tWg J.f) (dS J.f) (wJ P L.tWg J s) C b:=by intro C b i g;obtain⟨m,d,t,u⟩:=g b.a (.refl _);refine⟨.leaf,m,d,t,λj e=>?_⟩;obtain⟨q,k⟩:=u j.a (O.next i e).2;exact O.goes K (O.next i e) k
 have Q:∀C b,il L.tWg J.f ea b->nQ (fy L.tWg J.f) (FS P (fy L.tWg J.f) L J.f o) C b.a->ds (aj.aG P L.tWg J.f) (dS J.f) (z9 P L.tWg J s) C b:=by intro C b i g;refine⟨.leaf,(g b.a (.refl _)).1,λj e p=>?_⟩;obtain⟨d,m,q,k⟩:=(g j.a e.2).2 p;exact⟨d,m,O.goes F (O.next i e) k⟩
 have M:∀C b,il L.tWg J.f ea b->nQ (fy L.tWg J.f) (FR P (fy L.tWg J.f) L J.f o) C b.a->ds (aj.aG P L.tWg J.f) (dS J.f) (oT P L.tWg J s) C b:=by intro C b i g;refine⟨.leaf,(g b.a (.refl _)).1,(g b.a (.refl _)).2.1,λj e=>⟨(g j.a e.2).2.2.1,λp=>?_⟩⟩;obtain⟨d,m,q,k⟩:=(g j.a e.2).2.2.2 p;exact⟨d,m,O.goes Q (b:={j with a:=j.a.setCell (smA J.f) (.int .u32 0)}) ⟨O.rely _ _ (O.next i e).1 (O.set (O.next i e).1 _ rfl _),⟨_,_,p.setSm 0⟩⟩ k⟩
 have S:∀C b,il L.tWg J.f ea b->nQ (fy L.tWg J.f) (FT P (fy L.tWg J.f) L J.f o) C b.a->ds (aj.aG P L.tWg J.f) (dS J.f) (oT P L.tWg J s) C b:=by
  intro C b i g;obtain⟨m,d,y,t,u,D⟩:=g b.a (.refl _);refine .step m λj e=>⟨d,j,_,u j.a,.inr ⟨a,y,t,.inr a⟩,?_⟩
  obtain⟨q,k⟩:=D j.a (O.next i e).2;exact O.goes M (O.next i e) k
 have R:∀r C b,il L.tWg J.f ea b->nQ (fy L.tWg J.f) (FQ P (fy L.tWg J.f) L J.f o (q_ L J.f T ah) r) C b.a->ds (aj.aG P L.tWg J.f) (dS J.f) (z8 P L.tWg J s x r) C b:=by
  intro B C b i g;refine⟨.leaf,(g b.a (.refl _)).1,λj e r w p=>⟨λz=>?_,λz=>?_⟩⟩
  .obtain⟨d,m,q,k⟩:=((g j.a e.2).2 r w p).1 z;exact⟨d,m,O.goes S (b:={j with a:=j.a.setCell (stA J.f) (.int .u64 (r*KK+1))}) ⟨O.rely _ _ (O.next i e).1 (O.set (O.next i e).1 _ rfl _),⟨_,_,p.setSt _⟩⟩ k⟩
  obtain⟨d,m,q,k⟩:=((g j.a e.2).2 r w p).2 z;exact⟨d,m,N _ _ ⟨O.next i e,q,k⟩⟩
 obtain⟨i,q,k⟩:=g;refine O.goes (λC b i g=>?_) i k;obtain⟨q,p⟩:=aev (P:=P) (L:=L) H (de:=fy L.tWg J.f) (bo:=J.f) (λg U=>U g) (hI:=hI) (hH:=hH) (gd:=gd) (hN:=hN) (hS:=hS) (hP:=hP) (ah:=ah) C (by rw[v];exact g b.a (.refl _)) b.a i.2;rw[v,aN]at p;refine O.goes (λC b i g=>?_) i p;refine⟨.leaf,(g b.a (.refl _)).1,λj e r w p=>?_⟩;obtain⟨d,m,t,u⟩:=(g j.a e.2).2 r w p;refine⟨d,m,λA=>?_,λI=>?_⟩
 .obtain⟨q,k⟩:=t A;exact O.goes F (O.next i e) k
 obtain⟨q,k⟩:=u I;exact O.goes (R r) (O.next i e) k
omit [Payload]in
def aeu(H:WgLib P L)(O:kW J.f ea){s}{i:ak->a5->Prop}(N:∀d b,wH P L J ea s ah d b->i d b){b}(a:il L.tWg J.f ea b):
  ds (aj.aG P L.tWg J.f) (dS J.f) (z5 P L.tWg J i) (G (Frame.enter P L.wait #[.pointer (h ⟨J.f,0,n⟩)] .normal) (s::ah)) b:=by have q:=aew (P:=P) (L:=L) H (de:=fy L.tWg J.f) (bo:=J.f) (λg p=>p g) (s:=s) (ah:=ah) b.a a.2;rw[Tl H];refine O.goes (λd b a g=>?_) a q;obtain⟨m,e,o,r⟩:=g b.a (.refl _);exact⟨.leaf,m,e,o,λk j=>N _ _ ⟨O.next a j,r k.a (O.next a j).2⟩⟩
end
end
section
open Go.Conc Go.RowKit Go.Conc.Lib Go.ConcR.Gen
open Go.ConcN (WgLive Has RW DWs AtR0 EvW)
open Go.ConcN.Gen
open Go.ConcR (KK WgAt stA smA rd wr mk DC0 Payload)
section
variable {de:au->au->Prop}{z:au->au->Array aT->Prop}{Stop O:ak->au->Prop}
def Goes.hA(m:∀a,de a a)(v:∀b a,Stop b a->∃i t,aq P l b a=.go i a #[t])(s:∀g b a,O b a->¬Goes P l de z Stop g b a):
  ∀q g b a,Goes P l de DC0 O q b a->¬Goes P l de z Stop g b a
 |0,g,b,a,k,j=>s g b a (k a (m a)) j
 |q+1,g,b,a,k,j=>by
  rcases k with k|⟨_,k⟩
  .grind
  have e:=k a (m a);cases o:aq P l b a with
  |go i d u=>
   rw[o,goes_go]at e;obtain⟨⟨rfl,rfl⟩,p⟩:=e;have r:¬Stop b d:=λw=>by grind
   cases g with
   |zero=>exact r (j d (m d))
   |succ g=>
    rcases j with j|⟨_,j⟩
    .grind
    have k1:=j d (m d);rw[o,goes_go]at k1;exact Goes.hA m v s q g i d p k1.2
  |_=>rw[o]at e;exact e.elim
def Goes.hx(r:∀b,de b b)(y:∀d b,Stop d b->∃k w,aq P l d b=.go k b #[w])(s:∀e d b,O d b->Goes P l de z Stop e d b->∀w1,de b w1->Stop d w1):
  ∀p e d b,Goes P l de DC0 O p d b->Goes P l de z Stop e d b->Goes P l de DC0 Stop p d b
 |0,e,d,b,m,j=>s e d b (m b (r b)) j
 |p+1,e,d,b,m,j=>by
  rcases m with m|⟨v,m⟩
  .exact .inl (s e d b (m b (r b)) j)
  refine .inr ⟨v,λw1 o=>?_⟩;have g:=m w1 o;cases q:aq P l d w1 with
  |go k i x=>
   rw[q,goes_go]at g;rw[goes_go];obtain⟨⟨rfl,rfl⟩,t⟩:=g;have u:¬Stop d i:=λv=>by grind
   refine⟨⟨a,a⟩,?_⟩;cases e with
   |zero=>exact absurd (j i o) u
   |succ e=>
    rcases j with j|⟨_,j⟩
    .grind
    have k1:=j i o;rw[q,goes_go]at k1;exact Goes.hx r y s p e k i t k1.2
  |_=>rw[q]at g;exact g.elim
end
variable [Payload]{L:WgLink}{bo N m4 o:Nat}{val:Z}{s:aK}
def RG(P:aI)(d:ak)(_:au):Prop:=∃b,∀a,aq P l d a=.go b a #[mk .disable]
def RH(P:aI)(L:WgLink)(a g o e i:Nat)(d:Z)(k:ak)(b:au):Prop:=
 (WgLive L.tWg a b/\Has g (i-1) d b)/\∃j,(∀b,aq P l k b=.go j b #[mk (.releaseMerge (stA a))])/\∀b,WgLive L.tWg a b/\Has g (i-1) d b->∃m,Goes P l (RW L.tWg a g o e (i-1)) DC0 (RG P) m j b
set_option maxRecDepth 100000 in
def S6(H:WgLib P L)(d)(b:WgLive L.tWg bo d/\Has N (o-1) val d):
  Goes P l (RW L.tWg bo N k m4 (o-1)) DC0 (RH P L bo N k m4 o val) 23 (G ((baseD L.done).at ⟨#[.pointer (h ⟨bo,0,n⟩),K,K,K],[]⟩ [.code (body_done L)]) (s::ah)) d:=by
 lib_facts
 simp only[body_done,body_add,doneFn,addFn,iq]
 u_reg kn_rely b
 u_op kn_rely b
 u_in kn_rely b
 refine goes_call a a (by k_ne) a H.f_add (nm_add L) a ⟨by u_nil,?_⟩
 walk_nrmf addFn
 repeat (u_c aw kn_rely b)
 u_cond f kn_rely b
 repeat (u_c aw kn_rely b)
 u_reg kn_rely b
 u_op kn_rely b
 u_op kn_rely b
 u_c aF kn_rely b
 repeat (u_c aw kn_rely b)
 u_cond f kn_rely b
 u_reg kn_rely b
 u_op kn_rely b
 u_conv H.underlying_tWgP H.room_tWg (Go.ConcN.Gen.WgLive.cell0 b.1).choose_spec kn_rely b
 refine Goes.stop (λg e=>?_);replace b:=kn_rely b e;clear e;refine⟨b,_,λd=>stepG_markAt .releaseMerge E a a (by k_ne) a H.f_relMerge (x_relMerge_n L) (x_relMerge_b L) (x_relMerge_x L) (x_relMerge_f L) EM,λd b=>⟨10,?_⟩⟩
 walk_nrm
 u_c aF kn_rely b
 repeat (u_c aw kn_rely b)
 u_reg kn_rely b
 exact Goes.stop λg e=>⟨_,λd=>stepG_mark0 .disable E a a (by k_ne) a H.f_disable (x_disable_n L) (x_disable_b L) (x_disable_x L) (x_disable_f L)⟩
def S5(H:WgLib P L){q}(x:s.mode=.returning)(aR:QuitsD P q 0 (G s ah))(b)(p:WgLive L.tWg bo b/\Has N (o-1) val b):
  Goes P l (RW L.tWg bo N k m4 (o-1)) DC0 (AtR0 P L.tWg bo N k m4 o val) 23 (G ((baseD L.done).at ⟨#[.pointer (h ⟨bo,0,n⟩),K,K,K],[]⟩ [.code (body_done L)]) (s::ah)) b:=by
 have I:=doneN (Own:=λ_ _=>False) (Rd:=λ_ _=>False) (Low:=m4) (n:=k) H x aR b p;have u:∀i b,AtR0 P L.tWg bo N k m4 o val i b->∃j y,aq P l i b=.go j b #[y]:=λi b g=>by obtain⟨_,_,j,B,_⟩:=g;grind
 have R:(mk (.releaseMerge (stA bo)):aT)≠mk .disable:=wo;refine Goes.hx (λb=>.refl b) u ?_ _ _ _ _ (S6 H b p) I;intro r i b g d w1 m;obtain⟨p,A,B,z⟩:=g;have w:AtR0 P L.tWg bo N k m4 o val i w1∨∃v,Goes P l (RW L.tWg bo N k m4 (o-1)) (DWs bo (λ_ _=>False) (λ_ _=>False) N k o) (AtR0 P L.tWg bo N k m4 o val) v A w1:=by
  cases r with
  |zero=>exact .inl (d w1 m)
  |succ r=>
   rcases d with d|⟨_,d⟩
   .grind
   grind[goes_go]
 rcases w with g|⟨v,g⟩
 .exact g
 exfalso;obtain⟨Q,F⟩:=z w1 (kn_rely p m);refine Goes.hA (λb=>.refl b) u ?_ _ _ _ _ F g;rintro t D w4 ⟨O,C⟩ d;have e:∀b,¬AtR0 P L.tWg bo N k m4 o val D b:=λb E=>by obtain⟨_,_,J,M,_⟩:=E;grind
 cases t with
 |zero=>exact e w4 (d w4 (.refl w4))
 |succ t=>
  rcases d with d|⟨_,d⟩
  .exact e w4 (d w4 (.refl w4))
  have k1:=d w4 (.refl w4);rw[C w4,goes_go]at k1;have:=(k1.1.2 _ (Array.mem_singleton.2 a)).2.1;exact this a
end
section
open Go.RowKit
open Go.Conc (G solo crowd AtRel Past EvL Leavers)
def a5.bA(b:au):a5:={l:=[],u:=λa d=>b.cell? ⟨a,d,n⟩,a:=b,own:=λa=>a<b.heap.size}
def bb.bA(d):bb [] (a5.bA d):=⟨λ_ _ _ b=>b,rfl,by simp,by simp[a5.bA],by simp[a5.bA],λe a=>⟨a,by simp[a5.bA]⟩⟩
def acg{o}{s}(e:mc P o s aa b)(m:P.inits.idxOf? o=n)(i)(r:∀a g j,b.u a g=h j->i.cell? ⟨a,g,n⟩=h j):∃d,aq P f (G s []) i=.ended (.done aa) i d/\∀k∈d,∃a g j,k=⟨.cell ⟨a,g,n⟩,l,l⟩/\b.u a g=h j:=by
 obtain⟨fn,t,p⟩:=e.fn;obtain⟨w,v⟩:=p i r;refine⟨seen P s.fn ((results fn s.tmps).events P i #[]),?_,λk u=>v k (Go.Conc.mem_seen u)⟩;have q:P.inits.idxOf? s.fn=n:=by rw[e.jg];exact m
 simp[G,aq,unwind,doReturn,e.mode,e.defers,e.kind,t,w,q,GStep.after]
abbrev uj:=Nat×av×Z
abbrev mA(a:m uj):m an:=a.map λb=>.J (eb b.1 b.2.1 b.2.2)
def a5.cQ(a:m uj)(d:au):a5:={l:=a.map λe=>⟨.pointer (h ⟨e.1,0,n⟩),[e.1]⟩,u:=λb g=>if b∈a.map (·.1)then n else d.cell? ⟨b,g,n⟩,a:=d,own:=λb=>b<d.heap.size/\b∉a.map (·.1)}
def bb.cQ{gs}{u}(C:(gs.map (·.1)).Nodup)(y:∀d∈gs,u.heap[d.1]?=h (.cells #[d.2.2] d.2.1 (0,0))):bb (mA gs) (a5.cQ gs u):=by
 have D:∀d∈gs,d.1<u.heap.size:=λd t=>(jb.1 (y d t)).1;have m:∀(e:Nat) L,(a5.cQ gs u).l[e]?=h L->∃d,gs[e]?=h d/\L=⟨.pointer (h ⟨d.1,0,n⟩),[d.1]⟩:=λe L o=>by simp[a5.cQ,m',rj]at o;grind
 refine⟨λi z J s=>?_,by simp[a5.cQ],λe F L aE g=>?_,λe p L v j w i b k=>?_,λL o i b=>?_,λi b=>⟨b.1,λL o x=>?_⟩⟩
 .simp only[a5.cQ]at s;split at s
  .cases s
  exact s
 .obtain⟨d,j,rfl⟩:=m e L g;simp[mA,m',j,lF,eU]at aE;subst aE;have t:=b9 j;refine⟨λi=>if i=d.1 then h (.cells #[d.2.2] d.2.1 (0,0))else n,⟨a,br a,λi b=>bm b⟩,λi z b=>?_,λi=>?_,λi b z=>?_⟩
  .simp only at b;split at b
   .rename_i r;cases b;rw[r];exact y d t
   grind
  .by_cases r:i=d.1<;>simp[r]
  rw[gY]at b;subst b;exact br (k4.2 ⟨d,t,a⟩)
 .obtain⟨d,q,rfl⟩:=m e L j;obtain⟨E,I,rfl⟩:=m p v w;rw[gY]at b k;have r:d.1=E.1:=b.symm.trans k;have A:(gs.map (·.1))[e]?=h d.1:=M;have B:(gs.map (·.1))[p]?=h d.1:=M;grind[List.getElem?_inj]
 .obtain⟨e,g⟩:=Az o;obtain⟨d,q,rfl⟩:=m e L g;rw[gY]at b;subst b;exact D d (b9 q)
 obtain⟨e,g⟩:=Az o;obtain⟨d,q,rfl⟩:=m e L g;rw[gY]at x;subst x;exact b.2 (k4.2 ⟨d,b9 q,a⟩)
def bb.iY{gs}(d:bb (mA gs) b){o}(g:o∈gs):b.a.heap[o.1]?=h (.cells #[o.2.2] o.2.1 (0,0)):=by
 obtain⟨a,k⟩:=Az g;have aE:(mA gs)[a]?=h (.J (eb o.1 o.2.1 o.2.2)):=M;have e:a<c b.l:=by rw[d.len];grind
 obtain⟨i,⟨_,j,_⟩,m,_⟩:=d.box a _ _ aE (bI e);grind
def bk.i_{q}{args}{gs}(j:bk (aj.aJ P) q args (mA gs) res (λ_=>mA gs))(x:P.inits.idxOf? q=n){g}(Q:(gs.map (·.1)).Nodup)(W:∀o∈gs,g.heap[o.1]?=h (.cells #[o.2.2] o.2.1 (0,0)))(L:b5 (mA gs) (a5.cQ gs g) B args){fs:Z->au->Prop}(aN:∀u p b,bx (mA gs) b p (res u)->Below g.heap.size g b.a->∀D,fs p (b.a.at D)):
  ∃S last t m y,runNT P (S+1) (solo (G (Frame.enter P q B.toArray .normal) []) g) #[]=(.ended t m,y)/\runN P S (solo (G (Frame.enter P q B.toArray .normal) []) g)=.next last /\
   step P last=.ended t m/\Go.Conc.Good P fs last t m y:=by
 have T:=bb.cQ Q W;have key:=j.2 (a5.cQ gs g) B L T (λao b=>∃u p i,ao=G i []/\mc P q i p b/\bx (mA gs) b p (res u)/\Below g.heap.size g b.a) []
  (λu i p b r s w e=>.stop ⟨u,p,i,rfl,r,s,⟨e.os,e.tape,e.output,e.size,λU M=>by
   by_cases A:U∈gs.map (·.1)
   .obtain⟨o,X,rfl⟩:=k4.1 A;rw[w.iY X,W o X]
   .exact e.a6 U ⟨M,A⟩⟩⟩)
 have ai:AM.jx (λ_=>False)=λ_=>False:=by funext d;cases d<;>rfl
 obtain⟨v,ar,av,aq,b,V,y,az,r,s,w,e,ab,ae,ax,⟨u,p,i,rfl,k1,ag,ak⟩⟩:=key.aJ (λ_=>False) #[G (Frame.enter P q B.toArray .normal) []] n #[] (λ_=>0) T.mem rfl (Go.Conc.leavers_one P _)
  (by rw[ai];exact Go.Conc.past_nil.mono (gZ _)) ⟨λ_ j=>j.elim,λ_ j=>j.elim,λ_ j=>j.elim,λ_ j=>j.elim⟩ (λaB=>by intro u x;simp[Trace.act?]at x)
 have an:=Go.Conc.beside_ends (P:=P) (Shun:=AM.jx ar) (B:=b.a.heap.size) (D:=λ_ _ _=>False) (Post:=fs) (λ_ _ _ j=>j.elim) (sl:=V) (n:=0) w e ab (Go.Conc.Goes.stop λw1 C=>by
  obtain⟨D,rfl⟩:=C;obtain⟨K,I,J⟩:=acg k1 x (b.a.at D) (λF t Y R=>s F t Y R);refine⟨a,p,K,I,λA ah=>?_,aN u p b ag ak D⟩;obtain⟨F,t,Y,rfl,R⟩:=J A ah;refine Go.Conc.evL_cell _ _ (λad=>?_) (gk.lt s R);have:=ae.u F ad t
  grind)
 obtain⟨E,last,t,m,aw,N,aA,O,aa⟩:=an;refine⟨v+E,last,t,m,aw,?_,?_,O,aa⟩
 .rw[show v+E+1=v+(E+1) by omega];exact(DU v (E+1) r).trans N
 have A:=runNT_fst P v (crowd #[G (Frame.enter P q B.toArray .normal) []] g n) #[];have H:(runNT P v (crowd #[G (Frame.enter P q B.toArray .normal) []] g n) #[]).1=.next (crowd av b.a V):=by have:runNT P v (crowd #[G (Frame.enter P q B.toArray .normal) []] g n) #[]=_:=r;grind
 grind[Go.Conc.solo_eq_crowd,runN_add]
def Rd.cQ{gs}{p}(R:∀a∈gs,p.heap[a.1]?=h (.cells #[a.2.2] a.2.1 (0,0)))(v:∀a∈gs,∃A z,a.2.2=.iface A z){aa}{q}{i k}{b:Nat->m N}(F:∀(g j:Nat)d,(b g)[j]?=h d->∃kd x,d=N.int kd x)(J:Rd (a5.bA p).u aa (.S q i k b)):Rd (a5.cQ gs p).u aa (.S l i k b):=by
 obtain⟨T,C,B,o,rfl,s,t,Q,K,M⟩:=J.jM;refine .hT s t Q K λg I j d e=>?_;obtain⟨z,r,y⟩:=M g I j d e;obtain⟨kd,x,rfl⟩:=F g j d e;cases y with
 |int w=>
  refine⟨_,?_,.int w⟩;have r:p.cell? ⟨B,o+g*i+j,n⟩=h (.int kd x):=r;show(if B∈gs.map (·.1)then n else p.cell? _)=_;rw[bm,r];intro u;obtain⟨a,D,rfl⟩:=k4.1 u;obtain⟨A,z,E⟩:=v a D;simp[aL,R a D,E]at r;grind
end
section
open Go.ChangeShapes Go.WideShapes Go.ChangeAt Go.RowKit
def abR{H:Type}{a:av×Z->H}{x}{N}{os}{s}{fn}{b}{i:m PathCond}{rp Jt handsOn again}{r:au->Array Z->Prop}(aa:∀d g args,d.heap=g.heap->r d args->r g args)(own:ownKnob N.prog.godebug=n)(I:os.Started)(W:N.prog.funcs[s]?=h fn)(K:∃(d:au) (j:Tape) (e:Input),d.os=os/\(d.forCall j e).Shaped N.prog/\e.vars=[]/\Input.okWide N.prog (d.forCall j e) .any d.heap.size s e /\
   ((b.pre a N.prog fn i rp (d.forCall j e).memory e.args/\r (d.forCall j e).memory e.args)/\sizedMet a N.prog fn (OpenSpec.ofChange b) rp (d.forCall j e).memory e.args)/\x.holds N.prog (lone (Frame.enter N.prog s e.args .normal) [] (d.forCall j e)))(M:∀(o:au) (base:Nat) (args:Array Z) (p q:m (DataW H)) (w:m MemPlace),
   (∀(y:Nat) A u,fn.params[y]?=h A->args[y]?=h u->Value.okWide N.prog o .any base A u) ->
   DataW.Whole a N.prog fn.params.toList b.vars rp o args.toList p q w->o.ShapedOpen N.prog->r o args ->
   ∃v last t g k,runNT N.prog (v+1) (Conc.solo (Conc.G (Frame.enter N.prog s args .normal) []) o) #[]=(.ended t g,k)/\runN N.prog v (Conc.solo (Conc.G (Frame.enter N.prog s args .normal) []) o)=.next last /\
    step N.prog last=.ended t g/\Conc.Good N.prog (λu O=>b.post a N.prog fn rp Jt handsOn again o args u O) last t g k):
  ReturnsInLeavingWide x N os s .any (λd args=>(b.pre a N.prog fn i rp d args/\r d args)/\sizedMet a N.prog fn (OpenSpec.ofChange b) rp d args) (b.post a N.prog fn rp Jt handsOn again):=by refine returnsInLeavingWide_of_good own I K ?_;intro d j e _ V _ U S ad;obtain⟨_,_,_,X,R,_,_,_,_,Q⟩:=U;have J:X=fn:=rn (R.symm.trans W);subst J;obtain⟨⟨⟨p,q,w,C,L⟩,F⟩,ab⟩:=S;have T:=DataW.Whole.of_heap (w':=d.forCall j e) oR C;obtain⟨v,last,t,g,k,z,Y,E,B⟩:=M (d.forCall j e) d.heap.size e.args p q w Q T V (aa (d.forCall j e).memory (d.forCall j e) e.args rfl F);exact⟨v,last,t,g,k,z,Y,E,B.mono λu D=>ChangeSpec.post_blind D⟩
def MS(i){a}{b}{s}(d)(kinds)(e)(j)(iw)(D:s.holds a b)(A:∀z∈d,(s.withDomain z).holds a b)(B:s.wfByText b=f)(x:∀z∈d,(s.withDomain z).wfByText b=f)(v:s.laidByTextAt i a kinds e)(g:s.start=.entering)(m:s.noBlocks=l/\s.again=l)(o:a.checked.prog.mainIs=h (j.1,j.2.toList))(E:(!j.1&&j.2.isEmpty&&!iw)=l)(q:∀k fn,a.checked.prog.funcNamed s.func=h k->a.checked.prog.funcs[k]?=h fn->iw=a.checked.prog.looks []/\∀(y:Nat) t,fn.params[y]?=h t->a.checked.prog.wantsStandIn t=l)(C:f=s.goesBy a.checked.prog):
  Claim7.holds a (.plain b) {stood:={row:=s,standIns:=[],harness:=j,looks:=iw},kinds:=[],alts:=d,goes:=f,laidByText:=f,laidKinds:=kinds,laidTests:=e,laidLooks:=i}:=by
 have p:∀r:OpenClaim,Claim7.isSixth {stood:={row:=r,standIns:=[],harness:=j,looks:=iw},kinds:=[]}=l:=λr=>by exact cQ
 refine⟨Claim7.tied_new_at i kinds e (Claim7.new_of_sixth D j iw g m o (p s) q) B,λz u=>?_,v,(λw=>by cases w),C⟩;exact Claim7.tied_new_at i kinds e (Claim7.new_of_sixth (A z u) j iw g m o (p _) q) (x z u)
end
namespace R1
def xX(b:bE)(a:Nat):Int:=(dk b a-97) % 256
def pL(b:bE)(a:Nat):Bool:=(xX b (a-1)+2*xX b (a-2)+3*xX b (a-3)) % 5==0
def lN(b:bE)(a:Nat):Nat->Nat
 |0=>min (a+8) (c b)
 |d+1=>if c b<=a+(7-d)then c b else if pL b (a+(7-d))then a+(7-d)else lN b a d
def eC(b:bE)(a:Nat):Nat:=lN b a 5
def H0(q)(a)(d:a<c q):∀b,b<=5->a<lN q a b/\lN q a b<=c q/\lN q a b<=a+8
 |0,_=>by simp only[lN];omega
 |b+1,e=>by
  simp only[lN];split
  .omega
  split
  .omega
  exact H0 q a d b y
theorem sS(q)(a)(b:a<c q):a<eC q a/\eC q a<=c q/\eC q a<=a+8:=H0 q a b 5 y
def lb(a:bE):Nat->Nat->m Nat
 |0,_=>[]
 |d+1,b=>if b<c a then eC a b::lb a d (eC a b)else[]
def SP(a:bE):m Nat:=lb a (c a) 0
def jT(b:bE):Nat->Nat->m bE
 |0,_=>[]
 |d+1,a=>if a<c b then(b.drop a).take (eC b a-a)::jT b d (eC b a)else[]
def cy(a:bE):m bE:=jT a (c a) 0
def jK(a:m bE):Option bE:=if fD a.flatten&&(cy a.flatten==a)then h a.flatten else n
def cC(a:bE):Bool:=decide (1<=c a)&&decide (c a<=8)&&d6 a
def ga(d:bE):Int:=d.foldl (λb a=>27*b+((a.toNat:Int)-97) % 256+1) 0
def cK(a:Int):Bool:=decide (1<=a)&&decide (a<=99)
def e7(a:Int)(b:bE):Int:=(ga b*(2*a+1)+a*7919) % 999999999989
def e3(a:Nat):Nat:=if a<1∨8<a then 0 else if a<=2 then 2 else if a<=4 then 4 else 8
def fB(a:bE):bE:=if cC a then a++aY (e3 (c a)-c a) 46 else[]
def fi(a:bE):bE:=(a.reverse.dropWhile (·==46)).reverse
def h'(a:bE):Option bE:=if cC (fi a)&&(fB (fi a)==a)then h (fi a)else n
abbrev cW:=Int×bE
abbrev b':=Int×m cW
def right(b:Int)(a:cW):Bool:=match h' a.2 with|some d=>e7 b d==a.1|none=>l
def D_(b:m Int):Bool:=(aC (c b)).all λa=>a==0||decide (b.getD (a-1) 0<b.getD a 0)
def h_(b:Int)(a:b'):Bool:=
 decide (1<=a.1)&&decide (a.1<=99)&&cK b&&decide (1<=c a.2)&&decide (c a.2<=4)&&a.2.all (right b)&&D_ (a.2.map (·.1))
def jJ(a:Int)(d:cW):Option bE:=match h' d.2 with|some b=>if cK a&&(e7 a b==d.1)then h b else n|none=>n
def gp(b:Int)(e:b')(d:Int):Option bE:=match e.2.find? (λa=>a.1==d)with|some a=>jJ b a|none=>n
def hB(b:b')(a:m Int):b':=(b.1,b.2.filter λd=>a.contains d.1)
def fC(e:m cW)(a:cW):m cW:=match e with
 |[]=>[a]
 |b::d=>if a.1<b.1 then a::b::d else b::fC d a
def kP(a e:Int)(b:m bE):b':=(a,b.foldl (λg d=>fC g (e7 e d,fB d)) [])
abbrev ft:=Int×Int
def gv(a:ft):Bool:=decide (0<=a.1)&&decide (a.1<999999999989)&&decide (1<=a.2)&&decide (a.2<=99)
def ew(e:m ft)(a:ft):m ft:=match e with
 |[]=>[a]
 |b::d=>if b.1<a.1 then b::ew d a else a::(b::d).filter (λg=>!(g.1==a.1))
def lg(b:m ft)(d:Int):Int:=match b.find? (λa=>a.1==d)with|some a=>a.2|none=>0
def dQ(b:m b'):m ft:=b.flatMap λa=>a.2.map λd=>(d.1,a.1)
def e5(a:m b'):m ft:=if(dQ a).all gv then(dQ a).foldl ew []else[]
abbrev m2:=bE×m Int
abbrev eF:=Int×m m2
def ox(b:Int)(a:c'):m2:=(a.1,(cy a.2).map (e7 b))
def gS(a b:Int)(d:m c'):eF:=(a,d.map (ox b))
def fe(d:Int)(e:m ft)(a:m bE)(b:bE):m bE:=if lg e (e7 d b)==0&&!a.contains b then a++[b]else a
def gu(b:Int)(e:m c')(d:m ft):m bE:=(e.flatMap λa=>cy a.2).foldl (fe b d) []
def dM(b:Int)(a:m b')(d:Int):Option bE:=a.findSome? λe=>gp b e d
def qG{b}(e:d6 b=f):∀a∈b,97<=a.toNat/\a.toNat<=122:=by intro a d;have:=List.all_eq_true.1 e a d;simpa[jn]using this
def BK:∀(e:bE) (a d:Int)(i:Nat),(∀b∈e,97<=b.toNat/\b.toNat<=122)->0<=a->a<d->1<=d ->
  0<=e.foldl (λa b=>27*a+((b.toNat:Int)-97) % 256+1) a/\e.foldl (λa b=>27*a+((b.toNat:Int)-97) % 256+1) a<d*27 ^ c e
 |[],a,d,_,_,k,j,_=>by grind
 |b::e,a,d,i,g,k,j,q=>by obtain⟨p,m⟩:=g b E;have:=BK e (27*a+((b.toNat:Int)-97) % 256+1) (d*27) i (λo r=>g o M) y y y;grind[Int.mul_assoc]
def Lj:∀{k:Nat},k<=8->(27:Int) ^ k<=282429536481:=by
 intro k a
 match k,a with
 |0,_|1,_|2,_|3,_|4,_|5,_|6,_|7,_|8,_=>decide
def xD{b:bE}(d:cC b=f):0<=ga b/\ga b<282429536481:=by simp[cC,cE,bA]at d;obtain⟨e,a⟩:=BK b 0 1 0 (qG d.2) y y y;have:=Lj d.1.2;rw[Int.one_mul]at a;exact⟨e,Int.lt_of_lt_of_le a this⟩
def SN:∀a:Fin 200,a.val≠0->Nat.gcd 999999999989 a.val=1:=nM
def aaK{x:Nat}{P s a}(b:P=(x:Int))(g:P ∣ s*a)(j:0<s)(m:s<P)(i:Nat.gcd x a.natAbs=1):False:=by
 subst b;have e:x ∣ s.natAbs*a.natAbs:=by have:=Int.natAbs_dvd_natAbs.2 g;grind[Int.natAbs_mul,Int.natAbs_natCast]
 have d:x ∣ s.natAbs:=Nat.Coprime.dvd_of_dvd_mul_right i e;have k:=Nat.le_of_dvd y d;omega
def Th{a b P:Int}(d:a % P=b % P):P ∣ a-b:=Int.dvd_of_emod_eq_zero (by rw[Int.sub_emod,d,Int.sub_self,Int.zero_emod])
def pa(b:bE):Int:=b.foldr (λa d=>27*d+((a.toNat:Int)-97) % 256+1) 0
def HE:∀a:bE,0<=pa a
 |[]=>by simp[pa]
 |b::a=>by have:=HE a;simp[pa,List.foldr_cons]at *;omega
def HD:∀{R bc:bE},(∀a∈R,97<=a.toNat/\a.toNat<=122)->(∀a∈bc,97<=a.toNat/\a.toNat<=122)->pa R=pa bc->R=bc
 |[],[],_,_,_=>rfl
 |[],s::bc,_,b,d|s::bc,[],b,_,d=>by have:=HE bc;simp[pa,List.foldr_cons,List.foldr_nil]at *;omega
 |a::R,s::bc,g,b,d=>by have k:=g a E;have m:=b s E;have i:=HD (R:=R) (bc:=bc) (λe j=>g e M) (λe j=>b e M);simp[pa,List.foldr_cons]at d i;grind[UInt8.toNat_inj]
def SH{a d}(g:cC a=f)(i:cC d=f)(k:ga a=ga d):a=d:=by
 have j:∀a,ga a=pa a.reverse:=λa=>by simp[ga,pa,List.foldr_reverse]
 simp[cC,cE]at g i;rw[j,j]at k;exact List.reverse_inj.1 (HD (λe b=>qG g.2 e (List.mem_reverse.1 b)) (λe b=>qG i.2 e (List.mem_reverse.1 b)) k)
def aaD(o:cK i=f){j k}(p:cC j=f)(r:cC k=f)(g:e7 i j=e7 i k):j=k:=by
 refine SH p r ?_;simp[cK,cE,bA]at o;obtain⟨s,m⟩:=xD p;obtain⟨q,d1⟩:=xD r;have key:∀d e:Int,0<=d->0<=e->d<282429536481->d>e->(d*(2*i+1)+i*7919) % 999999999989=(e*(2*i+1)+i*7919) % 999999999989->False:=by intro d e z w v u g;have b:=Th g;rw[show(d*(2*i+1)+i*7919)-(e*(2*i+1)+i*7919)=(d-e)*(2*i+1) by grind]at b;have t:(2*i+1).natAbs<200:=y;exact aaK (x:=999999999989) a b y y (SN ⟨_,t⟩ M)
 rcases Int.lt_trichotomy (ga j) (ga k)with b|b|b
 .exact(key _ _ q s d1 b g.symm).elim
 .exact b
 exact(key _ _ s q m b g).elim
theorem acX{a}(i:d6 a=f)(k):fi (a++aY k 46)=a:=by
 have j:∀k,List.dropWhile (·==46) ((aY k (46:UInt8))++a.reverse)=a.reverse:=by
  intro k;induction k with
  |zero=>
   simp[List.replicate_zero,p8];cases m:a.reverse with
   |nil=>rfl
   |cons b o=>
    have g:b∈a:=List.mem_reverse.1 M;have:=qG i b g;have d:(b==46)=l:=by simp[eX];rintro rfl;grind
    simp[d]
  |succ k e=>simpa[List.replicate_succ]using e
 unfold fi;grind
def aa9{a}(b:cC a=f):h' (fB a)=h a:=by
 have e:d6 a=f:=by simp[cC,cE]at b;exact b.2
 have g:fB a=a++aY (e3 (c a)-c a) 46:=by simp[fB,b]
 have d:fi (fB a)=a:=by grind[acX]
 simp[h',d,b]
def jt(a:m cW)(b d:Nat):m cW:=(a.set b (a.getD d (0,[]))).set d (a.getD b (0,[]))
def nA(a:m cW)(b d:Nat):Bool:=decide ((a.getD b (0,[])).1<(a.getD d (0,[])).1)
def iX:Nat->m cW->Nat->m cW
  |0,b,_=>b
  |d+1,b,a=>if(a-1) / 2=a then b else if nA b a ((a-1) / 2)=f then iX d (jt b ((a-1) / 2) a) ((a-1) / 2)else b
def jl(b:m cW)(a d:Nat):Nat:=if 2*a+2<d/\nA b (2*a+2) (2*a+1)=f then 2*a+2 else 2*a+1
def g3:Nat->m cW->Nat->Nat->m cW
  |0,a,_,_=>a
  |e+1,a,b,d=>if d<=2*b+1 then a else if nA a (jl a b d) b=f then g3 e (jt a b (jl a b d)) (jl a b d) d else a
def hD(a:m cW)(b:cW):m cW:=iX (c a+1) (a++[b]) (c a)
def g9(a:m cW):m cW:=g3 (c a) (jt a 0 (c a-1)) 0 (c a-1)
def kR:Nat->m cW->m cW
  |0,_=>[]
  |b+1,a=>if c a=0 then[]else(g9 a).getD (c a-1) (0,[])::kR b ((g9 a).take (c a-1))
def l6(a:m cW):m cW:=kR (c a) (a.foldl hD [])
theorem pI(d)(e w):c (jt d e w)=c d:=by simp[jt]
def M4:∀a b d,c (iX a b d)=c b
  |0,_,_=>rfl
  |a+1,b,d=>by unfold iX;split;rfl;split;rw[M4 a,pI];rfl
def H':∀a b d e,c (g3 a b d e)=c b
  |0,_,_,_=>rfl
  |a+1,b,d,e=>by unfold g3;split;rfl;split;rw[H' a,pI];rfl
def Lo(d)(o):c (hD d o)=c d+1:=by simp[hD,M4]
theorem Lg(d):c (g9 d)=c d:=by simp[g9,H',pI]
def ac1{d}(b:e<c d)(g:w<c d){o}:o∈jt d e w->o∈d:=by intro a;unfold jt at a;grind
def DG(o):hD [] o=[o]:=cQ
def DH(a o):hD [a] o=if o.1<a.1 then[o,a]else[a,o]:=FE
def Ln(a j o):hD [a,j] o=if o.1<a.1 then[o,j,a]else[a,j,o]:=FE
def abo(a j s o):hD [a,j,s] o=if o.1<j.1 then(if o.1<a.1 then[o,a,s,j]else[a,o,s,j])else[a,j,s,o]:=FE
def DF(a){d a'}{o}(e:c d=k+1)(b:g9 d=a'++[o])(g:c a'=k):kR (a+1) d=o::kR a a':=by rw[kR,bm y,b];grind
def abh(a):kR 1 [a]=[a]:=cQ
def Lh(b j):kR 2 [b,j]=[b,j]:=by rw[DF 1 (a':=[j]) (o:=b) (k:=1) a cQ a,abh]
def Li(b j s):kR 3 [b,j,s]=if j.1<s.1 then[b,j,s]else[b,s,j]:=by rw[DF 2 (a':=if j.1<s.1 then[j,s]else[s,j]) (o:=b) (k:=2) a (by simp[g9,g3,jt,jl,nA];split<;>rfl) (by split<;>rfl)];split<;>rw[Lh]
def abi(d j s b):kR 4 [d,j,s,b]=d::kR 3 (if s.1<j.1 then(if s.1<b.1 then[s,j,b]else[b,j,s])else if j.1<b.1 then[j,b,s]else[b,j,s]):=by rw[DF 3 (a':=if s.1<j.1 then(if s.1<b.1 then[s,j,b]else[b,j,s])else if j.1<b.1 then[j,b,s]else[b,j,s]) (o:=d) (k:=3) a ?_ (by split<;>split<;>rfl)];by_cases e:s.1<j.1<;>by_cases g:s.1<b.1<;>by_cases i:j.1<b.1<;>simp[g9,g3,jt,jl,nA,e,g,i]
theorem abs(d)(s:c d<=4)(j:d.Pairwise λa b=>a.1≠b.1):l6 d=d.foldl fC []:=by
  match d,s with
  |[],_=>rfl
  |[a],_=>exact cQ
  |[a,b],_=>
    simp at j;simp[l6,List.foldl,DG,DH,fC,fl,gA];split<;>simp[Lh]
  |[a,b,e],_=>
    simp at j;obtain⟨⟨x,w⟩,y⟩:=j;simp[l6,List.foldl,DG,DH,fC,fl,gA];by_cases p:b.1<a.1<;>by_cases i:e.1<a.1<;>by_cases q:e.1<b.1<;>first|omega |
      (have o:(a.1<b.1)=¬(b.1<a.1):=by grind
       have k:(a.1<e.1)=¬(e.1<a.1):=M;have m:(b.1<e.1)=¬(e.1<b.1):=M
       simp[p,i,q,o,k,m,Ln,Li,fC])
  |[a,b,e,g],_=>
    simp at j;obtain⟨⟨x,w,y⟩,⟨C,D⟩,B⟩:=j;simp[l6,List.foldl,DG,DH,fC,fl,gA];by_cases p:b.1<a.1<;>by_cases i:e.1<a.1<;>by_cases q:e.1<b.1<;>by_cases r:g.1<a.1<;>by_cases A:g.1<b.1<;>by_cases v:g.1<e.1<;>first|omega |
      (have o:(a.1<b.1)=¬(b.1<a.1):=by grind
       have k:(a.1<e.1)=¬(e.1<a.1):=M;have m:(b.1<e.1)=¬(e.1<b.1):=M;have t:(a.1<g.1)=¬(g.1<a.1):=M;have z:(b.1<g.1)=¬(g.1<b.1):=M;have u:(e.1<g.1)=¬(g.1<e.1):=M
       simp[p,i,q,r,A,v,o,k,m,t,z,u,Ln,abo,abi,Li,fC])
def yG{a:Type}[BEq a][LawfulBEq a]:∀(L b:m a),L.Nodup->(∀d∈L,d∈b)->c L<=c b
 |[],b,_,_=>gZ _
 |e::L,b,q,j=>by
  obtain⟨p,o⟩:=List.nodup_cons.1 q;have i:=j e jc;have:=yG L (b.erase e) o λd g=>by have:d≠e:=λk=>p (k▸g);exact(List.mem_erase_of_ne this).2 (j d (m_ _ g))
  have k:=List.length_erase_of_mem i;have:=List.length_pos_of_mem i;simp[fl];omega
def AT:∀{k o:m Int},k.Pairwise (· < ·)->o.Pairwise (· < ·)->(∀e,e∈k↔e∈o)->k=o
 |[],[],_,_,_=>rfl
 |[],i::o,_,_,a=>by have:=(a i).2 jc;cases this
 |g::k,[],_,_,a=>by have:=(a g).1 jc;cases this
 |g::k,i::o,v,w,a=>by
  obtain⟨s,q⟩:=iE.1 v;obtain⟨t,r⟩:=iE.1 w;have d:=(a g).1 jc;have b:=(a i).2 jc;simp[fo]at d b;have u:g=i:=by
   rcases d with d|d
   .exact d
   rcases b with b|b
   .exact b.symm
   have:=s i b;have:=t g d;omega
  subst u;rw[AT q r λe=>?_];have p:=a e;simp[fo]at p;constructor
  .intro C;have:=s e C;rcases p.1 (.inr C)with j|j
   .omega
   exact j
  intro C;have:=t e C;rcases p.2 (.inr C)with j|j
  .omega
  exact j
section
variable {r:aj V}
def Be:bL:=λargs a=>match args,a with
 |[.n (.aq (.c (.V b)))],[]=>h (bh (fK b),[],[])
 |_,_=>n
def adh:bM r 64 Be:=by intro args g b d a e _;unfold Be at e;grind[Wz]
def xp:bL:=λargs a=>match args,a with
 |[.n (.aq (.c (.V b)))],[]=>h (bh (fD b),[],[])
 |_,_=>n
def Mv:bM r 65 xp:=by intro args g b d a e _;unfold xp at e;grind[Xx]
def Bf:bL:=λargs d=>match args,d with
 |[.n (.aq (.c (.V a))),.n (.aq (.c (.V b)))],[]=>h (bh (k9 a b),[],[a≠[],b≠[]])
 |_,_=>n
def adi:bM r 66 Bf:=by
 intro args i e g d b a;unfold Bf at b;split at b
 .cases b;exact TR _ _ a.1 a.2
 grind
def HV:m (Nat×bL):=(64,Be)::(65,xp)::(66,Bf)::HL
def lM:a8 r HV:=a8.cons adh (a8.cons Mv (a8.cons adi qk))
def cm(b:m c')(a:Nat):bE:=(b.getD a ([],[])).1
def lw(b:m c')(a:Nat):bE:=(b.getD a ([],[])).2
def kq(q)(e):(q.getD e bD.I).1=cm q e:=rfl
def tR(q)(e):(q.getD e bD.I).2=lw q e:=rfl
def iV(b:m c')(a:Nat):Bool:=fK (cm b a)&&fD (lw b a)&&(a==0||aW (cm b (a-1)) (cm b a))&&(aC a).all λd=>!k9 (cm b d) (cm b a)
def dV(a:m c'):Bool:=(aC (c a)).all (iV a)&&decide (c a<=6)
def f'{b:Nat->Bool}:(aC k).all b=f↔∀a,a<k->b a=f:=M
def yR{b}(a:fK b=f):b≠[]:=by rintro rfl;exact cQ
def zr{q}(b:e<c q)(d:iV q e=l):dV q=l:=by
 cases a:dV q with
 |false=>rfl
 |true=>
  simp only[dV,cE]at a;grind
def XA(q):Y r 38 [bD.S q] [] (bh (dV q)) []:=by
 refine Y.K func38 rfl λz=>?_;have D:=z.S 0 a;refine b_ lM a v (g.eh (λb=>b<=c q/\∀e,e<b->iV q e=f) (λb:Nat=>[(0,bD.S q),(3,S b)]) (λ_=>[]) (λb=>c q-b) 0 a FG ⟨by omega,by omega⟩ a ?_);rintro b ⟨w,x⟩;by_cases u:b<c q
 .by_cases j:fK (cm q b)=f
  .by_cases I:fD (lw q b)=f
   .by_cases k:b=0∨aW (cm q (b-1)) (cm q b)=f
    .apply g.cg [(0,bD.S q),(3,S b),(4,S 0)] []
     .intro bU;by_cases m:b=0
      .refine a_ lM [(8,f),(16,f),(24,f),(29,l)] a ?_ (bU _ _ a ?_)
       .simp[-al,u,kq,tR,j,I];omega
       simp[bt]
      have C:=k.resolve_left m;have s:a7 .i64 ((b:Int)-1):=cQ;have A:((b:Int)-1).toNat=b-1:=y;refine a_ lM [(8,f),(16,f),(24,f),(29,f),(42,l)] a PG (bU _ _ a ?_);simp[bt]
     ·
      have B:iV q b=(aC b).all (λe=>!k9 (cm q e) (cm q b)):=by
       rcases k with rfl|C
       .simp[iV,j,I]
       simp[iV,j,I,C]
      refine g.eh (λe=>e<=b/\∀o,o<e->k9 (cm q o) (cm q b)=l) (λe:Nat=>[(0,bD.S q),(3,S b),(4,S e)]) (λ_=>[]) (λe=>b-e) 0 a FG ⟨by omega,by omega⟩ a ?_;rintro e ⟨J,F⟩;by_cases i:e<b
      .have d:fK (cm q e)=f:=by have:=x e i;simp only[iV,cE]at this;exact this.1.1.1
       cases p:k9 (cm q e) (cm q b)with
       |true=>
        refine a_ lM [(47,f),(60,f)] a ?_ (g.bS (g.dK (bW.zero a ?_)))
        .simp[-al,u,i,kq,p,yR j,yR d];omega
        have:iV q b=l:=M;simp[zr u this]
       |false=>
        refine a_ lM [(47,f),(60,l)] a ?_ (g.again (e+1) a ?_ ?_ ?_ a)
        .simp[-al,u,i,kq,p,yR j,yR d,a7];omega
        .simp[bt]
        .grind
        omega
      have i:e=b:=y;subst i;refine a_ lM [(47,l)] a E (g.bt a a ?_);exact b_ lM a cQ (g.again (e+1) a FG M y a)
    have m:b≠0:=λt=>k (.inl t);have C:aW (cm q (b-1)) (cm q b)=l:=M;have s:a7 .i64 ((b:Int)-1):=cQ;have A:((b:Int)-1).toNat=b-1:=y;refine a_ lM [(8,f),(16,f),(24,f),(29,f),(42,f)] a PG (g.bS (bW.zero a ?_));simp[U,zr u (by simp[iV,m,C])]
   refine a_ lM [(8,f),(16,f),(24,l)] a ?_ (g.bS (bW.zero a ?_))
   .simp[-al,u,kq,tR,j,I]
   simp[U,zr u (by simp[iV,I])]
  refine a_ lM [(8,f),(16,l)] a ?_ (g.bS (bW.zero a ?_))
  .simp[-al,u,kq,j]
  simp[U,zr u (by simp[iV,j])]
 refine a_ lM [(8,l)] a bV (g.bt a a ?_);refine b_ lM a v (g.aw a ?_);simp only[U,dV];grind
end
section
open Go.Proofs Go.Conc.Lib
def qZ:WgLink:={add:=232,done:=234,wait:=236,relMerge:=264,disable:=265,enable:=266,inBubble:=267,associate:=268,fatal:=269,uOr:=270,uAdd:=271,raceRead:=272,uLoad:=273,uStore:=274,disassociate:=275,semrelease:=276,acquire:=278,isAssociated:=279,uCas:=280,raceWrite:=281,semacquire:=282,orU64:=299,addU64:=300,loadU64:=301,storeU64:=302,casU64:=305,tWgP:=328,tUP:=203,tAssoc:=330,tWg:=294,tAU:=292,tU64:=285,tUint:=234,tU32:=283,tPU32:=334,tPAU:=362,tPU64:=364,tNoCopy:=288,tANoCopy:=289,tAlign64:=290}
def wh:WgLib V qZ where
 f_add:=Tryz.func232.trans (eK h bJ)
 f_done:=Tryz.func234.trans (eK h bJ)
 f_wait:=Tryz.func236.trans (eK h bJ)
 f_relMerge:=Tryz.func264.trans (eK h bJ)
 f_disable:=Tryz.func265.trans (eK h bJ)
 f_enable:=Tryz.func266.trans (eK h bJ)
 f_inBubble:=Tryz.func267.trans (eK h bJ)
 f_associate:=Tryz.func268.trans (eK h bJ)
 f_fatal:=Tryz.func269.trans (eK h bJ)
 f_uOr:=Tryz.func270.trans (eK h bJ)
 f_uAdd:=Tryz.func271.trans (eK h bJ)
 f_raceRead:=Tryz.func272.trans (eK h bJ)
 f_uLoad:=Tryz.func273.trans (eK h bJ)
 f_uStore:=Tryz.func274.trans (eK h bJ)
 f_disassociate:=Tryz.func275.trans (eK h bJ)
 f_semrelease:=Tryz.func276.trans (eK h bJ)
 f_acquire:=Tryz.func278.trans (eK h bJ)
 f_isAssociated:=Tryz.func279.trans (eK h bJ)
 f_uCas:=Tryz.func280.trans (eK h bJ)
 f_raceWrite:=Tryz.func281.trans (eK h bJ)
 f_semacquire:=Tryz.func282.trans (eK h bJ)
 f_orU64:=Tryz.func299.trans (eK h bJ)
 f_addU64:=Tryz.func300.trans (eK h bJ)
 f_loadU64:=Tryz.func301.trans (eK h bJ)
 f_storeU64:=Tryz.func302.trans (eK h bJ)
 f_casU64:=Tryz.func305.trans (eK h bJ)
 underlying_tWgP:=Tryz.underlying328
 runUnderlying_tWgP:=Tryz.runUnderlying328
 sizeOf_tWgP:=Tryz.sizeOf328
 isAgg_tWgP:=Tryz.isAgg328
 zeroValue_tWgP:=Tryz.zeroValue328
 underlying_tUP:=Tryz.underlying203
 runUnderlying_tUP:=Tryz.runUnderlying203
 sizeOf_tUP:=Tryz.sizeOf203
 isAgg_tUP:=Tryz.isAgg203
 zeroValue_tUP:=Tryz.zeroValue203
 underlying_tI32:=Tryz.underlying330
 runUnderlying_tI32:=Tryz.runUnderlying330
 sizeOf_tI32:=Tryz.sizeOf330
 isAgg_tI32:=Tryz.isAgg330
 zeroValue_tI32:=Tryz.zeroValue330
 underlying_tWg:=Tryz.underlying294
 runUnderlying_tWg:=Tryz.runUnderlying294
 sizeOf_tWg:=Tryz.sizeOf294
 isAgg_tWg:=Tryz.isAgg294
 zeroValue_tWg:=Tryz.zeroValue294
 underlying_tAU:=Tryz.underlying292
 runUnderlying_tAU:=Tryz.runUnderlying292
 sizeOf_tAU:=Tryz.sizeOf292
 isAgg_tAU:=Tryz.isAgg292
 zeroValue_tAU:=Tryz.zeroValue292
 underlying_tU64:=Tryz.underlying285
 runUnderlying_tU64:=Tryz.runUnderlying285
 sizeOf_tU64:=Tryz.sizeOf285
 isAgg_tU64:=Tryz.isAgg285
 zeroValue_tU64:=Tryz.zeroValue285
 underlying_tSh:=Tryz.underlying234
 runUnderlying_tSh:=Tryz.runUnderlying234
 sizeOf_tSh:=Tryz.sizeOf234
 isAgg_tSh:=Tryz.isAgg234
 zeroValue_tSh:=Tryz.zeroValue234
 underlying_tU32:=Tryz.underlying283
 runUnderlying_tU32:=Tryz.runUnderlying283
 sizeOf_tU32:=Tryz.sizeOf283
 isAgg_tU32:=Tryz.isAgg283
 zeroValue_tU32:=Tryz.zeroValue283
 underlying_tPU32:=Tryz.underlying334
 runUnderlying_tPU32:=Tryz.runUnderlying334
 sizeOf_tPU32:=Tryz.sizeOf334
 isAgg_tPU32:=Tryz.isAgg334
 zeroValue_tPU32:=Tryz.zeroValue334
 underlying_tPAU:=Tryz.underlying362
 runUnderlying_tPAU:=Tryz.runUnderlying362
 sizeOf_tPAU:=Tryz.sizeOf362
 isAgg_tPAU:=Tryz.isAgg362
 zeroValue_tPAU:=Tryz.zeroValue362
 underlying_tPU64:=Tryz.underlying364
 runUnderlying_tPU64:=Tryz.runUnderlying364
 sizeOf_tPU64:=Tryz.sizeOf364
 isAgg_tPU64:=Tryz.isAgg364
 zeroValue_tPU64:=Tryz.zeroValue364
 underlying_t0:=Tryz.underlying0
 runUnderlying_t0:=Tryz.runUnderlying0
 sizeOf_t0:=Tryz.sizeOf0
 isAgg_t0:=Tryz.isAgg0
 zeroValue_t0:=Tryz.zeroValue0
 underlying_t3:=Tryz.underlying3
 runUnderlying_t3:=Tryz.runUnderlying3
 sizeOf_t3:=Tryz.sizeOf3
 isAgg_t3:=Tryz.isAgg3
 zeroValue_t3:=Tryz.zeroValue3
 underlying_t4:=Tryz.underlying4
 runUnderlying_t4:=Tryz.runUnderlying4
 sizeOf_t4:=Tryz.sizeOf4
 isAgg_t4:=Tryz.isAgg4
 zeroValue_t4:=Tryz.zeroValue4
 underlying_t9:=Tryz.underlying9
 runUnderlying_t9:=Tryz.runUnderlying9
 sizeOf_t9:=Tryz.sizeOf9
 isAgg_t9:=Tryz.isAgg9
 zeroValue_t9:=Tryz.zeroValue9
 underlying_t20:=Tryz.underlying20
 runUnderlying_t20:=Tryz.runUnderlying20
 sizeOf_t20:=Tryz.sizeOf20
 isAgg_t20:=Tryz.isAgg20
 zeroValue_t20:=Tryz.zeroValue20
 underlying_t21:=Tryz.underlying21
 runUnderlying_t21:=Tryz.runUnderlying21
 sizeOf_t21:=Tryz.sizeOf21
 isAgg_t21:=Tryz.isAgg21
 zeroValue_t21:=Tryz.zeroValue21
 room_tWg:=bJ
 room_tU32:=bJ
end
end R1
def b5.imp{i g}{bg a}(j:∀e,bx p b e i->bx p b e g)(k:∀B,b5 p b B bg->b5 p b B a):∀B,b5 p b B (i::bg)->b5 p b B (g::a)
 |[],d=>d.elim
 |e::B,d=>⟨j e d.1,k B d.2⟩
abbrev xS(a:c'):z:=.n (.agg [.c (.V a.1),.c (.V a.2)])
abbrev r3(a:m c')(b:Bool):z:=.Q [.aq (.c (.S l 2 (c a) (bD.fn a))),.aq (.c (.bool b))]
namespace R1
variable {r:aj V}
def sN:bL:=λargs d=>match args,d with
 |[e],[]=>match jW 2 e with
  |none=>n
  |some (a,b)=>h (bh (dV (bD.af a b)),[],[bD.bU a b])
 |_,_=>n
def t38:bM r 38 sN:=by
 intro args k e g d a b;unfold sN at a;split at a
 .split at a
  .cases a
  rename_i m o i;cases a;exact(XA _ ).args (λ_ B=>b5.imp (λ_=>bD.cC i b) (λ_ j=>j) B)
 grind
def HW:m (Nat×bL):=(38,sN)::HV
def SI:a8 r HW:=a8.cons t38 lM
end R1
def cZ.a0(a:cZ α)(d)(o):bt (c d+1) (ce (c d) (a.fn d) (λb=>[a.a8 o].getD b [])) (a.fn (d++[o])):=by intro b e;unfold ce cZ.fn gr;grind
@[simp] theorem bt.same{a:Nat->m N}:bt k a a:=λ_ _=>rfl
@[simp] theorem bt.nil{a b:Nat->m N}:bt 0 a b:=λe d=>by omega
namespace R1
variable {r:aj V}
def HX:m (Nat×bL):=HW
def SJ:a8 r HX:=SI
end R1
def ky.fZ{args}(i:ky args p)(m:Nat){ah}(d:args[m]?=h (.n (.agg ah)))(j:Nat){q}{o}(b:ah[j]?=h (O.c (.S q o k T))):k<=9223372036854775807:=by obtain⟨r,t,g⟩:=i.at d;obtain⟨B,_,a⟩:=g;obtain⟨s,_,e⟩:=bN.get a b;cases e<;>omega
namespace R1
def kE{R:Nat->Bool}(a:e<k)(b:R e=l):(aC k).all R=l:=M
def iG{R:Nat->Bool}(b:∀a,a<e->R a=f)(g:R e=f):∀a,a<e+1->R a=f:=λa d=>by grind
end R1
def dG.put(a b:Int):dG->dG
 |.nil=>.ax .nil a b .nil
 |.ax d o g e=>if a<o then .ax (d.put a b) o g e else if o<a then .ax d o g (e.put a b)else .ax d a b e
def dG.af:dG->m (Int×Int)
 |.nil=>[]
 |.ax a d e b=>a.af++(d,e)::b.af
def dG.find(a:Int):dG->Int
 |.nil=>0
 |.ax d b g e=>if a=b then g else if a<b then d.find a else e.find a
namespace R1
theorem abw{d}{b}(g:∀a∈d,a.1<b.1):ew d b=d++[b]:=by
 induction d with
 |nil=>rfl
 |cons j i e=>
  simp[ew];grind
def Lt{d a}{b}(i:∀e∈d,e.1<b.1):ew (d++a) b=d++ew a b:=by
 induction d with
 |nil=>rfl
 |cons j d g=>
  simp[uz,ew];grind
def aby{d a'}{b}(g:∀a∈a',b.1<a.1):ew (d++a') b=ew d b++a':=by
 have m:a'.filter (λi=>!(i.1==b.1))=a':=so.2 λa k=>by grind
 induction d with
 |nil=>
  cases a' with
  |nil=>rfl
  |cons e a' =>
   have:=g e jc;simp[p8,ew];grind
 |cons e d j=>
  simp[uz,ew];grind
abbrev dG.fo(a:dG):Prop:=a.af.Pairwise λb d=>b.1<d.1
theorem DJ{g j}:∀{q:dG},dG.fo q->(q.put g j).af=ew q.af (g,j)
 |.nil,_=>rfl
 |.ax d e i a',r=>by
  obtain⟨t,p,u⟩:=o8.1 r;have s:=iE.1 p;have o:∀a∈d.af,a.1<e:=λa b=>u a b (e,i) jc;simp[dG.put,dG.af];split
  .rename_i k;simp[dG.af];rw[DJ (q:=d) t,aby (a':=(e,i)::a'.af)];grind
  split
  .rename_i _ k;simp[dG.af];rw[DJ (q:=a') s.2,Lt (d:=d.af) λa b=>by grind];simp[ew];grind
  have m:g=e:=y;subst m;simp[dG.af];rw[Lt (d:=d.af) λa b=>o a b];simp only[ew];rw[bm E,sA,bm E,so.2 λa b=>by grind]
theorem abA{d}{b}(k:d.Pairwise λe a=>e.1<a.1):(ew d b).Pairwise (λe a=>e.1<a.1)/\∀g∈ew d b,g=b∨g∈d:=by
 induction d with
 |nil=>simp[ew]
 |cons a p i=>
  obtain⟨m,j⟩:=iE.1 k;obtain⟨o,cc⟩:=i j;simp[ew];grind[List.pairwise_cons]
def CD{k}:∀{q:dG},dG.fo q->q.find k=lg q.af k
 |.nil,_=>rfl
 |.ax b d r p,o=>by obtain⟨i,e,j⟩:=o8.1 o;have g:=iE.1 e;have t:∀a∈b.af,a.1<d:=λa m=>j a m (d,r) jc;simp[dG.find,dG.af];have s:=CD (k:=k) (q:=b) i;have cc:=CD (k:=k) (q:=p) g.2;unfold lg at *;grind
end R1
namespace R1
section
variable {r:aj V}
def mK(b:c')(a:m c'×Bool)(d:bE):m c'×Bool:=if a.2=f then a else if aW d b.1=f then a else(a.1++[b],f)
def yX(d:c')(a:m c'×Bool)(b:c'):m c'×Bool:=if b.1=d.1 then a else(a.1++[b],a.2)
def rW(b:c')(a:m c'×Bool)(d:c'):m c'×Bool:=yX b (mK b a d.1) d
def mL(a:c')(b:m c'):m c'×Bool:=b.foldl (rW a) ([],l)
def ln(b:m c')(a:c'):m c':=if(mL a b).2=f then(mL a b).1 else(mL a b).1++[a]
theorem pf{q}(b:e<c q):q[e]=(cm q e,lw q e):=by have a:q.getD e ([],[])=q[e]:=M;simp only[cm,lw,a]
def abr{a}{q}(b:e<c q):mL a (q.take (e+1))=rW a (mL a (q.take e)) (cm q e,lw q e):=by rw[w5,bI b,pf b];simp[mL]
def Lp(a)(uC)(C):(mK a uC C).1.length<=c uC.1+1:=zY
def abq(a)(uC)(C):(yX a uC C).1.length<=c uC.1+1:=by unfold yX;grind
def Lq(b):∀e(a:m c'×Bool),(e.foldl (rW b) a).1.length<=c a.1+2*c e
 |[],a=>by simp
 |d::g,a=>by
  have i:=Lq b g (rW b a d);have j:=Lp b a d.1;have k:=abq b (mK b a d.1) d;simp only[j_,fl];have:(rW b a d).1.length<=c a.1+2:=by unfold rW;omega
  omega
abbrev xU(b:Nat)(a:m c'):z:=.n (.aq (.r b 2 (c a) (bD.fn a)))
abbrev nb(a:m c'):an:=.r 114 2 (c a) (bD.fn a)
def WK(q)(ae)(F:c q<=4000000):Y r 111 [bD.S q,xS ae] [] (xU 0 (ln q ae)) [nb (ln q ae)]:=by
 refine Y.K func111 rfl λD=>?_;refine aZ a v (g.bK 5 114 2 a a ?_);let O:Nat->m c'×Bool:=λe=>mL ae (q.take e);have t:∀e,e<=c q->(O e).1.length<=8000000:=by intro e o;have:=Lq ae (q.take e) ([],l);simp at this;show(mL ae (q.take e)).1.length<=_;unfold mL;omega
 refine g.ca (λe=>e<=c q) (λe:Nat=>[(0,bD.S q),(3,aG 0 0),(7,S e),(5,xU 1 (O e).1),(6,bh (O e).2)]) (λe=>[.cells 114 [.c (.V ae.1),.c (.V ae.2)],nb (O e).1]) (λe=>c q-e) 0 a ?_ a ?_ y ?_
 .simp[bt,O,mL]
 .simp[bt,O,mL]
 intro e o;by_cases u:e<c q
 .have A:O (e+1)=rW ae (O e) (cm q e,lw q e):=abr u;have z:=t e o;generalize O e=b at *;have B:=Lp ae b (cm q e);apply g.cg [(0,bD.S q),(3,aG 0 0),(7,S e),(5,xU 1 (mK ae b (cm q e)).1),(6,bh (mK ae b (cm q e)).2)] [.cells 114 [.c (.V ae.1),.c (.V ae.2)],nb (mK ae b (cm q e)).1]
  .intro bU;cases s:b.2 with
   |true=>
    have k:mK ae b (cm q e)=b:=zY;rw[k]at bU;refine bQ [(12,f),(15,f),(1000009,f)] a gV (bU _ _ a ?_);exact bw
   |false=>
    cases x:aW (cm q e) ae.1 with
    |true=>
     have k:mK ae b (cm q e)=b:=zY;rw[k]at bU;refine bQ [(12,f),(15,l),(25,l),(1000009,f)] a ?_ (bU _ _ a ?_)
     .simp[-al,u,kq,x]
     exact bw
    |false=>
     have k:mK ae b (cm q e)=(b.1++[ae],f):=zY;rw[k]at bU;refine bQ [(12,f),(15,l),(25,f),(1000009,f)] a ?_ (g.bf _ a ?_ (bU _ _ a ?_))
     .simp[-al,u,kq,x,qA];omega
     .exact Qh
     exact Qh
  have w:O (e+1)=yX ae (mK ae b (cm q e)) (cm q e,lw q e):=A;generalize mK ae b (cm q e)=i at *;by_cases p:cm q e=ae.1
  .have j:O (e+1)=i:=by rw[w];exact br p
   refine bQ [(38,l)] a ?_ (g.b6 (e+1) a ?_ a ?_ ?_ ?_)
   .simp[-al,u,kq,p,a7];omega
   .simp_all
   .simp_all
   .omega
   omega
  have j:O (e+1)=(i.1++[(cm q e,lw q e)],i.2):=by rw[w];exact bm p
  refine bQ [(38,f)] a ?_ (g.b6 (e+1) a ?_ a ?_ ?_ ?_)
  .simp[-al,u,kq,p,a7,qA];omega
  .exact Pz
  .exact Pz
  .omega
  omega
 have:e=c q:=y;subst this;have C:O (c q)=mL ae q:=M;have z:=t (c q) (bC _);refine a6 [(12,l)] a E (g.bt a a ?_);have d:ln q ae=if(O (c q)).2=f then(O (c q)).1 else(O (c q)).1++[ae]:=ht;cases s:(O (c q)).2 with
 |true=>
  rw[s,br a]at d;refine a6 [(46,f)] a E (g.bf [.cells 114 [.c (.V ae.1),.c (.V ae.2)],nb (ln q ae)] a dA (g.aS [1] a dA ?_));grind
 |false=>
  rw[s,bm E]at d;refine a6 [(46,l)] a ?_ (g.bf [.cells 114 [.c (.V ae.1),.c (.V ae.2)],nb (ln q ae)] a ?_ (g.aS [1] a ?_ ?_))
  .simp[qA];omega
  .exact OW
  .exact OW
  grind
end
end R1
def bt.app0{b a:Nat->m N}:bt k (ce 0 b a) a:=λd _=>by simp[ce]
namespace R1
variable {r:aj V}
def A0:bL:=λargs g=>match args,g with
 |[i,.n (.agg [.c (.V a),.c (.V b)])],[]=>match jW 2 i with
  |none=>n
  |some (d,e)=>h (xU 0 (ln (bD.af d e) (a,b)) ,[ nb (ln (bD.af d e) (a,b))],[bD.bU d e,c ((bD.af d e))<=4000000])
 |_,_=>n
def ac2:bM r 111 A0:=by
 intro args k g i e a b;unfold A0 at a;split at a
 .split at a
  .cases a
  rename_i m o j;cases a;exact(WK _ _ (b.2)).args (λ_ B=>b5.imp (λ_=>bD.cC j b.1) (b5.imp (λ_ d=>d) (λ_ d=>d)) B)
 cases a
def HY:m (Nat×bL):=(111,A0)::HX
def sR:a8 r HY:=a8.cons ac2 (SJ)
def ju(a:m c')(b d:bE):m c'×Bool:=
 if dV a=f/\fK b=f/\fD d=f then(if dV (ln a (b,d))=f then(ln a (b,d),f)else(a,l))else([],l)
abbrev aed(d:Nat)(a:m c')(b:Bool):z:=.Q [.aq (.r d 2 (c a) (bD.fn a)),.aq (.c (.bool b))]
def MX{q}(a:dV q=f):c q<=6:=by simp only[dV,cE,bA]at a;omega
def I9(q)(b o):Y r 60 [bD.S q,b2 b,b2 o] [] (aed 0 (ju q b o).1 (ju q b o).2) [nb (ju q b o).1]:=by
 refine Y.K func60 rfl λs=>?_;have d:¬(dV q=f/\fK b=f/\fD o=f)->ju q b o=([],l):=λp=>bm p;cases e:dV q with
 |false=>
  rw[d M];refine a_ sR [(10,l)] a ?_ ?_
  .simp[bD.E,bD.U,e]
  exact Fg
 |true=>
  have t:=MX e;cases i:fK b with
  |false=>
   rw[d M];refine a_ sR [(10,f),(14,l)] a ?_ ?_
   .simp[bD.E,bD.U,e,i]
   exact Fg
  |true=>
   cases m:fD o with
   |false=>
    rw[d M];refine a_ sR [(10,f),(14,f),(19,l)] a ?_ ?_
    .simp[bD.E,bD.U,e,i,m]
    exact Fg
   |true=>
    have j:ju q b o=if dV (ln q (b,o))=f then(ln q (b,o),f)else(q,l):=br ⟨e,i,m⟩;cases k:dV (ln q (b,o))with
    |true=>
     rw[k,br a]at j;rw[j];refine a_ sR [(10,f),(14,f),(19,f),(29,f)] a ?_ (g.bf [nb (ln q (b,o))] a ?_ (g.aS [0] a ?_ ?_))
     .simp[bD.E,bD.U,e,i,m,k];omega
     .simp[bD.E]
     .simp[bD.E]
     grind
    |false=>
     rw[k,bm E]at j;rw[j];refine a_ sR [(10,f),(14,f),(19,f),(29,l)] a ?_ (g.bf [nb (ln q (b,o)),nb q] a ?_ (g.aS [1] a ?_ ?_))
     .simp[bD.E,bD.U,e,i,m,k,qA];omega
     .simp[bD.E,bt.app0]
     .simp[bt.app0]
     grind
def XB(q)(b o):Y r 60 [bD.S q,b2 b,b2 o] [] (r3 (ju q b o).1 (ju q b o).2) []:=
 (I9 q b o).b2 a E a
def Bd:bL:=λargs g=>match args,g with
 |[i,.n (.aq (.c (.V d))),.n (.aq (.c (.V e)))],[]=>match jW 2 i with
  |none=>n
  |some (a,b)=>h (r3 (ju (bD.af a b) d e).1 (ju (bD.af a b) d e).2,[],[bD.bU a b])
 |_,_=>n
def t60:bM r 60 Bd:=by
 intro args k g i e a d;unfold Bd at a;split at a
 .split at a
  .cases a
  rename_i m o j;cases a;exact(XB _ _ _ ).args (λ_ B=>b5.imp (λ_=>bD.cC j d) (b5.imp (λ_ b=>b) (b5.imp (λ_ b=>b) (λ_ b=>b))) B)
 cases a
def HZ:m (Nat×bL):=(60,Bd)::HY
def SK:a8 r HZ:=a8.cons t60 (sR)
end R1
def tI(a:m N)(d:Nat):Nat×(Nat->m N):=match c7 d a with|some (.S _ _ e b)=>(e,b)|_=>(0,λ_=>[])
def aA:cZ Int:={bj:=1,a8:=λb=>[.int .i64 b],cm:=λa=>td a 0,I:=0,inv:=λ_=>rfl,len:=λ_=>rfl}
def bR:cZ bE:={bj:=1,a8:=λb=>[.V b],cm:=λa=>vZ a 0,I:=[],inv:=λ_=>rfl,len:=λ_=>rfl}
namespace R1
def bG:cZ cW:={bj:=2,a8:=λb=>[.int .i64 b.1,.V b.2],cm:=λa=>(td a 0,vZ a 1),I:=(0,[]),inv:=λ_=>rfl,len:=λ_=>rfl}
def e1:cZ ft:={bj:=2,a8:=λb=>[.int .i64 b.1,.int .i64 b.2],cm:=λa=>(td a 0,td a 1),I:=(0,0),inv:=λ_=>rfl,len:=λ_=>rfl}
abbrev lo(a:b'):N:=.S l 2 (c a.2) (bG.fn a.2)
def a2:cZ b':={bj:=2,a8:=λb=>[.int .i64 b.1,lo b],cm:=λa=>(td a 0,bG.af (tI a 1).1 (tI a 1).2),I:=(0,[]),inv:=λb=>by show(b.1,bG.af (c b.2) (bG.fn b.2))=b;rw[bG.E],len:=λ_=>rfl}
def cv:cZ m2:={bj:=2,a8:=λd=>[.V d.1,.S l 1 (c d.2) (aA.fn d.2)],cm:=λa=>(vZ a 0,aA.af (tI a 1).1 (tI a 1).2),I:=([],[]),inv:=λb=>by show(b.1,aA.af (c b.2) (aA.fn b.2))=b;rw[aA.E],len:=λ_=>rfl}
def bj:cZ eF:={bj:=2,a8:=λd=>[.int .i64 d.1,.S l 2 (c d.2) (cv.fn d.2)],cm:=λa=>(td a 0,cv.af (tI a 1).1 (tI a 1).2),I:=(0,[]),inv:=λb=>by show(b.1,cv.af (c b.2) (cv.fn b.2))=b;rw[cv.E],len:=λ_=>rfl}
def a1:cZ (Int×Int):=e1
abbrev fA(a:b'):z:=.n (.agg [.c (.int .i64 a.1),.c (lo a)])
abbrev xQ(a:Option bE):z:=.n (.agg [.c (.V (a.getD [])),.c (.bool a.isSome)])
end R1
end Go.AM
