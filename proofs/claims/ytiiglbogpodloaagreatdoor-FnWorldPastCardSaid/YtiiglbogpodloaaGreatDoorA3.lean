/- Part 3. No condition. -/
import Derived.Test.YtiiglbogpodloaaGreatDoorA2
import Derived.Laws.Externs
import Derived.Lib.Builder
import Derived.Conc.Beside
import Derived.Conc.CrowdRun
import Derived.Conc.WgGenN2
import Derived.Conc.WgGenN3
import Derived.Conc.LeavingOf
import Derived.Below
import Derived.ProofKit
import Derived.OpenShut
import Derived.OpenVars
import Derived.LaidMore
import Derived.Lay
import Derived.SevenTiedAt
set_option linter.all false
set_option maxHeartbeats 8000000
open Go.Proofs
open Go.Proofs.Tryz
open Go.Conc (G)
open List renaming length → c, range → aA, replicate → aU, getD_eq_getElem?_getD → al, all_eq_true → aW
open Go renaming Value → X, TypeId → an, Event → aN, undef → I, World → au, Frame → aG, FuncId → aZ, execOp → ab, Operand → ae, Program → aD, Goroutine → ag, stepG → ap, Oper → ao
open Option renaming some → f, none → n
open Bool renaming true → l, false → v
open Nat renaming beq → ad, ble → ay
open Go.Region renaming wanted → aO
open Go.World renaming cell? → aH
open Go.Op renaming bytesLess → aQ
open Go.Sem renaming events_bind → aC
open Go.Result renaming evThen_ok → aE
open Go.Instr renaming sliceBounds → aS
open Go.Proofs.Tryz renaming prog → S
open Go.MemAct renaming ofEvent → aJ
open Go.Conc renaming stepG_seq → aw, stepG_region_end → aB
namespace Go.AM
variable {j A:Nat}{h:Int}{d i e u:Nat}{W:an}{H:X->(Nat->Option Obj)->Prop}{L:Array Bool}{bB:Mem}{F:Nat}{P:aD}{br:ag->a6->Prop}{s:Code}{C:ag}{r:ao}{b:a6}{o:an}{aa:X}{p:au}{α:Type}{η:ae->y}{ι:Type}{k:m ar}{J:bM}{all:m ao}{dt:Array an}{cap:m M}{cS:m y}{lc:Nat->Option Obj}{ai:m aG}{bf:m (Nat×Bool)}{V:Nat->m M}{cQ:ae}{gs:Array ag}{aY:m Nat}{cp:m Prop}{off:Nat}{op:BinOp}{aV:Array ao}{Z:m Prop}{bq:m ao}{aF:a6}{ty:an}{val:Nat->Nat->X}{z:m X}{bi:au}{ah:Array ae}{aq di:m ar}{res:ι->y}{aX:ι->m ar}
variable {CT:m (Nat×bI)}{av:m iv}{be:fF}{ac:m (Nat×cq)}{a5:cq}
section
variable {q:af P}{bk:m (Nat×cq)}{ac:an}{O:Bool}{v1:X}{bQ:Option (Nat×Nat)}{ah:m UInt8}{h:Nat}
def JM{P}{i r}{o}{h}:∀(z:m X)a(g:Array X)d(b:Array aN),d.heap[i]?=f (.cells g o h)->h.2<=r+a->r+a+c z<=g.size->(∀e∈z,e.oneCell'=l) ->
  ∀k∈(storeCells ⟨i,r,n⟩ z a).events P d b,k∈b∨∃p,a<=p/\p<a+c z/\k=t_ i (r+p)
 |[],_,_,_,_,_,_,_,_=>λk q=>.inl cX
 |e::j,a,g,d,b,C,F,I,s=>λk q=>by
  have bp:r+a<g.size:=N;have t:d.cell? ⟨i,r+a,n⟩=f g[r+a]:=ON;have B:d.frozen? ⟨i,r+a,n⟩=v:=by obtain⟨y,E⟩:=h;simp[World.frozen?,C,AQ,dr];grind
  have u:(store (⟨i,r+a,n⟩:Addr) e).run P d=.ok () (d.setRow i (g.setIfInBounds (r+a) e)):=OC;have x:(store (⟨i,r+a,n⟩:Addr) e).events P d b=b.push (t_ i (r+a)):=by rw[events_store P d b _ e _ (s e D),t];exact hK
  simp[storeCells,aC,g6,u,x,aE]at q;rcases JM j (a+1) (g.setIfInBounds (r+a) e) _ _ (setRow_heap _ _ _ _ _ _ C) w N (λA M=>s A N) k q with J|⟨p,Q,K,rfl⟩
  .grind
  grind
def m7.at{L}{i C cap}{e:Nat->Option Obj}(s:m7 P k b d ac W O v1 (f (C,cap)) ah h L i e):
  C≠i/\c ah<=cap/\0<cap/\cap<=9223372036854775807/\h<=c ah/\(∃g,c (gd ah++g)=cap/\e C=f (.cells (gd ah++g).toArray W (0,h)))/\(∀r,(e r).isSome=l↔r=i∨r=C)/\C∈L.al:=by
 obtain⟨u,w,_,_,j,m,o,p,q,a,t⟩:=s.ga;have:u=i:=by rw[s.v]at w;grind
 subst this;obtain⟨g,a,x⟩:=a;exact⟨j,m,o,p,q,⟨g,a,x⟩,t,(s.al C).2 N⟩
def acf{L}(a:b.t[d]?=f L):b.t.set d L=b.t:=m6
def m7.cd{L}{i C cap}{g:Nat->Option Obj}(s:bc k b)(t:k[d]?=f (.K (eP ac W O v1 (f (C,cap)) ah h)))(e:m7 P k b d ac W O v1 (f (C,cap)) ah h L i g){oT}{pk}{ul}{bi}(B:c (gd oT++ul)=cap)(J:c oT<=cap)(F:pk<=c oT)(M:bi.heap.size=b.a.heap.size)(o:∀a,a≠C->bi.heap[a]?=b.a.heap[a]?)(S:bi.heap[C]?=f (.cells (gd oT++ul).toArray W (0,pk)))(u:bi.os=b.a.os)(I:bi.tape=b.a.tape)(D:bi.output=b.a.output):
  bc (k.set d (.K (eP ac W O v1 (f (C,cap)) oT pk))) {b with a:=bi}/\cO k b (k.set d (.K (eP ac W O v1 (f (C,cap)) oT pk))) {b with a:=bi}:=by
 obtain⟨j,y,q,r,z,⟨bz,A,R⟩,Q,K⟩:=e.at;obtain⟨x,t2⟩:=s.cd (d:=d) (j_:=eP ac W O v1 (f (C,cap)) oT pk) (cv:=L) (bi:=bi) t e.t rfl w
  (λa m E=>o a N) (λa m=>.inl m)
  ⟨λa=>if a=C then f (.cells (gd oT++ul).toArray W (0,pk))else g a,⟨i,e.v,e.cell,(show(if i=C then _ else g i)=_ from(bj λp=>j p.symm).trans e.cU),j,J,q,r,F,⟨ul,B,by simp⟩,λa=>by
   grind⟩,λa T m=>by
   by_cases p:a=C
   .grind
   .simp only[p,dn]at m;rw[o a p];exact e.heap _ _ m,λa=>by
   rw[e.al a]
   grind⟩ u I D
 rw[acf e.t]at x t2;grind
def a1.ik{t2:an}{T x:ae}(q:r.op=.call {callee:=.builtin .append,args:=#[T,x],argTypes:=#[o,t2]}){a5}(aP:P.underlying o=f (.slice W))(M:P.underlying t2=f .string)(Y:P.info? W=f a5)(X:a5.size=1){C cap}(p:k[d]?=f (.K (eP ac W O v1 (f (C,cap)) ah h)))(K:η T=cM (jQ (f (C,cap)) j))(J:c ah=j){b}(R:η x=ax (.S b))(aM:j+c b<=cap):
  a1 P r η k (cM (jQ (f (C,cap)) (j+c b))) (k.set d (.K (eP ac W O v1 (f (C,cap)) (ah++b) h))):=by
 intro i V m s;subst J;obtain⟨L,aO,aC,t⟩:=eP.row (P:=P) m p;obtain⟨ar,au,av,aw,z,⟨g,az,A⟩,aB,ag⟩:=t.at;have y:=s T;rw[K]at y;have y:=Rd.bd y;have Q:=s x;rw[R]at Q;have Q:=b8 Q;generalize H:V x=aJ at Q;cases Q with
 |@S e _ Z aL=>
 have ai:e.size=c b:=by rw[<-Z,ng];rfl
 have u:=t.heap _ _ A;have aK:(gd ah++g).toArray.size=cap:=N;have af:=Lib.run_append_room_stringF (P:=P) i.a o t2 r.type W a5 aP M Y X C (c ah) cap _ _ u z e w N;have G:((gd ah++g).toArray.toList.take (c ah)++Lib.strCells e++(gd ah++g).toArray.toList.drop (c ah+e.size))=gd (ah++b)++g.drop (c b):=by
  have D:(gd ah++g).take (c ah)=gd ah:=Fu;have E:(gd ah++g).drop (c ah+e.size)=g.drop (c b):=by rw[List.drop_append,NS,GB N,ai];simp
  have F:Lib.strCells e=gd b:=by simp[Lib.strCells,gd,Z]
  rw[List.toList_toArray,D,E,F,aeA]
 rw[G,ai]at af;have ab:c g=cap-c ah:=Fu;have aH:c (gd (ah++b)++g.drop (c b))=cap:=Fu;have aI:(i.a.setRow C (gd (ah++b)++g.drop (c b)).toArray).heap[C]?=f (.cells (gd (ah++b)++g.drop (c b)).toArray W (0,h)):=setRow_heap i.a C _ _ W _ u;obtain⟨S,aj⟩:=t.cd (pk:=h) (bi:=i.a.setRow C (gd (ah++b)++g.drop (c b)).toArray) m p aH N N (setRow_size _ _ _) (λB ao=>setRow_other i.a C B _ ao) aI rfl rfl rfl;refine⟨.value (.slice (f ⟨C,0,n⟩) (c ah+c b) cap),_,?_,Rd.val a,S,aj,?_⟩
 .rw[ll q,y,H];simp[cK,d'];have aN:(Builtin.append_ #[o,t2] r.type #[jQ (f (C,cap)) (c ah),.string e]).run P i.a=_:=af;exact hK
 rw[ll q,y,H];refine i2 λaD aa=>?_;have I:=Lib.run_firstCells_string (P:=P) i.a 1 e;have ak:=run_storeCells_atF P C (c ah) W (0,h) (Lib.strCells e) 0 _ i.a u N N (Lib.strCells_oneCell e);have aE:c ah+e.size<=cap:=w;have aq:(Builtin.firstCells 1 e.size (.string e)).events P i.a #[]=#[]:=rfl;simp[jQ,Builtin.append_,run_underlying aP,run_underlying M,sizeOf,typeInfo,Y,X,Builtin.lenOf,aE,I,aq,g6,ak]at aa;rcases JM (Lib.strCells e) 0 _ i.a _ u N N (Lib.strCells_oneCell e) aD aa with aQ|⟨aR,aF,aG,rfl⟩
 .grind
 exact oo (ca t.t) ag (t.D _ ag _)
def a1.il{t2:an}{p i:ae}(g:r.op=.call {callee:=.builtin .append,args:=#[p,i],argTypes:=#[o,t2]}){a5}(w:P.underlying o=f (.slice W))(t:P.underlying t2=f .string)(s:P.info? W=f a5)(B:η p=cM (jQ n 0))(A:η i=ax (.S [])):a1 P r η k (cM (jQ n 0)) k:=by
 refine .aR λx q y h=>?_;have e:=h p;rw[B]at e;have e:=Rd.bd e;have d:=h i;rw[A]at d;have d:=b8 d;generalize u:q i=C at d;cases d with
 |@S b _ E D=>
 have j:b.size=0:=by have:c b.data.toList=0:=N;rw[ng]at this;exact this
 have m:=Lib.run_firstCells_string (P:=P) x.a a5.size b;rw[j]at m;have z:(Builtin.firstCells a5.size 0 (.string b)).events P x.a #[]=#[]:=rfl;refine⟨.slice n 0 0,?_,Rd.val a,?_⟩
 .rw[ll g,e,u];simp[jQ,Builtin.append_,run_underlying w,run_underlying t,sizeOf,typeInfo,s,Builtin.lenOf,j,m]
 rw[ll g,e,u];simp[jQ,Builtin.append_,run_underlying w,run_underlying t,sizeOf,typeInfo,s,Builtin.lenOf,j,m,z]
def Te{s}{fn}{Z}(aj:P.underlying o=f (.slice W))(A:P.funcs[s]?=f fn)(Q:(fn.name== "runtime.NumGoroutine")=v)(ak:fn.body.isNone=l)(R:Extern.findNext fn=n)(G:Extern.find fn=f (Extern.BytealgMakeNoZero.makeNoZero Z #[o])){E:ae}(C:r.op=.call {callee:=.value cQ,args:=#[E],argTypes:=dt})(aC:η cQ=.n (.R (.c (.fn (.func s) [] []))))(Y:η E=.n (.R (.c (.int .i64 j))))(aL:0<j)(T:j<=140737488355328)(B:k[d]?=f (.K (eP ac W O v1 n ah h))):
  ∀b g,bc k b->(∀av,bx k b (g av) (η av))->∃(F:{aO:Nat×Nat // j<=aO.2}) (t:a6) (I:X),(ab g r).run P b.a=.ok (.value I) t.a/\bx (k.set d (.K (eP ac W O v1 (f F.1) [] 0))) t I (cM (jQ (f F.1) j)) /\
   bc (k.set d (.K (eP ac W O v1 (f F.1) [] 0))) t/\cO k b (k.set d (.K (eP ac W O v1 (f F.1) [] 0))) t/\dw b ((ab g r).events P b.a #[]):=by
 intro b g aP D;obtain⟨L,an,aH,m⟩:=eP.row (P:=P) aP B;have y:g cQ=.func (.func s) #[] #[]:=by
  have i:=D cQ;rw[aC]at i;have i:=b8 i;generalize g cQ=I at i;cases i with
  |fn aK e aT an aI aJ aF aG d1 d2=>
   grind
 have ai:g E=.int .i64 j:=by have i:=D E;rw[Y]at i;have i:=b8 i;generalize g E=I at i;cases i;rfl
 obtain⟨e,i,J,K⟩:=Lib.run_makeNoZero (P:=P) b.a Z o W aj j w;have K:=K (by simp[maxLen];omega);have aw:(callFunc s #[.int .i64 j]).run P b.a=.ok (.value (.slice (f ⟨b.a.heap.size,0,n⟩) j e.size)) (b.a.drew.drew.alloc (.cells e W)):=by rw[run_callFunc_extern A Q ak R G,i];rfl
 let bi:au:=b.a.drew.drew.alloc (.cells e W);have V:bi.heap[b.a.heap.size]?=f (.cells e W (0,0)):=lZ b.a.drew.drew _;have ar:bi.heap.size=b.a.heap.size+1:=by show(b.a.drew.drew.heap.push _).size=_;simp
 obtain⟨z,af,aQ,aR,aS⟩:=m.ga;have aD:z=an:=by rw[m.v]at af;grind
 subst aD;have M:=aP.lt L (ca m.t) z m.mem;have ax:b.a.heap.size≠z:=w;obtain⟨ag,t2⟩:=aP.cd (d:=d) (j_:=eP ac W O v1 (f (b.a.heap.size,e.size)) [] 0) (cv:=⟨L.v,[z,b.a.heap.size]⟩) (bi:=bi) B m.t rfl w
  (λp x R=>i6 b.a.drew.drew _ x) (λp x=>by
   simp at x;rcases x with rfl|rfl
   .exact .inl m.mem
   grind)
  ⟨λp=>if p=z then f (.cells #[if O then L.v else .pointer n,v1] ac (0,0))else if p=b.a.heap.size then f (.cells e W (0,0))else n,⟨z,m.v,m.cell,by simp,ax,by simp,by omega,by simp[maxLen]at K;omega,by simp,⟨e.toList,by simp[gd],by exact hK⟩,λp=>by
   grind⟩,λp aM x=>by
   by_cases u:p=z
   .subst u;simp[dx]at x;have:bi.heap[p]?=b.a.heap[p]?:=i6 b.a.drew.drew _ M;rw[this,<-x];exact m.heap _ _ m.cU
   grind,λp=>by grind⟩ rfl rfl rfl
 refine⟨⟨(b.a.heap.size,e.size),J⟩,_,_,?_,Rd.val rfl,ag,t2,?_⟩
 .simp[ab,C,resolve,Deferred.ofValue,invoke,y,ai,aw,bi,jQ]
 intro a aB;simp[ab,C,resolve,Deferred.ofValue,invoke,y,ai]at aB;have H:a∈(callFunc s #[.int .i64 j]).events P b.a #[]:=N;have az:fn.name≠ "runtime.NumGoroutine":=N;have aE:fn.body=n:=by simpa using ak
 have key:∀q:Array aN,∀u∈(Extern.BytealgMakeNoZero.makeNoZero Z #[o] #[.int .i64 j]).events P b.a q,u∈q∨∃aa,u=⟨.mark aa,v,l⟩/\Go.Conc.Neutral aa:=by
  intro q u G;change u∈Sem.events P (underlying _ >>= _) _ _ at G;have i:¬(j:Int)<0:=w;have J:¬(281474976710656:Int)<(j:Int):=w;have aq:u∈(askRoom (grownCap b.a j 0 W)).events P b.a.drew q:=by simpa[run_underlying aj,i,J,Question.forced,newRow,grownCap]using G
  grind[Go.Conc.events_askRoom]
 have:a∈(Extern.BytealgMakeNoZero.makeNoZero Z #[o] #[.int .i64 j]).events P b.a ((#[]:Array aN).push ⟨.mark (.extern s),v,l⟩):=by have u:callFunc s #[.int .i64 j]=callFunc s #[.int .i64 j]:=rfl;simpa[callFunc,A,az,aE,R,G,i]using H
 rcases key _ _ this with ao|⟨aa,rfl,S⟩
 .simp at ao;subst ao;exact .inr ⟨s,rfl⟩
 exact .inl S
def Tf{M av}{i s:ae}(cx:r.op=.call {callee:=.builtin .unsafeString,args:=#[i,s],argTypes:=#[M,av]})(J:P.underlying M=f (.pointer W))(H:P.cellsOf W=1){C cap}(V:k[d]?=f (.K (eP ac W O v1 (f (C,cap)) ah h)))(Z:η i=cM (.pointer (f ⟨C,0,n⟩)))(aa:η s=ax (.int .i64 (c ah))):
  a1 P r η k (ax (.S ah)) (k.set d (.K (eP ac W O v1 (f (C,cap)) ah (c ah)))):=by
 intro b p u K;obtain⟨L,aX,aV,R⟩:=eP.row (P:=P) u V;obtain⟨aM,t,aO,aQ,aR,⟨S,B,X⟩,aS,aI⟩:=R.at;have Q:=K i;rw[Z]at Q;have Q:=Rd.bd Q;have ag:p s=.int .i64 (c ah):=by have y:=K s;rw[aa]at y;have y:=b8 y;generalize p s=aY at y;cases y;rfl
 have aP:=R.heap _ _ X;have ai:ab p r=(do pure (.value (<-Builtin.unsafeString_ #[M,av] r.type #[p i,p s]))):=Sk;have Y:(gd ah++S).toArray.size=cap:=N;by_cases E:ah=[]
 .subst E;have aw:=Lib.run_unsafeString_none (P:=P) b.a M av r.type (f ⟨C,0,n⟩);obtain⟨x,t2⟩:=R.cd (oT:=[]) (pk:=0) (ul:=S) (bi:=b.a) u V B t D rfl (λ_ _=>rfl) N rfl rfl rfl;refine⟨.value (.string .empty),_,hK,Rd.S a D,x,t2,?_⟩;rw[ai,Q,ag];exact P7
 .have e:∀j i,ah[j]?=f i->b.a.cell? ((⟨C,0,n⟩:Addr).add j)=f (.int .u8 i.toNat):=by
   intro j i T;rw[g6];simp[aH,aP,cV];have ar:=(cP.1 T).1;have:(gd ah)[j]?=f (.int .u8 i.toNat):=by simp[gd,T]
   grind
  have ak:b.a.shape? C=f (W,cap):=by simp[World.shape?,aP];grind
  have aw:=Lib.run_unsafeString_row (P:=P) b.a M av r.type W J H C cap ak ah E t w e;have aj:c ah≠0:=N;have F:(b.a.freeze ⟨C,0,n⟩ (c ah)).heap[C]?=f (.cells (gd ah++S).toArray W (0,c ah)):=by simp[World.freeze,aj,dn,A1,dx,aP,lK];grind
  obtain⟨x,t2⟩:=R.cd (oT:=ah) (pk:=c ah) (ul:=S) (bi:=b.a.freeze ⟨C,0,n⟩ (c ah)) u V B t (bC _) Am (λaT aq=>by
   simp only[World.freeze,aj,dn,A1]
   grind) F Am Am Am
  refine⟨.value (.string ⟨ah.toArray⟩),_,?_,Rd.S D w,x,t2,?_⟩
  .rw[ai,Q,ag];simp only[cK,d',aw];rfl
  rw[ai,Q,ag];refine i2 λq z=>?_;have aB:¬(c ah:Int)<0:=w;have aJ:¬(9223372036854775807:Int)<(c ah:Int):=w;have au:=Lib.liesAt_bytes (P:=P) H (cap / P.cellsOf W) (c ah) N;have az:IntKind.i64.max=9223372036854775807:=rfl;have I:=Lib.run_loadBytes (P:=P) b.a ah ⟨C,0,n⟩ .empty e;have aG:∀(G:m UInt8) (A:Nat) (o:ByteArray) (g:Array aN),(∀j i,G[j]?=f i->b.a.cell? ⟨C,A+j,n⟩=f (.int .u8 i.toNat))->∀q∈(loadBytes ⟨C,A,n⟩ o (c G)).events P b.a g,q∈g∨∃j,q=pz C j:=by
   intro G;induction G with
   |nil=>intro A o g _ q z;exact .inl (by simpa[loadBytes]using z)
   |cons s G af=>
    intro A o g H q z;have an:=H 0 s a;simp only[kh]at an;have aF:(load ⟨C,A,n⟩).run P b.a=.ok (.int .u8 s.toNat) b.a:=by grind[run_load]
    simp only[fs,loadBytes,aC,aF,aE,CH an,g6]at z;rcases af (A+1) _ _ (λj i T=>by have:=H (j+1) i N;grind) q z with ao|ao
    .grind
    grind
  have aK:(variablesAt ⟨C,0,n⟩ W (c ah)).run P b.a=.ok l b.a:=by simp[variablesAt,ak,au]
  have aD:∀g,(variablesAt ⟨C,0,n⟩ W (c ah)).events P b.a g=g:=λg=>by simp[variablesAt,ak,au]
  have aL:q∈(loadBytes ⟨C,0,n⟩ .empty (c ah)).events P b.a #[]:=by change q∈Sem.events P (asInt (.int .i64 (c ah:Int)) >>= _) _ _ at z;simpa[asInt,asIntOf,az,aB,aJ,aj,elemOf,run_underlying J,aK,aD,I]using z
  rcases aG ah 0 .empty #[] (λj i T=>by grind[g6]) q aL with ao|⟨j,rfl⟩
  .grind
  exact qo (ca R.t) aI
end
section
variable {q:af P}{T:m (Nat×cq)}{ac:an}{C:Bool}{v1:X}{bQ:Option (Nat×Nat)}{ah:m UInt8}{e:Nat}
def a1.exact{h:ae}{j}{i}(m:η h=cM aa)(o:∀(a:ae->X) g,a h=aa->(ab a r).run P g=.ok (.value j) g/\(ab a r).events P g #[]=#[])(t:∀k e,bx k e j i):a1 P r η k i k:=by refine .aR λe a s d=>?_;have b:=d h;rw[m]at b;have b:=Rd.bd b;obtain⟨p,q⟩:=o a e.a b;grind
def a1.fI{a:ae}(h:r.op=.call {callee:=.builtin .len,args:=#[a],argTypes:=dt})(g:dt[0]?=f o)(e:P.underlying o=f (.slice W)){b}{s}(m:η a=cM (.slice b j s))(i:j<=9223372036854775807):a1 P r η k (ax (.int .i64 j)) k:=
 .exact m (λp q d=>by constructor<;>simp[ab,h,resolve,invoke,builtin,Builtin.len_,d,run_underlying e,goInt,g]) (λ_ _=>Rd.int m5)
def a1.gV{a:ae}(h:r.op=.call {callee:=.builtin .cap,args:=#[a],argTypes:=dt})(g:dt[0]?=f o)(e:P.underlying o=f (.slice W)){b}{s}(m:η a=cM (.slice b j s))(i:s<=9223372036854775807):a1 P r η k (ax (.int .i64 s)) k:=
 .exact m (λp q d=>by constructor<;>simp[ab,h,resolve,invoke,builtin,Builtin.cap_,d,run_underlying e,goInt,g]) (λ_ _=>Rd.int m5)
def a1.h2{b:ae}(h:r.op=.call {callee:=.builtin .unsafeSliceData,args:=#[b],argTypes:=dt}){s}(e:η b=cM (.slice n j s)):a1 P r η k (cM (.pointer n)) k:=
 .exact e (λi m d=>by
  have g:Builtin.unsafeSliceData_ dt r.type #[.slice n j s]=pure (.pointer n):=rfl
  constructor<;>simp[ab,h,resolve,invoke,builtin,d,g]) (λ_ _=>Rd.val a)
def a1.h4{d:ae}(m:r.op=.call {callee:=.builtin .unsafeSliceData,args:=#[d],argTypes:=dt}){b}{s}(i:η d=cM (.slice (f b) j s))(g:s≠0):a1 P r η k (cM (.pointer (f b))) k:=
 .exact i (λp q e=>by
  obtain⟨o,rfl⟩:=Nat.exists_eq_succ_of_ne_zero g;have h:Builtin.unsafeSliceData_ dt r.type #[.slice (f b) j (o+1)]=pure (.pointer (f b)):=rfl
  constructor<;>simp[ab,m,resolve,invoke,builtin,e,h]) (λ_ _=>Rd.val a)
def a1.i_{B x:ae}(D:r.op=.slice o B n (f x) n)(E:P.underlying o=f (.slice W)){a5}(p:P.info? W=f a5){g}{m h:Nat}(N:η B=cM (.slice (f g) j m))(M:η x=ax (.int .i64 h))(z:h<=j)(s:j<=m)(F:m≠0)(K:g.add 0=g):a1 P r η k (cM (.slice (f g) h m)) k:=by
 refine .aR λI y e u=>?_;have i:=u B;rw[N]at i;have i:=Rd.bd i;have C:y x=.int .i64 h:=by have b:=u x;rw[M]at b;have b:=b8 b;generalize y x=O at b;cases b;rfl
 have q:((n:Option X)=n/\(n:Option Int)=n)∨∃h w,(n:Option X)=f (.int h w)/\(n:Option Int)=f w:=.inl ⟨rfl,rfl⟩;have e:(f (Value.int .i64 h)=n/\(f (h:Int))=n)∨∃A w,f (Value.int .i64 h)=f (.int A w)/\(f (h:Int))=f w:=.inr ⟨_,_,rfl,rfl⟩;have t:U (jq j n (f (h:Int))):=by simp[jq,z]
 obtain⟨d,_,_⟩:=v' (P:=P) (ks:=l) s q e t I.a;have J:=vh (P:=P) (ks:=l) s q e t I.a;simp only[bW,cW]at d;refine⟨.slice (f g) h m,?_,Rd.val a,?_⟩
 .simp[ab,D,i,C,Instr.sliceAt,run_underlying E,Instr.slice,d,sizeOf,typeInfo,p,F,K]
 simp[ab,D,i,C,Instr.sliceAt,run_underlying E,Instr.slice,d,J,sizeOf,typeInfo,p,F]
def a1.iH{t2:an}{g h:ae}(m:r.op=.call {callee:=.builtin .copy,args:=#[g,h],argTypes:=#[o,t2]})(q:P.underlying o=f (.slice W)){a5}(e:P.info? W=f a5){i}{s}(t:η g=cM (.slice (f i) 0 s))(j:η h=cM (.slice n 0 0)):a1 P r η k (ax (.int .i64 0)) k:=by
 refine .aR λw u p a=>?_;have d:=a g;rw[t]at d;have d:=Rd.bd d;have b:=a h;rw[j]at b;have b:=Rd.bd b;refine⟨.int .i64 0,?_,Rd.int lD,?_⟩<;>
 simp[ab,m,resolve,invoke,builtin,Builtin.copy_,d,b,run_underlying q,sizeOf,typeInfo,e,Builtin.lenOf,Builtin.firstCells,storeCells,goInt]
def a1.jR{u m}{j g:ae}(cx:r.op=.call {callee:=.builtin .unsafeString,args:=#[j,g],argTypes:=#[u,m]})(w:η j=cM (.pointer n))(t:η g=ax (.int .i64 ((0:Nat):Int))):a1 P r η k (ax (.S [])) k:=by
 refine .dv λb e s i=>?_;have h:=i j;rw[w]at h;have h:=Rd.bd h;have o:e g=.int .i64 0:=by have d:=i g;rw[t]at d;have d:=b8 d;generalize e g=x at d;cases d;rfl
 have p:ab e r=(do pure (.value (<-Builtin.unsafeString_ #[u,m] r.type #[e j,e g]))):=Sk;have q:=Lib.run_unsafeString_none (P:=P) b.a u m r.type n;refine⟨.string .empty,?_,Rd.S a D,?_⟩
 .rw[p,h,o];simp only[cK,d',q];rfl
 rw[p,h,o];exact P7
def a1.iu(A:k[d]?=f (.K (eP ac W C v1 bQ ah e))){a dst:an}{g:ae}(w:r.op=.convert a dst g)(z:P.underlying a=f (.pointer ac))(x:P.underlying dst=f .unsafePointer){u}(b:P.info? ac=f u)(t:u.size≠0)(B:η g=aI d 0):a1 P r η k (aI d 0) k:=by
 refine .aR λo p j m=>?_;obtain⟨L,h,lc,a7⟩:=eP.row (P:=P) j A;have i:=m g;rw[B]at i;have y:=a7.ptr i;have s:o.a.shape? h=f (ac,2):=Oz;have q:=Lib.run_to_unsafe (P:=P) o.a ⟨h,0,n⟩ z x b t s D;refine⟨p g,by simp[ab,w,y,q],i,?_⟩;have:(convert a dst (.pointer (f ⟨h,0,n⟩))).events P o.a #[]=#[]:=by simp[convert,run_underlying z,run_underlying x,Conv.unsafePointer,Conv.seenAt,viewAt,cellsIn,s,sizeOf,typeInfo,b,t]
 simp[ab,w,y,q,this]
def a1.im(A:k[d]?=f (.K (eP ac W C v1 bQ ah e))){a dst:an}{g:ae}(w:r.op=.convert a dst g)(z:P.underlying a=f .unsafePointer)(x:P.underlying dst=f (.pointer ac)){u}(b:P.info? ac=f u)(B:u.size≠0)(q:liesAt P P.depth ac (2 / P.cellsOf ac) 0 ac 1=l)(D:η g=aI d 0):a1 P r η k (aI d 0) k:=by
 refine .aR λo p j m=>?_;obtain⟨L,h,lc,a7⟩:=eP.row (P:=P) j A;have i:=m g;rw[D]at i;have y:=a7.ptr i;have t:o.a.shape? h=f (ac,2):=Oz;have s:=Lib.run_from_unsafe (P:=P) o.a ⟨h,0,n⟩ z x b t q;refine⟨p g,by simp[ab,w,y,s],i,?_⟩;have:(convert a dst (.pointer (f ⟨h,0,n⟩))).events P o.a #[]=#[]:=by simp[convert,run_underlying z,run_underlying x,Conv.unsafePointer,Conv.seenAt,viewAt,variablesAt,t,sizeOf,typeInfo,b,B,q]
 simp[ab,w,y,s,this]
def a1.jB{i}{fn}(t:P.funcs[i]?=f fn)(q:(fn.name== "runtime.NumGoroutine")=v)(e:fn.body.isNone=l)(g:Extern.findNext fn=n)(u:Extern.find fn=f Extern.AbiNoEscape.same){d:ae}(h:r.op=.call {callee:=.value cQ,args:=#[d],argTypes:=dt})(F:η cQ=.n (.R (.c (.fn (.func i) [] [])))){o}(M:η d=o):a1 P r η k o k:=by
 refine .dv λm a D j=>?_;have s:a cQ=.func (.func i) #[] #[]:=by
  have b:=j cQ;rw[F]at b;have b:=b8 b;generalize a cQ=N at b;cases b with
  |fn C y J K A B w x d1 d2=>
   grind
 have E:(callFunc i #[a d]).run P m.a=.ok (.value (a d)) m.a:=by rw[run_callFunc_extern t q e g u];rfl
 have I:=I4 (P:=P) t q e g u #[a d] (λ_ _=>rfl) m.a #[];refine⟨a d,?_,by grind,λz p=>?_⟩
 .simp[ab,h,resolve,Deferred.ofValue,invoke,s,E]
 simp[ab,h,resolve,Deferred.ofValue,invoke,s,I]at p;subst p;exact .inr ⟨_,rfl⟩
end
def DW{a o:Type}{e:a->o}:∀{g:m a},(g.map e).Nodup->∀{b d:a},b∈g->d∈g->e b=e d->b=d
 |[],_,_,_,r,_,_=>by grind
 |t::s,j,b,d,p,q,k=>by
  simp only[mm,List.nodup_cons]at j;rcases fh.1 p with i|i<;>rcases fh.1 q with h|h
  .grind
  .grind
  .grind
  exact DW j.2 i h k
def qL{bT}{a}(d:bT≠.bk)(b:jX a=l):jX (bT::a)=l:=by cases bT<;>first|exact b|grind
section
variable {q:af P}
def g.bW{aP o}(h:∀j b d,aP j b d->o j b d):∀{av:m iv}{j:Exit}{b:bM}{d:m ar},g q F aP av j b d->g q F o av j b d
 |[],j,b,d,a=>h j b d a
 |.code k::av,.normal,b,d,a=>b4.mono a λ_ _ _ a=>g.bW h a
 |.code k::av,.exit _,b,d,a=>g.bW (av:=av) h a
 |.code k::av,.ret,b,d,a=>g.bW (av:=av) h a
 |.code k::av,.panic _,b,d,a=>g.bW (av:=av) h a
 |.code k::av,.goto _,b,d,a=>g.bW (av:=av) h a
 |.code k::av,.outgrown,b,d,a=>g.bW (av:=av) h a
 |.blk id::av,.exit p,b,d,a=>by
  simp only[g]at a⊢;split
  .rename_i j;rw[bl j]at a;exact g.bW (av:=av) h a
  rename_i j;rw[bj j]at a;exact g.bW (av:=av) h a
 |.blk id::av,.normal,b,d,a=>g.bW (av:=av) h a
 |.blk id::av,.ret,b,d,a=>g.bW (av:=av) h a
 |.blk id::av,.panic _,b,d,a=>g.bW (av:=av) h a
 |.blk id::av,.goto _,b,d,a=>g.bW (av:=av) h a
 |.blk id::av,.outgrown,b,d,a=>g.bW (av:=av) h a
 |.aj i e::av,.normal,b,d,a=>fq.mono a λ_ _ a=>g.bW h a
 |.aj i e::av,.exit _,b,d,a=>g.bW (av:=av) h a
 |.aj i e::av,.ret,b,d,a=>g.bW (av:=av) h a
 |.aj i e::av,.panic _,b,d,a=>g.bW (av:=av) h a
 |.aj i e::av,.goto _,b,d,a=>g.bW (av:=av) h a
 |.aj i e::av,.outgrown,b,d,a=>g.bW (av:=av) h a
def g.fH{id}{Q:bM->m ar->Prop}{d s i}(a:i4 id d=n)(b:i4 id s=f i)(o:g q F be i .normal J k):
  g q F (wo Q (g q F be s)) (.code (.exit id)::d) .normal J k:=
 g.bW (λj e h p=>by cases j<;>exact p) (g.bs (q:=q) (F:=F) (AK:=be) (Q:=Q) (J:=J) (k:=k) a b o)
end
section
variable {q:af P}
def g.bg{fn}{t}{aq:ι->m ar}(e)(aY){ai}{o}{i}(h:U Z)(bY:∀u,u<t->aY[u]?=f u)(j:fn.results.toList=[.cell o ty]:=by exact rfl)(bp:b0 ac ty=f i:=by exact rfl)(A:i.agg=l:=by exact rfl)(r:look J o=aI d 0:=by exact rfl)(gW:da d k=f (.cells W ai):=by exact rfl)(x:ad (c ai) i.size=l:=by exact rfl)(s:eo d aY=v:=by exact rfl)(aj:kt (.n (.agg ai)) (fm aY (res e))=f Z:=by exact rfl)(O:h0 (c aY) (res e)=l:=by exact rfl)(T:dz aY k=f (aq e):=by exact rfl)(C:l8 (aq e)=l:=by exact rfl)(ju:fl aY=l:=by exact rfl):
  g q F (λak J aX=>∃u,ux ac fn t (res u) (aq u) ak J aX) (.code .ret::av) .normal J k:=
 g.ret ⟨e,.inl a,aY,d,W,ai,o,ty,i,Z,n,nofun,j,bp,A,dp x,r,ew gW,K8 s,aj,h,O,T,C,ju,bY⟩
def g.cc{fn}{h}{aq:ι->m ar}(e)(aY){ai}{o bz}{i}{E}(A:U Z)(bY:∀u,u<h->aY[u]?=f u)(r:fn.results.toList=[.cell o ty,.tmp bz]:=by exact rfl)(bp:b0 ac ty=f i:=by exact rfl)(j:i.agg=l:=by exact rfl)(bk:look J o=aI d 0:=by exact rfl)(T:look J bz=.n E:=by exact rfl)(gW:da d k=f (.cells W ai):=by exact rfl)(x:ad (c ai) i.size=l:=by exact rfl)(s:eo d aY=v:=by exact rfl)(aj:kt (.T [.agg ai,E]) (fm aY (res e))=f Z:=by exact rfl)(O:h0 (c aY) (res e)=l:=by exact rfl)(a7:dz aY k=f (aq e):=by exact rfl)(C:l8 (aq e)=l:=by exact rfl)(ju:fl aY=l:=by exact rfl):
  g q F (λak J aX=>∃u,ux ac fn h (res u) (aq u) ak J aX) (.code .ret::av) .normal J k:=
 g.ret ⟨e,.inl a,aY,d,W,ai,o,ty,i,Z,f (bz,E),λ_ t=>by cases t;exact T,r,bp,j,dp x,bk,ew gW,K8 s,aj,A,O,a7,C,ju,bY⟩
def Y.bh(a0:b3 P ac){d}{fn}{args}{res}(j:P.funcs[d]?=f fn)(i:(fn.name== "runtime.NumGoroutine")=v)(b:fn.body=f s)(h:ay args.length fn.ntmps=l)(o:kF args k->g q fn.ntmps (λm e a=>∃_:Unit,ux ac fn k.length res aq m e a) [.code s] .normal (ib 0 args) k):Y q d args k res aq:=
 (bm.bE (ι:=Unit) (aq:=λ_=>aq) (res:=λ_=>res) a0 j i b h o).toY
end
section
variable {q:af P}
def g.jD{K:ι->y}{e:ι->m ar}(R:dX q F all r J k K e)(Q:ft F r.dst=l)(T:∀p,g q F be (.aj all bq::av) .normal (gi r.dst (K p) J) (e p)):g q F be (.aj all (r::bq)::av) .normal J k:=by
  intro V M t d I j h E idx i a A;cases idx with
  |nil=>exact a.elim
  |cons S idx=>
  refine R V M t d I j h E S idx i a.1 λp X B w x b=>?_;refine T p B _ ?_ x I j h E idx i a.2 λN o C s U u z D=>A N o C s U u z (b.trans D);cases O:r.dst with
  |none=>exact t.mono b d.len
  |some W=>exact(t.mono b d.len).put (lg Q W O) w
def dX.gd[q.bZ]{bn}(aL:bm q bn cS [] res aX){ae}(aS:oS all J r=l)(bx:r.op=.call {callee:=.value cQ,args:=ah,argTypes:=dt})(V:g7 (bE J cQ)=f (bn,cap))(bu:pV k (ah.toList.map (bE J)++fj cap) ae)(bN:l3 ae (gu [] cS)=f Z)(a4:U Z)(a0:hk 0 cS=l)(bK:∀t,yC (res t)=l)(a3:∀t,qM (aX t)=l):dX q F all r J k res (λt=>k++aX t):=by
  intro b x bd ax i a7 ai bO bJ idx g aZ br;have ao:=eM bd cQ;unfold g7 at V;split at V
  case h_2=>cases V
  case h_1 vj u7 he=>
    cases V;rw[he]at ao;have bG:=b8 ao;generalize Q:x.eval cQ=bW at bG;cases bG with
    |fn bp I a1 az bU bo e y bY bC=>
      have aO:bp=[]:=jK a1;subst aO;have bR:b5 k b I (fj cap):=qj (λt s bt=>⟨bo t,y t N,bC t s bt⟩) az;have G:b5 k b (ah.toList.map x.eval++I) (ah.toList.map (bE J)++fj cap):=(nc (eM bd) ah.toList).append bR;generalize bI:ah.toList.map x.eval++I=z at G;obtain⟨⟨fn,aN,aB,bS⟩,T⟩:=aL;have aD:∀aE,(ab x.eval r).run P aE=.ok (.enter bn z.toArray) aE:=λaE=>by grind[mT]
      have aw:∀aE,(ab x.eval r).events P aE #[]=#[]:=λaE=>(mT bx aN aB bS Q aE).2;refine .next a λm a5=>?_;have W:=q.bO a5;have u:=ax.rely W;have aH:=bd.rely W ax;have bM:b5 k m z (ah.toList.map (bE J)++fj cap):=G.mono W.aT.ext ax.len;obtain⟨R,av,bH,a9,bz,a_,bX,bA⟩:=bu m z u bM;let O:a6:={m with t:=[],D:=av,own:=λi=>m.own i∨∃L∈m.t,i∈L.al}
      have aV:bc [] O:=by
        refine⟨a_,a,by simp,by grind,by grind,λi g=>⟨?_,by grind⟩⟩;rcases g with g|⟨d,Y,g⟩
        · exact(u.own i g).1
        · exact u.lt d Y i g
      have aQ:e_ m O:=by refine⟨rfl,a9,λi g r=>bz i (λaM=>by grind) r,a_,λi g=>?_⟩;grind
      have b0:b5 [] O z cS:=by have bg:=tj bN a4 bA;exact(b5.sub (aY:=[]) (k:=k) (aq:=[]) (b:={m with D:=av}) (lE:=[]) rfl rfl bg a0).mono (k:=[]) (b:={m with t:=[],D:=av}) (aq:=[]) (aF:=O) ⟨λ_ _ _ w=>w,λA R L aM bq=>by grind⟩ rfl
      refine⟨_,m,_,tN aZ (j5 aS _ _ _ aH) g (aD m.a),⟨⟨k,k,u,u,.refl _ _⟩,dw.seen (by rw[aw];exact .nil)⟩,.aO aQ (T O z b0 aV bO _ λt bV p bZ a2 aC K a'=>?_)⟩;refine uU (ai:=ai) (s:=i.ab x (.inRegion all.toArray (bJ::idx)::a7)) K a2 λC bf=>?_;have X:=K.rely bf;have S:=a'.trans bf.aT;have bQ:=aC.mono bf.aT.ext K.len
      classical
      let aa:Mem:=λi r=>if R i then m.D i r else C.D i r;have bB:∀i,(m.own i∨∃L∈m.t,i∈L.al)->C.own i:=λi g=>by rw[S.own];exact g
      have ag:n1 C {C with D:=aa}:=by
        refine⟨a,a,a,λi r p Q=>?_,λi r p Q=>?_⟩
        · grind
        grind
      refine .b2 af.bZ.ok ag ?_;have aj:∀i r p,aa i r=f p->C.D i r=f p:=ag.e8;let B:a6:={C with D:=aa,t:=m.t++C.t,own:=m.own}
      have an:∀i r p,m.D i r=f p->aa i r=f p:=λi r p Q=>by
        by_cases o:R i
        · grind
        · simp[aa,o,dn];exact S.mem i r p (a9 i r p Q)
      have ak:∀i,i<m.a.heap.size->∀r,aa i r=m.D i r:=λi g r=>by
        by_cases o:R i
        · grind
        · simp[aa,o,dn]
          rw[S.bz i g N r];grind
      have bP:c C.t=c (aX t):=X.len;have aG:fz k m (k++aX t) B:=by
        refine⟨an,λA R L aM bq=>⟨R,L,?_,?_,.refl _ _⟩⟩
        · grind
        grind
      have aP:m.a.heap.size<=C.a.heap.size:=S.size;have bF:∀A d,(m.t++C.t)[A]?=f d->(A<c m.t/\m.t[A]?=f d)∨(c m.t<=A/\C.t[A-c m.t]?=f d):=λA d w=>by grind
      have aT:bc (k++aX t) B:=by
        refine⟨λi r p Q=>X.mem i r p (aj i r p Q),by simp[B,u.len,bP],?_,?_,?_,?_⟩
        · intro A R d aM Y
          rcases bF A d Y with⟨au,e⟩|⟨ar,e⟩
          · rw[kb (by rw[<-u.len];exact au)]at aM
            exact(u.box A R d aM e).ca aG u.len λj o=>⟨S.a4 j (.inr ⟨d,ca e,o⟩),ak j (u.lt d (ca e) j o)⟩
          · rw[ht (by rw[<-u.len];exact ar),<-u.len]at aM
            have aK:=X.box _ R d aM e;rcases LA (a3 t) R (ca aM)with⟨H,rfl⟩|rfl
            · obtain⟨bl,bh,bj,bk,bT⟩:=aK
              refine⟨bl,bh,bj,bk,λj o r=>?_⟩;grind
            · trivial
        · intro A a8 D E aI aJ j M bb
          rcases bF A D aI with⟨au,e⟩|⟨ar,e⟩<;>rcases bF a8 E aJ with⟨bw,y⟩|⟨bs,y⟩
          · exact u.a3 A a8 D E e y j M bb
          · exact absurd bb ((X.own j (bB j (.inr ⟨D,ca e,M⟩))).2 E (ca y))
          · exact absurd M ((X.own j (bB j (.inr ⟨E,ca y,bb⟩))).2 D (ca e))
          · have:=X.a3 _ _ D E e y j M bb;omega
        · intro d Y j o
          rcases fG.1 Y with w|w
          · exact eK (u.lt d w j o) aP
          · exact X.lt d w j o
        · intro j o
          refine⟨eK (u.own j o).1 aP,λd Y=>?_⟩;rcases fG.1 Y with w|w
          · exact(u.own j o).2 d w
          · exact(X.own j (bB j (.inl o))).2 d w
      have aR:e_ {C with D:=aa} B:=by refine⟨rfl,λ_ _ _ w=>w,λ_ _ _=>rfl,λi r p Q=>X.mem i r p (aj i r p Q),λj o=>?_⟩;grind
      have ba:dg k m (k++aX t) B:=by
        refine⟨aP,λj o=>S.a4 j (.inl o),an,λj o _ r=>ak j o r,λd Y j o=>?_,aG.box,S.os,S.tape,S.output,a⟩;rcases fG.1 Y with w|w
        · grind
        · rcases S.bR d w j o with e|⟨bL,e,_⟩
          · grind
          grind
      refine .aO aR ?_;have bD:=qr (i:=i) (x:=x) (h:=a7) all.toArray bJ idx p;rw[aZ]at bD;simp[n7]at bD;rw[bD];exact br t p B (Zz (bK t) bQ) aT (W.aT.trans ba)
def g.gd[q.bZ]{e:Type}{cQ}{ah}{dt}{o}{cap}{cS}{a:e->y}{b:e->m ar}(A:bm q o cS [] a b){s}(w:oS all J r=l)(i:r.op=.call {callee:=.value cQ,args:=ah,argTypes:=dt})(B:g7 (bE J cQ)=f (o,cap))(h:pV k (ah.toList.map (bE J)++fj cap) s){Z}(p:l3 s (gu [] cS)=f Z)(u:U Z)(x:hk 0 cS=l)(t:∀d,yC (a d)=l)(z:∀d,qM (b d)=l)(C:ft F r.dst=l)(j:∀d,g q F be (.aj all bq::av) .normal (gi r.dst (a d) J) (k++b d)):g q F be (.aj all (r::bq)::av) .normal J k:=.jD (dX.gd A w i B h p u x t z) C j
def g.iB[q.bZ]{m}(y:bm q m cS [] res aX)(A i){o}{h}(t:oS all J r=l)(d:r.op=.call {callee:=.value cQ,args:=ah,argTypes:=dt})(B:g7 (bE J cQ)=f (m,cap))(z:(ah.toList.map (bE J)++fj cap)[i]?=f (cM o))(b:AI k A o h j V)(p:l3 ((ah.toList.map (bE J)++fj cap).set i (ax (.B v h j V))) (gu [] cS)=f Z)(u:U Z)(w:hk 0 cS=l)(s:∀a,yC (res a)=l)(x:∀a,qM (aX a)=l)(C:ft F r.dst=l)(e:∀a,g q F be (.aj all bq::av) .normal (gi r.dst (res a) J) (k++aX a)):g q F be (.aj all (r::bq)::av) .normal J k:=
  g.gd y t d B ((pV.refl _ _).step i A z b) p u w s x C e
end
section
variable {q:af P}
theorem dX.ev{z:ι->y}{a:ι->m ar}(M:r.guard=n)(D:ei P F r J k z a):dX q F all r J k z a:=by intro T A C b Q S B O R s o p j;refine rz o p (jf M) λI e=>?_;have g:=b.rely e;obtain⟨w,N,d,x,h,i,K,t,u,E⟩:=D I A (C.rely e b) g;exact⟨N,d,x,h,i,⟨⟨k,a w,g,t,u⟩,E⟩,j w x d K t (e.aT.trans (u.too4 g))⟩
def dX.eW{D}(K:bm q D cS di res aX)(aY)(ag:r.guard=n)(e:r.op=.call {callee:=.value cQ,args:=ah,argTypes:=dt})(h:g7 (bE J cQ)=f (D,cap))(Y:∀g z,b5 k g z (ah.toList.map (bE J)++fj cap)->b5 k g z (gu aY cS))(ak:hk (c aY) cS=l)(an:dz aY k=f di)(R:eA di=l)(ai:∀a,eA (aX a)=l)(w:fl aY=l)(ao:∀a,ay (c aY) (c (aX a))=l):
  dX q F all r J k (λa=>fm (aY++g0 (c k) (c (aX a)-c aY)) (res a)) (λa=>dd aY (aX a) k):=by
 intro g S I p ar ab U aq au y o s m;have M:=eM I cQ;unfold g7 at h;split at h
 case h_2=>cases h
 case h_1 vj u7 he=>
  cases h;rw[he]at M;have C:=b8 M;generalize Q:S.eval cQ=X at C;cases C with
  |fn W b u d V i Z j af x=>
   have aj:=jK u;subst aj;have aa:b5 k g b (fj cap):=qj (λa T t=>⟨i a,j a N,x a T t⟩) d;have ae:=Y g _ ((nc (eM I) ah.toList).append aa);obtain⟨fn,O,E,B⟩:=K.1;exact Bh o s (jf ag) p (λA=>(mT e O E B Q A).1) (λA=>(mT e O E B Q A).2) K ae ak an R ai w (λa=>fA (ao a)) m
def dX.ec{e}(s:bm q e cS di res aX)(aY)(h:r.guard=n)(d:r.op=.call {callee:=.value cQ,args:=ah,argTypes:=dt})(u:g7 (bE J cQ)=f (e,cap))(g:lb (ah.toList.map (bE J)++fj cap)=gu aY cS)(j:hk (c aY) cS=l)(m:dz aY k=f di)(t:eA di=l)(i:∀a,eA (aX a)=l)(b:fl aY=l)(o:∀a,ay (c aY) (c (aX a))=l):
  dX q F all r J k (λa=>fm (aY++g0 (c k) (c (aX a)-c aY)) (res a)) (λa=>dd aY (aX a) k):=.eW s aY h d u (λ_ _ p=>g▸u6 p) j m t i b o
def dX.bV{e}(t:bm q e cS di res aX)(aY)(i:r.guard=n)(d:r.op=.call {callee:=.value cQ,args:=ah,argTypes:=dt})(u:g7 (bE J cQ)=f (e,cap))(g:l3 (ah.toList.map (bE J)++fj cap) (gu aY cS)=f Z)(h:U Z)(m:hk (c aY) cS=l)(o:dz aY k=f di)(w:eA di=l)(j:∀a,eA (aX a)=l)(b:fl aY=l)(s:∀a,ay (c aY) (c (aX a))=l):
  dX q F all r J k (λa=>fm (aY++g0 (c k) (c (aX a)-c aY)) (res a)) (λa=>dd aY (aX a) k):=.eW t aY i d u (λ_ _ p=>tj g h p) m o w j b s
def ei.fE{E aa:ae}(I:j9 P r E aa W a5){aH h}{U}{d:Nat->m M}(R:a5.size=h)(ag:bE J E=ax (.B l aH 0 V))(az:bE J aa=ax (.B U h A d))(j:0<A)(i:A*a5.bytes<=140737488355328)(aL:∀C,C<A->∀ai∈d C,ny ai=l):
  ei P F r J k (ι:={D:fy×m X // et h A d D.2}) (λD=>cM (c5 D.1.1 A)) (λD=>k++[.K (ct W h D.1.1 A D.1.2)]):=by
 intro b aB O g;obtain⟨a3,t2,C,aX,ar,e,aF,G,y⟩:=I.op;have K:=eM O E;rw[ag]at K;have Z:=Rd.fS (h:=aH) (gp:=a5.size) (.inr a) (b8 K);have t:=eM O aa;rw[az]at t;have t:=b8 t;obtain⟨a2,aI,z,S,a1,aJ,aw,aV,aN⟩:=Z.b1;have aP:=aw a;subst aP;rw[S]at Z;have aD:Rd b.D (aB.eval aa) (.B U a5.size A d):=N;obtain⟨s,ab,Y,q,aC,aT,aR,aS⟩:=v_ (P:=P) (ty:=r.type) e aF G y I.elem g Z aD w N I.bytes;have aK:=vg (P:=P) (ty:=r.type) e aF G y I.elem g Z aD w N I.bytes;have ak:cj 0 V d=d:=by funext C;simp[cj]
 rw[R,cV,ak]at q;rw[R]at aR;rw[cV]at aC aS;have aE:et h A d s:=⟨q.len,q.bF,λC e aY ai u=>by
  obtain⟨aZ,af,aG⟩:=q.rd C e aY ai u
  grind[vt]⟩
 have Q:∀E∈s,dU E=l:=λE ag=>by
  obtain⟨x,av,rfl⟩:=ha ag;have aq:0<h:=N;have aQ:=q.len;have e:x / h<A:=sA N;have L:x / h*h+x % h=x:=uG x h;have u:x % h<c (d (x / h)):=by rw[q.bF _ e];exact p7 _ aq
  obtain⟨aZ,af,aG⟩:=aE.b4 _ e _ _ (bJ u);rw[L,bJ av]at af;cases af;exact(aG b.D).cell
 let o:au:=b.a.drew.alloc (.cells (s++ab).toArray W);have aM:eB (k++[.K (ct W h (.row b.a.heap.size Y) A s)]) {b with a:=o,t:=b.t++[⟨.nilFunc,[b.a.heap.size]⟩]} (.K (ct W h (.row b.a.heap.size Y) A s)) ⟨.nilFunc,[b.a.heap.size]⟩:=by
  refine⟨λB=>if B=b.a.heap.size then f (.cells (s++ab).toArray W (0,0))else n,⟨a,Q,q.len,aC,aT,ab,aR,a⟩,λB r T=>?_,λB=>?_,λB T r=>?_⟩
  .by_cases aj:B=b.a.heap.size
   .subst aj;simp only[dx]at T;cases T;exact lZ b.a.drew _
   grind
  .by_cases aj:B=b.a.heap.size<;>simp[aj]
  simp at T;subst T;cases j:b.D b.a.heap.size r with
  |none=>rfl
  |some a0=>have:=g.block j;omega
 have aO:o.heap.size=b.a.heap.size+1:=Ou;have H:bc k {b with a:=o}/\cO k b k {b with a:=o}:=
  g.cX w (λah i=>i6 b.a.drew _ i) (λah i r=>rfl) (λah i r a0 j=>by have:=g.block j;omega) a a a
 obtain⟨an,ao⟩:=H.1.b0 H.2 rfl g aM (λah i=>by grind);refine⟨⟨(.row b.a.heap.size Y,s),aE⟩,.value (.slice (f ⟨b.a.heap.size,0,n⟩) A Y),_,_,?_,.inl a,Rd.val a,an,ao,?_⟩
 .rw[ll ar,S];simp[aS];rfl
 grind[ll,i2]
def g.fE{s t}{W}{a5}(C:j9 P r s t W a5){y h A}{o}{d a:Nat->m M}(z:a5.size=h)(D:bE J s=ax (.B l y 0 d))(w:bE J t=ax (.B o h A a))(i:0<A)(e:A*a5.bytes<=140737488355328)(u:∀p,p<A->∀x∈a p,ny x=l)(B:r.guard=n)(E:ft F r.dst=l)(j:∀b:{b:fy×m X // et h A a b.2},g q F be (.aj all bq::av) .normal (gi r.dst (cM (c5 b.1.1 A)) J) (k++[.K (ct W h b.1.1 A b.1.2)])):g q F be (.aj all (r::bq)::av) .normal J k:=
 g.cD _ _ B E (ei.fE C z D w i e u) j
def g.fg(W)(h)(i:g q F be (.code s::av) .normal J (k++[.K (ct W h (.nil n) 0 [])])):g q F be (.code s::av) .normal J k:=by refine g.aO (λj p b a=>?_) i;obtain⟨m,d⟩:=a.b0 (bT:=.K (ct W h (.nil n) 0 [])) (L:=⟨.nilFunc,[]⟩) (.refl _ _) rfl a ⟨λ_=>n,⟨rfl,by simp,by simp,rfl,rfl⟩,by simp,by simp,by simp⟩ D;exact⟨{j with t:=j.t++[⟨.nilFunc,[]⟩]},rfl,⟨b.size,b.defers.imp λ_ e=>e.mono d.ext,λo=>(b.aK o).mono d.ext a.len⟩,m,d⟩
end
def Gk(h:X)(e g:Nat)(a:Nat->m M)(d b:M):Prop:=b=d∨(d=.val h/\b=.B v e g a)
def bc.fx{aX fp}{h}{bQ}{ah}(q:bc (aX++[.K (ct W h bQ j ah)]) b)(aw:et h j V ah){s}{eV}{A p}{C lU:Nat->m M}(y:aX[s]?=f (.q eV A p C))(aT:fp=aX.set s (.q eV A p lU))(az:kr (c fp) fp=l)(ab:∀k,k<p->c (lU k)=c (C k))(Z:∀k,k<p->∀(u:Nat) (K:M),(lU k)[u]?=f K->∃x,(C k)[u]?=f x/\Gk (c5 bQ j) h j V x K):
  ∃r:a6,bc fp r/\e_ b r/\(∀aj O,bx (aX++[.K (ct W h bQ j ah)]) b aj O->h0 (c fp) O=l->bx fp r aj O)/\∀{o:m ar} {w:a6},dg o w (aX++[.K (ct W h bQ j ah)]) b->o.length<=c fp->dg o w fp r:=by
 have G:=(cP.1 y).1;have aM:(aX++[ar.K (ct W h bQ j ah)])[c aX]?=f (.K (ct W h bQ j ah)):=D
 obtain⟨L,cl,aq,au,an,S,aI,aJ⟩:=ct.fB aM V (λk g=>⟨aw.ef k g,λaS u x aV t aH=>by
  obtain⟨aY,aN,aO⟩:=aw.b4 k g u x t
  grind⟩) b q
 obtain⟨E,F⟩:=q.b8 (cl:=cl) (bi:=b.a) (eg:=.N) (cv:=⟨L.v,[]⟩) aM aq rfl (bC _) (λ_ _ _=>rfl) (λi _ e ae=>an i e ae) au S D rfl rfl rfl B;have Q:(aX++[ar.K (ct W h bQ j ah)]).set (c aX) .N=aX++[.N]:=D;rw[Q]at E F;have ax:(aX++[ar.N])[s]?=f (.q eV A p C):=N;have aQ:=E.len;have R:=bJ (l:=b.t.set (c aX) ⟨L.v,[]⟩) (i:=s) N;generalize(b.t.set (c aX) ⟨L.v,[]⟩)[s]'_=su at R;have H:=E.box s _ su ax R;have af:fV (.q eV A p C) su (.q eV A p lU) su:=⟨λ_=>rfl,bC _⟩
 have aR:(b.t.set (c aX) ⟨L.v,[]⟩).set s su=b.t.set (c aX) ⟨L.v,[]⟩:=m6;obtain⟨ao,I⟩:=E.b8 (cl:=cl) (bi:=b.a) (eg:=.q eV A p lU) (cv:=su) ax R af (bC _) (λ_ _ _=>rfl) (λ_ _ _ _=>rfl) (λ_ _ _ aF=>aF) S
  (λi e=>⟨.inl e,E.lt su (ca R) i e⟩) a a a (by
   rcases H with⟨dL,fc⟩|⟨i,T,z,ak,dL,fc,jT,U,X,av,Y⟩
   .exact .inl ⟨dL,fc⟩
   .refine .inr ⟨i,T,z,ak,dL,fc,jT,U,X,⟨av.len,λk g=>by rw[ab k g];exact av.bF k g,λk g u K t=>?_⟩,Y⟩;obtain⟨x,aE,aB⟩:=Z k g u K t;obtain⟨aL,ag,ai⟩:=av.rd k g u x aE;refine⟨aL,ag,?_⟩;rcases aB with rfl|⟨rfl,rfl⟩
    .exact ai
    grind[Rd.bd])
 have aD:(aX++[ar.N]).set s (.q eV A p lU)=fp++[.N]:=N;rw[aD]at ao I;have J:=F.trans I;refine⟨_,ao.drop (bq:=[.N]) az,⟨a,au,λi e ae=>an i (e L (ca aq)) ae,S,λi e=>?_⟩,λaj O aK aa=>(aK.mono J.ext q.len).drop (bq:=[.N]) aa,λ{o w} aP af=>(aP.trans (J.too4 q)).drop (bq:=[.N]) af⟩;rcases e with e|⟨cv,aC,e⟩
 .exact .inl e
 have aG:=g4 aC;grind
def bm.fx{P:aD}{d:Type}{I:af P}{K}{args}{k}{b:d->y}{aX fp:d->m ar}{W h j}{bQ:d->fy}{ah:d->m X}{o:Nat->m M}(N:bm I K args k b (λa=>aX a++[.K (ct W h (bQ a) j (ah a))]))(ab:∀a,et h j o (ah a))(Q){eV}{R q:Nat}{r:d->Nat->m M}{lU:Nat->m M}(ae:∀a,(aX a)[Q]?=f (.q eV R q (r a)))(Y:∀a,fp a=(aX a).set Q (.q eV R q lU))(aa:∀a,kr (c (fp a)) (fp a)=l)(V:∀a,h0 (c (fp a)) (b a)=l)(Z:∀a,c k<=c (fp a))(aj:∀a g,g<q->c (lU g)=c (r a g))(ak:∀a g,g<q->∀(O:Nat) (S:M),(lU g)[O]?=f S->∃J,(r a g)[O]?=f J/\Gk (c5 (bQ a) j) h j o J S):bm I K args k b fp:=by refine⟨N.1,λag z D B U w A=>N.2 ag z D B U w λa x T ai C e p F=>?_⟩;obtain⟨E,s,i,t,u⟩:=p.fx (ab a) (ae a) (Y a) (aa a) (aj a) (ak a);exact .aO i (A a x T E (C.mono i.mem) (t T _ e (V a)) s (u F (Z a)))
def Ts(a0:b3 P ac){parts}(t:r.op=.buildSlice o j parts){h}{V}(g:rZ ac η o j parts.toList=f (h,V)){e}(u:b0 ac o=f e)(ag:e.desc=.slice W){ρ:ae->X}(M:∀au,bx k b (ρ au) (η au)):
  ∃s:m X,e3 b.D h j (λe=>V.getD e []) s/\j<=16777216/\0<h/\(ab ρ r).run P b.a=.ok (.value (.slice (f ⟨b.a.heap.size,0,n⟩) j j)) (b.newRow W s).a/\(ab ρ r).events P b.a #[]=#[]:=by
 unfold rZ at g;simp[u,ag]at g
 .skip
  cases A:b0 ac W with
  |none=>grind
  |some d=>
   simp[A]at g;cases C:ad d.size 0 with
   |true=>grind
   |false=>
    simp[C]at g;cases G:ay (j*d.size) 16777216 with
    |false=>grind
    |true=>
     simp[G]at g;cases aa:px η parts.toList with
     |none=>grind
     |some T=>
      simp[aa]at g;cases ar:rN (λh=>f (h*d.size,d.size)) T (aU (j*d.size) Q.any)with
      |none=>grind
      |some F=>
       simp[ar]at g;cases H:ic F with
       |none=>grind
       |some aF=>
        simp[H]at g;cases af:rG d.size j aF with
        |none=>grind
        |some aj=>
         simp only[af,e',lL]at g;obtain⟨rfl,rfl⟩:=g;have aL:d.size≠0:=λaC=>by rw[aC]at C;cases C
         have aD:=fA G;obtain⟨aq,q,Oi,aH,aI,a,ah,aJ,aK⟩:=(a0 W d A).cY;have ao:q.cells.size=d.size:=by have:=eF List.length ah;grind
         have an:∀i∈q.cells.toList,dU i=l:=by intro i L;have ai:k_ i∈q.cells.toList.map k_:=hu.2 ⟨i,L,rfl⟩;rw[ah]at ai;obtain⟨aM,_,J⟩:=hu.1 ai;exact(Rd.fq (bB:=b.D) J.symm).cell
         have y:∀aE,(∀i∈(aA aE).map (λx=>q.cells[x % q.cells.size]!),dU i=l):=by grind[Nat.mod_lt]
         have av:∀z:m X,(∀i∈z,dU i=l)->bP k b z (aU (c z) Q.any):=by
          intro z;induction z with
          |nil=>intro _;trivial
          |cons i z O=>intro L;exact⟨L i D,O λaG B=>L aG N⟩
         obtain⟨R,S⟩:=zd (k:=k) (b:=b) M aa;have aP:bP k b ((Array.range (j*d.size)).map (λx=>q.cells[x % q.cells.size]!)).toList (aU (j*d.size) Q.any):=by have:=av _ (y (j*d.size));simpa using this
         obtain⟨s,U,Y⟩:=yq (k:=k) (b:=b) (v3:=λh=>f (h*d.size,d.size)) (λh aN K=>K) ar R S aP;have nT:=rI H Y;obtain⟨aB,E⟩:=B8 (bB:=b.D) (z:=s.toList) af (by simpa using nT.cI) nT.eY;refine⟨s.toList,E,fY (uD j w) aD,by omega,?_,?_⟩
         rotate_left
         .exact R6
         have B:=(a0 o e u).run_underlying (p:=b.a);rw[ag]at B;have aw:(zeroValue W).run P b.a=.ok q b.a:=OL;have I:Instr.fill (λh=>f (h*d.size,d.size)) ((Array.range (j*d.size)).map (λx=>q.cells[x % q.cells.size]!)) (parts.map λ(e,Z)=>(e,ρ Z)).toList=f s:=by simpa using U
         by_cases az:j*d.size=0
         .have ax:j=0:=by grind[Nat.mul_eq_zero]
          subst ax;have ak:Array.range 0=#[]:=rfl;simp[ak]at I;simp[ab,t,Instr.buildSlice,B,(a0 W d A).bc,ak,I,Go.newRow,a6.newRow]
         rw[show ab ρ r=(do pure (.value (<-Instr.buildSlice o j (parts.map λ(e,Z)=>(e,ρ Z))))) by simp[ab,t]];simp only[Instr.buildSlice,cK,B,c_,(a0 W d A).bc,az,dn,aw,show¬j*d.size>2 ^ 24 by omega,sJ,I,d'];simp[Go.newRow,a6.newRow]
section
variable {q:af P}
def g.gO(a0:b3 P ac){parts}(C:r.op=.buildSlice o j parts){h}{V}{e}(u:b0 ac o=f e)(M:e.desc=.slice W)(s:rZ ac (bE J) o j parts.toList=f (h,V))(S:r.guard=n)(U:ft F r.dst=l)(w:g q F be (.aj all bq::av) .normal (gi r.dst (cE (c k) (.B j h 0 j)) J) (k++[.q W h j (λe=>V.getD e [])])):g q F be (.aj all (r::bq)::av) .normal J k:=by
 refine g.cD (ι:=Unit) (λ_=>cE (c k) (.B j h 0 j)) (λ_=>k++[.q W h j (λe=>V.getD e [])]) S U (λb A O i=>?_) λ_=>w;obtain⟨p,y,E,D,B,K⟩:=Ts (k:=k) (b:=b) (ρ:=A.eval) a0 C s u M (λX=>eM O X);have aM:eB (k++[.q W h j (λe=>V.getD e [])]) {b with a:=(b.newRow W p).a,t:=b.t++[⟨.slice (f ⟨b.a.heap.size,0,n⟩) 0 j,[b.a.heap.size]⟩]} (.q W h j (λe=>V.getD e [])) ⟨.slice (f ⟨b.a.heap.size,0,n⟩) 0 j,[b.a.heap.size]⟩:=by
  refine .inr ⟨b.a.heap.size,j,p,[],a,by rw[hU];exact lZ b.a _,by rw[hU];exact y.len,bC _,by omega,y,λr=>?_⟩;cases m:b.D b.a.heap.size r with
  |none=>rfl
  |some T=>have:=i.block m;omega
 have z:bc k {b with a:=(b.newRow W p).a}/\cO k b k {b with a:=(b.newRow W p).a}:=
  i.cX (by simp[a6.newRow]) (λt d=>i6 b.a _ d) (λt d r=>rfl) (λt d r T m=>by have:=i.block m;omega) a a a
 obtain⟨R,Q⟩:=z.1.b0 z.2 rfl i aM (λt d=>by simp at d;subst d;exact⟨bC _,by simp[a6.newRow]⟩);refine⟨(),.value (.slice (f ⟨b.a.heap.size,0,n⟩) j j),{b with a:=(b.newRow W p).a,t:=b.t++[⟨.slice (f ⟨b.a.heap.size,0,n⟩) 0 j,[b.a.heap.size]⟩]},_,B,.inl rfl,?_,R,Q,by rw[K];exact .nil⟩;refine⟨.slice (f ⟨b.a.heap.size,0,n⟩) 0 j,⟨_,_,j,j,a,bC _,by simp,by omega,a,λ_=>⟨_,a,by simp⟩⟩,by simp,λY I N x s=>?_⟩;simp at s;obtain⟨_,_,rfl,_⟩:=s;exact⟨bC _,λ_=>⟨_,by show(b.t++[_])[c k]?=_;rw[<-i.len,AU],a⟩⟩
end
def va(o i j:Nat)(g:Nat->m M):Q->Q×m Prop
 |.O b (.B h a e d)=>match ad b o with
  |true=>match ad a i with
   |true=>(.c (.B v i d (ik e g)),[h=j,e+d<=j])
   |false=>(.O b (.B h a e d),[])
  |false=>(.O b (.B h a e d),[])
 |k=>(k,[])
def pb(g e h:Nat)(a:Nat->m M):m Q->m Q×m Prop
 |[]=>([],[])
 |i::o=>match va g e h a i with
  |(b,j)=>match pb g e h a o with
   |(d,k)=>(b::d,gT j k)
def Ck(h g i:Nat)(a:Nat->m M):E1->E1×m Prop
 |.R j=>match va h g i a j with|(b,e)=>(.R b,e)
 |.agg d=>match pb h g i a d with|(k,e)=>(.agg k,e)
def Cj(g e h:Nat)(a:Nat->m M):y->y×m Prop
 |.n j=>match Ck g e h a j with|(b,i)=>(.n b,i)
 |d=>(d,[])
def vb(e d g:Nat)(a:Nat->m M):bM->bM×m Prop
 |[]=>([],[])
 |(p,i)::o=>match Cj e d g a i with
  |(h,j)=>match vb e d g a o with
   |(b,k)=>((p,h)::b,gT j k)
def iW(g j k:Nat)(b:Nat->m M):Nat->m ar->m ar×m Prop
 |_,[]=>([],[])
 |i,d::r=>match iW g j k b (i+1) r with
  |(a,h)=>match ad i g with
   |true=>(.N::a,h)
   |false=>match d with
    |.cells o e=>match pb g j k b e with|(p,q)=>(.cells o p::a,gT q h)
    |d=>(d::a,h)
section
variable {b7:a6}{W h:Nat}
structure me(k:m ar)(b:a6)(d h j:Nat)(V:Nat->m M)(aq:m ar)(b7:a6):Prop where
 a4:∀aa x,cB k b aa x->cB aq b7 aa x
 e2:∀aa gp r A,cB k b aa (.O d (.B j gp r A))->gp=h->r+A<=j->Rd b7.D aa (.B v h A (ik r V))
def me.cC(g:me k b d h j V aq b7){aa}{x}(m:U (va d h j V x).2)(i:cB k b aa x):cB aq b7 aa (va d h j V x).1:=by
 unfold va at m⊢;split
 .rename_i q C p r A;split
  .rename_i a;split
   .rename_i e;simp[a,e]at m;have a:=dp a;have e:=dp e;subst a;obtain⟨rfl,o⟩:C=j/\r+A<=j:=m;exact g.e2 aa _ _ _ i e o
   exact g.a4 aa _ i
  exact g.a4 aa _ i
 exact g.a4 aa _ i
def me.gr(i:me k b d h j V aq b7):∀{z:m X}{a:m Q},U (pb d h j V a).2->bP k b z a->bP aq b7 z (pb d h j V a).1
 |[],[],_,_=>trivial
 |[],_::_,_,e=>e.elim
 |_::_,[],_,e=>e.elim
 |p::z,o::a,g,e=>by simp only[pb]at g⊢;rw[U.Y]at g;exact⟨i.cC g.1 e.1,i.gr g.2 e.2⟩
def me.n(g:me k b d h j V aq b7){a}(e:U (Ck d h j V a).2)(i:eC k b aa a):eC aq b7 aa (Ck d h j V a).1:=by
 cases a with
 |R q=>exact g.cC e i
 |agg o=>obtain⟨z,p,m⟩:=i;exact⟨z,p,g.gr e m⟩
def me.db(m:me k b d h j V aq b7)(a:c b.t=c k)(i:fz k b aq b7){aa}{O}(g:U (Cj d h j V O).2)(e:bx k b aa O):bx aq b7 aa (Cj d h j V O).1:=by
 cases O with
 |n p=>exact m.n g e
 |T o=>exact e.mono i a
 |any=>trivial
def me.b3(q:me k b d h j V aq b7)(g:c b.t=c k)(p:fz k b aq b7):∀{J:bM}{o:Nat}{m:X},U (vb d h j V J).2->bx k b m (look J o)->bx aq b7 m (look (vb d h j V J).1 o)
 |[],_,_,_,_=>trivial
 |(r,s)::t,o,m,i,a=>by
  simp only[vb]at i⊢;rw[U.Y]at i;simp[look]at a⊢;cases e:ad r o with
  |true=>rw[e]at a;exact q.db g p i.1 a
  |false=>rw[e]at a;exact q.b3 g p i.2 a
theorem Ch:∀{k:m ar}{e u:Nat},(iW d h j V e k).1[u]?=match k[u]? with
  |none=>n
  |some a=>f (match ad (e+u) d with|true=>.N|false=>match a with|.cells i b=>.cells i (pb d h j V b).1|a=>a)
 |[],e,u=>by simp[iW]
 |a::g,e,0=>by simp[iW,kh,mn];grind
 |a::g,e,u+1=>by have o:=Ch (k:=g) (e:=e+1) (u:=u);have p:e+1+u=e+(u+1):=w;rw[p]at o;simp[iW,n9];grind
def Il:∀{k:m ar}{e u:Nat}{g:an}{a:m Q},U (iW d h j V e k).2->k[u]?=f (.cells g a)->e+u≠d->U (pb d h j V a).2
 |[],e,u,_,_,_,b,_=>by grind
 |p::o,e,0,g,a,i,b,q=>by simp at b;subst b;simp[iW]at i;grind[Nat.eq_of_beq_eq_true,U.Y]
 |p::o,e,u+1,g,a,i,b,q=>by simp at b;refine Il (k:=o) (e:=e+1) (u:=u) ?_ b w;simp[iW]at i;grind[U.Y]
theorem Ci:∀{k:m ar}{e:Nat},(iW d h j V e k).1.length=c k
 |[],_=>rfl
 |g::a,e=>by simp[iW];have b:=Ci (k:=a) (e:=e+1);grind
def bc.bL(r:bc k b)(aM:k[d]?=f (.q W h j V))(aq:U (iW d h j V 0 k).2):
  ∃p:a6,p.a=b.a/\bc (iW d h j V 0 k).1 p/\cO k b (iW d h j V 0 k).1 p/\me k b d h j V (iW d h j V 0 k).1 p:=by
 have y:d<c k:=(cP.1 aM).1;have af:b.t[d]?=f (b.t[d]'(by rw[r.len];exact y)):=bJ _;generalize b.t[d]'N=L at af;have a0:=r.box _ _ L aM af;obtain⟨cl,av,aw,ax,az⟩:∃cl:Mem,(∀m e q,b.D m e=f q->cl m e=f q)/\(∀m,m∉L.al->∀e,cl m e=b.D m e)/\(∀m e q,cl m e=f q->b.a.cell? ⟨m,e,n⟩=f q) /\
   (∀q o e J,cB k b q (.O d (.B j o e J))->o=h->e+J<=j->Rd cl q (.B v h J (ik e V))):=by
  rcases a0 with⟨rfl,rfl⟩|⟨m,ak,z,a9,rfl,hw,aV,aX,aT,aK,a5⟩
  .refine⟨b.D,λ_ _ _ S=>S,λ_ _ _=>rfl,r.mem,λq o e J K s aF=>?_⟩;obtain⟨au,⟨aO,aj,Z,ak,X,t,u,G,aI,aP⟩,_,aL⟩:=K;grind[Rd.dK]
  let cl:Mem:=λA e=>if A=m then z[e]? else b.D A e;have aN:∀A e q,b.D A e=f q->cl A e=f q:=λA e q X=>by grind
  refine⟨cl,aN,λA aS e=>N,λA e q X=>?_,λq o e J K s aF=>?_⟩
  .by_cases s:A=m
   .subst s;simp[cl,dx]at X;simp[aH,hw];grind
   simp[cl,s,dn]at X;exact r.mem A e q X
  subst s;obtain⟨au,⟨aO,aj,Z,a4,X,t,u,G,aI,aP⟩,_,aL⟩:=K;obtain⟨cv,E,aG⟩:=(aL _ _ _ _ aM).2 rfl;rw[af]at E;cases E;rw[aI]at aG;cases aG;rw[X];have ag:∀i,i<J->∀F R,(ik e V i)[F]?=f R->∃aC,z[(e+i)*o+F]?=f aC/\Rd b.D aC R:=λi g F R x=>by rw[y5]at x;exact aK.rd (e+i) w F R x
  refine .B m (e*o) (λi F=>(z[(e+i)*o+F]?).getD I) t w D (λi g=>by rw[y5];exact aK.bF _ w) (λa7=>N) (λi g F R x=>N) (λi g F R x=>?_);obtain⟨aC,aD,aE⟩:=ag i g F R x;rw[aD];exact aE.mono aN
 obtain⟨M,aB⟩:=r.b8 (cl:=cl) (bi:=b.a) (eg:=.N) (cv:=⟨L.v,[]⟩) aM af B (bC _) (λ_ _ _=>rfl) (λm _ T e=>aw m T e) av ax D rfl rfl rfl B;let p:a6:=⟨b.t.set d ⟨L.v,[]⟩,cl,b.a,b.own⟩
 have ag:∀i O,k[i]?=f O->i≠d->(iW d h j V 0 k).1[i]?=f (match O with|.cells W aa=>.cells W (pb d h j V aa).1|m=>m):=λi O g aY=>by grind[Ch,Nat.eq_of_beq_eq_true]
 have aJ:(iW d h j V 0 k).1[d]?=f .N:=by
  rw[Ch,aM];have:ad (0+d) d=l:=by rw[cV];exact sK d
  grind
 have r':cO (k.set d .N) p (iW d h j V 0 k).1 p:=by
  refine⟨bC _,λ_ _ _=>rfl,λ_ _ _ S=>S,λ_ _ _ _=>rfl,λcv E m T=>.inr ⟨cv,E,T⟩,λi O cv g E=>?_,a,a,a,a⟩;by_cases s:i=d
  .subst s;rw[iy y]at g;cases g;exact⟨.N,cv,aJ,E,a⟩
  rw[kJ (λS=>s S.symm)]at g;refine⟨_,cv,ag i O g s,E,?_⟩;cases O<;>first|exact fV.refl _ _|rfl
 have ae:=aB.trans r';have ab:me k b d h j V (iW d h j V 0 k).1 p:=⟨λq aO K=>K.mono ae.ext r.len,λq o e J K s aF=>az q o e J K s aF⟩
 refine⟨p,a,⟨M.mem,by rw[Ci,<-r.len];grind,λi O cv g E=>?_,M.a3,M.lt,M.own⟩,ae,ab⟩;by_cases s:i=d
 .subst s;rw[aJ]at g;cases g;trivial
 have Q:i<c k:=by grind[Ci]
 have ah:=bJ Q;have a2:b.t[i]?=f cv:=N;have a3:=r.box i _ cv ah a2;have Y:=M.box i _ cv (by rw[kJ (λS=>s S.symm)];exact ah) E;have C:=ag i _ ah s;rw[g]at C;have C:=sG C;generalize aR:k[i]=ai at *;cases ai with
 |cells eV aa=>
  subst C;obtain⟨m,z,t,u,G,aP⟩:=a3;obtain⟨A,aZ,H,aQ,_,a1⟩:=Y;rw[t]at H;cases H;exact⟨m,z,t,u,ab.gr (Il aq ah w) G,a1⟩
 |x=>subst C;exact Y
 |K=>subst C;exact Y
 |N=>subst C;trivial
 |loop a' a_ K=>
  subst C;obtain⟨ar,tmps,fn,an,t,u,G,aP,ao⟩:=Y;exact⟨ar,tmps,fn,an,t,u,G,λa8=>(aP a8).mono r'.ext M.len,ao⟩
 |bk=>subst C;exact Y
 |q=>subst C;exact Y
end
section
variable {q:af P}{dG:bM}
def g.bL(d){W h j}{a:Nat->m M}{Z cT}(t:da d k=f (.q W h j a))(B:vb d h j a J=(dG,Z))(y:iW d h j a 0 k=(aq,cT))(C:U Z)(D:U cT)(u:g q F be (.code s::av) .normal dG aq):g q F be (.code s::av) .normal J k:=by refine g.aO (λE A p e=>?_) u;obtain⟨w,r,b,i,x⟩:=e.bL (ew t) N;rw[y]at b i x;refine⟨w,r,⟨p.size,p.defers.imp λ_ z=>z.mono i.ext,λo=>?_⟩,b,i⟩;have:=x.b3 e.len i.ext (J:=J) (o:=o) N (p.aK o);grind
end
def bc.e4{aX}{h}{bQ}{ah}(i:bc (aX++[.K (ct W h bQ j ah)]) b)(t:et h j V ah)(I:kr (c aX) aX=l):
  ∃g:a6,bc aX g/\e_ b g/\Rd g.D (c5 bQ j) (.B v h j V)/\∀{e:m ar} {k:a6},dg e k (aX++[.K (ct W h bQ j ah)]) b->e.length<=c aX->dg e k aX g:=by
 have aM:(aX++[ar.K (ct W h bQ j ah)])[c aX]?=f (.K (ct W h bQ j ah)):=D
 obtain⟨L,cl,A,z,w,x,T,R⟩:=ct.fB aM V (λu o=>⟨t.ef u o,λS O E U r N=>by
  obtain⟨X,Y,Q⟩:=t.b4 u o O E r
  grind⟩) b i
 obtain⟨y,p⟩:=i.b8 (cl:=cl) (bi:=b.a) (eg:=.N) (cv:=⟨L.v,[]⟩) aM A rfl (bC _) (λ_ _ _=>rfl) (λq _ d s=>w q d s) z x D rfl rfl rfl B;have C:(aX++[ar.K (ct W h bQ j ah)]).set (c aX) .N=aX++[.N]:=D;rw[C]at y p;refine⟨_,y.drop (bq:=[.N]) I,⟨a,z,λq d s=>w q (d L (ca A)) s,x,λq d=>?_⟩,R,λ{e k} K J=>(K.trans (p.too4 i)).drop (bq:=[.N]) J⟩;rcases d with d|⟨cv,F,d⟩
 .exact .inl d
 have M:=g4 F;grind
def bm.e4{P:aD}{b:Type}{C:af P}{D}{args}{k}{aX:b->m ar}{W h}{j:b->Nat}{d:b->fy}{o:b->m X}{V:b->Nat->m M}(E:bm C D args k (λa=>cM (c5 (d a) (j a))) (λa=>aX a++[.K (ct W h (d a) (j a) (o a))]))(K:∀a,et h (j a) (V a) (o a))(N:∀a,kr (c (aX a)) (aX a)=l)(J:∀a,c k<=c (aX a)):bm C D args k (λa=>ax (.B v h (j a) (V a))) aX:=by refine⟨E.1,λQ z y w I s u=>E.2 Q z y w I s λa t F R x e i B=>?_⟩;obtain⟨A,p,g,q,r⟩:=i.e4 (K a) (N a);have O:F=c5 (d a) (j a):=Rd.bd e;exact .aO g (u a t F A (x.mono g.mem) (by rw[O];exact q) p (r B (J a)))
section
variable {q:af P}
def iP.cG{y}{bf}{res}{bq:ι->m ar}(p:iP q y bf k res λa=>aX a++bq a)(g:∀a,c (aX a)=c k)(I:∀a (j:Nat)(w:ar),(aX a)[j]?=f w->AA (c (aX a)) k j w):iP q y bf k res aX:=by
 intro K z j D e h;obtain⟨fn,tmps,B,x,r,s,E⟩:=p K z j D e h;refine⟨fn,tmps,B,x,r,s,λA C o t=>E A C o λa i b u=>?_⟩;have J:e_ i (i.cut (c (aX a))):=⟨rfl,λ_ _ _ p=>p,λ_ _ _=>rfl,b.mem,λx d=>d.imp id λ⟨L,F,d⟩=>⟨L,g4 F,d⟩⟩
 exact .aO J (t a _ (e.gY (g a).symm (I a) b) (u.drop (Nat.le_of_eq (g a).symm)))
end
section
variable {q:af P}
def g.e3(o d){ai}{gU}(h:look J o=aI d 0)(a:da d k=f (.cells W ai))(e:ic ai=f gU)(b:g q F be (.aj all bq::av) .normal ((o,ax (.Q gU))::J) (dd.cu d .N k)):g q F be (.aj all bq::av) .normal J k:=by grind[mU,g.hc,b1.freeze]
def iM.cons{a}{o}{b}(j:look J o=b)(g:iM J a):iM J ((o,b)::a):=by
 intro i k m h d;simp only[look];cases e:ad o h with
 |false=>exact g _ _ _ _ d
 |true=>
  exact uj
end
section
variable {q:af P}
def Tb{i:aG}{h}{x}{bq}{T}(F:i.kind≠.early)(w:aV[e]?=f r)(K:aO r (yielded aV x.tmps)=l)(p:bc k b)(U:∀d,bc k d->(ab x.eval r).run P d.a=.ok (.enter T z.toArray) d.a/\dw d ((ab x.eval r).events P d.a #[]))(aP:bm q T cS di res aX)(au:b5 k b z (gu aY cS))(ak:hk (c aY) cS=l)(A:dz aY k=f di)(J:eA di=l)(Y:∀g,eA (aX g)=l)(u:fl aY=l)(t:∀g,c aY<=c (aX g))(D:∀g y aF,bx (dd aY (aX g) k) aF y (fm (aY++g0 (c k) (c (aX g)-c aY)) (res g))->bc (dd aY (aX g) k) aF->dg k b (dd aY (aX g) k) aF->cg q br (G (i.ab (x.put r.dst y) (.inRegion aV bq::h)) ai) aF):
  cg q br (G (i.ab x (.inRegion aV (e::bq)::h)) ai) b:=by obtain⟨_,ax⟩:=aP;refine .next a λd an=>?_;have C:=q.bO an;have j:=p.rely C;obtain⟨m,R⟩:=wc (kU:=d.t) A j.len;obtain⟨H,o⟩:=j.sub A R J u;have ar:b5 k d z (gu aY cS):=au.mono C.aT.ext p.len;have X:b5 di {d with t:=m,own:=oI d m} z cS:=(ar.sub (b:=d) A R ak).mono (k:=di) (b:={d with t:=m}) (aq:=di) (aF:={d with t:=m,own:=oI d m}) ⟨λ_ _ _ D=>D,λaB V L aM E=>⟨V,L,aM,E,.refl _ _⟩⟩ H.len;refine⟨_,d,_,tN w K F (U d j).1,⟨⟨k,k,j,j,.refl _ _⟩,dw.seen (U d j).2⟩,.aO o (ax _ z X H br _ λg ao y av I W N ag=>?_)⟩;refine uU (ai:=ai) (s:=i.ab x (.inRegion aV (e::bq)::h)) N I λaw S=>?_;have M:=N.rely S;have Q:=ag.trans S.aT;obtain⟨O,ae,Z,aj,aa,af,ah,az⟩:=frame j A R u (Y g) M Q (t g) (W.mono S.aT.ext N.len);refine .aO (e_.cT j M Q ae af ah az) ?_;have B:=qr (i:=i) (x:=x) (h:=h) aV e bq y;rw[w]at B;simp[n7]at B;rw[B];exact D g y O Z aj (C.aT.trans aa)
def eh.cell(a0:b3 P ac){d o C}{W}{aa}{e}(r:da d k=f (.K (eh C W aa)))(g:b0 ac o=f e)(O:dU aa=l)(u:hq e [.c (.val aa)]=f (.R (.c (.val aa)))){b}(bR:bc k b):
  (loadVar o ⟨C,0,n⟩).run P b.a=.ok aa b.a/\dw b ((loadVar o ⟨C,0,n⟩).events P b.a #[]):=by
 have aM:=ew r;have A:d<c b.t:=h_;have p:=bJ A;generalize b.t[d]=L at p;obtain⟨y,⟨E,q,R⟩,I,J,Q⟩:=bR.box d _ L aM p;have t:=I C _ q;have M:=(J C).2 N
 have F:bP k b [aa] [.c (.val aa)]:=⟨Rd.val O,B⟩;obtain⟨w,D,x⟩:=tJ (b:=b) (k:=k) (P:=P) (a0 o e g) (i:=C) (off:=0) (z:=[aa]) (ai:=[.c (.val aa)]) (ak:=.R (.c (.val aa))) (λs S h=>by
  simp[aH,t]
  grind) F u
 have K:w=aa:=Rd.bd x;subst K;refine⟨D,λm a=>?_⟩;obtain⟨s,h,rfl⟩:=pe (a0 o e g) (j:=1) (λs h=>⟨w,by simp[aH,t];grind⟩) (by have:=sh u;grind) m a;exact qo (ca p) M
def aT.eF(a0:b3 P ac){o C}(d){E}{e}(K:oS all J r=l)(s:r.op=.load o E)(N:bE J E=ax (.val (.pointer (f ⟨C,0,n⟩))))(p:da d k=f (.K (eh C W aa)))(m:b0 ac o=f e)(z:dU aa=l)(M:hq e [.c (.val aa)]=f (.R (.c (.val aa)))):
  aT q F all r J k (ax (.val aa)) k:=by
 intro U A w j Q S B O T u i t h;refine rz i t (j5 K _ _ _ w) λy x=>?_;have b:=j.rely x;have g:=eM w E;rw[N]at g;have g:=Rd.bd (b8 g);obtain⟨D,I⟩:=eh.cell a0 p m z M b;have R:ab A.eval r=(do pure (.value (<-loadVar o ⟨C,0,n⟩))):=by simp[ab,s,g,Instr.loadAt,Instr.sureAddr]
 refine⟨.value aa,y,aa,by simp_all,.inl a,⟨⟨k,k,b,b,.refl _ _⟩,?_⟩,h aa y (Rd.val z) b x.aT⟩;simp_all
def Oc(o)(a)(b):Builtin.ssaWrapNilChk_ #[o] o #[.pointer (f a),strVal "",strVal b]=pure (.pointer (f a)):=rfl
def n0(P:aD)(g:m ar)(b:an)(e:X)(name:String)(h:aZ)(i:X):Prop:=∀a,bc g a->∀d,(Go.method (d+1) b e name).run P a.a=.ok (h,i) a.a/\dw a ((Go.method (d+1) b e name).events P a.a #[])
def n0.ptr{g}{name}{j}{e}{A}{q}(m:P.info? g=f e)(i:e.methods.find? (·.name==name)=f A)(o:A.path=#[])(p:A.func=f (j,l))(r:P.underlying g=f (.pointer q)):n0 P k g aa name j aa:=by
 intro t s u;have h:∀d,(typeInfo g).run P d=.ok e d:=λd=>by simp[typeInfo,m]
 have b:∀d,(underlying g).run P d=.ok (.pointer q) d:=λd=>by simp[underlying,r]
 unfold Go.method;constructor
 .simp only[cK,h,i,o,p,c_,follow,d',receiverAt,b];rfl
 have:∀a,((do pure (j,<-receiverAt g (.val aa) l (if A.path.isEmpty then f ((name.splitOn ".").getLastD name)else n))):Sem (aZ×X)).events P t.a a=a:=λa=>by simp[receiverAt,b,Place.get]
 simp[aC,cK,h,i,o,p,c_,aE,follow,d',Sem.events_pure,receiverAt,b,events_typeInfo,events_underlying,Place.get];exact .nil
def n0.deref(a0:b3 P ac){C}{g}{name}{u}{e}{A}{w:cq}(q:P.info? g=f e)(j:e.methods.find? (·.name==name)=f A)(s:A.path=#[])(t:A.func=f (u,v))(D:P.underlying g=f (.pointer o))(r:da d k=f (.K (eh C W aa)))(y:b0 ac o=f w)(E:dU aa=l)(B:hq w [.c (.val aa)]=f (.R (.c (.val aa)))):n0 P k g (.pointer (f ⟨C,0,n⟩)) name u aa:=by
 intro J p F;have h:∀b,(typeInfo g).run P b=.ok e b:=λb=>by simp[typeInfo,q]
 have i:∀b,(underlying g).run P b=.ok (.pointer o) b:=λb=>by simp[underlying,D]
 obtain⟨x,z⟩:=eh.cell a0 r y E B p;have I:A.path.isEmpty=l:=N;unfold Go.method;constructor
 .simp only[cK,h,j,s,t,c_,follow,d',receiverAt,i,Place.get];simp[Oc,asAddr,x]
 intro m a;refine z m ?_;simp[aC,cK,h,j,s,t,c_,aE,follow,d',Sem.events_pure,receiverAt,i,events_typeInfo,events_underlying,Place.get]at a;simpa[Oc,asAddr,x]using a
def CY{a:ae->X}{E}{b}{name}(e:r.op=.call {callee:=.invoke E name,args:=b,argTypes:=dt}){i}{d}(k:a E=.iface i d):
  ab a r=callMethod (.iface i d) name (b.toList.map a).toArray:=by
 have g:#[a E]++b.map a=(.iface i d::b.toList.map a).toArray:=N;have h:(Value.iface i d::b.toList.map a).toArray.extract 1 (Value.iface i d::b.toList.map a).toArray.size=(b.toList.map a).toArray:=N;have j:ab a r=invoke (.fn (.method name) #[]) (#[a E]++b.map a):=by simp[ab,e];rfl
 rw[j,g];show callMethod (.iface i d) name ((Value.iface i d::b.toList.map a).toArray.extract 1 (Value.iface i d::b.toList.map a).toArray.size)=_;rw[h]
def g.dq{ao:an}{name}{au}{aB x}(aC:bm q au cS di res aX)(aY)(V:n0 P k ao aB name au x)(aE:oS all J r=l){E}{M:Array ae}(w:r.op=.call {callee:=.invoke E name,args:=M,argTypes:=dt})(aa:bE J E=ax (.cg ao (.val aB)))(Y:dU x=l)(aO:lb (ax (.val x)::M.toList.map (bE J))=gu aY cS)(L:hk (c aY) cS=l)(aG:dz aY k=f di)(X:eA di=l)(G:∀h,eA (aX h)=l)(W:fl aY=l)(aH:∀h,ay (c aY) (c (aX h))=l)(S:ft F r.dst=l)(aN:∀h,g q F be (.aj all bq::av) .normal (gi r.dst (fm (aY++g0 (c k) (c (aX h)-c aY)) (res h)) J) (dd aY (aX h) k)):g q F be (.aj all (r::bq)::av) .normal J k:=by
 intro b C Q j aK ab s aI idx t d T;cases idx with
 |nil=>exact d.elim
 |cons a0 idx=>
 have A:=eM Q E;rw[aa]at A;have A:=b8 A;generalize aq:C.eval E=aV at A;cases A with
 |@cg _ aT _ O aM=>
  have Z:=Rd.bd O;subst Z;obtain⟨fn,ak,aZ,aP⟩:=aC.1;have aw:fn.name≠ "runtime.NumGoroutine":=N;have ar:fn.body≠n:=N;obtain⟨af,aj⟩:∃af,P.types.size+Made.depth=af+1:=⟨P.types.size+Made.depth-1,by exact cX⟩
  have az:∀p,(program:Sem aD).run P p=.ok P p:=λp=>by simp
  have aQ:∀p i,(program:Sem aD).events P p i=i:=λp i=>by simp
  have aL:b5 k b (x::M.toList.map C.eval) (gu aY cS):=by rw[<-aO];exact u6 (k:=k) (b:=b) ⟨Rd.val Y,nc (eM Q) M.toList⟩
  refine Tb (aY:=aY) t d.1 (j5 aE _ _ _ Q) j (z:=x::M.toList.map C.eval) (λah aF=>?_) aC aL L aG X G W (λh=>fA (aH h)) λh aV ag m u o=>?_
  .obtain⟨ac,a⟩:=V ah aF af;constructor
   .rw[CY w aq];simp[callMethod,az,aj,ac,callFunc,ak,aw,ar]
   intro I e;refine a I ?_;rw[CY w aq]at e;simpa[callMethod,az,aQ,aj,ac,callFunc,ak,aw,ar]using e
  refine aN h ag _ ?_ u aK ab s aI idx t d.2 λH B ai D aR K R y=>T H B ai D aR K R (o.trans y);cases aJ:r.dst with
  |none=>exact Q.mono o j.len
  |some aS=>exact(Q.mono o j.len).put (lg S aS aJ) m
def a1.dW{E}(g:r.op=.nilCheck E){h}(i:η E=ax (.val (.pointer (f h)))):a1 P r η k (ax (.val (.pointer (f h)))) k:=by refine .aR λm d j b=>?_;have a:=b E;rw[i]at a;have e:=Rd.bd (b8 a);exact⟨d E,by simp[ab,g,e],a,by simp[ab,g,e]⟩
def a1.e_(a0:b3 P ac){E}(ae:r.op=.load o E){cap aj h}{ah}{x:cq}{ak}(a:η E=ax (.val (.pointer (f ⟨i,off,n⟩))))(aw:off=e*h+aj)(z:k[d]?=f (.K (ct W h (.row i cap) j ah)))(T:et h j V ah)(w:b0 ac o=f x)(F:hq x ((gg aj (V e)).map Q.c)=f ak)(S:e<j):a1 P r η k (.n ak) k:=by
 refine .dv λb D bR B=>?_;have M:=B E;rw[a]at M;have M:=Rd.bd (b8 M);have ag:d<c b.t:=h_;have y:=bJ ag;generalize b.t[d]=L at y;obtain⟨Z,Y,aa,R,aB⟩:=bR.box d _ L z y;obtain⟨au,az,aq,av⟩:=ct.lookup Y;have H:i∈L.al:=(R i).2 N;have ai:=aa i _ aq;let C:Nat->X:=λg=>ah.getD (e*h+g) I;have aP:∀g q,(gg aj (V e))[g]?=f q->ah[e*h+(aj+g)]?=f (C (aj+g))/\Rd b.D (C (aj+g)) q:=by intro g q m;rw[rK,p6]at m;obtain⟨s,an,ao⟩:=T.b4 e S (aj+g) q m;grind
 have U:=El (k:=k) (b:=b) (C:=C) (bf:=gg aj (V e)) (A:=aj) (λg q m=>(aP g q m).2);have J:∀g s,((aA (c (gg aj (V e)))).map λg=>C (aj+g))[g]?=f s->b.a.cell? ⟨i,off+g,n⟩=f s:=by
  intro g s m;simp[ni]at m;by_cases K:g<c (gg aj (V e))
  .simp[K]at m;subst m;have af:=(aP g _ (bJ K)).1;simp[aH,ai];grind
  grind
 obtain⟨s,O,G⟩:=tJ (b:=b) (k:=k) (P:=P) (a0 o x w) (i:=i) (off:=off) (ak:=ak) J U F;have t:ab D r=(do pure (.value (<-loadVar o ⟨i,off,n⟩))):=by simp[ab,ae,M,Instr.loadAt,Instr.sureAddr]
 refine⟨s,by rw[t];simp[O],G,λu p=>?_⟩;rw[t]at p;have ar:u∈(loadVar o ⟨i,off,n⟩).events P b.a #[]:=by simpa[O]using p
 obtain⟨g,m,rfl⟩:=pe (a0 o x w) (j:=c (gg aj (V e))) (λg m=>⟨_,J g (C (aj+g)) N⟩) (by have:=sh F;grind) u ar;exact qo (ca y) H
def a1.jU(a0:b3 P ac){y s:ae}(C:r.op=.slice o y n (f s) n){e}(F:b0 ac o=f e)(K:e.desc=.slice W)(M:b0 ac W=f a5){cap}{kd}{A}(Q:η y=ax (.val (.slice (f ⟨i,0,n⟩) j cap)))(N:η s=ax (.int kd A))(B:j<=cap)(O:0<=A)(w:A<=j):a1 P r η k (ax (.val (.slice (f ⟨i,0,n⟩) A.toNat cap))) k:=by
 refine .aR λb t E d=>?_;have h:=d y;rw[Q]at h;have h:=Rd.bd (b8 h);have m:kL η n=f n:=rfl;have D:kL η (f s)=f (f A):=by simp[kL,N]
 have q:U (jq j n (f A)):=⟨O,w⟩;obtain⟨x,R,S⟩:=v' (P:=P) (ks:=l) B (kj d m) (kj d D) q b.a;have u:=(a0 o e F).run_underlying (p:=b.a);rw[K]at u;have z:(aS l j cap n (f (t s)) n).run P b.a=.ok (0,A.toNat,cap) b.a:=x;have J:=vh (P:=P) (ks:=l) B (kj d m) (kj d D) q b.a;have I:∀g,(aS l j cap n (f (t s)) n).events P b.a g=g:=J;refine⟨_,?_,Rd.val a,?_⟩
 .simp[ab,C,h,Instr.sliceAt,u,Instr.slice,z,(a0 W a5 M).bc,g6]
 simp[ab,C,h,Instr.sliceAt,u,Instr.slice,z,I]
def Mq{b}:∀{z:m X}{d:m M},c z=c d->∀g:Nat->X,(∀a,a<c z->z[a]?=f (g a))->(∀a(e:M),d[a]?=f e->Rd b.D (g a) e)->bP k b z (d.map Q.c)
 |[],[],_,_,_,_=>trivial
 |[],_::_,h,_,_,_=>by grind
 |_::_,[],h,_,_,_=>by grind
 |q::z,e::d,h,g,j,i=>⟨by have:=j 0 D;cases this;exact i 0 e rfl,Mq N (λa=>g (a+1)) (λa o=>by grind) λa p o=>i (a+1) p N⟩
def a1.f_(a0:b3 P ac){E}{m:an}(t:r.op=.typeAssert E m o v){e}(h:b0 ac o=f e)(u:vD e.desc=v){ai}(I:η E=ax (.cE o ai)):a1 P r η k (.n (.agg (ai.map Q.c))) k:=by
 refine .aR λd q D j=>?_;have b:=j E;rw[I]at b;replace b:=b8 b;generalize s:q E=K at b;have x:=(a0 o e h).run_underlying (p:=d.a);have M:∀w,e.desc≠.interface w:=by intro w A;rw[A]at u;cases u
 cases b with
 |@cE J z ai i B F C=>
  have g:(Instr.typeAssert (.iface o (.agg z.toArray)) m o v).run P d.a=.ok (.agg z.toArray) d.a/\(Instr.typeAssert (.iface o (.agg z.toArray)) m o v).events P d.a #[]=#[]:=by
   constructor
   .unfold Instr.typeAssert;simp only[cK,x,c_];cases y:e.desc<;>first|simp|simp
   unfold Instr.typeAssert;simp only[x,aC,aE,events_underlying];cases y:e.desc<;>first|simp|simp
  exact⟨.agg z.toArray,by simp[ab,t,s,cK,g.1,c_,d'],⟨z,a,Mq i B F C⟩,by simp[ab,t,s,aC,g.1,g.2,aE,Sem.events_pure]⟩
def g.hZ(a0:b3 P ac)(d){o C}{R S:ae}{b}{e}(ao:r.op=.store o R S)(u:b0 ac o=f e)(Y:e.size=1)(ai:bE J R=ax (.val (.pointer (f ⟨C,0,n⟩))))(ah:bE J S=ax (.val b))(U:b.cells=#[b])(aF:dU b=l)(m:da d k=f (.K (eh C W aa)))(ag:r.guard=n)(aj:ft F r.dst=l)(E:g q F be (.aj all bq::av) .normal (gi r.dst .any J) (k.set d (.K (eh C W b)))):g q F be (.aj all (r::bq)::av) .normal J k:=by
 refine g.cD (ι:=Unit) (λ_=>.any) (λ_=>k.set d (.K (eh C W b))) ag aj (λi ak T bR=>?_) λ_=>E;have w:=eM T R;rw[ai]at w;have w:=Rd.bd (b8 w);have x:=eM T S;rw[ah]at x;have x:=Rd.bd (b8 x);have m:=ew m;have Z:d<c i.t:=h_;have M:=bJ Z;generalize i.t[d]=L at M;obtain⟨an,⟨z,A,aq⟩,aw,G,af⟩:=bR.box d _ L m M;have X:C∈L.al:=(G C).2 N;have y:=aw C _ A;have Q:∀O∈[b],O.oneCell'=l:=λO au=>by have:dU O=l:=N;exact this
 have H:=run_storeCells_at P C 0 W [b] 0 #[aa] i.a y D Q;have aB:∀h,h≠C->(i.a.setRow C #[b]).heap[h]?=i.a.heap[h]?:=λh p=>setRow_other i.a C h _ p;have aP:=setRow_heap i.a C #[aa] #[b] W (0,0) y;obtain⟨K,t2⟩:=bR.cd (d:=d) (j_:=eh C W b) (cv:=L) (bi:=i.a.setRow C #[b]) m M rfl D
  (λh p ar=>aB h N) (λh p=>.inl p)
  ⟨λh=>if h=C then f (.cells #[b] W (0,0))else n,⟨z,by simp,λh p=>by grind⟩,λh r p=>by grind,λh=>by grind⟩ a a a
 have s:ab ak.eval r=(do storeVar o ⟨C,0,n⟩ b;pure .skip):=by simp[ab,ao,w,x,Instr.storeAt,Instr.sureAddr]
 have V:(storeCells ⟨C,0,n⟩ [b] 0).run P i.a=.ok () (i.a.setRow C #[b]):=H;refine⟨(),.skip,_,I,?_,.inr ⟨a,a⟩,B,K,t2,?_⟩
 .rw[s];simp[storeVar,(a0 o e u).bc,U,Y,V]
 intro t j;rw[s]at j;have az:t∈(storeCells ⟨C,0,n⟩ [b] 0).events P i.a #[]:=by simp[storeVar,aC,(a0 o e u).bc,Y,U,aE,events_sizeOf,ea,hI,dn,cK,c_,Sem.events_pure]at j;simpa[V]using j
 rcases nu [b] 0 #[aa] i.a #[] y D Q t az with aD|⟨aG,_,_,rfl⟩
 .grind
 exact oo (ca M) X (af C X _)
def g.jF(o d)(C A:Nat){Q:Nat}(N:look J o=aI d 0)(j:da d k=f (.cells W [.c (.B l Q 0 V)]))(B:∀h b,g q F be (.code s::av) .normal ((o,cM (.pointer (f ⟨h,0,n⟩)))::J) (k.set d (.K (eh h W (c5 (.nil b) 0)))++[.K (ct C A (.nil b) 0 [])])):g q F be (.code s::av) .normal J k:=by
 refine b4.e5 (ι:=Nat×Option Addr) (dG:=λp=>(o,cM (.pointer (f ⟨p.1,0,n⟩)))::J) (aq:=λp=>k.set d (.K (eh p.1 W (c5 (.nil p.2) 0)))++[ar.K (ct C A (.nil p.2) 0 [])]) (λr ai x bR=>?_) λp=>B p.1 p.2;have j:=ew j;have T:d<c r.t:=h_;have w:=bJ T;generalize r.t[d]=L at w;obtain⟨h,z,rfl,af,ab,aP⟩:=bR.box d _ L j w
 match z,ab with
 |[Z],⟨O,_⟩=>
  obtain⟨b,u,ae,rfl,_,_,Y,_,_⟩:=(show Rd r.D Z (.B l Q 0 V)from O).b1;have R:u=0:=Y a;subst R;obtain⟨M,E⟩:=bR.b8 (cl:=r.D) (bi:=r.a) (eg:=.K (eh h W (c5 (.nil b) 0))) (cv:=⟨.pointer (f ⟨h,0,n⟩),[h]⟩) j w rfl (bC _) (λ_ _ _=>rfl) (λ_ _ _ _=>rfl) (λ_ _ _ S=>S) bR.mem (λm e=>⟨.inl e,bR.lt _ (ca w) m e⟩) rfl rfl rfl
   ⟨λm=>if m=h then f (.cells #[.slice b 0 0] W (0,0))else n,⟨rfl,by simp[c5],λm e=>by grind⟩,λm X e=>by grind,λm=>by by_cases y:m=h<;>simp[y],λm e X=>by grind⟩
  obtain⟨H,G⟩:=M.b0 (bT:=.K (ct C A (.nil b) 0 [])) (L:=⟨.nilFunc,[]⟩) (.refl _ _) rfl M ⟨λ_=>n,⟨rfl,by simp,by simp,rfl,rfl⟩,by simp,by simp,by simp⟩ D;have t:=E.trans G;refine⟨(h,b),{r with t:=r.t.set d ⟨.pointer (f ⟨h,0,n⟩),[h]⟩++[⟨.nilFunc,[]⟩]},rfl,⟨x.size,x.defers.imp λ_ i=>i.mono t.ext,λK=>?_⟩,H,t⟩;simp only[look];cases e:ad o K with
  |false=>exact(x.aK K).mono t.ext bR.len
  |true=>
   have y:=dp e;subst y;have i:=x.aK o;rw[N]at i;obtain⟨_,ah,ag,I,aa,U⟩:=(i:cB k r _ (.ptr d 0));rw[w]at I;cases I;cases aa;rw[U];exact Rd.val a
theorem aT.ev{ι:Type}{E}{aq}(p:r.guard=n)(t:ei P F r J k (λ_:ι=>E) λ_=>aq):aT q F all r J k E aq:=λw m s g o i b j u a e h d=>dX.ev p t w m s g o i b j u a e h λ_=>d
section
variable {E:Nat->y}{b7:Bool->Bool->m ar}{f1 f2:Nat}
abbrev mC(d:Bool->Bool->m ar)(a b:Nat):(Nat->Bool)->m ar:=λy=>d (y a) (y b)
def bV.fc(cY:ad f1 e=v)(dC:ad f2 e=v)(h:∀a b,aT q F all r (en all J E e) (b7 a b) (E e) (b7 a b)):bV q F all J E (mC b7 f1 f2) e r:=by intro y _ _;have d:dV e y f1=y f1:=Fo;have g:dV e y f2=y f2:=Fm;grind
def bV.c8(a0:b3 P ac)(lV:a' q CT)(t:∀x i,iI ac CT [] all (en all J E e) (b7 x i) r=f (E e,n,cp):=by intro x i;cases x<;>cases i<;>rfl)(cY:ad f1 e=v:=by rfl)(dC:ad f2 e=v:=by rfl)(cx:U cp:=by simp only[U,a9];omega):bV q F all J E (mC b7 f1 f2) e r:=.fc cY dC λx i=>aT.eval a0 lV (t x i) cx
def bV.ba(a0:b3 P ac:=by exact bb)(lV:a' q CT:=by first|assumption|exact a'.nil)(t:∀x i,iI ac CT [] all (en all J E e) (b7 x i) r=f (E e,n,[]):=by intro x i;cases x<;>cases i<;>rfl)(cY:ad f1 e=v:=by rfl)(dC:ad f2 e=v:=by rfl):bV q F all J E (mC b7 f1 f2) e r:=.c8 (cp:=[]) a0 lV t cY dC B
def bV.ha(cY:ad f1 e=v)(dC:ad f2 e=v)(h:hx all f1 e=l)(g:hx all f2 e=l)(i:aT q F all r (en all J E e) (b7 v v) (E e) (b7 v v)):bV q F all J E (mC b7 f1 f2) e r:=by intro y _ d;have a:dV e y f1=y f1:=Fo;have b:dV e y f2=y f2:=Fm;grind
def bV.eM(dC:ad f2 f1=v)(d:hx all f2 f1=l)(g:aT q F all r (en all J E f1) (b7 v v) (E f1) (b7 l v)):bV q F all J E (mC b7 f1 f2) f1 r:=by intro y _ e;have a:dV f1 y f1=l:=Al;have b:dV f1 y f2=y f2:=Fm;grind
def bV.eN(cY:ad f1 f2=v)(e:hx all f2 f1=l)(g:aT q F all r (en all J E f2) (b7 l v) (E f2) (b7 l l)):bV q F all J E (mC b7 f1 f2) f2 r:=by intro y a0 d;have a:dV f2 y f1=y f1:=Fo;have b:dV f2 y f2=l:=Al;grind
end
end
inductive dH where
 |nil
 |ax (d:dH) (x i:Int) (a7:dH)
def eD(j:an):dH->X->(Nat->Option Obj)->Prop
 |.nil,k,a=>k=.pointer n/\∀i,a i=n
 |.ax q m i r,k,a=>∃h p o e b,k=.pointer (f ⟨h,0,n⟩)/\(a8 .i64 m/\a8 .i64 i)/\eD j q p e/\eD j r o b/\a h=f (.cells #[.int .i64 m,.int .i64 i,p,o] j (0,0))/\e h=n/\b h=n /\
   (∀d g,e d=f g->b d=n/\a d=f g)/\(∀d g,b d=f g->a d=f g)/\∀d g,a d=f g->d=h∨e d=f g∨b d=f g
def eD.cell{o}(a:eD W o aa lc):dU aa=l:=by
 cases o with
 |nil=>rw[a.1];rfl
 |ax=>obtain⟨_,_,_,_,_,rfl,_⟩:=a;rfl
section
def bc.hK{ac:Nat->Prop}(o:bc k b)(C:aF.a=b.a)(M:aF.D=b.D)(F:aF.own=b.own)(S:c aF.t=c aq)(X:c k<=c aq)(z:∀a,a<c k->¬ac a->aq[a]?=k[a]?/\aF.t[a]?=b.t[a]?)(T:∀a d,(ac a∨c k<=a)->aF.t[a]?=f d->∀e∈d.al,∃x L,ac x/\b.t[x]?=f L/\e∈L.al)(J:∀a h L d,(ac a∨c k<=a)->(ac h∨c k<=h)->aF.t[a]?=f L->aF.t[h]?=f d->∀e∈L.al,e∈d.al->a=h)(box:∀a r L,ac a->k[a]?=f r->b.t[a]?=f L->∃t d,aq[a]?=f t/\aF.t[a]?=f d/\fV r L t d)(ok:fz k b aq aF->∀a r L,(ac a∨c k<=a)->aq[a]?=f r->aF.t[a]?=f L->eB aq aF r L):bc aq aF/\cO k b aq aF:=by
 have K:=o.len;have Q:∀(a:Nat) r (L:Loc),k[a]?=f r->b.t[a]?=f L->∃t d,aq[a]?=f t/\aF.t[a]?=f d/\fV r L t d:=λa r L aM i=>by
  by_cases y:ac a
  .grind
  obtain⟨j,p⟩:=z a (cP.1 aM).1 y;exact⟨r,L,j.trans aM,p.trans i,.refl _ _⟩
 have D:fz k b aq aF:=⟨λe N R y=>M▸y,Q⟩
 have u:∀(a:Nat) (d:Loc),aF.t[a]?=f d->(ac a∨c k<=a)∨(a<c k/\¬ac a/\b.t[a]?=f d):=λa d y=>by grind
 have I:∀(a:Nat) (d:Loc),aF.t[a]?=f d->∀e∈d.al,∃(x:Nat) (L:Loc),b.t[x]?=f L/\e∈L.al:=λa d y e g=>by grind
 have Y:∀(a h:Nat) (L d:Loc),(ac a∨c k<=a)->¬ac h->aF.t[a]?=f L->b.t[h]?=f d->∀e∈L.al,e∈d.al->False:=λa h L d j p i m e g w=>by obtain⟨x,A,B,q,O⟩:=T a L j i e g;exact p (o.a3 x h A d q m e O w▸B)
 refine⟨⟨λe N R y=>?_,S,λa r L aM i=>?_,λa h L d i m e g w=>?_,λL i e g=>?_,λe g=>?_⟩,⟨?_,?_,D.mem,?_,λd m e g=>?_,Q,?_,?_,?_,F⟩⟩
 .rw[M]at y;rw[C];exact o.mem e N R y
 .rcases u a L i with j|⟨j,p,W⟩
  .grind
  rw[(z a j p).1]at aM;exact(o.box a r L aM W).ca D K λe _=>⟨by rw[C],λN=>by rw[M]⟩
 .rcases u a L i with j|⟨_,j,p⟩<;>rcases u h d m with V|⟨_,V,U⟩
  .grind
  .grind
  .grind
  exact o.a3 a h L d p U e g w
 .obtain⟨a,s,rfl⟩:=ha i;obtain⟨x,A,B,q⟩:=I a _ (bJ s) e g;rw[C];exact o.lt A (ca B) e q
 .rw[F]at g;refine⟨C▸(o.own e g).1,λL i E=>?_⟩;obtain⟨a,s,rfl⟩:=ha i;obtain⟨x,A,B,q⟩:=I a _ (bJ s) e E;exact(o.own e g).2 A (ca B) q
 .grind
 .grind
 .grind
 .obtain⟨a,s,rfl⟩:=ha m;obtain⟨x,A,B,q⟩:=I a _ (bJ s) e g;grind
 all_goals rw[C]
def bc.j2(s:bc k b){A h}{L e}{bA}{p}(aM:k[d]?=f A)(ae:b.t[d]?=f L)(aa:fV A L h e)(Y:c p=bA.length)(sub:∀w∈e::p,∀x∈w.al,x∈L.al)(U:(e::p).Pairwise λw F=>∀x∈w.al,x∉F.al)(ok:∀m:a6,m.a=b.a->m.D=b.D->m.t=b.t.set d e++p->eB (k.set d h++bA) m h e/\∀(E:Nat) u B,bA[E]?=f u->p[E]?=f B->eB (k.set d h++bA) m u B):
  bc (k.set d h++bA) {b with t:=b.t.set d e++p}/\cO k b (k.set d h++bA) {b with t:=b.t.set d e++p}:=by
 have T:=s.len;have X:d<c k:=(cP.1 aM).1;have Z:=iR.1 U;have q:∀g o,(g=d∨c k<=g)->(b.t.set d e++p)[g]?=f o->(g=d/\o=e)∨(c k<=g/\p[g-c k]?=f o):=λg o i j=>by grind
 refine bc.hK (ac:=λg=>g=d) s a a a N D (λg i C=>N) (λg o i j W S=>N) (λg z o V i t j r W S ab=>?_) (λg u o i y j=>?_) (λQ g u o i y j=>?_)
 .rcases q g o i j with⟨cY,rfl⟩|⟨cY,dC⟩<;>rcases q z V t r with⟨R,rfl⟩|⟨R,O⟩
  .omega
  .grind
  .grind
  obtain⟨I,J⟩:=cP.1 dC;obtain⟨K,M⟩:=cP.1 O;exact FQ
 .grind
 grind
def iE:dH->Nat->Q
 |.nil,_=>.c .bp
 |.ax ..,a=>.aP a
def hy(a:an):dH->m ar
 |.nil=>[]
 |.ax e b d g=>[.K (eD a (.ax e b d g))]
def mw(a:m Nat):dH->X->(Nat->Option Obj)->m Loc
 |.nil,_,_=>[]
 |.ax ..,d,b=>[⟨d,a.filter λe=>(b e).isSome⟩]
def js:dH->Nat->m ar->m ar
 |.nil,_,a=>a
 |.ax ..,b,a=>a.set b .N
def bc.gz(bR:bc k b){lt cz}{q r:Int}(aM:k[d]?=f (.K (eD W (.ax lt q r cz)))):
  ∃g,g.a=b.a/\(∃j L,b.t[d]?=f L/\L.v=.pointer (f ⟨j,0,n⟩)/\g.t[d]?=f ⟨L.v,[j]⟩)/\bc (k.set d (.cells W [.c (.int .i64 q),.c (.int .i64 r),iE lt (c k),iE cz (c k+c (hy W lt))])++(hy W lt++hy W cz)) g /\
   cO k b (k.set d (.cells W [.c (.int .i64 q),.c (.int .i64 r),iE lt (c k),iE cz (c k+c (hy W lt))])++(hy W lt++hy W cz)) g:=by
 have ar:d<c k:=(cP.1 aM).1;have Y:d<c b.t:=h_;have F:=bJ Y;generalize b.t[d]=L at F;obtain⟨J,⟨j,E,D,i,z,A,⟨Z,y⟩,t,u,aj,af,aP,V,ag,ah⟩,aa,K,ae⟩:=bR.box d _ L aM F;have aq:=bR.len;have Q:j∈L.al:=(K j).2 N;refine⟨{b with t:=b.t.set d ⟨.pointer (f ⟨j,0,n⟩),[j]⟩++(mw L.al lt E i++mw L.al cz D z)},rfl,⟨j,L,F,A,N⟩,bR.j2 aM F (show _=_ from A.symm) ?_ ?_ ?_ λg X e o=>?_⟩
 .cases lt<;>cases cz<;>rfl
 .intro bB e h C;rcases fh.1 e with rfl|e
  .grind
  rcases fG.1 e with e|e
  .cases lt with
   |nil=>cases e
   |ax=>rw[mw,gO]at e;grind
  cases cz with
  |nil=>cases e
  |ax=>rw[mw,gO]at e;grind
 .refine iR.2 ⟨λbB e h C au=>?_,?_⟩
  .rw[gO]at C;subst C;rcases fG.1 e with e|e
   .cases lt with
    |nil=>cases e
    |ax=>rw[mw,gO]at e;grind
   cases cz with
   |nil=>cases e
   |ax=>rw[mw,gO]at e;grind
  cases lt<;>cases cz<;>simp[mw,p_,hU,uK,iR,List.Pairwise.nil,gO,forall_eq,sE,false_implies,implies_true,a9]
  exact Ft
 have H:∀h p,i h=f p->J h=f p:=λh p m=>(V h p m).2;have ab:eB (k.set d (.cells W [.c (.int .i64 q),.c (.int .i64 r),iE lt (c k),iE cz (c k+c (hy W lt))])++(hy W lt++hy W cz)) g (.K (eD W lt)) ⟨E,L.al.filter λh=>(i h).isSome⟩:=
  ⟨i,t,λh p m=>by grind,λh=>⟨λm=>(jm.1 m).2,λm=>jm.2 ⟨(K h).2 Ft,m⟩⟩,λh C p=>by rw[e];grind⟩
 have ai:eB (k.set d (.cells W [.c (.int .i64 q),.c (.int .i64 r),iE lt (c k),iE cz (c k+c (hy W lt))])++(hy W lt++hy W cz)) g (.K (eD W cz)) ⟨D,L.al.filter λh=>(z h).isSome⟩:=
  ⟨z,u,λh p m=>by grind,λh=>⟨λm=>(jm.1 m).2,λm=>jm.2 ⟨(K h).2 Ft,m⟩⟩,λh C p=>by rw[e];grind⟩
 have I:=t.cell;have x:=u.cell;have O:g.a.heap[j]?=f (.cells (List.toArray [.int .i64 q,.int .i64 r,E,D]) W (0,0)):=N;have R:∀p,g.D j p=n:=λp=>by rw[e];grind
 have S:∀w,(b.t.set d ⟨.pointer (f ⟨j,0,n⟩),[j]⟩++(mw L.al lt E i++mw L.al cz D z))[c k+w]?=(mw L.al lt E i++mw L.al cz D z)[w]?:=λw=>by grind
 have s:∀w,(k.set d (.cells W [.c (.int .i64 q),.c (.int .i64 r),iE lt (c k),iE cz (c k+c (hy W lt))])++(hy W lt++hy W cz))[c k+w]?=(hy W lt++hy W cz)[w]?:=λw=>by grind
 refine⟨⟨j,_,a,O,⟨Rd.int Z,Rd.int y,?_,?_,B⟩,R⟩,?_⟩
 .cases lt with
  |nil=>rw[t.1];exact Rd.bp
  |ax=>exact⟨λT aM=>by have G:=(s 0).symm.trans aM;cases G;rfl,_,by rw[o];exact S 0,rfl,I⟩
 .cases cz with
  |nil=>rw[u.1];exact Rd.bp
  |ax=>
   cases lt with
   |nil=>exact⟨λT aM=>by rw[s]at aM;cases aM;rfl,_,by rw[o];exact S 0,rfl,x⟩
   |ax=>exact⟨λT aM=>by rw[s]at aM;cases aM;rfl,_,by rw[o];exact S 1,rfl,x⟩
 intro ao ak an U M;cases lt<;>cases cz<;>simp only[hy,mw,p_,hU,uK,List.getElem?_nil]at U M
 .cases U
 .grind
 .grind
 grind
def H8(s:bc k b){o}(j:cB k b aa (iE o e))(m:o≠.nil->k[e]?=f (.K (eD W o))):
  ∃h d,eD W o aa h/\(∀g i,h g=f i->b.a.heap[g]?=f i)/\(∀g,g∈d↔(h g).isSome=l)/\(∀g∈d,∀i,b.D g i=n)/\(match o with|.nil=>d=[]|.ax ..=>b.t[e]?=f ⟨aa,d⟩):=by
 cases o with
 |nil=>
  have j:Rd b.D aa .bp:=j;cases j;exact⟨λ_=>n,[],⟨a,λ_=>rfl⟩,by simp,by simp,by simp,a⟩
 |ax=>
  obtain⟨_,L,q,rfl,_⟩:=j;obtain⟨h,r,t,p,u⟩:=s.box e _ L (m nofun) q;exact⟨h,L.al,r,t,p,u,q⟩
def rX:dH->Nat->X->m Loc->m Loc
 |.nil,_,_,a=>a
 |.ax ..,b,d,a=>a.set b ⟨d,[]⟩
def bc.c1(s:bc k b){lt cz}{F i}(aM:k[d]?=f (.cells W [.c (.int .i64 F),.c (.int .i64 i),iE lt e,iE cz u]))(I:lt≠.nil->k[e]?=f (.K (eD W lt)))(J:cz≠.nil->k[u]?=f (.K (eD W cz)))(G:lt≠.nil->cz≠.nil->e≠u):
  ∃q,q.a=b.a/\(∃L,b.t[d]?=f L/\∃U,q.t[d]?=f U/\U.v=L.v)/\bc (js cz u (js lt e (k.set d (.K (eD W (.ax lt F i cz)))))) q/\cO k b (js cz u (js lt e (k.set d (.K (eD W (.ax lt F i cz)))))) q:=by
 have aT:d<c k:=(cP.1 aM).1;have aS:=s.len;have M:d<c b.t:=w;have ab:=bJ M;generalize b.t[d]=L at ab;obtain⟨p,z,rfl,aI,t,aJ⟩:=s.box d _ L aM ab
 match z,t with
 |[aC,aB,O,R],⟨ae,af,aP,ax,_⟩=>
 obtain⟨r,B,ah,aD,aE,aF,X⟩:=H8 s aP I;obtain⟨T,C,d1,d2,d3,d4,eZ⟩:=H8 s ax J;have ae:Rd b.D aC (.int .i64 F):=ae;have af:Rd b.D aB (.int .i64 i):=af;cases ae with|int ak=>
 cases af with|int an=>
 have aQ:p∉B:=λm=>by
  cases lt with
  |nil=>grind
  |ax=>have:=s.a3 d e _ _ ab X p D m;grind
 have aR:p∉C:=λm=>by
  cases cz with
  |nil=>grind
  |ax=>have:=s.a3 d u _ _ ab eZ p D m;grind
 have aN:∀h∈B,h∉C:=λh m az=>by
  cases lt with
  |nil=>grind
  |ax=>
   cases cz with
   |nil=>grind
   |ax=>exact G nofun nofun (s.a3 e u _ _ X eZ h m az)
 have y:r p=n:=by cases m:r p with|none=>rfl|some A=>grind
 have aO:T p=n:=by cases m:T p with|none=>rfl|some A=>grind
 have av:∀h A,r h=f A->T h=n:=λh A m=>by
  cases t:T h with
  |none=>rfl
  |some K=>grind
 have ok:∀V q,q.a=b.a->q.D=b.D->eB V q (.K (eD W (.ax lt F i cz))) ⟨.pointer (f ⟨p,0,n⟩),p::(B++C)⟩:=λV q aj ai=>by
  refine⟨λh=>if h=p then f (.cells #[.int .i64 F,.int .i64 i,O,R] W (0,0))else(r h).or (T h),⟨p,O,R,r,T,a,⟨ak,an⟩,ah,d1,bl a,y,aO,λh A m=>⟨av h A m,N⟩,λh A m=>?_,λh A m=>?_⟩,λh A m=>?_,λh=>?_,λh E A=>?_⟩
  .have:h≠p:=N;dsimp only;rw[bj this,m];cases t:r h with
   |none=>rfl
   |some K=>grind
  .by_cases Z:h=p
   .grind
   dsimp only at m;rw[bj Z]at m;cases t:r h with
   |none=>grind
   |some K=>grind
  .rw[aj];by_cases Z:h=p
   .grind
   dsimp only at m;rw[bj Z]at m;cases t:r h with
   |none=>grind
   |some K=>grind
  .grind
  rw[ai];grind
 refine⟨{b with t:=rX cz u R (rX lt e O (b.t.set d ⟨.pointer (f ⟨p,0,n⟩),p::(B++C)⟩))},rfl,?_⟩
 classical
 have aX:lt≠.nil->e<c k/\e≠d:=λm=>⟨(cP.1 (I m)).1,λZ=>by grind⟩
 have aK:cz≠.nil->u<c k/\u≠d:=λm=>⟨(cP.1 (J m)).1,λZ=>by grind⟩
 have aq:b.t[d]?=f ⟨.pointer (f ⟨p,0,n⟩),[p]⟩:=ab;let ac:Nat->Prop:=λo=>o=d∨(lt≠.nil/\o=e)∨(cz≠.nil/\o=u);have Q:∀o,(js cz u (js lt e (k.set d (.K (eD W (.ax lt F i cz))))))[o]?=if o=d then f (.K (eD W (.ax lt F i cz)))else if(lt≠.nil/\o=e)∨(cz≠.nil/\o=u)then f .N else k[o]?:=λo=>by cases lt<;>cases cz<;>simp[js,n',xc]<;>grind
 have Y:∀o,(rX cz u R (rX lt e O (b.t.set d ⟨.pointer (f ⟨p,0,n⟩),p::(B++C)⟩)))[o]?=if o=d then f ⟨.pointer (f ⟨p,0,n⟩),p::(B++C)⟩else if cz≠.nil/\o=u then f ⟨R,[]⟩else if lt≠.nil/\o=e then f ⟨O,[]⟩else b.t[o]?:=λo=>by cases lt<;>cases cz<;>simp[rX,n',xc]<;>grind
 have aac:∀S e d,c (js S e d)=c d:=λS e d=>by cases S<;>simp[js]
 have aad:∀S e ar d,c (rX S e ar d)=c d:=λS e ar d=>by cases S<;>simp[rX]
 have aG:∀h∈B,lt≠.nil/\b.t[e]?=f ⟨O,B⟩:=λh E=>by grind
 have aH:∀h∈C,cz≠.nil/\b.t[u]?=f ⟨R,C⟩:=λh E=>by grind
 refine⟨⟨_,aq,_,(Y d).trans (bl a),a⟩,bc.hK (ac:=ac) s a a a N N (λo x a0=>N) (λo ag x j h E=>?_) (λo aL ag aw x ao j aa h E aV=>?_) (λo au ag x g j=>?_) (λ_ o au ag x g j=>?_)⟩
 .rw[Y]at j;split at j
  .cases j;rcases fh.1 E with rfl|E
   .grind
   rcases fG.1 E with E|E
   .grind
   grind
  have:o<c b.t∨c b.t<=o:=dY _ _;grind
 .rw[Y]at j aa;grind
 .rw[Q,Y];rcases x with rfl|⟨m,rfl⟩|⟨m,rfl⟩
  .rw[aq]at j;cases j;rw[aM]at g;cases g;exact⟨_,_,bl a,bl a,a⟩
  .have H:b.t[o]?=f ⟨O,B⟩:=N;rw[I m]at g;rw[H]at j;cases g;cases j;grind[fV]
  have H:b.t[o]?=f ⟨R,C⟩:=N;rw[J m]at g;rw[H]at j;cases g;cases j;grind[fV]
 rw[Q]at g;rw[Y]at j;split at g
 .grind
 split at g
 .cases g;trivial
 grind
def eT:dH->M
 |.nil=>.bp
 |.ax d a b e=>.Q [.int .i64 a,.int .i64 b,eT d,eT e]
def eD.rd{W}{bB}:∀{p:dH}{r:X}{e:Nat->Option Obj},eD W p r e->(∀d z b i,e d=f (.cells z b i)->∀o q,z[o]?=f q->bB d o=f q)->Rd bB r (eT p)
 |.nil,_,_,g,_=>by rw[g.1];exact .bp
 |.ax K t u N,_,e,⟨s,F,E,x,R,y,⟨C,B⟩,k,m,J,_,_,A,D,_⟩,j=>by
  subst y;have O:=k.rd (bB:=bB) λd z b i g=>j d z b i (A d _ g).2;have M:=m.rd (bB:=bB) λd z b i g=>j d z b i (D d _ g);have Q:=j s _ _ _ J;refine Rd.Q s 0 (λh=>[Value.int .i64 t,.int .i64 u,F,E].getD h I) (λh w a=>?_) (λh w a=>?_)
  .match h,a with
   |0,_|1,_|2,_|3,_=>grind
  .match h,a with
   |0,a=>cases a;exact Rd.int C
   |1,a=>cases a;exact Rd.int B
   |2,a=>grind
   |3,a=>grind
def bc.gk(h:bc k b){o}(aM:k[d]?=f (.K (eD W o))):
  ∃j,j.a=b.a/\j.t=b.t/\(∀L,b.t[d]?=f L->Rd j.D L.v (eT o))/\bc (k.set d .N) j/\cO k b (k.set d .N) j:=by
 have N:d<c k:=(cP.1 aM).1;have M:=h.len;have x:=bJ (show d<c b.t by omega);generalize b.t[d]=L at x;obtain⟨w,T,E,K,Q⟩:=h.box d _ L aM x;let i:Mem:=λe g=>match w e with|some (.cells z _ _)=>z[g]?|_=>b.D e g
 have D:∀e,e∉L.al->∀g,i e g=b.D e g:=λe t g=>by grind
 have O:∀e g u,b.D e g=f u->i e g=f u:=λe g u r=>by grind
 have A:cO k b (k.set d .N) {b with D:=i}:=by
  refine⟨bC _,λ_ _ _=>rfl,O,λe _ F g=>D e (F L (ca x)) g,λp m e t=>.inr ⟨p,m,t⟩,λy B p q m=>?_,a,a,a,a⟩;by_cases s:d=y
  .subst s;rw[aM]at q;cases q;exact⟨.N,p,by grind,m,a⟩
  exact⟨B,p,by grind,m,.refl _ _⟩
 refine⟨{b with D:=i},rfl,rfl,λp m=>?_,⟨λe g u r=>?_,by grind,λy B p q m=>?_,h.a3,h.lt,h.own⟩,A⟩
 .rw[x]at m;cases m;exact T.rd λe z C U t g V X=>by grind
 .by_cases t:e∈L.al
  .have r:i e g=f u:=r;cases I:w e with
   |none=>grind
   |some S=>
    have R:=E e S I;simp[i,I]at r;split at r
    .rename_i z C U s;cases s;show b.a.cell? _=_;simp[aH,R,r]
    grind
  exact h.mem e g u ((D e t g).symm.trans r)
 by_cases s:d=y
 .subst s;rw[iy N]at q;cases q;trivial
 rw[kJ s]at q;exact(h.box y B p q m).ca A.ext M λe t=>⟨a,λg=>D e (λJ=>s (h.a3 d y L p x m e J t)) g⟩
end
section
variable {q:af P}
def b1.gy{d}{o}{i}(e:b1 F k b J d)(h:c b.t=c k)(a:cO k b aq aF)(p:bx aq aF (d.tmps.getD o I) i):b1 F aq aF ((o,i)::J) d:=
 ⟨e.size,e.defers.imp λ_ g=>g.mono a.ext,λj=>by
  simp only[look];cases m:ad o j with
  |false=>exact(e.aK j).mono a.ext h
  |true=>grind[Nat.eq_of_beq_eq_true]⟩
def g.gz(o d){W}{lt cz}{p i}(B:look J o=.n (.R (.aP d)))(e:da d k=f (.K (eD W (.ax lt p i cz))))(j:g q F be (.code s::av) .normal ((o,aI d 0)::J) (k.set d (.cells W [.c (.int .i64 p),.c (.int .i64 i),iE lt (c k),iE cz (c k+c (hy W lt))])++(hy W lt++hy W cz))):g q F be (.code s::av) .normal J k:=by refine g.aO (λM K r b=>?_) j;have w:=r.aK o;rw[B]at w;obtain⟨_,L,C,y,_⟩:=w;obtain⟨m,h,⟨D,I,a,u,z⟩,A,t⟩:=b.gz (ew e);rw[C]at a;cases a;have x:d<c k:=(cP.1 (ew e)).1;refine⟨m,h,r.gy b.len t ⟨λE aM=>?_,_,D,z,u,y.trans u⟩,A,t⟩;rw[kb N,iy x]at aM;cases aM;rfl
def g.c1(o d e u){W}{lt cz}{a i}(S:look J o=aI d 0)(p:da d k=f (.cells W [.c (.int .i64 a),.c (.int .i64 i),iE lt e,iE cz u]))(z:lt≠.nil->da e k=f (.K (eD W lt)))(A:cz≠.nil->da u k=f (.K (eD W cz)))(O:lt≠.nil->cz≠.nil->e≠u)(C:g q F be (.code s::av) .normal ((o,.n (.R (.aP d)))::J) (js cz u (js lt e (k.set d (.K (eD W (.ax lt a i cz))))))):g q F be (.code s::av) .normal J k:=by
 refine g.aO (λaa Z E m=>?_) C;have K:=E.aK o;rw[S]at K;obtain⟨_,L,ae,V,Q,af⟩:=K;obtain⟨D,x,⟨M,j,w,T,y⟩,R,I⟩:=m.c1 (ew p) (λh=>ew (z h)) (λh=>ew (A h)) O;rw[V]at j;cases j;have N:d<c k:=(cP.1 (ew p)).1;have r:(js cz u (js lt e (k.set d (.K (eD W (.ax lt a i cz))))))[d]?=f (.K (eD W (.ax lt a i cz)))∨(js cz u (js lt e (k.set d (.K (eD W (.ax lt a i cz))))))[d]?=f .N:=by
  have ab:(k.set d (.K (eD W (.ax lt a i cz))))[d]?=f (.K (eD W (.ax lt a i cz))):=iy N;have Y:∀t B b,b[d]?=f (.K (eD W (.ax lt a i cz)))∨b[d]?=f .N->(js t B b)[d]?=f (.K (eD W (.ax lt a i cz)))∨(js t B b)[d]?=f .N:=λt B b h=>by
   cases t with
   |nil=>exact h
   |ax=>simp[js,n'];grind
  grind
 refine⟨D,x,E.gy m.len I ⟨λX aM=>?_,w,T,?_,?_⟩,R,I⟩
 .rcases r with r|r<;>(rw[r]at aM;cases aM;rfl)
 .grind
 exact hK
def g.gk(o d){W}{r}(w:look J o=.n (.R (.aP d)))(h:da d k=f (.K (eD W r)))(b:g q F be (.code s::av) .normal ((o,ax (eT r))::J) (dd.cu d .N k)):g q F be (.code s::av) .normal J k:=by rw[mU]at b;refine g.aO (λA z j a=>?_) b;have p:=j.aK o;rw[w]at p;obtain⟨_,L,y,t,_⟩:=p;obtain⟨i,e,_,x,u,m⟩:=a.gk (ew h);exact⟨i,e,j.gy a.len m (show Rd _ _ _ from t▸x L y),u,m⟩
end
section
variable {q:af P}{aP:fF}{ak:Exit}
def n2(h:Nat)(aP:fF):fF:=λk j g=>∃d a,(∀e i,b1 h g e j i->bc g e->∃b:a6,b.a=e.a/\b1 h a b d i/\bc a b/\cO g e a b)/\aP k d a
def n2.of(d:aP ak J k):n2 F aP ak J k:=⟨J,k,λe g b a=>⟨e,rfl,b,a,.refl _ _⟩,d⟩
def n2.step{d}(w:∀b e,b1 F k b J e->bc k b->∃a:a6,a.a=b.a/\b1 F aq a d e/\bc aq a/\cO k b aq a)(z:n2 F aP ak d aq):n2 F aP ak J k:=by obtain⟨r,g,o,A⟩:=z;refine⟨r,g,λb e t p=>?_,A⟩;obtain⟨x,h,j,m,q⟩:=w b e t p;obtain⟨u,i,f3,y,s⟩:=o x e j m;exact⟨u,i.trans h,f3,y,q.trans s⟩
theorem n2.freeze(o d){W}{ai}{gU}(i:look J o=aI d 0)(b:da d k=f (.cells W ai))(g:ic ai=f gU)(e:n2 F aP ak ((o,ax (.Q gU))::J) (dd.cu d .N k)):n2 F aP ak J k:=by rw[mU]at e;exact .step (λm j h a=>b1.freeze o d i b g h a) e
def df.iV(M:df q F s (n2 F aP) J k):df q F s aP J k:=by
 intro T I R u K O o E t d r;refine M T I R u K O o E t d λB U D g b y p a h=>?_;obtain⟨j,m,S,y⟩:=y;obtain⟨e,Q,N,A,z⟩:=S g b p a;have C:=z.too4 a;have i:=r B j m e b y N A (h.trans C);have x:e_ g e:=.of a A Q C;cases B<;>first
  |exact i.elim
  |exact .aO x i
  |exactλpre=>.aO x (i pre)
  |exactλpre w=>.aO x (i pre w)
def df.bb(d)(aq){cT}(p:i_ J d=f Z)(E:U Z)(b:jw k aq=f cT)(K:U cT)(M:df q F s aP d aq):df q F s aP J k:=by intro w A I a B u j z t e r;have m:=jW b K;have y:=(m w a).2.1;exact M w A ((I.le (eO p E)).al m a) (m w a).1 B u j z t e λC D h x i N o b g=>r C D h x i N o b ((y.too4 a).trans g)
def df.jM{o}{Z}{assign body}{g}{o'}{d:ι->m ar}(p:∀e h,b1 F k e J h->bc k e->∃i:m X,h.eval o=.func (.func g) #[] i.toArray/\b5 k e i o')(r:bm q g (.n (.R (.aP (c k)))::o') (k++[.loop F J {state:=.ready,pending:=n,fn:=0,tmps:=#[],params:=Z,assign:=assign,body:=body,defers:=0}]) res d)(a:∀b,∃gj,(d b)[c k]?=f (.loop F J gj)/\gj.state≠.busy/\∃j,zf gj.pending=f j/\aP j J ((d b).set (c k) .N++[.bk])):df q F (.rangeFunc o Z assign body) aP J k:=
 df.rangeFunc (gj:=λb=>(a b).choose) p r (λb=>⟨(a b).choose_spec.1,(a b).choose_spec.2.1⟩) λb=>(a b).choose_spec.2.2
def bm.jf{d}{fn}{args}{aq:ι->m ar}(B:P.funcs[d]?=f fn)(x:(fn.name== "runtime.NumGoroutine")=v)(h:fn.body=f s)(u:ay args.length fn.ntmps=l)(y:df q fn.ntmps s (n2 fn.ntmps λw o b=>∃j,k9 P fn k.length (res j) (aq j) w o b) (ib 0 args) k):bm q d args k res aq:=
 bm.gx B x h (fA u) λC r d z t A e p i a g=>df.iV y C r d z t A e p i a g
def k9.cells(a0:b3 P ac){fn}{d}{res}(aY)(e:tF ac fn.results.toList aY J res=f Z)(m:U Z)(j:dz aY k=f aq)(i:l8 aq=l)(h:fl aY=l)(g:∀b,b<d->aY[b]?=f b):k9 P fn d res aq .ret J k:=by refine⟨.inl a,aY,?_⟩;unfold tF at e;grind[oZ.fb]
end
def ym:Q->Option X
 |.c (.val a)=>f a
 |_=>n
def vi:m Q->Option (m X)
 |[]=>f []
 |a::d=>match ym a with
  |some e=>match vi d with
   |some b=>f (e::b)
   |none=>n
  |none=>n
def yn:y->Option X
 |.n (.R b)=>ym b
 |.n (.agg a)=>match vi a with
  |some d=>f (.agg d.toArray)
  |none=>n
 |_=>n
def s6:m y->Option (m X)
 |[]=>f []
 |a::d=>match yn a with
  |some e=>match s6 d with
   |some b=>f (e::b)
   |none=>n
  |none=>n
section
variable {q:af P}
def JY{d}:∀{a:Q},cB k b aa a->ym a=f d->aa=d
 |.c (.val h),g,e=>by cases e;exact Rd.bd g
theorem JZ:∀{e:m Q}{z a:m X},bP k b z e->vi e=f a->z=a
 |[],[],a,_,g=>by cases g;rfl
 |[],_::_,_,d,_=>d.elim
 |_::_,[],_,d,_=>d.elim
 |j::o,q::z,a,d,g=>by
  simp[vi]at g;cases h:ym j with
  |none=>grind
  |some r=>
   cases i:vi o with
   |none=>grind
   |some p=>
    simp[h,i]at g;subst g;rw[JY d.1 h,JZ d.2 i]
def Y5{g}:∀{d:y},bx k b aa d->yn d=f g->aa=g
 |.n (.R i),e,a=>JY e a
 |.n (.agg h),⟨z,j,e⟩,a=>by simp[yn]at a;grind[JZ]
def CW:∀{e:m y}{z a:m X},b5 k b z e->s6 e=f a->z=a
 |[],[],a,_,g=>by cases g;rfl
 |[],_::_,_,d,_=>d.elim
 |_::_,[],_,d,_=>d.elim
 |j::o,q::z,a,d,g=>by
  simp[s6]at g;cases h:yn j with
  |none=>grind
  |some r=>
   cases i:s6 o with
   |none=>grind
   |some p=>
    simp[h,i]at g;subst g;rw[Y5 d.1 h,CW d.2 i]
def h'(P:aD)(h:Nat)(e:ao)(g:bM)(i:m ar)(d:aZ)(args:m X):Prop:=∀j b,b1 h i j g b->∀a,(ab b.eval e).run P a=(callFunc d args.toArray).run P a/\(ab b.eval e).events P a #[]=(callFunc d args.toArray).events P a #[]
def h'.ed{a}{args}(e:r.op=.call {callee:=.value (.func a),args:=ah,argTypes:=dt})(i:s6 (ah.toList.map (bE J))=f args):h' P F r J k a args:=by
 intro o b h p;have j:=CW (nc (eM h) ah.toList) i;have d:ah.map b.eval=args.toArray:=N;have g:b.eval (.func a)=.func (.func a) #[] #[]:=rfl;have m:ab b.eval r=callFunc a args.toArray:=by simp[ab,e,resolve,g,Deferred.ofValue,invoke,d]
 grind
def h'.invoke{q}{o:ae}{h}{name}{e}{m t}{args}(j:r.op=.call {callee:=.invoke o name,args:=h,argTypes:=dt})(x:bE J o=ax (.val (.iface e m)))(w:s6 (h.toList.map (bE J))=f args)(d:∀a,(Go.method (P.types.size+Made.depth) e m name).run P a=.ok (q,t) a/\∀b,(Go.method (P.types.size+Made.depth) e m name).events P a b=b):h' P F r J k q (t::args):=by
 intro z y s a;have g:=eM s o;rw[x]at g;have g:=Rd.bd (b8 g);have i:=CW (nc (eM s) h.toList) w;have p:∀a,(program:Sem aD).run P a=.ok P a:=λa=>by simp
 have u:∀a b,(program:Sem aD).events P a b=b:=λa b=>by simp
 rw[CY j g,i];constructor
 .simp[callMethod,p,(d a).1]
 simp[callMethod,p,u,(d a).1,(d a).2]
structure jG(P:aD)(aj:aZ)(ak:Array X->Sem X):Prop where
 fn:∃fn,P.funcs[aj]?=f fn/\(fn.name== "runtime.NumGoroutine")=v/\fn.body.isNone=l/\Extern.findNext fn=n/\Extern.find fn=f ak
def jG.run{d}{e:Array X->Sem X}(q:jG P d e){args}(m:(e args).run P p=.ok aa bi):(callFunc d args).run P p=.ok (.value aa) bi/\∀a,(callFunc d args).events P p a=(e args).events P p (a.push ⟨.mark (.extern d),v,l⟩):=by
 obtain⟨fn,k,o,i,b,j⟩:=q.fn;have g:fn.name≠ "runtime.NumGoroutine":=N;have h:fn.body=n:=du;constructor
 .rw[run_callFunc_extern k o i b j,m];rfl
 intro a;simp[callFunc,k,g,h,b,j,m]
def ei.ext{B:ι->y}{d:ι->m ar}{s}{q:Array X->Sem X}{args}(N:h' P F r J k s args)(I:jG P s q)(o:∀g,bc k g->∃i b p,(q args.toArray).run P g.a=.ok p b.a/\bx (d i) b p (B i)/\bc (d i) b/\cO k g (d i) b/\∀j,∀e∈(q args.toArray).events P g.a j,e∈j∨ie g e):ei P F r J k B d:=by
 intro g C E w;obtain⟨t,u⟩:=N g C E g.a;obtain⟨i,b,p,M,x,z,A,O⟩:=o g w;obtain⟨K,D⟩:=I.run M;refine⟨i,.value p,b,p,t.trans K,.inl a,x,z,A,λe h=>?_⟩;rw[u,D]at h;rcases O _ e h with o|o
 .simp at o;subst o;exact .inr ⟨s,a⟩
 grind
def ei.ee{h}{e:Array X->Sem X}{args}{E}(m:h' P F r J k h args)(i:jG P h e)(j:∀d,(e args.toArray).run P d=.ok aa d)(q:∀d a,(e args.toArray).events P d a=a)(o:∀b,bx k b aa E):ei P F r J k (λ_:Unit=>E) λ_=>k:=
 .ext m i λb g=>⟨(),b,aa,j b.a,o b,g,.refl _ _,λa p s=>.inl N⟩
def ei.g2{t}{h:Array X->Sem X}{args}{aa:Nat->X}{E:Nat->y}{bz}(I:h' P F r J k t args)(z:jG P t h)(C:∀o,(h args.toArray).run P o=.ok (aa o.heap.size) (o.alloc (.cells #[bz] W)))(Q:∀o i,(h args.toArray).events P o i=i)(K:∀p k d,bx k d (aa p) (E p)):
  ei P F r J k E λp=>k++[.K (eh p W bz)]:=
 .ext I z λd g=>by
  have s:cO k d k {d with a:=d.a.alloc (.cells #[bz] W)}:=⟨by simp,λe b _=>i6 _ _ b,λ_ _ _ u=>u,λ_ _ _ _=>rfl,λL B e b=>.inr ⟨L,B,b⟩,λM bT L j q=>⟨bT,L,j,q,.refl _ _⟩,rfl,rfl,rfl,rfl⟩
  have O:∀r,d.D d.a.heap.size r=n:=λr=>by
   cases m:d.D d.a.heap.size r with
   |none=>rfl
   |some aa=>exact absurd (g.block m) (xg _)
  have j:=(g.cX (bi:=d.a.alloc (.cells #[bz] W)) (cl:=d.D) D (λe b=>i6 d.a _ b) (λe b r=>rfl) (λe b r aa m=>by have:=g.block m;omega) a a a).1;obtain⟨x,w⟩:=j.b0 (bT:=.K (eh d.a.heap.size W bz)) (L:=⟨.pointer (f ⟨d.a.heap.size,0,n⟩),[d.a.heap.size]⟩) s rfl g
   ⟨λe=>if e=d.a.heap.size then f (.cells #[bz] W (0,0))else n,⟨rfl,by simp,λe b=>by grind⟩,λe r b=>by
    by_cases h:e=d.a.heap.size
    .subst h;simp[dx]at b;grind[lZ]
    grind,λe=>by by_cases h:e=d.a.heap.size<;>simp[h],λe b r=>by grind⟩
   (λe b=>by simp_all)
  exact⟨d.a.heap.size,_,_,C d.a,K _ _ _,x,w,λi A u=>.inl N⟩
def eh.own{C}(i:da d k=f (.K (eh C W aa)))(bR:bc k b):b.a.heap[C]?=f (.cells #[aa] W (0,0))/\b.a.cell? ⟨C,0,n⟩=f aa/\(∀a,ie b ⟨.cell ⟨C,a,n⟩,v,v⟩)/\∀a,ie b ⟨.cell ⟨C,a,n⟩,l,v⟩:=by have aM:=ew i;have m:d<c b.t:=h_;have e:=bJ m;generalize b.t[d]=L at e;obtain⟨o,⟨s,h,t⟩,q,r,p⟩:=bR.box d _ L aM e;have j:=q C _ h;have g:=(r C).2 N;exact⟨j,by simp[aH,j],λa=>qo (ca e) g,λa=>oo (ca e) g (p C g _)⟩
def eh.cd{d C}{W}{aa bz}(g:da d k=f (.K (eh C W aa)))(bR:bc k b):bc (k.set d (.K (eh C W bz))) {b with a:=b.a.setRow C #[bz]}/\cO k b (k.set d (.K (eh C W bz))) {b with a:=b.a.setRow C #[bz]}:=by
 have g:=ew g;have r:d<c b.t:=h_;have m:=bJ r;generalize b.t[d]=L at m;obtain⟨p,⟨i,j,B⟩,o,t,y⟩:=bR.box d _ L g m;have z:=(t C).2 N;have q:=o C _ j;have s:∀e,e≠C->(b.a.setRow C #[bz]).heap[e]?=b.a.heap[e]?:=λe h=>setRow_other b.a C e _ h;have x:=setRow_heap b.a C #[aa] #[bz] W (0,0) q;have w:b.t.set d L=b.t:=m6;have E:=bR.cd (d:=d) (j_:=eh C W bz) (cv:=L) (bi:=b.a.setRow C #[bz]) g m a D
  (λe h u=>s e N) (λe h=>.inl h)
  ⟨λe=>if e=C then f (.cells #[bz] W (0,0))else n,⟨i,by simp,λe h=>by grind⟩,λe A h=>by grind,λe=>by grind⟩ a a a
 grind
def ei.g4{m}{i:Array X->Sem X}{args}{bz}{E}(d){C}(j:da d k=f (.K (eh C W bz)))(w:h' P F r J k m args)(p:jG P m i)(u:∀h,h.cell? ⟨C,0,n⟩=f bz->(i args.toArray).run P h=.ok aa h/\∀a,∀b∈(i args.toArray).events P h a,b∈a∨b=⟨.cell ⟨C,0,n⟩,v,v⟩)(x:∀g,bx k g aa E):ei P F r J k (λ_:Unit=>E) λ_=>k:=
 .ext w p λg e=>by obtain⟨_,s,y,_⟩:=eh.own j e;obtain⟨q,o⟩:=u g.a s;exact⟨(),g,aa,q,x g,e,.refl _ _,λa b t=>(o a b t).imp id λz=>by grind⟩
def ei.iM{p}{j:Array X->Sem X}{args}{bz cD}{E}(q w:Nat){C i}{h}(e:da q k=f (.K (eh C W cD)))(s:da w k=f (.K (eh i h bz)))(A:h' P F r J k p args)(u:jG P p j)(y:∀g,g.heap[C]?=f (.cells #[cD] W (0,0))->g.cell? ⟨i,0,n⟩=f bz->(j args.toArray).run P g=.ok aa (g.setRow C #[bz])/\∀b,∀a∈(j args.toArray).events P g b,a∈b∨a=⟨.cell ⟨i,0,n⟩,v,v⟩∨a=⟨.cell ⟨C,0,n⟩,l,v⟩)(B:∀k m,bx k m aa E):ei P F r J k (λ_:Unit=>E) λ_=>k.set q (.K (eh C W bz)):=
 .ext A u λm d=>by obtain⟨t,_,_,D⟩:=eh.own e d;obtain⟨_,z,I,_⟩:=eh.own s d;obtain⟨x,M⟩:=y m.a t z;obtain⟨o,t2⟩:=eh.cd (bz:=bz) e d;refine⟨(),_,aa,x,B _ _,o,t2,λb a K=>?_⟩;grind
def g.c0{N:ι->y}{b:ι->m ar}(S:oS all J r=l)(ag:ft F r.dst=l)(T:ei P F r J k N b)(U:∀o,g q F be (.aj all bq::av) .normal (gi r.dst (N o) J) (b o)):g q F be (.aj all (r::bq)::av) .normal J k:=by
 intro ai Q I j R C u O idx i a B;cases idx with
 |nil=>exact a.elim
 |cons ah idx=>
 refine rz i a.1 (j5 S _ _ _ I) λae w=>?_;have h:=j.rely w;have d:=I.rely w j;obtain⟨o,aa,p,ab,A,e,af,K,M,Y⟩:=T ae Q d h;have z:=M.too4 h;refine⟨aa,p,ab,A,e,⟨⟨k,b o,h,K,M⟩,Y⟩,?_⟩;refine U o p _ ?_ K R C u O idx i a.2 λV s D t X x e E=>B V s D t X x e ((w.aT.trans z).trans E);cases W:r.dst with
 |none=>exact d.mono z h.len
 |some Z=>exact(d.mono z h.len).put (lg ag Z W) af
def g.iL(o){ac}{ai}(y:look J o=ax (.cg ac (.Q ai)))(m:∀p:Addr,g q F be (.code s::av) .normal ((o,cM (.iface ac (.pointer (f p))))::J) k):g q F be (.code s::av) .normal J k:=by
 refine b4.e5 (ι:=Addr) (dG:=λp=>(o,cM (.iface ac (.pointer (f p))))::J) (aq:=λ_=>k) (λC t e j=>?_) m;have b:=e.aK o;rw[y]at b;have b:=b8 b;generalize x:t.tmps.getD o I=E at b;cases b with
 |@cg _ r _ h z=>
  cases h with
  |Q u d D A B=>
   refine⟨⟨u,d,n⟩,C,a,⟨e.size,e.defers,λr=>?_⟩,j,.refl _ _⟩;simp only[look];cases i:ad o r with
   |false=>exact e.aK r
   |true=>
    have w:=dp i;subst w;rw[x];exact Rd.val a
def g.g1(o){ac}{j}(m:look J o=ax (.cg ac (.val j)))(i:g q F be (.aj all bq::av) .normal ((o,cM (.iface ac j))::J) k):g q F be (.aj all bq::av) .normal J k:=by
 refine fq.le i λk u w s b=>?_;simp[look];cases h:ad o s with
 |false=>exact b
 |true=>
  have p:=dp h;subst p;rw[m]at b;have d:=b;cases d with
  |@cg _ t _ e r=>
   obtain rfl:=Rd.bd e;exact Rd.val a
def g.hB(o d)(N:look J o=aI d 0)(i:da d k=f (.cells W [.c .bp]))(w:∀b,g q F be (.code s::av) .normal ((o,cM (.pointer (f ⟨b,0,n⟩)))::J) (k.set d (.K (eh b W (.pointer n))))):g q F be (.code s::av) .normal J k:=by
 refine b4.e5 (ι:=Nat) (dG:=λb=>(o,cM (.pointer (f ⟨b,0,n⟩)))::J) (aq:=λb=>k.set d (.K (eh b W (.pointer n)))) (λp O t bR=>?_) w;have i:=ew i;have C:d<c p.t:=h_;have r:=bJ C;generalize p.t[d]=L at r;obtain⟨b,z,rfl,S,K,U⟩:=bR.box d _ L i r
 match z,K with
 |[R],⟨x,_⟩=>
  have x:=x;cases x;obtain⟨M,m⟩:=bR.b8 (cl:=p.D) (bi:=p.a) (eg:=.K (eh b W (.pointer n))) (cv:=⟨.pointer (f ⟨b,0,n⟩),[b]⟩) i r rfl (bC _) (λ_ _ _=>rfl) (λ_ _ _ _=>rfl) (λ_ _ _ B=>B) bR.mem (λj e=>⟨.inl e,bR.lt _ (ca r) j e⟩) rfl rfl rfl
   ⟨λj=>if j=b then f (.cells #[.pointer n] W (0,0))else n,⟨rfl,by simp,λj e=>by grind⟩,λj I e=>by grind,λj=>by by_cases u:j=b<;>simp[u],λj e I=>by grind⟩
  refine⟨b,{p with t:=p.t.set d ⟨.pointer (f ⟨b,0,n⟩),[b]⟩},rfl,⟨t.size,t.defers.imp λ_ h=>h.mono m.ext,λA=>?_⟩,M,m⟩;simp only[look];cases e:ad o A with
  |false=>exact(t.aK A).mono m.ext bR.len
  |true=>
   have u:=dp e;subst u;have h:=t.aK o;rw[N]at h;obtain⟨_,T,Q,y,E,D⟩:=(h:cB k p _ (.ptr d 0));rw[r]at y;cases y;cases E;rw[D];exact Rd.val a
end
section
variable {q:af P}
def vN:m Q->Option (m X)
 |[]=>f []
 |.c (.int a b)::e=>match vN e with
  |some d=>f (.int a b::d)
  |none=>n
 |_=>n
def Lb:∀{e:m Q}{z b:m X}{q:a6},bP k q z e->vN e=f b->z=b/\∀d h,bP d h b e
 |[],[],b,_,_,g=>by cases g;exact⟨a,λ_ _=>trivial⟩
 |[],_::_,_,_,i,_=>i.elim
 |_::_,[],_,_,i,_=>i.elim
 |.c (.int t u)::w,x::z,b,q,i,g=>by
  simp only[vN]at g;cases o:vN w with
  |none=>rw[o]at g;cases g
  |some y=>
   rw[o]at g;cases g;obtain⟨j,r⟩:=i;obtain⟨rfl,s⟩:=Lb r o;have j:Rd q.D x (.int t u):=j;cases j with
   |int p=>exact⟨rfl,λd h=>⟨Rd.int p,s d h⟩⟩
def ei.hn{b}{m:ae}{ai}{i}(p:r.op=.makeFunc (.func b) #[m] #[])(w:bE J m=.n (.agg ai))(h:vN ai=f i):
  ei P F r J k (λ_:{_u:Unit // ∀a j,bP a j i ai}=>ax (.val (.func (.func b) #[.agg i.toArray] #[]))) λ_=>k:=by
 intro q s t g;have o:=eM t m;rw[w]at o;obtain⟨z,u,d⟩:=o;obtain⟨rfl,e⟩:=Lb d h;refine⟨⟨(),e⟩,.value (.func (.func b) #[.agg z.toArray] #[]),q,_,?_,.inl rfl,Rd.val rfl,g,.refl _ _,?_⟩
 .simp only[ab,p,Instr.makeFunc];simp[u]
 have:(ab s.eval r).events P q.a #[]=#[]:=by simp only[ab,p,Instr.makeFunc];rfl
 rw[this];exact .nil
def ME{e:ae}(cx:r.op=.call {callee:=.value cQ,args:=#[e],argTypes:=dt}){b}{fn}(O:P.funcs[b]?=f fn)(h:(fn.name== "runtime.NumGoroutine")=v)(g:fn.body.isNone=v){a:Act}{d}(C:a.eval cQ=.func (.func b) #[d] #[])(p):
  (ab a.eval r).run P p=.ok (.enter b [d,a.eval e].toArray) p/\(ab a.eval r).events P p #[]=#[]:=by
 have s:fn.name≠ "runtime.NumGoroutine":=N;have i:fn.body≠n:=N;constructor
 .exact Pn
 exact Pn
def aT.gU{o:ae}(S:∀k C m,b1 F k C J m->aO r (yielded all.toArray m.tmps)=l)(e:r.op=.call {callee:=.value cQ,args:=#[o],argTypes:=dt}){I}{ai}{j}{d res}(W:bE J cQ=ax (.val (.func (.func I) #[.agg j.toArray] #[])))(Z:∀p b,bP p b j ai)(X:B5 (bE J o)=d)(O:Y q I [.n (.agg ai),d] [] res [])(t:hk 0 [.n (.agg ai),d]=l)(u:gu [] [.n (.agg ai),d]=[.n (.agg ai),d])(ab:fm [] res=res):aT q F all r J k res k:=by
 intro C m s y ag V ah af aj A x z w;have N:=eM s cQ;rw[W]at N;have Q:=Rd.bd (b8 N);obtain⟨fn,M,K,E⟩:=O.1;have R:=H5 (eM s o);rw[X]at R;have U:b5 k C [.agg j.toArray,m.eval o] (gu [] [.n (.agg ai),d]):=by rw[u];exact⟨⟨j,a,Z _ _⟩,R,B⟩
 refine GV (aY:=[]) (di:=[]) (aX:=[]) x z (S _ _ _ s) y (λD=>(ME e M K E Q D).1) (λD=>(ME e M K E Q D).2) O U t a a a a (bC _) ?_;intro aa b g h i;have T:dd [] [] k=k:=by simp[dd]
 rw[T]at g h i;refine w aa b ?_ h i;simpa[ab,g0]using g
def dX.cL(ai:∀k h b,b1 F k h J b->aO r (yielded all.toArray b.tmps)=l)(e:r.op=.call {callee:=.value cQ,args:=ah,argTypes:=dt}){E}(g:g7 (bE J cQ)=f (E,cap))(O:bm q E cS k res aX)(W:l3 (ah.toList.map (bE J)++fj cap) cS=f Z)(af:U Z):dX q F all r J k res aX:=by
 intro h b y s ak aa S aj an A p t o;have M:=eM y cQ;unfold g7 at g;split at g
 case h_2=>cases g
 case h_1 vj u7 he=>
  cases g;rw[he]at M;have I:=b8 M;generalize Q:b.eval cQ=V at I;cases I with
  |fn j a w d T i X m ae z=>
   have ag:j=[]:=jK w;subst ag;have Y:b5 k h a (fj cap):=qj (λx R u=>⟨i x,m x N,z x R u⟩) d;have ab:b5 k h (ah.toList.map b.eval++a) cS:=tj W af ((nc (eM y) ah.toList).append Y);obtain⟨fn,K,D,C⟩:=O.1;exact GW p t (ai _ _ _ y) s (λB=>(mT e K D C Q B).1) (λB=>(mT e K D C Q B).2) O ab o
def g.hf(d){p}(aM:k[d]?=f p)(A:∀L,fV p L .N L)(o:g q F be (.code s::av) .normal J (k.set d .N)):g q F be (.code s::av) .normal J k:=by
 refine g.aO (λb D m bR=>?_) o;have r:d<c b.t:=h_;have i:=bJ r;generalize b.t[d]=L at i;have x:b.t.set d L=b.t:=by
  apply qa;intro z;by_cases t:d=z
  .subst t;rw[iy r,i]
  rw[kJ t]
 obtain⟨u,h⟩:=bR.b8 (cl:=b.D) (bi:=b.a) aM i (A L) (bC _) (λ_ _ _=>rfl) (λ_ _ _ _=>rfl) (λ_ _ _ y=>y) bR.mem (λw e=>⟨.inl e,bR.lt L (ca i) w e⟩) rfl rfl rfl B;rw[x]at u h;exact⟨b,a,⟨m.size,m.defers.imp λ_ j=>j.mono h.ext,λC=>(m.aK C).mono h.ext bR.len⟩,u,h⟩
def g.cN(d){b}(aM:da d k=f b)(e:∀L,fV b L .N L)(a:g q F be (.code s::av) .normal J (k.set d .N)):g q F be (.code s::av) .normal J k:=.hf d (ew aM) e a
def g.eK{s}:∀d{b:m ar},g q F be (.code s::av) .normal J (b++aU d .N)->g q F be (.code s::av) .normal J b
 |0,b,a=>by simpa using a
 |d+1,b,a=>by refine g.fg 0 1 (g.hf (c b) (AU) bn (g.eK d ?_));rw[List.set_append_right _ _ (bC _)];simpa[List.replicate_succ]using a
end
def Rd.jL{o}{h}(y:Rd bB aa (.B o h j V)):∃m a p b,aa=.slice m j a/\j<=a/\a<=9223372036854775807/\(0<j->m=f ⟨p,b,n⟩)/\(∀d,d<j->c (V d)=h)/\∀d,d<j->∀k e,(V d)[k]?=f e->∃w,bB p (b+d*h+k)=f w/\Rd bB w e:=by
 cases y with
 |@B m _ a _ _ _ p b A x r z s q t u=>exact⟨m,a,p,b,rfl,x,r,q,s,λd g k e i=>⟨_,t d g k e i,u d g k e i⟩⟩
def Rd.hM{o}{cap h}(e:j<=cap)(g:cap<=9223372036854775807)(r:0<j->o=f ⟨i,off,n⟩)(q:∀a,a<j->c (V a)=h)(t:∀a,a<j->∀b d,(V a)[b]?=f d->∃p,bB i (off+a*h+b)=f p/\Rd bB p d):Rd bB (.slice o j cap) (.B v h j V):=by refine .B i off (λa b=>(bB i (off+a*h+b)).getD I) e g (λs=>by cases s) q r (λa k b d m=>N) λa k b d m=>?_;grind
section
variable {q:af P}{O:m iv}
end
section
variable {q:af P}
def ei.ho(a0:b3 P ac){x z:ae}{R:cq}{U V:IntKind}(t:r.op=.makeSlice o x z)(I:b0 ac o=f R)(aj:R.desc=.slice W)(ar:b0 ac W=f a5)(N:bE J x=ax (.int U j))(O:bE J z=ax (.int V j))(au:j*a5.bytes<=140737488355328)(aB:j<=140737488355328):
  ei P F r J k (λ_:Unit=>ax (.B v a5.size j λ_=>a5.zero)) λ_=>k:=by
 intro h A aP E;have q:=eM aP x;rw[N]at q;have q:=b8 q;generalize af:A.eval x=av at q;cases q;have s:=eM aP z;rw[O]at s;have s:=b8 s;generalize ag:A.eval z=aw at s;cases s;have C:=(a0 o R I).eg;rw[aj]at C;obtain⟨e,m,u,ao,X,Z,Y,az,ak⟩:=(a0 W a5 ar).cY;have G:(e.bytes:Int)*(j:Int)<=281474976710656:=by
  have an:((e.bytes*j:Nat):Int)<=281474976710656:=by rw[X,xf];omega
  rwa [Int.natCast_mul]at an
 have aa:=run_make (P:=P) (w:=h.a) o W e m C u Z U V j j w (Int.le_refl _) G w;simp only[cW]at aa;have ai:m.cells.size=a5.size:=by have:=eF List.length Y;simp at this;omega
 have Q:madeCells m.cells (j*e.size)=Builtin.zeroCells m.cells j:=by rw[ao,<-ai];rfl
 let d:=(madeCells m.cells (j*e.size)).toList;have ah:e3 h.D a5.size j (λ_=>a5.zero) d:=by show e3 _ _ _ _ (madeCells _ _).toList;rw[Q];exact On Y ak
 obtain⟨D,L⟩:=E.newRow W d;refine⟨(),.value (.slice (f ⟨h.a.heap.size,0,n⟩) j j),h.newRow W d,_,?_,.inl a,?_,D,L,?_⟩
 .simp[ab,t,af,ag,aa,d,a6.newRow]
 .exact Rd.eu (ah.mono L.mem) (i:=h.a.heap.size) (off:=0) bn (bC _) w (λt=>by cases t) (Lk h W d)
 have B:ab A.eval r=(do pure (.value (<-Instr.makeSlice o (.int U j) (.int V j)))):=by simp[ab,t,af,ag]
 rw[B];refine i2 ?_;intro B g;have K:∀b,(underlying o).run P b=.ok (.slice W) b:=λb=>by simp[underlying,C]
 have y:∀b,(typeInfo W).run P b=.ok e b:=λb=>by simp[typeInfo,u]
 have M:∀b,(zeroValue W).run P b=.ok m b:=λb=>by simp[zeroValue,typeInfo,u,Z]
 have H:∀b,(sizeOf W).run P b=.ok e.size b:=λb=>by simp[sizeOf,typeInfo,u]
 have aq:IntKind.i64.wrap (j:Int)=j:=by rw[IntKind.wrap_i64];omega
 have S:¬(j:Int)<0:=w;have T:¬(281474976710656<(e.bytes:Int)*j):=w;simp[Instr.makeSlice,K,y,H,asInt,asIntOf,aq,S,T]at g;rw[M]at g;simp only[aE,(dB.newRow (P:=P)) _ _,ite_self]at g;unfold askRoom at g;split at g
 .have:B=⟨.mark .noRoom,v,l⟩:=by simpa using g
  rw[this];exact .inl a
 simp at g
end
section
open Go.Conc
def gB(d:a6):Prop:=∀a b e,d.D a b=f e->d.a.cell? ⟨a,b,n⟩=f e
def jH(a:Nat->Prop):Go.Loc->Prop
  |.cell b=>a b.block
  |.obj d=>a d
  |_=>False
structure g2(s:Nat->Prop)(b:a6):Prop where
  own:∀i,s i->¬b.own i
  t:∀i,s i->∀L∈b.t,i∉L.al
  D:∀i,s i->∀r,b.D i r=n
  lt:∀i,s i->i<b.a.heap.size
section
variable {s:Nat->Prop}
def g2.step(g:g2 s b)(e:cO k b aq aF):g2 s aF:=by
  refine⟨λd a=>by rw[e.own];exact g.own d a,λd a L j i=>?_,λd a p=>by rw[e.bz d (g.lt d a) (g.t d a)];exact g.D d a p,λd a=>eK (g.lt d a) e.size⟩;rcases e.bR L j d i with h|⟨o,m,h⟩
  · exact absurd (g.lt d a) (p'.2 h)
  · exact g.t d a o m h
theorem g2.aO(g:g2 s b)(j:e_ b aF):g2 s aF:=by
  have h:∀d,s d->¬(aF.own d∨∃L∈aF.t,d∈L.al):=λd a e=>by
    rcases j.blk d e with e|⟨L,i,e⟩
    · exact g.own d a e
    · exact g.t d a L i e
  exact⟨λd a e=>h d a (.inl e),λd a L i e=>h d a (.inr ⟨L,i,e⟩),λd a k=>by rw[j.bz d (g.t d a)];exact g.D d a k,λd a=>by rw[j.a];exact g.lt d a⟩
def g2.b2(e:g2 s b)(g:n1 b aF):g2 s aF:=by
  refine⟨λd a=>by rw[g.own];exact e.own d a,λd a=>by rw[g.t];exact e.t d a,λd a h=>?_,λd a=>by rw[g.a];exact e.lt d a⟩;cases i:aF.D d h with
  |none=>rfl
  |some j=>rw[<-g.e8 d h j i,e.D d a h]
def g2.at(a:g2 s b)(d):g2 s {b with a:=b.a.at d}:=⟨a.own,a.t,a.D,a.lt⟩
def gB.at(d:gB b)(a):gB {b with a:=b.a.at a}:=d
theorem gB.aO(a:e_ b aF):gB aF:=λe g h d=>by rw[a.a];exact a.cell e g h d
def gB.b2(i:gB b)(d:n1 b aF):gB aF:=λa e g h=>by rw[d.a];exact i a e g (d.e8 a e g h)
def gB.lt(e:gB b){r}(d:b.D i r=f aa):i<b.a.heap.size:=by
  have:=e i r aa d;rcases dY i b.a.heap.size with a|a
  · exact a
  · simp[aH,AZ a]at this
def c0.at(d:gB b)(a):c0 b {b with a:=b.a.at a}:=⟨rfl,rfl,rfl,bC _,λ_ _=>rfl,d,rfl,rfl,rfl⟩
def Ut{o}(p:bc k b)(q:g2 s b)(g:ie b o){r}(aM:b.a.heap.size<=r):EvL (jH s) r o:=by
  obtain⟨t,wr,y⟩:=o;cases t with
  |cell m=>
    obtain⟨i,j,a⟩:=g;simp only at i j a;subst i;have key:¬s m.block/\m.block<b.a.heap.size:=by
      rcases a with a|⟨⟨L,h,a⟩,_⟩|⟨_,A,a⟩
      · exact a.elim
      · exact⟨λe=>q.t _ e L h a,p.lt L h _ a⟩
      · refine⟨λe=>?_,gB.lt p.mem a⟩
        rw[q.D _ e]at a;cases a
    exact evL_cell m wr key.1 (eK key.2 aM)
  |obj z=>
    obtain⟨i,j⟩:=g;simp only at i j;subst i;obtain⟨L,h,a⟩:=j.resolve_left id;refine⟨λe d u=>?_,by simp,by simp,?_⟩
    · simp[aJ,MemAct.touch?]at d
      subst d;exact absurd a (q.t _ u L h)
    · simp[aJ,MemAct.low,Loc.low]
      exact eK (p.lt L h _ a) aM
  |mark x=>
    simp[ie]at g;rcases g with rfl|⟨w,rfl⟩
    · exact⟨λe d=>by simp[aJ,MemAct.touch?]at d,by simp,by simp,by simp[aJ,MemAct.low]⟩
    · exact⟨λe d=>by simp[aJ,MemAct.touch?]at d,by simp,by simp,by simp[aJ,MemAct.low]⟩
  |_=>exact g.elim
end
def nb(b:Trace):Prop:=∀a,NoRelease a b
def nb.app{o}(e:nb o){C}{fn}{pos}{V}(i:∀d∈V,∀a,d.loc≠.mark (.release a)):nb (o++MemOp.ofEvents C fn pos V):=
  λa=>(e a).app λh b g=>by grind[Go.Conc.mem_ofEvents,Go.ConcR.loc_of_ofEvent]
def Uu{a}(h:ie b a)(g):a.loc≠.mark (.release g):=by intro d;obtain⟨loc,wr,j⟩:=a;simp only at d;subst d;rcases h with e|⟨i,e⟩<;>cases e
def La{a:aN}(e:a.mute=l)(d):a.loc≠.mark (.release d):=by intro b;obtain⟨loc,wr,g⟩:=a;simp only at b;subst b;simp[Event.mute]at e
def k5(P:aD)(r:ag)(g:a6)(o:ag->a6->Prop):Prop:=
  ∀(k:Nat->Prop) b dE h (s:Nat->Nat),gB g->b[0]?=f r->Leavers P h b s->Past (jH k) g.a.heap.size h->g2 k g->nb h ->
    ∃(m:Nat) (j:Nat->Prop) (i:Array ag) (d:ag) (a:a6) (p:Option (Nat×Nat)) (e:Trace) (q:Nat->Nat),
      runNT P m (crowd b g.a dE) h=(.next (crowd i a.a p),e)/\gB a/\i[0]?=f d/\Leavers P e i q/\Past (jH j) a.a.heap.size e/\g2 j a/\nb e/\o d a
def af.ay(P):af P:={b5:=l,rely:=λb a=>c0 b a/\∃d,a={b with a:=b.a.at d},dk:=k5 P,bO:=λe=>e.1,dV:=True}
instance (P:aD):(af.ay P).bZ:=⟨B⟩
theorem Er{P}:∀b a {e h:Machine} {i g:Trace},runNT P b e i=(.next h,g)->runNT P (b+a) e i=runNT P a h g
  |0,a,e,h,i,g,d=>by simp[runNT]at d;grind
  |b+1,a,e,h,i,g,d=>by
    rw[show b+1+a=(b+a)+1 by omega];simp[runNT]at d⊢;cases k:stepT P e with
    |mk o j=>
      rw[k]at d;cases o with
      |next m=>exact Er b a d
      |ended p q=>grind
def k5.trans{r:ag->a6->Prop}(B:k5 P C b r)(I:∀a d,r a d->k5 P a d br):k5 P C b br:=by intro x e dE S Q m g i j k o;obtain⟨t,F,w,a,d,z,O,V,D,h,U,N,T,J,E,R⟩:=B x e dE S Q m g i j k o;obtain⟨s,u,y,K,q,A,t2,p,k1,M⟩:=I a d R F w z O V h U N T J E;exact⟨t+s,u,y,K,q,A,t2,p,by grind[Er],M⟩
def k5.jX{ac:ag->a6->Prop}(az:C.status=.running)(S:∀(r:Nat->Prop) d E dE g (i:Nat->Nat),gB b->d[0]?=f C->Leavers P g d i->Past (jH r) b.a.heap.size g->g2 r b->nb g ->
      ∃I G A e,runT P (crowd d (b.a.at E) dE) 0=(.next (crowd I A.a dE),e)/\gB A/\I[0]?=f G/\Leavers P (g++e) I i/\Past (jH r) A.a.heap.size (g++e)/\g2 r A/\nb (g++e)/\ac G A):k5 P C b ac:=by
  intro r d dE g i;have key:∀X d E dE g (i:Nat->Nat),Go.ConcN.sumTo d.size i<=X->gB b->d[0]?=f C->Leavers P g d i->Past (jH r) b.a.heap.size g->g2 r b->nb g ->
      ∃(Z:Nat) (W:Nat->Prop) (J:Array ag) (j:ag) (m:a6) (B:Option (Nat×Nat)) (Q:Trace) (Y:Nat->Nat),
        runNT P Z (crowd d (b.a.at E) dE) g=(.next (crowd J m.a B),Q)/\gB m/\J[0]?=f j/\Leavers P Q J Y/\Past (jH W) m.a.heap.size Q/\g2 W m/\nb Q/\ac j m:=by
    intro X;induction X with
    |zero=>?_
    |succ X ao=>?_
    all_goals
      intro d E dE g i aF x s k t u o;have aq:∀C∈d,awake C:=by
        intro z aB;obtain⟨h,q,rfl⟩:=Array.mem_iff_getElem.1 aB;rcases n_ h with rfl|ae
        · grind[awake_of]
        · exact awake_of ((k.old h _ ae (iQ q)).status.elim .inl λz=>.inr (.inr z))
      obtain⟨h,z,d2,B,q,aP,ah⟩:=crowd_pick (P:=P) (w:=b.a.at E) (sl:=dE) aq ⟨0,C,s,az⟩;rw[show(b.a.at E).at d2=b.a.at d2 from a]at ah;rcases n_ h with rfl|ae
      · obtain⟨I,G,A,e,k1,L,av,ab,aw⟩:=S r d d2 B g i x s k t u o
        exact⟨1,r,I,G,A,B,g++e,i,by simp[runNT,ah,k1],L,av,ab,aw⟩
      · have T:=k.old h z ae q
        have ar:(h==0)=v:=N;have H:h<d.size:=(jk.1 q).1;cases aj:i h with
        |zero=>rw[aj]at T;rw[T.1]at aP;cases aP
        |succ F=>
          rw[aj]at T;rcases T with⟨aE,_⟩|⟨_,j,V,y,an,aK⟩
          · grind
          have aI:Go.ConcN.sumTo d.size (Go.ConcN.upd i h F)+(F+1)=Go.ConcN.sumTo d.size i+F:=by have:=Go.ConcN.sumTo_upd i F id H;simpa[aj]using this
          first
          | (exfalso;omega)
          | (have aG:=runT_crowd_go (P:=P) (sl:=B) (i:=h) q (by rw[ar];exact an (b.a.at d2))
             have aJ:((d.map (woken P z j (b.a.at d2))).setIfInBounds h j).size=d.size:=D;obtain⟨Z,W,J,au,m,M,Q,Y,k1,L⟩:=ao ((d.map (woken P z j (b.a.at d2))).setIfInBounds h j) d2 B (g++MemOp.ofEvents h z.frame.fn z.frame.place V) (Go.ConcN.upd i h F) N x
              (by grind[woken_run])
              ⟨λU aL K R=>by
                by_cases ai:h=U
                · grind[Go.ConcN.upd_same,Deaf_own]
                · rw[sL ai,Array.getElem?_map]at R
                  obtain⟨aH,ax,rfl⟩:=rm.1 R;have ak:=k.old U aH K ax;rw[woken_quitsD ak,Go.ConcN.upd_ne i F (o8 ai),Deaf_other g ai _ (λaf O=>by grind[Go.Conc.mem_ofEvents])];exact ak,λU K=>by
                rw[Deaf_other g (g':=h) N _ (λaf O=>by grind[Go.Conc.mem_ofEvents])]
                exact k.above U N⟩
              (t.mute w y) u (o.app λaD aa aC=>La (y aD aa) aC)
             exact⟨Z+1,W,J,au,m,M,Q,Y,by simp[runNT,ah,aG];exact k1,L⟩)
  intro x s k t u o;have:=key _ d b.a.drawn dE g i (bC _) x s k t u o
  rwa [show b.a.at b.a.drawn=b.a from a]at this
def _root_.Go.Conc.Leavers.own{d}{o}{m:Nat->Nat}(k:Leavers P o gs m){aV}(g:∀b∈aV,b.g=0)(t:0<gs.size):Leavers P (o++aV) ((gs.map (woken P C d p)).setIfInBounds 0 d) m:=
  ⟨λi u e h=>by
    have q:0≠i:=w;rw[sL q,Array.getElem?_map]at h;obtain⟨s,r,rfl⟩:=rm.1 h;have j:=k.old i s e r;rw[woken_quitsD j,Deaf_other o w _ (λb a=>g b a)];exact j,λi e=>by
    rw[Deaf_other o (g':=0) N _ (λb a=>g b a)]
    exact k.above i N⟩
def cg.ay{P:aD}{O:ag->a6->Prop}{C}{b}(E:cg (af.ay P) O C b):k5 P C b O:=by
  induction E with
  |stop E=>intro p k dE u t m g h i j o;exact⟨0,p,k,_,_,dE,u,t,a,m,g,h,i,j,o,E⟩
  |aO d _ r=>
    intro p k dE u t m g h i j o;have:=r p k dE u t (.aO d) g h (by rw[d.a];exact i) (j.aO d) o
    rwa [d.a]at this
  |b2 _ d _ r=>
    intro p k dE u t m g h i j o;have:=r p k dE u t (m.b2 d) g h (by rw[d.a];exact i) (j.b2 d) o
    rwa [d.a]at this
  |dk K _ r=>exact k5.trans K r
  |@step C b ab z W M F I _ r=>
    refine k5.trans (k5.jX (ac:=λw A=>∃y,(af.ay P).rely b y/\w=ab y/\A=z y) M λp k q dE u t m g h i j x=>?_) λw A ⟨y,k1,Z,aa⟩=>by subst Z aa;exact r y k1
    have B:(af.ay P).rely b {b with a:=b.a.at q}:=⟨c0.at m q,q,rfl⟩;obtain⟨⟨ae,T,J,X,s⟩,S⟩:=I _ B;have V:=(jk.1 g).1;have R:g2 p {b with a:=b.a.at q}:=j.at q;exact⟨_,_,z {b with a:=b.a.at q},_,runT_crowd_go (P:=P) (sl:=dE) (i:=0) g (show ap P (0==0) C (b.a.at q)=_ from F _ B),X.mem,by grind,
      h.own (λY Q=>by grind[Go.Conc.mem_ofEvents]) V,((i.mono s.size).own λD N=>Ut J R (S D N) s.size),R.step s,x.app λD N U=>Uu (S D N) U,_,B,rfl,rfl⟩
inductive cr where
 |leaf
 |node (aj:a6->cr)
def cr.lt:cr->cr->Prop
 |_,.leaf=>False
 |d,.node a=>∃b,d=a b∨cr.lt d (a b)
def cr.fr:∀g:cr,Acc cr.lt g
 |.leaf=>⟨_,λ_ b=>b.elim⟩
 |.node d=>⟨_,λ_ ⟨e,a⟩=>a.elim (λa=>a▸cr.fr (d e)) λb=>(cr.fr (d e)).inv b⟩
def cr.dI:Nat->cr
 |0=>.leaf
 |a+1=>.node λ_=>cr.dI a
def cr.gw(j)(b:a6):cr.lt (cr.dI j) (cr.dI (j+1)):=⟨b,.inl a⟩
def w6(e:Nat)(d y:Nat->cr):Prop:=∃a,a<e/\cr.lt (d a) (y a)/\∀b,b≠a->d b=y b
def N7:∀b,WellFounded (w6 b)
 |0=>⟨λ_=>⟨_,λ_ ⟨e,g,_⟩=>absurd g (iS e)⟩⟩
 |b+1=>by
  have m:=N7 b;have key:∀d:cr,∀y:Nat->cr,y b=d->Acc (w6 (b+1)) y:=by
   intro d;induction cr.fr d with
   |intro d _ q=>
    intro y;induction m.apply y with
    |intro y _ k=>
     intro r;refine⟨_,λp g=>?_⟩;obtain⟨e,o,j,h⟩:=g;rcases dY e b with i|i
     .exact k p ⟨e,i,j,h⟩ N
     grind
  exact⟨λy=>key _ y a⟩
section
def gN(g:af P)(k:a6->a6->Array aN->Prop)(j:ag->a6->Prop):cr->ag->a6->Prop
 |.leaf,e,d=>j e d
 |.node m,e,d=>j e d∨(∃a,(e_ d a∨(g.dV/\n1 d a))/\gN g k j (m d) e a) ∨
   (e.status=.running/\∀h,g.rely d h->∃i a b,ap P g.b5 e h.a=.go i a.a b/\(kG h a b∨k h a b)/\gN g k j (m h) i a)
variable {q:af P}{W:a6->a6->Array aN->Prop}{s:ag->a6->Prop}
def dv(d:af P)(a:a6->a6->Array aN->Prop)(b:ag->a6->Prop)(e:ag)(h:a6):Prop:=∃g,gN d a b g e h
theorem dv.aO(d:e_ b aF)(a:dv q W br C aF):dv q W br C b:=by obtain⟨e,a⟩:=a;exact⟨.node λ_=>e,.inr (.inl ⟨aF,.inl d,a⟩)⟩
def dv.b2(a:q.dV)(e:n1 b aF)(d:dv q W br C aF):dv q W br C b:=by obtain⟨g,d⟩:=d;exact⟨.node λ_=>g,.inr (.inl ⟨aF,.inr ⟨a,e⟩,d⟩)⟩
def dv.step(o:C.status=.running)(j:∀e,q.rely b e->∃g a d,ap P q.b5 C e.a=.go g a.a d/\(kG e a d∨W e a d)/\dv q W br g a):dv q W br C b:=by
 classical
 have h:∀e,∃k:cr,q.rely b e->∃g a d,ap P q.b5 C e.a=.go g a.a d/\(kG e a d∨W e a d)/\gN q W br k g a:=by
  intro e;by_cases i:q.rely b e
  .obtain⟨g,a,d,cY,dC,k,m⟩:=j e i;exact⟨k,λ_=>⟨g,a,d,cY,dC,m⟩⟩
  exact⟨.leaf,λj=>absurd j i⟩
 exact⟨.node λe=>Classical.choose (h e),.inr (.inr ⟨o,λe i=>Classical.choose_spec (h e) i⟩)⟩
def dv.bind(d:dv q W br C b)(i:∀C b,br C b->dv q W s C b):dv q W s C b:=by
 obtain⟨j,d⟩:=d;induction j generalizing C b with
 |leaf=>exact i C b d
 |node p g=>
  rcases d with d|⟨k,a,e⟩|⟨h,d⟩
  .grind
  .rcases a with a|⟨gW,a⟩
   .exact .aO a (g _ e)
   exact .b2 gW a (g _ e)
  exact .step h λo m=>by grind
def cg.toW(r:∀C b p,¬q.dk C b p)(h:cg q br C b):dv q W br C b:=by
 induction h with
 |stop h=>exact⟨.leaf,h⟩
 |step t u s m i j _ d=>exact .step m λg e=>⟨_,_,_,i g e,.inl (j g e),d g e⟩
 |aO a _ d=>exact .aO a d
 |b2 k a _ d=>exact .b2 k a d
 |dk o _ _=>grind
def gN.bb(m:a6->Prop)(C:∀g b,e_ g b->m g->m b)(A:q.dV->∀g b,n1 g b->m g->m b):∀{D:cr}{r:ag}{g:a6},gN q W br D r g->m g ->
  (∃b,m b/\br r b)∨(r.status=.running/\∃b,m b/\∀k,q.rely b k->∃h i d o,ap P q.b5 r k.a=.go h i.a d/\(kG k i d∨W k i d)/\gN q W br o h i/\cr.lt o D)
 |.leaf,_,g,p,j=>.inl ⟨g,j,p⟩
 |.node E,r,g,p,j=>by
  rcases p with p|⟨b,x,y⟩|⟨I,p⟩
  .grind
  .have e:m b:=x.elim (λs=>C g b s j) λs=>A s.1 g b s.2 j;rcases gN.bb m C A y e with B|⟨B,i,F,J⟩
   .grind
   refine .inr ⟨B,i,F,λk z=>?_⟩;obtain⟨h,u,d,o,k1,t,w,K⟩:=J k z;exact⟨h,u,d,o,k1,t,w,g,.inr K⟩
  refine .inr ⟨I,g,j,λk z=>?_⟩;obtain⟨h,u,d,k1,t,w⟩:=p k z;exact⟨h,u,d,E k,k1,t,w,k,.inl a⟩
def dv.goes{dk:au->au->Prop}{y:au->au->Array aN->Prop}{Stop:ag->au->Prop}(k:a6->Prop)(u:∀b d,k b->q.rely b d->k d)(p:∀b d,k b->q.rely b d->dk b.a d.a)(A:∀b e,k b->∀j,y b.a j e->j=b.a/\(kG b b e∨W b b e))(w:∀b,k b->q.rely b b)(x:∀h b,k b->Stop h b.a->dv q W br h b):
  ∀r h b,k b->Goes P q.b5 dk y Stop r h b.a->dv q W br h b
 |0,h,b,g,m=>x h b g (m b.a (p b b g (w b g)))
 |r+1,h,b,g,m=>by
  rcases m with m|⟨D,m⟩
  .grind
  refine .step D λd z=>?_;have i:=m d.a (p b d g z);have s:=u b d g z;cases t:ap P q.b5 h d.a with
  |go o j e=>
   rw[t,goes_go]at i;obtain⟨C,E⟩:=i;obtain⟨rfl,B⟩:=A d e s j C;exact⟨o,d,e,a,B,dv.goes k u p A w x r o d s E⟩
  |_=>rw[t]at i;exact i.elim
end
theorem c0.aO(h:c0 b {b with a:=p})(g:e_ b aF):c0 aF {aF with a:=p}:=by
 refine⟨a,a,a,by rw[g.a];exact h.size,λd e=>by rw[g.a];exact h.a4 d (g.blk d e),λd i j k=>?_,by rw[g.a];exact h.os,by rw[g.a];exact h.tape,by rw[g.a];exact h.output⟩;have o:=g.cell d i j k;by_cases e:∃L∈b.t,d∈L.al
 .have:=h.a4 d (.inr e);simp only[aH]at o⊢;grind
 have:b.D d i=f j:=by rw[<-g.bz d (λL q m=>e ⟨L,q,m⟩)];exact k
 exact h.mem d i j this
def c0.b2(d:c0 b {b with a:=p})(a:n1 b aF):c0 aF {aF with a:=p}:=
 ⟨rfl,rfl,rfl,by rw[a.a];exact d.size,λe g=>by rw[a.a];exact d.a4 e (by rw[<-a.own,<-a.t];exact g),λe h i j=>d.mem e h i (a.e8 e h i j),by rw[a.a];exact d.os,by rw[a.a];exact d.tape,by rw[a.a];exact d.output⟩
def c0.ew(a:gB b):c0 b b:=⟨rfl,rfl,rfl,bC _,λ_ _=>rfl,a,rfl,rfl,rfl⟩
def c0.fU(a:c0 b {b with a:=p}):c0 {b with a:=p} {b with a:=p}:=c0.ew a.mem
def c0.trans{b h b7}(a:c0 b h)(d:c0 h b7):c0 b b7:=
 ⟨d.t.trans a.t,d.D.trans a.D,d.own.trans a.own,fY a.size d.size,λg e=>by rw[d.a4 g (by rw[a.own,a.t];exact e),a.a4 g e],λg j k i=>d.mem g j k (by rw[a.D];exact i),d.os.trans a.os,d.tape.trans a.tape,d.output.trans a.output⟩
end
section
open Go.Conc
open Go.ConcN (fork_knows RelBy)
open Go.ConcR (stA smA)
def ih:Go.Loc->Option Nat
 |.cell a=>f a.block
 |.obj b=>f b
 |_=>n
def KX{d}(b:d.isMemory=l):∃a,ih d=f a:=by cases d<;>simp[Go.Loc.isMemory]at b<;>exact⟨_,rfl⟩
def aeu{d:MemAct}{e}{bT}(b:d.touch?=f e)(g:d.low bT)(a:ih e.loc=f i):i<bT:=by
 cases d with
 |access h=>
  simp[MemAct.touch?]at b;subst b;simp only at a;obtain⟨loc,wr,k⟩:=h;cases loc<;>simp[ih]at a<;>subst a<;>exact g
 |mark j=>
  cases j<;>simp[MemAct.touch?]at b<;>subst b<;>simp[ih]at a<;>subst a<;>exact g
 |_=>exact cX
structure hR where
 bA:Nat->Prop
 bQ:Nat
 f:Nat
 af:Nat
 base:Nat
 aI:Nat
def o3(d:hR)(g:Nat->Nat)(e:Touch):Prop:=
 (∃a,e.loc=.cell a/\a.block=d.f/\e.kind≠.plain)∨(∃b,ih e.loc=f b/\g b=0/\b≠d.f/\b≠d.af/\¬d.bA b/\e.kind=.plain)
def n6(b:hR)(i:Nat->Nat)(j:Mem)(h:Nat)(a:Touch):Prop:=
 (∃e,a.loc=.cell e/\e.block=b.f/\a.kind=.atomic) ∨
 (a.kind=.plain/\((∃g,ih a.loc=f g/\i g=b.base+h)∨(∃d,a.loc=.cell ⟨b.af,d,n⟩/\b.aI*h<=d/\d<b.aI*h+b.aI)∨(a.write=v/\∃g d k,a.loc=.cell ⟨g,d,n⟩/\j g d=f k)))
structure fP(K:hR)(O:Nat->Nat)(aj:Nat->Mem)(o:Trace)(u bT:Nat):Prop where
 base:1<=K.base
 dd:O K.f=0
 dc:O K.af=0
 bU:K.af≠K.f
 dZ:¬K.bA K.f
 eB:¬K.bA K.af
 eA:∀i,K.bA i->O i=0
 bC:∀E,E<u->∀i r aa,aj E i r=f aa->O i=0/\i≠K.af/\i≠K.f/\¬K.bA i
 bQ:K.bQ<=o.size
 et:∀said,¬Race said o
 seen:∀op∈o,op.act.low bT
 old:∀e x,e<K.bQ->touchAt o e=f x->x.loc.isMemory=l->Knows o 0 e∨(jH K.bA x.loc/\x.kind=.atomic)
 eh:∀E,E<u->∀e x,e<K.bQ->touchAt o e=f x->x.loc.isMemory=l->Knows o (K.base+E) e∨(jH K.bA x.loc/\x.kind=.atomic)
 eJ:∀e x i,e<K.bQ->touchAt o e=f x->ih x.loc=f i->O i=0
 new:∀e x,K.bQ<=e->touchAt o e=f x->x.loc.isMemory=l->(o.g? e=f 0/\o3 K O x)∨(∃E,E<u/\o.g? e=f (K.base+E)/\n6 K O (aj E) E x)
 eo:∀E,E<u->∀e x,K.bQ<=e->touchAt o e=f x->o.g? e=f 0->x.write=l->∀i r aa,x.loc=.cell ⟨i,r,n⟩->aj E i r=f aa->Knows o (K.base+E) e
 over:∀e C,e<K.bQ->o.g? e=f C->C≠0->o.counts e->∃h,o.g? h=f 0/\HappensBefore o e h
section
variable {K:hR}{O ey:Nat->Nat}{aj:Nat->Mem}{o bz:Trace}{bT eg:Nat}
theorem zR{a}{C}(g:touchAt o e=f a)(b:o.g? e=f C):Knows o C e:=by
 obtain⟨h,d,_⟩:=touch_of g;have:h.g=C:=by simpa[Trace.g?,d]using b
 grind[knows_own]
def fP.low(j:fP K O aj o u bT){b}(g:touchAt o e=f b)(a:ih b.loc=f i):i<bT:=by obtain⟨k,h,d⟩:=touch_of g;exact aeu d (j.seen k (uF h)) a
def fP.eL(d:fP K O aj o u bT)(e:∀b,b<bT->ey b=O b)(aM:bT<=eg)(B:K.f<bT)(t:K.af<bT)(C:∀b,K.bA b->b<bT)(D:∀h,h<u->∀b r s,aj h b r=f s->b<bT):fP K ey aj o u eg:=by
 have F:∀k g,touchAt o k=f g->o3 K O g->o3 K ey g:=λk g m a=>by
  rcases a with a|⟨b,a,i,z⟩
  .exact .inl a
  exact .inr ⟨b,a,by rw[e b (d.low m a)];exact i,z⟩
 have E:∀h k g,touchAt o k=f g->n6 K O (aj h) h g->n6 K ey (aj h) h g:=λh k g m a=>by
  rcases a with a|⟨y,⟨b,a,i⟩|a⟩
  .exact .inl a
  .exact .inr ⟨y,.inl ⟨b,a,by rw[e b (d.low m a)];exact i⟩⟩
  exact .inr ⟨y,.inr a⟩
 refine⟨d.base,by rw[e _ B];exact d.dd,by rw[e _ t];exact d.dc,d.bU,d.dZ,d.eB,λb j=>by rw[e b (C b j)];exact d.eA b j,λh A b r s x=>by rw[e b (D h A b r s x)];exact d.bC h A b r s x,
  d.bQ,d.et,λw q=>MemAct.low_mono aM (d.seen w q),d.old,d.eh,λk g b p m j=>by rw[e b (d.low m j)];exact d.eJ k g b p m j,λk g p m O=>?_,d.eo,d.over⟩
 rcases d.new k g p m O with⟨a,i⟩|⟨h,a,i,z⟩
 .grind
 grind
def fP.fy(a:fP K O aj o u bT):K.bQ<=(o++bz).size:=fY a.bQ D
theorem ot(a:e<o.size):(o++bz).g? e=o.g? e:=by simp[Trace.g?,getElem?_append_old a]
def fP.fL(p:fP K O aj o u bT)(bz):∀a h,a<K.bQ->(o++bz).g? a=f h->h≠0->(o++bz).counts a->∃g,(o++bz).g? g=f 0/\HappensBefore (o++bz) a g:=by
 intro a h d b e j;have m:=eK d p.bQ;rw[ot m]at b;obtain⟨g,k,i⟩:=p.over a h d b e ((counts_old m).1 j);have q:g<o.size:=by unfold Trace.g? at k;grind
 exact⟨g,by grind[ot],hb_app bz i⟩
def MZ{a:Nat->Prop}{d}(e:jH a d)(b:ih d=f i):a i:=by cases d<;>simp[ih]at b<;>subst b<;>exact e
def fP.eE(t:fP K O aj o u bT){b}(k:b<u){a i}{said}(a0:o3 K O i)(j:n6 K O (aj b) b a)(gW:a.loc=i.loc)(g:a.kind=.plain∨i.kind=.plain∨(said=l/\a.kind=.said/\i.kind=.said))(q:i.kind=.plain->i.write=l->∀C r aa,i.loc=.cell ⟨C,r,n⟩->aj b C r≠f aa)(p:a.write=l∨i.write=l):False:=by
 have m:=t.base;rcases j with⟨e,dL,fc,jT⟩|⟨w,⟨s,dL,fc⟩|⟨r,dL,_⟩|⟨dL,C,r,aa,fc,jT⟩⟩
 .rcases a0 with⟨d,f1,f2,f3⟩|⟨s,f1,f2,f3,_⟩
  .grind
  exact RB
 .rcases a0 with⟨d,f1,f2,f3⟩|⟨h,f1,f2,f3,_⟩
  .rw[gW,f1]at dL;exact R0
  grind
 .rcases a0 with⟨d,f1,f2,f3⟩|⟨h,f1,f2,f3,f4,_⟩
  .rw[<-gW,dL]at f1;cases f1;exact t.bU f2
  exact RB
 obtain⟨A,x,y,z⟩:=t.bC b k C r aa jT;rcases a0 with⟨d,f1,f2,f3⟩|⟨h,f1,f2,f3,f4,_,f5⟩
 .grind
 grind
def fP.app0(t:fP K O aj o u bT)(C:∀a∈bz,a.g=0)(B:∀a∈bz,a.act.low bT)(y:∀a∈bz,∀b,a.act.touch?=f b->b.loc.isMemory=l->o3 K O b)(T:∀a∈bz,∀b,a.act.touch?=f b->b.kind=.plain->b.write=l->∀j,j<u->∀k s w,b.loc=.cell ⟨k,s,n⟩->aj j k s≠f w):fP K O aj (o++bz) u bT:=by
 have E:∀{d:Nat} {b:Touch},touchAt (o++bz) d=f b->(d<o.size/\touchAt o d=f b)∨(o.size<=d/\(o++bz).g? d=f 0/\∃a∈bz,a.act.touch?=f b):=by
  intro d b h;obtain⟨j,p,W⟩:=touch_of h;rcases getElem?_append_cases p with⟨bp,G⟩|⟨bp,N⟩
  .grind [touchAt_of]
  exact .inr ⟨bp,by simp[Trace.g?,p,C j N],j,N,W⟩
 refine⟨t.base,t.dd,t.dc,t.bU,t.dZ,t.eB,t.eA,t.bC,t.fy,λsaid=>?_,seen_app t.seen B,λd b bp h O=>?_,λj p d b bp h O=>?_,λd b k bp h q=>?_,λd b bp h O=>?_,λj p d b bp h x M k s w I D=>?_,t.fL bz⟩
 .refine noRace_append (t.et said) C λd b h a g k q e=>?_;have V:k.loc.isMemory=l:=by rw[<-e.1];exact e.2.1
  have a0:=y a g k q V;rcases dY d K.bQ with bp|bp
  .rcases t.old d b bp h e.2.1 with bY|⟨av,L⟩
   .exact bY
   exfalso;obtain⟨X,r⟩:=KX e.2.1;have R:=MZ av r;rcases a0 with⟨z,dL,fc,jT⟩|⟨H,dL,fc,jT,F,bB,S⟩
   .rw[e.1,dL]at r;simp[ih,e']at r;rw[<-r,fc]at R;exact t.dZ R
   rw[e.1,dL]at r;grind
  rcases t.new d b bp h e.2.1 with⟨x,_⟩|⟨j,p,x,Q⟩
  .grind [zR]
  exact(t.eE p a0 Q e.1 e.2.2.2 (λm i=>T a g k q m i j p) e.2.2.1).elim
 .have A:touchAt o d=f b:=F6;exact(t.old d b bp A O).imp (·.app bz) id
 .have A:touchAt o d=f b:=F6;exact(t.eh j p d b bp A O).imp (·.app bz) id
 .have A:touchAt o d=f b:=F6;exact t.eJ d b k bp A q
 .rcases E h with⟨m,i⟩|⟨_,i,a,g,J⟩
  .rw[ot m];exact t.new d b bp i O
  grind
 rcases E h with⟨m,i⟩|⟨_,i,a,g,J⟩
 .rw[ot m]at x;exact(t.eo j p d b bp i x M k s w I D).app bz
 exfalso;rcases y a g b J hK with⟨z,dL,fc,jT⟩|⟨H,_,_,_,_,_,S⟩
 .rw[I]at dL;cases dL;exact(t.bC j p k s w D).2.2.1 fc
 grind
def fP.h9(t:fP K O aj o u bT){r}(E:r<u)(U:∀k∈bz,k.g=K.base+r)(S:∀k∈bz,k.act.low bT)(ae:∀k∈bz,∀d,k.act.touch?=f d->d.loc.isMemory=l->n6 K O (aj r) r d):fP K O aj (o++bz) u bT:=by
 have W:=t.base;have X:∀{e:Nat} {d:Touch},touchAt (o++bz) e=f d->(e<o.size/\touchAt o e=f d)∨(o.size<=e/\(o++bz).g? e=f (K.base+r)/\∃k∈bz,k.act.touch?=f d):=by
  intro e d j;obtain⟨w,x,aa⟩:=touch_of j;rcases getElem?_append_cases x with⟨bp,ao⟩|⟨bp,M⟩
  .grind [touchAt_of]
  exact .inr ⟨bp,by simp[Trace.g?,x,U w M],w,M,aa⟩
 refine⟨t.base,t.dd,t.dc,t.bU,t.dZ,t.eB,t.eA,t.bC,t.fy,λsaid=>?_,seen_app t.seen S,λe d bp j O=>?_,λw x e d bp j O=>?_,λe d F bp j C=>?_,λe d bp j O=>?_,λw x e d bp j J T F i m Q N=>?_,t.fL bz⟩
 .refine noRace_append (t.et said) U λe d j k z F C h=>?_;have H:F.loc.isMemory=l:=by rw[<-h.1];exact h.2.1
  have a0:=ae k z F C H;obtain⟨ar,s⟩:=KX h.2.1;rcases dY e K.bQ with bp|bp
  .rcases t.eh r E e d bp j h.2.1 with D|⟨af,aq⟩
   .exact D
   exfalso;have B:=MZ af s;rw[h.1]at s;rcases a0 with⟨R,dL,fc,jT⟩|⟨ac,⟨ah,dL,fc⟩|⟨i,dL,_⟩|⟨dL,A,i,m,fc,jT⟩⟩
   .rw[dL]at s;simp[ih,e']at s;rw[<-s,fc]at B;exact t.dZ B
   .rw[dL]at s;simp[e']at s;rw[<-s]at B;rw[t.eA _ B]at fc;omega
   .rw[dL]at s;simp[ih,e']at s;rw[<-s]at B;exact t.eB B
   rw[fc]at s;simp[ih,e']at s;rw[<-s]at B;exact(t.bC r E A i m jT).2.2.2 B
  rcases t.new e d bp j h.2.1 with⟨J,G⟩|⟨w,x,J,L⟩
  ·
   by_cases y:d.write=l/\∃A i m,d.loc=.cell ⟨A,i,n⟩/\aj r A i=f m
   .obtain⟨g,A,i,m,p,br⟩:=y;exact t.eo r E e d bp j J g A i m p br
   exfalso;refine t.eE (said:=said) E G a0 h.1.symm ?_ (λ_ Z A i m q N=>y ⟨Z,A,i,m,q,N⟩) h.2.2.1.symm;rcases h.2.2.2 with D|D|⟨g,p,br⟩
   .grind
   .grind
   grind
  by_cases Y:w=r
  .grind [zR]
  exfalso;obtain⟨q,_,T,ak⟩:=h;rcases L with⟨R,dL,fc,jT⟩|⟨ac,⟨hf,dL,fc⟩|⟨i,dL,V,an⟩|⟨dL,A,i,m,fc,jT⟩⟩
  .rcases a0 with⟨b,f1,f2,f3⟩|⟨f0,⟨iU,f1,f2⟩|⟨i,f1,_⟩|⟨f1,A,i,m,f2,f3⟩⟩
   .grind
   .rw[<-q,dL]at f1;simp[ih,e']at f1;rw[<-f1,fc,t.dd]at f2;omega
   .rw[<-q,dL]at f1;cases f1;exact t.bU fc
   rw[<-q,dL]at f2;cases f2;exact(t.bC r E A i m f3).2.2.1 fc
  .rcases a0 with⟨b,f1,f2,f3⟩|⟨f0,⟨iU,f1,f2⟩|⟨i,f1,_⟩|⟨f1,A,i,m,f2,f3⟩⟩
   .rw[q,f1]at dL;exact R0
   .grind
   .rw[q,f1]at dL;simp[ih,e']at dL;rw[<-dL,t.dc]at fc;omega
   rw[q,f2]at dL;simp[ih,e']at dL;rw[<-dL,(t.bC r E A i m f3).1]at fc;omega
  .rcases a0 with⟨b,f1,f2,f3⟩|⟨f0,⟨iU,f1,f2⟩|⟨av,f1,P,ab⟩|⟨f1,A,av,m,f2,f3⟩⟩
   .rw[<-q,dL]at f1;cases f1;exact t.bU f2
   .rw[<-q,dL]at f1;simp[ih,e']at f1;rw[<-f1,t.dc]at f2;omega
   .rw[<-q,dL]at f1;cases f1;rcases Nat.lt_or_gt_of_ne Y with g|g
    .have:=xd K.aI (show w+1<=r from g);grind
    have:=xd K.aI (show r+1<=w from g);grind
   rw[<-q,dL]at f2;cases f2;exact(t.bC r E _ _ m f3).2.1 a
  rcases a0 with⟨b,f1,f2,f3⟩|⟨f0,⟨iU,f1,f2⟩|⟨av,f1,P,ab⟩|⟨f1,ag,av,ai,f2,f3⟩⟩
  .rw[<-q,fc]at f1;cases f1;exact(t.bC w x A i m jT).2.2.1 f2
  .rw[<-q,fc]at f1;simp[ih,e']at f1;rw[<-f1,(t.bC w x A i m jT).1]at f2;omega
  .rw[<-q,fc]at f1;cases f1;exact(t.bC w x _ _ m jT).2.1 a
  grind
 .have I:touchAt o e=f d:=F5;exact(t.old e d bp I O).imp (·.app bz) id
 .have I:touchAt o e=f d:=F5;exact(t.eh w x e d bp I O).imp (·.app bz) id
 .have I:touchAt o e=f d:=F5;exact t.eJ e d F bp I C
 .rcases X j with⟨g,p⟩|⟨_,p,k,z,aP⟩
  .rw[ot g];exact t.new e d bp p O
  grind
 rcases X j with⟨g,p⟩|⟨_,p,_⟩
 .rw[ot g]at J;exact(t.eo w x e d bp p J T F i m Q N).app bz
 grind
def fP.mute(b:fP K O aj o u bT){C}(z:∀h∈bz,h.g=C)(k:∀h∈bz,h.act.low bT)(t:∀h∈bz,h.act.touch?=n):fP K O aj (o++bz) u bT:=by
 have old:∀{d:Nat} {e:Touch},touchAt (o++bz) d=f e->d<o.size/\touchAt o d=f e:=by intro d e g;obtain⟨E,D,B⟩:=touch_of g;grind[touchAt_of]
 refine⟨b.base,b.dd,b.dc,b.bU,b.dZ,b.eB,b.eA,b.bC,b.fy,λsaid=>noRace_append (b.et said) z λd e _ h q j i _=>N,seen_app b.seen k,λd e a g O=>(b.old d e a (old g).2 O).imp (·.app bz) id,
  λp m d e a g O=>(b.eh p m d e a (old g).2 O).imp (·.app bz) id,λd e j a g i=>b.eJ d e j a (old g).2 i,λd e a g O=>?_,λp m d e a g r w j x A s y=>?_,b.fL bz⟩
 .rw[ot (old g).1];exact b.new d e a (old g).2 O
 rw[ot (old g).1]at r;exact(b.eo p m d e a (old g).2 r w j x A s y).app bz
def fP.gi(h:fP K O aj o u bT){q r}(Q:q.g=0/\q.act=.go (K.base+u))(E:r.g=K.base+u/\r.act=.start)(F:Deaf o 0=0)(z:Deaf o (K.base+u)=0)(V:∀e t x,aj u e t=f x->O e=0/\e≠K.af/\e≠K.f/\¬K.bA e):fP K O aj (o++#[q,r]) (u+1) bT:=by
 have y:∀g∈#[q,r],g.act.touch?=n:=by
  intro g a;simp[List.mem_toArray,fh,sE,or_false]at a;rcases a with rfl|rfl
  .exact hK
  exact hK
 have M:∀g∈#[q,r],g.act.low bT:=by
  intro g a;simp[List.mem_toArray,fh,sE,or_false]at a;rcases a with rfl|rfl
  .exact hK
  exact hK
 have old:∀{i:Nat} {k:Touch},touchAt (o++#[q,r]) i=f k->i<o.size/\touchAt o i=f k:=by intro i k m;obtain⟨p,D,T⟩:=touch_of m;grind[touchAt_of]
 have j:∀p,p<u+1->∀e t x,aj p e t=f x->O e=0/\e≠K.af/\e≠K.f/\¬K.bA e:=λp D e t x A=>by
  rcases dY p u with b|b
  .exact h.bC p b e t x A
  grind
 refine⟨h.base,h.dd,h.dc,h.bU,h.dZ,h.eB,h.eA,j,h.fy,λsaid=>?_,seen_app h.seen M,λi k d m O=>(h.old i k d (old m).2 O).imp (·.app _) id,
  λp D i k d m O=>?_,λi k e d m s=>h.eJ i k e d (old m).2 s,λi k d m O=>?_,λp D i k d m B S e t x R A=>?_,h.fL _⟩
 .have I:o++#[q,r]=(o++#[q])++#[r]:=N;rw[I];refine noRace_append (g:=K.base+u) (noRace_append (g:=0) (h.et said) (λg a=>by grind) (λi k _ g a e s _=>N)) (λg a=>by grind) (λi k _ g a e s _=>?_);grind
 .rcases dY p u with b|b
  .exact(h.eh p b i k d (old m).2 O).imp (·.app _) id
  obtain rfl:p=u:=w;exact(h.old i k d (old m).2 O).imp (fork_knows Q E F z) id
 .rw[ot (old m).1];rcases h.new i k d (old m).2 O with b|⟨p,b,J⟩
  .grind
  grind
 rw[ot (old m).1]at B;rcases dY p u with b|b
 .exact(h.eo p b i k d (old m).2 B S e t x R A).app _
 obtain rfl:p=u:=w;exact fork_knows Q E F z (zR (old m).2 B)
def fP.jI(h:fP K O aj o u bT)(H:Deaf o 0=0)(z:NoRelease (stA K.f) o){bk}(F:o.act? bk=f (.mark (.acquire (stA K.f))))(C:o.g? bk=f 0)(E:o.heard bk)(J:∀d,d<u->∃j,RelBy (stA K.f) o (K.base+d) j/\j<bk):Past (jH λp=>K.bA p∨p=K.f) bT o:=by
 have B:∀d,d<u->∀a,o.g? a=f (K.base+d)->o.counts a->HappensBefore o a bk:=by
  intro d r a i m;obtain⟨j,s,Q⟩:=J d r;have S:HappensBefore o j bk:=.single (.inr ⟨.marked Q (.inr s.act) F (λU _ _=>z U),s.heard,E⟩);have L:a<=j:=Nat.le_of_not_lt λA=>s.after a A i m;rcases dY a j with A|G
  .exact .trans (.single (.inl ⟨A,_,i,s.g⟩)) S
  grind
 have V:∀{t:Go.Loc},jH K.bA t->jH (λp=>K.bA p∨p=K.f) t:=λ{t} q=>by cases t<;>first|exact .inl q|exact q
 refine⟨h.et,λa g k O=>?_,λa T i M m=>?_,H,h.seen⟩
 .rcases dY a K.bQ with b|b
  .exact(h.old a g b k O).imp id λ⟨e,w⟩=>⟨V e,w⟩
  rcases h.new a g b k O with⟨e,_⟩|⟨d,r,i,a0⟩
  .grind [zR]
  rcases a0 with⟨R,dL,fc,jT⟩|⟨bB,_⟩
  .exact .inr ⟨by rw[dL];exact .inr fc,jT⟩
  left;have m:o.counts a:=⟨g,k,O,.inl N⟩
  obtain⟨W,I,D⟩:=rm.1 C;exact⟨bk,W,I,D,.inr (B d r a i m)⟩
 rcases dY a K.bQ with b|b
 .exact h.over a T b i M m
 obtain⟨g,k,O,x⟩:=m;rcases h.new a g b k O with⟨e,_⟩|⟨d,r,y,a0⟩
 .grind
 exact⟨bk,C,B d r a y ⟨g,k,O,x⟩⟩
def fP.start{K}{o}{bT}{m:Nat->Mem}(d:Past (jH K.bA) bT o)(a0:K.bQ=o.size)(h:1<=K.base)(g:K.af≠K.f)(s:¬K.bA K.f)(q:¬K.bA K.af):fP K (λ_=>0) m o 0 bT:=
 ⟨h,rfl,rfl,g,s,q,λ_ _=>rfl,λb a=>absurd a (iS b),by omega,d.clean,d.seen,λe j _ i k=>d.known e j i k,λb a=>absurd a (iS b),λ_ _ _ _ _ _=>rfl,
  λe j r i _=>by
   obtain⟨b,a,_⟩:=touch_of i
   grind,λb a=>absurd a (iS b),λe p _ t g u=>d.over e p t g u⟩
end
end
section
open Go.Conc
open Go.ConcN (WD CTag Mode Vc Ssum pend phi cnt WgLive PayAt Has RW DWs WSit RelBy sumTo upd upd_same upd_ne AtR0 get_map_set get_map_set_same norel_of Deaf_still)
open Go.ConcR (KK WgAt stA smA rd wr mk Payload g_of_ofEvents)
def af.c'(P):af P:={b5:=v,rely:=c0,dk:=λ_ _ _=>False,bO:=id,dV:=True}
def af.aE(P)(d:an)(a:Nat):af P:={b5:=l,rely:=λe b=>c0 e b/\(WgLive d a e.a->WgLive d a b.a),dk:=λ_ _ _=>False,bO:=λg=>g.1,dV:=False}
instance (P:aD):(af.c' P).bZ:=⟨B⟩
def eV:a6->a6->Array aN->Prop:=λ_ _ _=>False
def dR(b:Nat):a6->a6->Array aN->Prop:=λg e a=>e=g/\∃d:Addr,d.block=b/\(a=#[mk (.read d)]∨a=#[mk (.write d)])
def pY:Nat->Go.Loc->Prop:=λ_ _=>False
variable [Payload]
structure SN(M F ff h:Nat)(z:Nat->X)(p bi:au):Prop where
 tape:bi.tape=p.tape
 os:bi.os=p.os
 output:bi.output=p.output
 size:bi.heap.size=p.heap.size
 block:∀i,i≠M->bi.heap[i]?=p.heap[i]?
 bP:PayAt M F bi
 hD:∀r,(r<ff∨ff+h<=r)->bi.cell? ⟨M,r,n⟩=p.cell? ⟨M,r,n⟩
 new:∀e,e<h->bi.cell? ⟨M,ff+e,n⟩=f (z e)
section
variable (P:aD)(ty:an)(K:hR)(F:Nat)(val:Nat->Nat->X)
def uo(a:Nat)(g:ag)(h:a6):Prop:=
 g.status=.running/\∀w1,c0 h {h with a:=w1}->PayAt K.af F w1->WgLive ty K.f w1 ->
  ∃d w2 b,ap P v g w1=.go d w2 b/\SN K.af F (K.aI*a) K.aI (val a) w1 w2/\(∀i∈b,∃e,i=⟨.cell ⟨K.af,e,n⟩,l,v⟩/\K.aI*a<=e/\e<K.aI*a+K.aI) /\
   ∃j,Goes P v (RW ty K.f K.af F 0 (K.aI*a)) Go.ConcR.DC0 (AtR0 P ty K.f K.af F 0 (K.aI*a+1) (val a 0)) j d w2
end
structure hG(aj:Nat->Nat)(a7:Mem)(C:Nat)(b:a6):Prop where
 blk:∀i,(b.own i∨∃L∈b.t,i∈L.al)->aj i=C/\i<b.a.heap.size
 D:∀i r aa,b.D i r=f aa->(aj i=C∨a7 i r=f aa)/\i<b.a.heap.size
structure gA(K:hR)(aj:Nat->Nat)(Q:Nat->Mem)(u:Nat)(b:a6):Prop where
 blk:∀i,(b.own i∨∃L∈b.t,i∈L.al)->aj i=0/\i≠K.af/\i≠K.f/\¬K.bA i/\i<b.a.heap.size
 D:∀i r aa,b.D i r=f aa->aj i=0/\i≠K.af/\i≠K.f/\¬K.bA i/\i<b.a.heap.size
 bC:∀E,E<u->∀i r aa,Q E i r=f aa->b.D i r=f aa
structure lH(K:hR)(aj:Nat->Nat)(a7:Mem)(bD:Nat)(p bi:au):Prop where
 size:p.heap.size<=bi.heap.size
 blk:∀i,i<p.heap.size->aj i=K.base+bD->bi.heap[i]?=p.heap[i]?
 cell:∀i r aa,a7 i r=f aa->p.cell? ⟨i,r,n⟩=f aa->bi.cell? ⟨i,r,n⟩=f aa
 bP:∀r,K.aI*bD<=r->r<K.aI*bD+K.aI->bi.cell? ⟨K.af,r,n⟩=p.cell? ⟨K.af,r,n⟩
 os:bi.os=p.os
 tape:bi.tape=p.tape
 output:bi.output=p.output
omit [Payload]in
def lH.refl(K)(a:Nat->Nat)(d)(bD)(p):lH K a d bD p p:=⟨bC _,λ_ _ _=>rfl,λ_ _ _ _ b=>b,λ_ _ _=>rfl,rfl,rfl,rfl⟩
omit [Payload]in
def lH.at(K)(b:Nat->Nat)(e)(bD)(p)(a):lH K b e bD p (p.at a):=⟨bC _,λ_ _ _=>rfl,λ_ _ _ _ d=>d,λ_ _ _=>rfl,rfl,rfl,rfl⟩
structure rk(K:hR)(aj:Nat->Nat)(p bi:au):Prop where
 size:p.heap.size<=bi.heap.size
 blk:∀i,i<p.heap.size->aj i=0->i≠K.af->i≠K.f->bi.heap[i]?=p.heap[i]?
 os:bi.os=p.os
 tape:bi.tape=p.tape
 output:bi.output=p.output
omit [Payload]in
def nn(a:bi.heap[i]?=p.heap[i]?)(r):bi.cell? ⟨i,r,n⟩=p.cell? ⟨i,r,n⟩:=by simp[aH,a]
omit [Payload]in
def c0.eG(e:c0 b {b with a:=p})(q:p.heap.size<=bi.heap.size)(k:∀d,(b.own d∨∃L∈b.t,d∈L.al)->bi.heap[d]?=p.heap[d]?)(a:∀d g h,b.D d g=f h->p.cell? ⟨d,g,n⟩=f h->bi.cell? ⟨d,g,n⟩=f h)(m:bi.os=p.os)(o:bi.tape=p.tape)(r:bi.output=p.output):c0 b {b with a:=bi}:=
 ⟨rfl,rfl,rfl,fY e.size q,λd i=>by show bi.heap[d]?=_;rw[k d i];exact e.a4 d i,λd g h j=>a d g h j (e.mem d g h j),m.trans e.os,o.trans e.tape,r.trans e.output⟩
section
variable {K:hR}{aj ey:Nat->Nat}{Q:Nat->Mem}{bD:Nat}
omit [Payload]in
def hG.dg(k:hG aj (Q bD) (K.base+bD) b)(j:c0 b {b with a:=p})(a:lH K aj (Q bD) bD p bi):c0 b {b with a:=bi}:=by
 have m:=j.size;refine j.eG a.size (λe q=>?_) (λe g o r i=>?_) a.os a.tape a.output
 .obtain⟨d,h⟩:=k.blk e q;exact a.blk e (eK h m) d
 obtain⟨d,h⟩:=k.D e g o r;rcases d with d|d
 .rw[nn (a.blk e (eK h m) d) g];exact i
 exact a.cell e g o d i
omit [Payload]in
def hG.eL{h}{C}(g:hG aj h C b)(q:b.a.heap.size<=p.heap.size)(o:∀a,a<p.heap.size->ey a=aj a):hG ey h C b:=
 ⟨λa i=>let ⟨d,e⟩:=g.blk a i;⟨by grind,e⟩,λa j m k=>let ⟨d,e⟩:=g.D a j m k;⟨by grind,e⟩⟩
omit [Payload]in
def gA.dg(j:gA K aj Q u b)(i:c0 b {b with a:=p})(a:rk K aj p bi):c0 b {b with a:=bi}:=by
 have m:=i.size;refine i.eG a.size (λe q=>?_) (λe k s r o=>?_) a.os a.tape a.output
 .obtain⟨d,g,h,H,y⟩:=j.blk e q;exact a.blk e (eK y m) d g h
 obtain⟨d,g,h,H,y⟩:=j.D e k s r;rw[nn (a.blk e (eK y m) d g h) k];exact o
omit [Payload]in
def gA.eL(e:gA K aj Q u b)(q:b.a.heap.size<=p.heap.size)(o:∀a,a<p.heap.size->ey a=aj a):gA K ey Q u b:=
 ⟨λa i=>let ⟨d,g,h,H,y⟩:=e.blk a i;⟨by grind,g,h,H,y⟩,
  λa j m k=>let ⟨d,g,h,H,y⟩:=e.D a j m k;⟨by grind,g,h,H,y⟩,e.bC⟩
omit [Payload]in
def hG.rely{i}{C}(h:hG aj i C b)(g:b.a.heap.size<=p.heap.size):hG aj i C {b with a:=p}:=
 ⟨λa j=>let ⟨d,e⟩:=h.blk a j;⟨d,eK e g⟩,λa k o m=>let ⟨d,e⟩:=h.D a k o m;⟨d,eK e g⟩⟩
omit [Payload]in
def gA.rely(e:gA K aj Q u b)(i:b.a.heap.size<=p.heap.size):gA K aj Q u {b with a:=p}:=
 ⟨λa j=>let ⟨d,g,h,H,y⟩:=e.blk a j;⟨d,g,h,H,eK y i⟩,λa k o m=>let ⟨d,g,h,H,y⟩:=e.D a k o m;⟨d,g,h,H,eK y i⟩,e.bC⟩
omit [Payload]in
theorem hG.aO{e}{C}(a:hG aj e C b)(h:e_ b aF):hG aj e C aF:=by
 refine⟨λi s=>by rw[h.a];exact a.blk i (h.blk i s),λi g j bk=>?_⟩;rw[h.a];by_cases s:∃L∈b.t,i∈L.al
 .obtain⟨d,k⟩:=a.blk i (.inr s);grind
 exact a.D i g j Si
omit [Payload]in
def hG.b2{h}{C}(e:hG aj h C b)(a:n1 b aF):hG aj h C aF:=
 ⟨λd j=>by rw[a.a];exact e.blk d (by rw[<-a.own,<-a.t];exact j),λd g i k=>by rw[a.a];exact e.D d g i (a.e8 d g i k)⟩
omit [Payload]in
theorem gA.aO(a:gA K aj Q u b)(h:e_ b aF):gA K aj Q u aF:=by
 refine⟨λi s=>by rw[h.a];exact a.blk i (h.blk i s),λi d e bk=>?_,λj g i d e bk=>h.mem _ _ _ (a.bC j g i d e bk)⟩;rw[h.a];by_cases s:∃L∈b.t,i∈L.al
 .exact a.blk i (.inr s)
 exact a.D i d e Si
def l0(d:Nat->Nat)(b e:Nat):Nat->Nat:=λa=>if a<b then d a else e
omit [Payload]in
theorem lo{b:Nat->Nat}{a C}(d:i<a):l0 b a C i=b i:=by simp[l0,d]
omit [Payload]in
theorem Dn{b:Nat->Nat}{a C}(d:a<=i):l0 b a C i=C:=by simp[l0,p'.2 d]
omit [Payload]in
def hG.step{m}{C}(h:hG aj m C b)(G:bc aq aF)(e:cO k b aq aF):hG (l0 aj b.a.heap.size C) m C aF:=by
 refine⟨λa d=>?_,λa q s j=>?_⟩
 .rcases d with d|⟨L,W,d⟩
  .rw[e.own]at d;obtain⟨g,r⟩:=h.blk a (.inl d);exact⟨by grind[lo],eK r e.size⟩
  have i:=G.lt L W a d;rcases e.bR L W a d with g|⟨p,o,g⟩
  .grind [Dn]
  obtain⟨k1,aP⟩:=h.blk a (.inr ⟨p,o,g⟩);grind[lo]
 have i:=gB.lt G.mem j;rcases dY a b.a.heap.size with g|g
 .rw[lo g];by_cases d:∃L∈b.t,a∈L.al
  .exact⟨.inl (h.blk a (.inr d)).1,i⟩
  rw[e.bz a g (λL W t=>d ⟨L,W,t⟩)]at j;exact⟨(h.D a q s j).1,i⟩
 grind[Dn]
omit [Payload]in
def gA.step(h:gA K aj Q u b)(G:bc aq aF)(d:cO k b aq aF)(B:K.f<b.a.heap.size)(z:K.af<b.a.heap.size)(A:∀a,K.bA a->a<b.a.heap.size):gA K (l0 aj b.a.heap.size 0) Q u aF:=by
 have F:∀a,b.a.heap.size<=a->a<aF.a.heap.size->l0 aj b.a.heap.size 0 a=0/\a≠K.af/\a≠K.f/\¬K.bA a/\a<aF.a.heap.size:=λa g m=>
  ⟨Dn g,by omega,by omega,λI=>by grind,m⟩
 refine⟨λa e=>?_,λa j o i=>?_,λD w a j o i=>d.mem _ _ _ (h.bC D w a j o i)⟩
 .rcases e with e|⟨L,W,e⟩
  .rw[d.own]at e;obtain⟨g,m,C,H,y⟩:=h.blk a (.inl e);exact⟨by grind[lo],m,C,H,eK y d.size⟩
  have s:=G.lt L W a e;rcases d.bR L W a e with g|⟨x,t,g⟩
  .grind
  obtain⟨k1,aP,p,r,q⟩:=h.blk a (.inr ⟨x,t,g⟩);grind[lo]
 have s:=gB.lt G.mem i;rcases dY a b.a.heap.size with g|g
 .by_cases e:∃L∈b.t,a∈L.al
  .obtain⟨k1,aP,p,r,q⟩:=h.blk a (.inr e);grind[lo]
  rw[d.bz a g (λL W E=>e ⟨L,W,E⟩)]at i;obtain⟨k1,aP,p,r,q⟩:=h.D a j o i;grind[lo]
 grind
end
end
section
open Go.Conc
open Go.ConcN (WD CTag Mode Vc Ssum pend phi cnt WgLive PayAt Has RW DWs WSit RelBy sumTo upd upd_same upd_ne AtR0 get_map_set get_map_set_same norel_of Deaf_still)
open Go.ConcR (KK WgAt stA smA rd wr mk Payload g_of_ofEvents)
variable [Payload]
section
variable (P:aD)(ty:an)(K:hR)(F:Nat)(val:Nat->Nat->X)(d:Nat->Nat)(s:Nat->Mem)
inductive hS (E:Nat):Nat->Nat->cr->Nat->ag->au->Prop
 |da {a7:cr} {C:ag} {b:a6} {p:au}:gN (af.c' P) eV (uo P ty K F val E) a7 C b->c0 b {b with a:=p}->hG d (s E) (K.base+E) b->hS E 1 7 a7 0 C p
 |rel {A:Nat} {C:ag} {p:au}:Goes P v (RW ty K.f K.af F 0 (K.aI*E)) Go.ConcR.DC0 (AtR0 P ty K.f K.af F 0 (K.aI*E+1) (val E 0)) A C p->hS E 0 7 (cr.dI A) 0 C p
 |tail {b_ A O:Nat} {C:ag} {p:au}:b_<=6->WSit P ty K.f K.af F pY pY 0 (K.aI*E+1) (val E 0) b_ A O C p->hS E 0 b_ (cr.dI A) O C p
structure is(u:Nat)(gs:Array ag)(p:au)(o:Trace)(y:Nat->WD)(Q:Nat->Nat)(av:Nat->cr)(d0:Nat):Prop where
 size:gs.size=K.base+u
 dr:∀e C,0<e->e<K.base->gs[e]?=f C->∃A,av e=cr.dI A/\QuitsD P A (Deaf o e) C
 above:∀e,K.base+u<=e->Deaf o e=0
 c_:∀E,E<u->∃C,gs[K.base+E]?=f C/\hS P ty K F val d s E (Q E) (y E).stage (av (K.base+E)) (y E).deaf C p
 bo:fP K d s o u p.heap.size
 dX:nb o
 dA:Deaf o 0=d0
 dB:∀E,E<u->Deaf o (K.base+E)=(y E).deaf
 rel:∀E,E<u->(y E).stage<=6->∃a7,RelBy (stA K.f) o (K.base+E) a7
 dn:∀E,E<u->Q E=0->∀e,1<=e->e<K.aI->p.cell? ⟨K.af,K.aI*E+e,n⟩=f (val E e)
 dN:∀E,E<u->(y E).stage<=6->Has K.af (K.aI*E) (val E 0) p
 bP:PayAt K.af F p
 cZ:WgLive ty K.f p
 cl:K.f<p.heap.size
 cx:K.af<p.heap.size
 dp:∀i,K.bA i->i<p.heap.size
 aI:0<K.aI
 dG:∀bD,bD<u->∀i r aa,s bD i r=f aa->i<p.heap.size
end
section
variable {P:aD}{ty:an}{K:hR}{F:Nat}{val:Nat->Nat->X}{d ey:Nat->Nat}{s:Nat->Mem}{E:Nat}{o:Trace}{y:Nat->WD}{Q:Nat->Nat}{av:Nat->cr}{d0:Nat}
def RW.dg(i:lH K d (s E) E p bi)(b:WgLive ty K.f bi)(e:PayAt K.af F bi)(h:0<K.aI):RW ty K.f K.af F 0 (K.aI*E+1-1) p bi:=
 ⟨λg a=>absurd a (iS g),λ_=>b,λ_=>e,i.bP _ (bC _) N⟩
def hS.dg{o b_ q}{t}{C}(u:hS P ty K F val d s E o b_ t q C p)(m:lH K d (s E) E p bi)(h:WgLive ty K.f bi)(r:PayAt K.af F bi)(g:0<K.aI)(k:∀i,i<p.heap.size->ey i=d i):
  hS P ty K F val ey s E o b_ t q C bi:=by
 cases u with
 |da a b e=>exact .da a (e.dg b m) (e.eL b.size k)
 |rel a=>exact .rel (Goes.rely (λ_ _ _ a b=>a.trans b) a (RW.dg m h r g))
 |tail j a=>exact .tail j (a.rely (RW.dg m h r g))
omit [Payload]in
def gN.run{i:af P}{h:a6->a6->Array aN->Prop}{e:ag->a6->Prop}(g:∀b d,e b d->b.status=.running):∀{a7:cr}{b:ag}{d:a6},gN i h e a7 b d->b.status=.running
 |.leaf,_,_,a=>g _ _ a
 |.node j,b,d,a=>by
  rcases a with a|⟨k,_,a⟩|⟨a,_⟩
  .grind
  .exact gN.run g (a7:=j d) a
  grind
def hS.status{e b_ g}{h}{C}(b:hS P ty K F val d s E e b_ h g C p):C.status=.running∨C.status=.finished:=by
 cases b with
 |da a _ _=>exact .inl (a.run λC i b=>b.1)
 |rel a=>exact .inl (Goes.running (λ_ _ E=>E.1) p (Go.ConcN.RW.refl p) a)
 |tail _ a=>exact a.status
def hS.woken{a b_ b}{h}{C}(g:hS P ty K F val d s E a b_ h b C p)(i e)(bi):woken P i e bi C=C:=by
 unfold Go.Conc.woken;split
 .exact again_running _ g.status
 simp
def is.at(a:is P ty K F val d s u gs p o y Q av d0)(e):is P ty K F val d s u gs (p.at e) o y Q av d0:=
 ⟨a.size,a.dr,a.above,λg b=>let ⟨C,cY,dC⟩:=a.c_ g b;⟨C,cY,dC.dg (.at ..) a.cZ a.bP a.aI λ_ _=>rfl⟩,a.bo,a.dX,a.dA,a.dB,a.rel,a.dn,a.dN,a.bP,a.cZ,a.cl,a.cx,a.dp,a.aI,a.dG⟩
def is.aT(t:is P ty K F val d s u gs p o y Q av d0)(U:E<u){m}{fn}{pos}{V}{z k A}{N}(J:∀q,q<p.heap.size->ey q=d q)(O:p.heap.size<=bi.heap.size)(Y:∀b,b<u->b≠E->lH K d (s b) b p bi)(az:hS P ty K F val ey s E z k N A m bi)(aw:∀g∈V,(aJ g).low bi.heap.size)(aB:∀g∈V,∀D,(aJ g).touch?=f D->D.loc.isMemory=l->n6 K ey (s E) E D)(ai:∀g∈V,∀D,g.loc≠.mark (.release D))(L:deafBehind (y E).deaf V=A)(ax:k<=6->∃Z,RelBy (stA K.f) (o++MemOp.ofEvents (K.base+E) fn pos V) (K.base+E) Z)(ao:z=0->∀e,1<=e->e<K.aI->bi.cell? ⟨K.af,K.aI*E+e,n⟩=f (val E e))(an:k<=6->Has K.af (K.aI*E) (val E 0) bi)(G:PayAt K.af F bi)(ag:WgLive ty K.f bi):
  is P ty K F val ey s u ((gs.map (woken P C m bi)).setIfInBounds (K.base+E) m) bi (o++MemOp.ofEvents (K.base+E) fn pos V) (upd y E ⟨k,0,A⟩) (upd Q E z) (upd av (K.base+E) N) d0:=by
 have I:=t.bo.base;have R:∀b,b≠E->K.base+E≠K.base+b:=λb i g=>i w;have ak:∀e r,0<e->e<K.base->((gs.map (Go.Conc.woken P C m bi)).setIfInBounds (K.base+E) m)[e]?=f r->gs[e]?=f r:=by intro e r bp j h;rw[get_map_set _ _ _ _ w]at h;obtain⟨au,W,rfl⟩:=rm.1 h;obtain⟨af,_,ar⟩:=t.dr e au bp j W;grind[woken_quitsD]
 refine⟨by simp[t.size],λe r bp j h=>?_,λe bp=>?_,λb i=>?_,?_,t.dX.app ai,by rw[Deaf_other o w _ g_of_ofEvents,t.dA],λb i=>?_,λb i B=>?_,λb i S e ah aj=>?_,λb i B=>?_,G,ag,eK t.cl O,eK t.cx O,λq I=>eK (t.dp q I) O,t.aI,λb i q X aa aP=>eK (t.dG b i q X aa aP) O⟩
 .obtain⟨af,ab,ae⟩:=t.dr e r bp j (ak e r bp j h);refine⟨af,by rw[upd_ne av _ w];omega,?_⟩;rw[Deaf_other o w _ g_of_ofEvents];omega
 .exact Pb
 .by_cases g:b=E
  .subst g;exact⟨m,get_map_set_same _ _ _ (by rw[t.size];omega),by rw[upd_same,upd_same,upd_same];omega⟩
  obtain⟨r,h,H⟩:=t.c_ b i;refine⟨r,by rw[get_map_set _ _ _ _ (R b g),h,lK,H.woken],?_⟩;rw[upd_ne Q _ g,upd_ne y _ g,upd_ne av _ (R b g).symm];exact H.dg (Y b i g) ag G t.aI J
 .refine(t.bo.eL J O t.cl t.cx t.dp λb i q X aa aP=>?_).h9 U (λM x=>by grind[Go.Conc.mem_ofEvents]) (λM x=>?_) (λM x D S a=>?_)
  .exact t.dG b i q X aa aP
  .exact FG
  grind[Go.Conc.mem_ofEvents]
 .by_cases g:b=E
  .subst g;rw[Deaf_own,t.dB b i,upd_same];omega
  rw[Deaf_other o (R b g) _ g_of_ofEvents,t.dB b i,upd_ne y _ g]
 .by_cases g:b=E
  .subst g;rw[upd_same]at B;grind
  rw[upd_ne y _ g]at B;obtain⟨Z,T⟩:=t.rel b i B;exact⟨Z,T.appOther g_of_ofEvents (R b g)⟩
 .by_cases g:b=E
  .subst g;rw[upd_same]at S;grind
  rw[upd_ne Q _ g]at S;rw[(Y b i g).bP _ w w];exact t.dn b i S e ah aj
 by_cases g:b=E
 .subst g;rw[upd_same]at B;grind
 rw[upd_ne y _ g]at B;have:=t.dN b i B;have aq:=t.aI;simp only[Has]at this⊢;rw[(Y b i g).bP _ w w];omega
def is.hU(t:is P ty K F val d s u gs p o y Q av d0){hB}{fn}{pos}{V}(x:∀k,k<p.heap.size->ey k=d k)(A:p.heap.size<=bi.heap.size)(I:∀b,b<u->lH K d (s b) b p bi)(ae:∀m∈V,(aJ m).low bi.heap.size)(a:∀m∈V,∀i,(aJ m).touch?=f i->i.loc.isMemory=l->o3 K ey i)(af:∀m∈V,∀i,(aJ m).touch?=f i->i.kind=.plain->i.write=l->∀R,R<u->∀k B J,i.loc=.cell ⟨k,B,n⟩->s R k B≠f J)(H:∀m∈V,∀i,m.loc≠.mark (.release i))(O:PayAt K.af F bi)(N:WgLive ty K.f bi):
  is P ty K F val ey s u ((gs.map (woken P C hB bi)).setIfInBounds 0 hB) bi (o++MemOp.ofEvents 0 fn pos V) y Q av (deafBehind d0 V):=by
 have r:=t.bo.base;have Y:=t.aI;refine⟨by simp[t.size],λe aP bp z h=>?_,λe bp=>?_,λb g=>?_,?_,t.dX.app H,by rw[Deaf_own,t.dA],λb g=>by rw[Deaf_other o w _ g_of_ofEvents,t.dB b g],λb g D=>?_,λb g E e G S=>?_,λb g D=>?_,O,N,eK t.cl A,eK t.cx A,λk r=>eK (t.dp k r) A,t.aI,λb g k B J X=>eK (t.dG b g k B J X) A⟩
 .rw[get_map_set _ _ _ _ w]at h;obtain⟨ab,U,rfl⟩:=rm.1 h;obtain⟨Z,T,L⟩:=t.dr e ab bp z U;exact⟨Z,T,by rw[woken_quitsD L,Deaf_other o w _ g_of_ofEvents];omega⟩
 .exact Pb
 .obtain⟨aP,h,M⟩:=t.c_ b g;exact⟨aP,by rw[get_map_set _ _ _ _ w,h,lK,M.woken],M.dg (I b g) N O t.aI x⟩
 .refine(t.bo.eL x A t.cl t.cx t.dp t.dG).app0 (λq j=>by grind[Go.Conc.mem_ofEvents]) (λq j=>FG) (λq j i E ag=>FG) (λq j i E=>?_);grind[Go.Conc.mem_ofEvents]
 .obtain⟨aa,W⟩:=t.rel b g D;exact⟨aa,W.appOther g_of_ofEvents w⟩
 .rw[(I b g).bP _ w w];exact t.dn b g E e G S
 have:=t.dN b g D;simp only[Has]at this⊢;rw[(I b g).bP _ w w];omega
def is.bs(b:is P ty K F val d s u gs p o y Q av d0)(S:0<e)(M:e<K.base){i}{fn}{pos}{V}(U:∀g∈V,g.mute=l)(J:QuitsD P A (deafBehind (Deaf o e) V) i):
  is P ty K F val d s u ((gs.map (woken P C i p)).setIfInBounds e i) p (o++MemOp.ofEvents e fn pos V) y Q (upd av e (cr.dI A)) d0:=by
 have R:=b.bo.base;have T:∀g∈V,∀z,g.loc≠.mark (.release z):=λg D z=>La (U g D) z;refine⟨by simp[b.size],λx B j m a=>?_,λx j=>?_,λt k=>?_,?_,b.dX.app T,by rw[Deaf_other o w _ g_of_ofEvents,b.dA],λt k=>by rw[Deaf_other o w _ g_of_ofEvents,b.dB t k],λt k O=>?_,b.dn,b.dN,b.bP,b.cZ,b.cl,b.cx,b.dp,b.aI,b.dG⟩
 .by_cases g:x=e
  .subst g;rw[get_map_set_same _ _ _ N]at a;cases a;exact⟨A,by rw[upd_same],by grind[Deaf_own]⟩
  rw[get_map_set _ _ _ _ (o8 g)]at a;obtain⟨Y,I,rfl⟩:=rm.1 a;obtain⟨H,G,X⟩:=b.dr x Y j m I;exact⟨H,by rw[upd_ne av _ g];omega,by rw[woken_quitsD X,Deaf_other o (o8 g) _ g_of_ofEvents];omega⟩
 .rw[Deaf_other o w _ g_of_ofEvents];exact b.above x j
 .obtain⟨B,a,r⟩:=b.c_ t k;exact⟨B,by rw[get_map_set _ _ _ _ w,a,lK,r.woken],by rw[upd_ne av _ w];omega⟩
 .exact b.bo.mute (C:=e) (λq h=>by grind[Go.Conc.mem_ofEvents]) (λq h=>by grind[Go.Conc.mem_ofEvents,low_mute]) (λq h=>by grind[Go.Conc.mem_ofEvents,touch_mute])
 obtain⟨W,E⟩:=b.rel t k O;exact⟨W,E.appOther g_of_ofEvents w⟩
def is.spawn(e:is P ty K F val d s u gs p o y Q av 0){fW rF}{E bD}{J}(aP:E.g=0/\E.act=.go (K.base+u))(G:bD.g=K.base+u/\bD.act=.start)(V:∀i B D,s u i B=f D->d i=0/\i≠K.af/\i≠K.f/\¬K.bA i/\i<p.heap.size)(W:gN (af.c' P) eV (uo P ty K F val u) J rF b)(M:c0 b {b with a:=p})(U:hG d (s u) (K.base+u) b):
  is P ty K F val d s (u+1) ((gs.setIfInBounds 0 fW).push rF) p (o++#[E,bD]) (upd y u ⟨7,0,0⟩) (upd Q u 1) (upd av (K.base+u) J) 0:=by
 have X:=e.bo.base;have L:∀h∈#[E,bD],h=E∨h=bD:=N;have I:∀h∈#[E,bD],h.act≠.mark .disable/\h.act≠.mark .enable:=N;have Y:∀j,0<j->j<K.base+u->((gs.setIfInBounds 0 fW).push rF)[j]?=gs[j]?:=λj k a=>by rw[Array.getElem?_push_lt (by simp[e.size];omega),<-iQ,sL w]
 refine⟨by simp[e.size];omega,λj R k z t=>?_,λj k=>?_,λg C=>?_,e.bo.gi aP G e.dA (e.above _ (bC _)) λi B D S=>let ⟨q,r,bB,H,_⟩:=V i B D S;⟨q,r,bB,H⟩,λO=>(e.dX O).app λh A=>?_,by rw[Deaf_still o 0 _ I,e.dA],λg C=>?_,λg C m=>?_,λg C T=>?_,λg C m=>?_,e.bP,e.cZ,e.cl,e.cx,e.dp,e.aI,λg C i B D S=>?_⟩
 .rw[Y j k w]at t;obtain⟨Z,q,r⟩:=e.dr j R k z t;exact⟨Z,by rw[upd_ne av _ w];exact q,by rw[Deaf_still o _ _ I];exact r⟩
 .rw[Deaf_still o _ _ I];exact e.above j w
 .rcases dY g u with a|x
  .obtain⟨R,t,aa⟩:=e.c_ g a;exact⟨R,by grind,by rw[upd_ne y _ w,upd_ne Q _ w,upd_ne av _ w];omega⟩
  obtain rfl:g=u:=w;refine⟨rF,?_,by rw[upd_same,upd_same,upd_same];exact .da W M U⟩;rw[show K.base+g=(gs.setIfInBounds 0 fW).size by simp[e.size],Array.getElem?_push_size]
 .grind
 .rw[Deaf_still o _ _ I];rcases dY g u with a|x
  .rw[e.dB g a,upd_ne y _ w]
  obtain rfl:g=u:=w;rw[upd_same];exact e.above _ (bC _)
 .rcases dY g u with a|x
  .rw[upd_ne y _ w]at m;obtain⟨J,M⟩:=e.rel g a m;refine⟨J,M.appNot λh A=>?_⟩;grind
  obtain rfl:g=u:=w;rw[upd_same]at m;grind
 .rcases dY g u with a|x
  .rw[upd_ne Q _ w]at T;exact e.dn g a T
  obtain rfl:g=u:=w;rw[upd_same]at T;grind
 .rcases dY g u with a|x
  .rw[upd_ne y _ w]at m;exact e.dN g a m
  obtain rfl:g=u:=w;rw[upd_same]at m;grind
 rcases dY g u with a|x
 .exact e.dG g a i B D S
 grind
end
end
section
open Go.Conc
open Go.ConcN (WD CTag Mode Vc Ssum pend phi cnt WgLive PayAt Has RW DWs WSit RelBy sumTo upd upd_same upd_ne AtR0)
open Go.ConcR (KK WgAt stA smA rd wr mk Payload g_of_ofEvents again_blocked)
variable [Payload]
section
variable (P:aD)(ty:an)(K:hR)(F:Nat)(val:Nat->Nat->X)(j:Nat)(ac d:ag->a6->Prop)
def Au(d:ag)(g:a6):Prop:=d.status=.running/\∃a,(∀e,ap P l d e=.go a e #[mk (.acquire (stA K.f))])/\∀b,(af.aE P ty K.f).rely g b->ac a b
def wW(d:ag)(g:a6):Prop:=d.status=.running/\∃a,(∀e,ap P l d e=.go a e #[mk .enable])/\∀b,(af.aE P ty K.f).rely g b->(dv (af.aE P ty K.f) (dR K.f)) (Au P ty K ac) a b
def Az(d:ag)(e:a6):Prop:=d.status=.running/\∀a,(af.aE P ty K.f).rely e a->WgAt ty K.f a.a 0 0->∃b,ap P l d a.a=.go b a.a #[rd (stA K.f)]/\(dv (af.aE P ty K.f) (dR K.f)) (wW P ty K ac) b a
def oX(b:ag)(g:a6):Prop:=b.status=.running/\b.offers=n/\∀a,(af.aE P ty K.f).rely g a ->
 ((∃e,WgAt ty K.f a.a e 0)->ap P l b a.a=.go {b with status:=.blocked} a.a #[]) /\
 (WgAt ty K.f a.a 0 1->∃d,ap P l b a.a=.go d (a.a.setCell (smA K.f) (.int .u32 0)) (semEvents (smA K.f))/\(dv (af.aE P ty K.f) (dR K.f)) (Az P ty K ac) d {a with a:=a.a.setCell (smA K.f) (.int .u32 0)})
def Ay(z:Nat)(g:ag)(h:a6):Prop:=g.status=.running/\∀b,(af.aE P ty K.f).rely h b->∀e:Nat,e<2147483648->WgAt ty K.f b.a (e*KK) 0 ->
 (e=z->∃a,ap P l g b.a=.go a (b.a.setCell (stA K.f) (.int .u64 (e*KK+1))) #[rd (stA K.f),wr (stA K.f)]/\(dv (af.aE P ty K.f) (dR K.f)) (oX P ty K ac) a {b with a:=b.a.setCell (stA K.f) (.int .u64 (e*KK+1))}) /\
 (e≠z->∃a,ap P l g b.a=.go a b.a #[rd (stA K.f)]/\d a b)
def re(g:ag)(h:a6):Prop:=g.status=.running/\∀b,(af.aE P ty K.f).rely h b->∀e:Nat,e<2147483648->WgAt ty K.f b.a (e*KK) 0 ->
 ∃a,ap P l g b.a=.go a b.a #[rd (stA K.f)]/\(e=0->(dv (af.aE P ty K.f) (dR K.f)) (wW P ty K ac) a b)/\(e≠0->(dv (af.aE P ty K.f) (dR K.f)) (Ay P ty K ac d e) a b)
def Av(e:ag)(h:a6):Prop:=e.status=.running/\∃a,(∀g,ap P l e g=.go a g #[mk .disable])/\∀b,(af.aE P ty K.f).rely h b->d a b
def a6.dy(a:a6):a6:={t:=[],D:=a.D,a:=a.a,own:=λ_=>False}
def wV(g:Nat)(Next:ag->a6->Prop)(e:ag)(h:a6):Prop:=e.status=.running/\∀b,(af.aE P ty K.f).rely h b ->
 ∃d a,ap P l e b.a=.spawn d a b.a #[]/\a.status=.running/\dv (af.c' P) eV (uo P ty K F val g) a b.dy/\Next d b
def Ax(g:Nat)(Next:ag->a6->Prop)(d:ag)(h:a6):Prop:=d.status=.running/\∃a,(∀e,ap P l d e=.go a e #[mk .enable])/\∀b,(af.aE P ty K.f).rely h b->(dv (af.aE P ty K.f) (dR K.f)) (wV P ty K F val g Next) a b
def As(g:Nat)(Next:ag->a6->Prop)(e:ag)(h:a6):Prop:=e.status=.running/\∀a,(af.aE P ty K.f).rely h a->∀d:Nat,d<2147483647->WgAt ty K.f a.a (d*KK) 0 ->
 ∃b,ap P l e a.a=.go b (a.a.setCell (stA K.f) (.int .u64 ((d+1)*KK))) #[rd (stA K.f),wr (stA K.f)]/\(dv (af.aE P ty K.f) (dR K.f)) (Ax P ty K F val g Next) b {a with a:=a.a.setCell (stA K.f) (.int .u64 ((d+1)*KK))}
def Aw(g:Nat)(Next:ag->a6->Prop)(d:ag)(h:a6):Prop:=d.status=.running/\∃a,(∀e,ap P l d e=.go a e #[mk .disable])/\∀b,(af.aE P ty K.f).rely h b->(dv (af.aE P ty K.f) (dR K.f)) (As P ty K F val g Next) a b
def o2:Nat->ag->a6->Prop
 |0,a,b=>(dv (af.aE P ty K.f) (dR K.f)) (Av P ty K d) a b
 |e+1,a,b=>(dv (af.aE P ty K.f) (dR K.f)) (Aw P ty K F val (j-(e+1)) (o2 e)) a b
def cr.ej:cr->cr
 |.leaf=>.node λ_=>.leaf
 |.node a=>.node λb=>cr.ej (a b)
omit [Payload]in
def cr.hg:∀{d b:cr},cr.lt d b->cr.lt d.ej b.ej
 |_,.leaf,a=>a.elim
 |_,.node _,⟨g,a⟩=>⟨g,a.elim (λe=>.inl (by rw[e])) λa=>.inr (cr.hg a)⟩
omit [Payload]in
def cr.jq(a:a6):∀d:cr,∃e,cr.lt e d.ej
 |.leaf=>⟨.leaf,a,.inl rfl⟩
 |.node b=>⟨(b a).ej,a,.inl rfl⟩
inductive hs:CTag->Nat->cr->Nat->ag->a6->Prop
 |ff {a7:Nat} {c9:cr} {C:ag} {b:a6}:a7<j->(gN (af.aE P ty K.f) (dR K.f)) (Aw P ty K F val (j-(a7+1)) (o2 P ty K F val j d a7)) c9 C b->hs (.sp a7 5) (j-(a7+1)) c9 0 C b
 |fN {a7:Nat} {c9:cr} {C:ag} {b:a6}:a7<j->(gN (af.aE P ty K.f) (dR K.f)) (As P ty K F val (j-(a7+1)) (o2 P ty K F val j d a7)) c9 C b->hs (.sp a7 4) (j-(a7+1)) c9 1 C b
 |fP {a7:Nat} {c9:cr} {C:ag} {b:a6}:a7<j->(gN (af.aE P ty K.f) (dR K.f)) (Ax P ty K F val (j-(a7+1)) (o2 P ty K F val j d a7)) c9 C b->hs (.sp a7 3) (j-(a7+1)) c9 1 C b
 |fO {a7:Nat} {c9:cr} {C:ag} {b:a6}:a7<j->(gN (af.aE P ty K.f) (dR K.f)) (wV P ty K F val (j-(a7+1)) (o2 P ty K F val j d a7)) c9 C b->hs (.sp a7 2) (j-(a7+1)) c9 0 C b
 |kd {c9:cr} {C:ag} {b:a6}:(gN (af.aE P ty K.f) (dR K.f)) (Av P ty K d) c9 C b->hs .kd j c9 0 C b
 |w1 {c9:cr} {C:ag} {b:a6}:(gN (af.aE P ty K.f) (dR K.f)) (re P ty K ac d) c9 C b->hs .w1 j c9 1 C b
 |w2 {z:Nat} {c9:cr} {C:ag} {b:a6}:(gN (af.aE P ty K.f) (dR K.f)) (Ay P ty K ac d z) c9 C b->hs (.w2 z) j c9 1 C b
 |w3 {c9:cr} {C:ag} {b:a6}:(gN (af.aE P ty K.f) (dR K.f)) (oX P ty K ac) c9 C b->hs .w3 j c9.ej 1 C b
 |blk {c9:cr} {C:ag} {b:a6}:oX P ty K ac C b->hs .blk j c9 1 {C with status:=.blocked} b
 |w4 {c9:cr} {C:ag} {b:a6}:(gN (af.aE P ty K.f) (dR K.f)) (Az P ty K ac) c9 C b->hs .w4 j c9 1 C b
 |ke {c9:cr} {C:ag} {b:a6}:(gN (af.aE P ty K.f) (dR K.f)) (wW P ty K ac) c9 C b->hs .ke j c9 1 C b
 |acq {c9:cr} {C:ag} {b:a6}:(gN (af.aE P ty K.f) (dR K.f)) (Au P ty K ac) c9 C b->hs .acq j c9 0 C b
structure wZ(T:Nat->Nat)(r:Nat->Mem)(A:Machine)(o:Trace):Prop where
 hD:∃(gs:Array ag) (p:au) (dE:Option (Nat×Nat)) (x:ag) (b:a6) (bk:Nat->Nat),A=crowd gs p dE/\gs[0]?=f x/\gs.size=K.base+j/\ac x {b with a:=p}/\c0 b {b with a:=p}/\gA K T r j b /\
  Leavers P o gs bk/\Past (jH λi=>K.bA i∨i=K.f) p.heap.size o/\nb o/\PayAt K.af F p/\(∀E,E<j->∀e,e<K.aI->p.cell? ⟨K.af,K.aI*E+e,n⟩=f (val E e))/\K.af<p.heap.size/\K.f<p.heap.size/\∀i,K.bA i->i<p.heap.size
abbrev pW:=Nat×((Nat->cr)×cr)
def k8(a:Nat):pW->pW->Prop:=Prod.Lex (· < ·) (Prod.Lex (w6 a) cr.lt)
omit [Payload]in
def aao(bB):WellFounded (k8 bB):=(Prod.lex Nat.lt_wfRel ⟨_,(Prod.lex ⟨w6 bB,N7 bB⟩ ⟨cr.lt,⟨cr.fr⟩⟩).wf⟩).wf
structure lF(μ:pW)(gs:Array ag)(p:au)(o:Trace)(T:Nat->Nat)(r:Nat->Mem)(u:Nat)(y:Nat->WD)(Q:Nat->Nat)(av:Nat->cr)(d0:Nat)(tag:CTag)(c9:cr)(x:ag)(b:a6)(b_ oO:Int):Prop where
 dx:gs[0]?=f x
 dz:hs P ty K F val j ac d tag u c9 d0 x b
 rely:c0 b {b with a:=p}
 aE:gA K T r u b
 ak:is P ty K F val T r u gs p o y Q av d0
 bY:WgAt ty K.f p b_ oO
 mode:Go.ConcN.Mode u y tag b_ oO
 eH:μ=(phi j (Vc u y) tag+Ssum u y+sumTo u Q,(av,c9))
def g3(o:pW)(q:Machine)(u:Trace):Prop:=
 ∃(a:Array ag) (i:au) (dE:Option (Nat×Nat)) (s:Nat->Nat) (r:Nat->Mem) (p:Nat) (y:Nat->WD) (Q:Nat->Nat) (k:Nat->cr) (b:Nat) (tag:CTag) (e:cr) (m:ag) (t:a6) (h g:Int),
  q=crowd a i dE/\lF P ty K F val j ac d o a i u s r p y Q k b tag e m t h g
end
section
variable {P:aD}{ty:an}{K:hR}{F:Nat}{val:Nat->Nat->X}{j:Nat}{ac d:ag->a6->Prop}{T ey:Nat->Nat}{r:Nat->Mem}{tag:CTag}{c9:cr}{O:Nat}{x:ag}
omit [Payload]in
def mL(d:c0 b {b with a:=p})(a:WgLive ty K.f p):(af.aE P ty K.f).rely b {b with a:=p}:=⟨d,λ_=>a⟩
omit [Payload]in
def oX.rely{s}(a:oX P ty K ac C b)(g:(af.aE P ty K.f).rely b s):oX P ty K ac C s:=
 ⟨a.1,a.2.1,λd e=>a.2.2 d ⟨g.1.trans e.1,λh=>e.2 (g.2 h)⟩⟩
def hs.status(a:hs P ty K F val j ac d tag u c9 O x b):(x.status=.running/\tag≠.blk)∨(x.status=.blocked/\tag=.blk):=by
 cases a with
 |ff _ a=>exact .inl ⟨a.run λ_ _ e=>e.1,by simp⟩
 |fN _ a=>exact .inl ⟨a.run λ_ _ e=>e.1,by simp⟩
 |fP _ a=>exact .inl ⟨a.run λ_ _ e=>e.1,by simp⟩
 |fO _ a=>exact .inl ⟨a.run λ_ _ e=>e.1,by simp⟩
 |kd a=>exact .inl ⟨a.run λ_ _ e=>e.1,by simp⟩
 |w1 a=>exact .inl ⟨a.run λ_ _ e=>e.1,by simp⟩
 |w2 a=>exact .inl ⟨a.run λ_ _ e=>e.1,by simp⟩
 |w3 a=>exact .inl ⟨a.run λ_ _ e=>e.1,by simp⟩
 |blk a=>grind
 |w4 a=>exact .inl ⟨a.run λ_ _ e=>e.1,by simp⟩
 |ke a=>exact .inl ⟨a.run λ_ _ e=>e.1,by simp⟩
 |acq a=>exact .inl ⟨a.run λ_ _ e=>e.1,by simp⟩
def hs.h6(m:hs P ty K F val j ac d tag u c9 O x b)(C h)(bi):
  ∃a k,hs P ty K F val j ac d a u k O (woken P C h bi x) b/\(a=tag∨(tag=.blk/\a=.w3))/\(mayWake P C=l->h.status=.running->a≠.blk):=by
 unfold Go.Conc.woken;split
 .rcases m.status with⟨e,i⟩|⟨_,rfl⟩
  .grind [again_running]
  cases m with
  |blk g=>exact⟨.w3,cr.ej .leaf,by rw[again_blocked g.1 g.2.1];exact .w3 (show gN _ _ _ .leaf _ _ from g),.inr ⟨rfl,rfl⟩,λ_ _=>by simp⟩
 grind
def wz{W:pW}{dE:Option (Nat×Nat)}{av:Trace}{y:Nat->WD}{Q:Nat->Nat}{X:Nat->cr}{au ar:Int}(q:lF P ty K F val j ac d W gs p av T r u y Q X O tag c9 x b au ar){g:Nat}(Y:g<u){o:ag}{m:Array aN}{k h i:Nat}{A:cr}{ae G:Int}(an:gs[K.base+g]?=f C)(E:ap P v C p=.go o bi m)(I:∀af,af<p.heap.size->ey af=T af)(R:p.heap.size<=bi.heap.size)(aE:∀ab,ab<u->ab≠g->lH K T (r ab) ab p bi)(aC:rk K T p bi)(aI:hS P ty K F val ey r g k h A i o bi)(L:∀B∈m,(aJ B).low bi.heap.size)(S:∀B∈m,∀x,(aJ B).touch?=f x->x.loc.isMemory=l->n6 K ey (r g) g x)(M:∀B∈m,∀x,B.loc≠.mark (.release x))(aD:deafBehind (y g).deaf m=i)(aP:h<=6->∃aR,RelBy (stA K.f) (av++MemOp.ofEvents (K.base+g) C.frame.fn C.frame.place m) (K.base+g) aR)(ak:k=0->∀Z,1<=Z->Z<K.aI->bi.cell? ⟨K.af,K.aI*g+Z,n⟩=f (val g Z))(aj:h<=6->Has K.af (K.aI*g) (val g 0) bi)(aG:PayAt K.af F bi)(aw:WgAt ty K.f bi ae G)(H:∀e,(e=tag∨(tag=.blk/\e=.w3))->(mayWake P C=l->o.status=.running->e≠.blk)->Go.ConcN.Mode u (upd y g ⟨h,0,i⟩) e ae G)(a:(h+k<(y g).stage+Q g/\cnt ⟨h,0,i⟩<=cnt (y g))∨(h=(y g).stage/\k=Q g/\cr.lt A (X (K.base+g))))(ax:K.base+u<=K.base+j):
  ∃aB s z,runT P (crowd gs p dE) (K.base+g)=(.next aB,s)/\k8 (K.base+j) z W/\g3 P ty K F val j ac d z aB (av++s):=by
 have aQ:=q.ak.bo.base;obtain⟨e,t,aH,az,V⟩:=q.dz.h6 C o bi;have J:(K.base+g==0)=v:=N;have aF:=runT_crowd_go (P:=P) (sl:=dE) (i:=K.base+g) an (by rw[J];exact E)
 have aK:=Go.ConcN.sumTo_upd y (⟨h,0,i⟩:WD) cnt Y;have aL:=Go.ConcN.sumTo_upd y (⟨h,0,i⟩:WD) WD.stage Y;have aM:sumTo u (upd Q g k)+Q g=sumTo u Q+k:=Go.ConcN.sumTo_upd Q k id Y;refine⟨_,_,(phi j (Vc u (upd y g ⟨h,0,i⟩)) e+Ssum u (upd y g ⟨h,0,i⟩)+sumTo u (upd Q g k),(upd X (K.base+g) A,t)),aF,?_,
  _,bi,dE,ey,r,u,_,_,_,O,e,t,woken P C o bi x,b,ae,G,rfl,⟨by rw[Go.ConcN.get_map_set _ _ _ _ w,q.dx];rfl,aH,q.aE.dg q.rely aC,q.aE.eL q.rely.size I,
   q.ak.aT Y I R aE aI L S M aD aP ak aj aG ⟨_,_,aw⟩,aw,H e az V,rfl⟩⟩
 rw[q.eH,Go.ConcN.phi_retag j _ az];simp only[Vc,Ssum]at *;rcases a with⟨aq,Eg⟩|⟨aq,Eg,tA⟩
 .refine Prod.Lex.left _ _ ?_;have:=Go.ConcN.phi_mono j (v':=sumTo u λx=>cnt (upd y g ⟨h,0,i⟩ x)) (v:=sumTo u λx=>cnt (y x)) w tag;omega
 have aO:cnt (⟨h,0,i⟩:WD)=cnt (y g):=hK;have ai:(sumTo u λx=>cnt (upd y g ⟨h,0,i⟩ x))=sumTo u λx=>cnt (y x):=w;have D:(sumTo u λx=>(upd y g ⟨h,0,i⟩ x).stage)=sumTo u λx=>(y x).stage:=w;have ah:sumTo u (upd Q g k)=sumTo u Q:=w;rw[ai,D,ah];exact Prod.Lex.right _ (Prod.Lex.left _ _ ⟨K.base+g,by omega,by rw[upd_same];exact tA,λaS ao=>upd_ne X _ ao⟩)
end
end
section
open Go.Conc
open Go.ConcN (WD CTag Vc Ssum pend phi cnt WgLive PayAt Has RW DWs WSit RelBy sumTo upd upd_same upd_ne AtR0 isW3 isOpen OpenSt deafBehind_idle bk_cell okW_none Vc_upd Vc_le le_sumTo others_uncounted)
open Go.ConcR (KK WgAt stA smA rd wr mk Payload g_of_ofEvents Bk bk_of_mute ofEvent_loc_mark ofEvent_cell)
variable [Payload]
section
variable {K:hR}{ac G:ag->a6->Prop}{W ey:Nat->Nat}{mj:Nat->Mem}{tag:CTag}{c9:cr}{O:Nat}{x:ag}
omit [Payload]in
def lH.bY(b:Aside K.f p bi)(k:W K.f=0)(o:1<=K.base)(g:∀a d h,mj u a d=f h->a≠K.f)(e:K.af≠K.f):lH K W (mj u) u p bi:=
 ⟨by rw[b.size];grind,λa _ i=>b.block a (λm=>by grind),λa d h H j=>by rw[nn (b.block a (g a d h H))];exact j,λd _ _=>nn (b.block _ e) d,b.os,b.tape,b.output⟩
omit [Payload]in
def rk.bY(a:Aside K.f p bi):rk K W p bi:=⟨by rw[a.size];grind,λb _ _ _ d=>a.block b d,a.os,a.tape,a.output⟩
omit [Payload]in
def rk.refl(p):rk K W p p:=⟨bC _,λ_ _ _ _ _=>rfl,rfl,rfl,rfl⟩
omit [Payload]in
def G9{d}{b:Array aN}(i:∀a∈b,Bk K.f a)(j:K.f<d):∀a∈b,(aJ a).low d:=by
 intro a h;rcases i a h with g|g|⟨e,wr,rfl,k⟩
 .rw[ofEvent_loc_mark g];trivial
 .rw[ofEvent_loc_mark g];trivial
 rw[ofEvent_cell];show e.block<d;grind
omit [Payload]in
def Tj{j}{e:Array aN}(o:∀d∈e,Bk K.f d):∀d∈e,∀g,(aJ d).touch?=f g->g.loc.isMemory=l->n6 K W (mj j) j g:=by
 intro d m p b _;rcases o d m with i|i|⟨h,wr,rfl,k⟩
 .rw[ofEvent_loc_mark i]at b;cases b
 .rw[ofEvent_loc_mark i]at b;cases b
 rw[ofEvent_cell]at b;simp[MemAct.touch?,e']at b;subst b;exact .inl ⟨h,a,k,a⟩
omit [Payload]in
def G_{b:Array aN}(h:∀a∈b,Bk K.f a):∀a∈b,∀d,a.loc≠.mark (.release d):=by
 intro a g d i;rcases h a g with j|j|⟨e,wr,rfl,_⟩
 .grind
 .grind
 grind
omit [Payload]in
def aeN{m}{b7}{V}(u:hG W (mj m) (K.base+m) b)(t:bc k b)(y:dw b V)(q:cO k b aq b7):
  (∀e∈V,(aJ e).low b7.a.heap.size)/\(∀e∈V,∀j,(aJ e).touch?=f j->j.loc.isMemory=l->n6 K (l0 W b.a.heap.size (K.base+m)) (mj m) m j) /\
  (∀e∈V,e.loc≠.mark .disable/\e.loc≠.mark .enable)/\∀e∈V,∀j,e.loc≠.mark (.release j):=by
 have key:∀e∈V,(aJ e).low b7.a.heap.size/\(∀j,(aJ e).touch?=f j->j.loc.isMemory=l->n6 K (l0 W b.a.heap.size (K.base+m)) (mj m) m j)/\(e.loc≠.mark .disable/\e.loc≠.mark .enable)/\∀j,e.loc≠.mark (.release j):=by
  intro e A;have o:=y e A;obtain⟨loc,wr,C⟩:=e;cases loc with
  |cell g=>
   obtain⟨p,s,d⟩:=o;simp only at p s d;subst p;have r:g.block<b.a.heap.size:=by
    rcases d with d|⟨⟨L,aP,d⟩,_⟩|⟨_,x,d⟩
    .exact d.elim
    .exact t.lt L aP _ d
    exact gB.lt t.mem d
   refine⟨by rw[ofEvent_cell];exact eK r q.size,λi h _=>?_,⟨by simp,by simp⟩,by simp⟩;rw[ofEvent_cell]at h;simp[MemAct.touch?,e']at h;subst h;refine .inr ⟨a,?_⟩;rcases d with d|⟨⟨L,aP,d⟩,_⟩|⟨z,x,d⟩
   .exact d.elim
   .exact .inl ⟨g.block,a,by rw[lo r];exact(u.blk _ (.inr ⟨L,aP,d⟩)).1⟩
   rcases(u.D _ _ _ d).1 with w|w
   .exact .inl ⟨g.block,a,by grind[lo]⟩
   refine .inr (.inr ⟨z,g.block,g.off,x,?_,w⟩);obtain⟨i,F,sp⟩:=g;grind
  |obj B=>
   obtain⟨p,s⟩:=o;simp only at p s;subst p;obtain⟨L,aP,d⟩:=s.resolve_left id;have r:=t.lt L aP _ d;refine⟨?_,λi h _=>?_,⟨by simp,by simp⟩,by simp⟩
   .simp[aJ,MemAct.low,Loc.low];exact eK r q.size
   simp[aJ,MemAct.touch?]at h;subst h;exact .inr ⟨a,.inl ⟨B,a,by rw[lo r];exact(u.blk _ (.inr ⟨L,aP,d⟩)).1⟩⟩
  |mark E=>
   simp[ie]at o;rcases o with rfl|⟨D,rfl⟩
   .exact RE
   exact RE
  |_=>exact o.elim
 grind
def ac3{a6}{dE}{o}{y:Nat->WD}{Q:Nat->Nat}{b4:Nat->cr}{b_ oO}(i:lF P ty K F val j ac G a6 gs p o W mj u y Q b4 O tag c9 x b b_ oO)(cv:j<2147483648)(cu:u<=j)(ca:u+pend tag<=j){h}(hj:h<u)(a1:gs[K.base+h]?=f C)(a2:C.status=.running):
  ∃q J R,runT P (crowd gs p dE) (K.base+h)=(.next q,J)/\k8 (K.base+j) R a6/\g3 P ty K F val j ac G R q (o++J):=by
 have a':=i.ak.bo.base;obtain⟨bq,bO,a3⟩:=i.ak.c_ h hj;obtain rfl:C=bq:=N;generalize X:(y h).stage=aK at a3;generalize bh:b4 (K.base+h)=b2 at a3;generalize a0:(y h).deaf=ax at a3;generalize aQ:Q h=cl at a3;have bf:Deaf o (K.base+h)=ax:=by rw[i.ak.dB h hj,a0]
 have b6:=Vc_le u y;have same:∀A r,Go.ConcN.Mode u (upd y h ⟨aK,A,r⟩) tag b_ oO:=λA r=>by have:=i.mode.same (i:=h) A r;grind
 cases a3 with
 |@da b2 C aT p bx aV bP=>
  rcases bx.bb (λaT=>c0 aT {aT with a:=p}/\hG W (mj h) (K.base+h) aT) (λaT B aB aG=>⟨aG.1.aO aB,aG.2.aO aB⟩) (λ_ aT B aB aG=>⟨aG.1.b2 aB,aG.2.b2 aB⟩) ⟨aV,bP⟩with⟨B,⟨k1,bN⟩,g⟩|⟨_,B,⟨k1,bN⟩,e⟩
  ·
   obtain⟨k,w2,V,d,aw,bg,bz,ae⟩:=g.2 p k1 i.ak.bP i.ak.cZ;have b8:=i.ak.aI;refine wz i hj a1 d (ey:=W) (λ_ _=>rfl) (by rw[aw.size];grind) (λa_ aR bm=>⟨by rw[aw.size];grind,λY _ aO=>aw.block Y (λak=>by rw[ak,i.ak.bo.dc]at aO;omega),λY aS an H bR=>?_,λaS bk bl=>aw.hD aS ?_,aw.os,aw.tape,aw.output⟩)
    ⟨by rw[aw.size];grind,λY _ _ aV _=>aw.block Y aV,aw.os,aw.tape,aw.output⟩ (.rel ae) (λak s=>?_) (λak s Y aO _=>?_) (λak s=>?_) ?_ (λt=>absurd t b') (λ_ b1 _ aG=>aw.new b1 aG) (λt=>absurd t b') aw.bP
    (i.bY.of_block (aw.block _ (o8 i.ak.bo.bU))) (λ_ ah _=>(same _ _).retag ah) (.inl ⟨by omega,by simp[cnt,X]⟩) w
   .rw[nn (aw.block Y (i.ak.bo.bC a_ aR Y aS an H).2.1)];exact bR
   .rcases Nat.lt_or_gt_of_ne bm with t|t
    .have:=xd K.aI (show a_+1<=h from t);grind
    have:=xd K.aI (show h+1<=a_ from t);grind
   .obtain⟨aS,rfl,_⟩:=bg ak s;rw[ofEvent_cell];show K.af<_;rw[aw.size];exact i.ak.cx
   .obtain⟨aS,rfl,bk,bl⟩:=bg ak s;rw[ofEvent_cell]at aO;simp[MemAct.touch?,e']at aO;subst aO;exact .inr ⟨a,.inr (.inl ⟨aS,a,bk,bl⟩)⟩
   .grind
   rw[a0];exact deafBehind_idle (λak s=>by grind) 0
  ·
   obtain⟨k,b3,V,cx,d,bE,bK,bQ⟩:=e _ k1;obtain⟨⟨cy,cg,cj,bj,E⟩,cf⟩:=bE.resolve_right id;have bu:hG W (mj h) (K.base+h) {B with a:=p}:=bN.rely k1.size;obtain⟨aE,aF,bp,bU⟩:=aeN bu cj cf E;have Z:∀Y,Y<p.heap.size->W Y≠K.base+h->b3.a.heap[Y]?=p.heap[Y]?:=λY aO bI=>E.a4 Y aO λL aP bB=>bI (bu.blk Y (.inr ⟨L,aP,bB⟩)).1;refine wz i hj a1 d (ey:=l0 W p.heap.size (K.base+h)) (λY aO=>lo aO) E.size (λa_ aR bm=>⟨E.size,λY aO b7=>Z Y aO w,λY aS an H bR=>?_,λaS _ _=>nn (Z _ i.ak.cx (by rw[i.ak.bo.dc];omega)) aS,E.os,E.tape,E.output⟩)
    ⟨E.size,λY aO cp _ _=>Z Y aO w,E.os,E.tape,E.output⟩ (.da bK (c0.ew bj.mem) (bu.step bj E)) aE aF bU (by rw[a0];exact deafBehind_idle bp 0) (λt=>absurd t b') (λt=>absurd t b') (λt=>absurd t b') ?_
    (i.bY.of_block (Z _ i.ak.cl (by rw[i.ak.bo.dd];omega))) (λ_ ah _=>(same _ _).retag ah) (.inr ⟨X.symm,aQ.symm,by grind⟩) w
   .rw[nn (Z Y (i.ak.dG a_ aR Y aS an H) (by rw[(i.ak.bo.bC a_ aR Y aS an H).1];omega))];exact bR
   obtain⟨bo,bS,bT⟩:=i.ak.bP;exact⟨bo,(Z _ i.ak.cx (by rw[i.ak.bo.dc];omega)).trans bS,bT⟩
 |@rel bz C p t=>
  rcases Goes.cases t with g|⟨A,rfl,e⟩
  ·
   obtain⟨_,bW,k,d,av,ae⟩:=g p (Go.ConcN.RW.refl p);refine wz i hj a1 d (ey:=W) (λ_ _=>rfl) (bC _) (λa_ _ _=>.refl ..) (.refl p) (.tail b' (.k1 ae)) (λak s=>?_) (λak s Y aO _=>?_) (λak s=>?_) hK (λ_=>⟨o.size,RelBy.new bf _ _⟩) (λ_=>i.ak.dn h hj aQ) (λ_=>by grind) i.ak.bP i.bY
    (λ_ ah _=>(i.mode.counted hj w (.inl a) _ _).retag ah) (.inl ⟨by omega,by simp[cnt,X]⟩) w
   .simp at s;subst s;exact i.ak.cl
   .simp at s;subst s;exact cX
   simp at s;subst s;simp[mk]
  obtain⟨k,M,V,d,⟨rfl,rfl⟩,I⟩:=e p (Go.ConcN.RW.refl p);exact wz i hj a1 d (ey:=W) (λ_ _=>rfl) (bC _) (λa_ _ _=>.refl ..) (.refl M) (.rel I) D D D cX (λt=>absurd t b') (λ_=>i.ak.dn h hj aQ) (λt=>absurd t b') i.ak.bP i.bY (λ_ ah _=>(same _ _).retag ah)
   (.inr ⟨X.symm,aQ.symm,by rw[bh];exact cr.gw _ b⟩) w
 |@tail aK bz ax C p bV t=>
  have aL:∀{k:ag} {M:au} {V:Array aN} {B A r:Nat} {aq ao:Int},ap P v C p=.go k M V->Aside K.f p M->WgAt ty K.f M aq ao->(∀ak∈V,Bk K.f ak) ->
    (∀h2 ak,V[h2]?=f ak->(aJ ak).touch?=n∨0<deafBehind ax (V.extract 0 h2))->B<=6->WSit P ty K.f K.af F pY pY 0 (K.aI*h+1) (val h 0) B A r k M->deafBehind ax V=r ->
    (∀S,(S=tag∨(tag=.blk/\S=.w3))->(mayWake P C=l->k.status=.running->S≠.blk)->Go.ConcN.Mode u (upd y h ⟨B,0,r⟩) S aq ao)->((B<aK/\cnt ⟨B,0,r⟩<=cnt (y h))∨(B=aK/\A+1=bz)) ->
    ∃q J R,runT P (crowd gs p dE) (K.base+h)=(.next q,J)/\k8 (K.base+j) R a6/\g3 P ty K F val j ac G R q (o++J):=by
   intro k M V B A r aq ao d T aI ab bt a4 aC bd af bQ;obtain⟨bo,br,bs⟩:=i.ak.bP;refine wz i hj a1 d (ey:=W) (λ_ _=>rfl) (by rw[T.size];grind) (λa_ aR _=>.bY T i.ak.bo.dd a' (λY aS an H=>(i.ak.bo.bC a_ aR Y aS an H).2.2.1) i.ak.bo.bU) (.bY T) (.tail a4 aC) (G9 ab (by rw[T.size];exact i.ak.cl)) (Tj ab) (G_ ab) N
    (λ_=>let ⟨b2,bY⟩:=i.ak.rel h hj w;⟨b2,bY.book bf _ _ ab bt⟩) (λ_ b1 bF bG=>(nn (T.block _ i.ak.bo.bU) _).trans (i.ak.dn h hj aQ b1 bF bG)) (λ_=>(nn (T.block _ i.ak.bo.bU) _).trans (i.ak.dN h hj w)) ⟨bo,(T.block _ i.ak.bo.bU).trans br,bs⟩ aI af
    (bQ.imp (λt=>⟨by omega,t.2⟩) λt=>⟨by omega,aQ.symm,by rw[bh,<-t.2];exact cr.gw _ b⟩) w
  have book:∀{k:ag} {M:au} {V:Array aN} {B A r:Nat} {aq ao:Int},ap P v C p=.go k M V->Aside K.f p M->WgAt ty K.f M aq ao->(∀ak∈V,Bk K.f ak) ->
    (∀h2 ak,V[h2]?=f ak->(aJ ak).touch?=n∨0<deafBehind ax (V.extract 0 h2))->B<=6->WSit P ty K.f K.af F pY pY 0 (K.aI*h+1) (val h 0) B A r k M->deafBehind ax V=r ->
    Go.ConcN.Mode u (upd y h ⟨B,0,r⟩) tag aq ao->((B<aK/\cnt ⟨B,0,r⟩<=cnt (y h))∨(B=aK/\A+1=bz)) ->
    ∃q J R,runT P (crowd gs p dE) (K.base+h)=(.next q,J)/\k8 (K.base+j) R a6/\g3 P ty K F val j ac G R q (o++J):=
   λd T aI ab bt a4 aC bd af bQ=>aL d T aI ab bt a4 aC bd (λ_ ah _=>af.retag ah) bQ
  have ai:∀{k:ag} {A:Nat},ap P v C p=.go k p #[]->WSit P ty K.f K.af F pY pY 0 (K.aI*h+1) (val h 0) aK A ax k p->A+1=bz ->
    ∃q J R,runT P (crowd gs p dE) (K.base+h)=(.next q,J)/\k8 (K.base+j) R a6/\g3 P ty K F val j ac G R q (o++J):=by intro k A d aC W;exact book d (.refl K.f p) i.bY D D bV aC a (same _ _) (.inr ⟨a,W⟩)
  cases t with
  |r0 t=>omega
  |k1 t=>
   rcases Goes.cases t with g|⟨A,rfl,e⟩
   .obtain⟨_,k,d,av,ae⟩:=g p (Go.ConcN.RW.refl p);exact book d (.refl K.f p) i.bY (by intro ak s;simp at s;subst s;exact .inl a) (by intro h2 ak s;exact .inl (by have:=uF s;simp at this;exact hK)) b' (.d1 ae) a (i.mode.counted hj w (.inr a) _ _) (.inl ⟨by omega,by simp[cnt,X]⟩)
   obtain⟨k,M,V,d,⟨rfl,rfl⟩,I⟩:=e p (Go.ConcN.RW.refl p);exact ai d (.k1 I) a
  |d1 t=>
   rcases Goes.cases t with g|⟨A,rfl,e⟩
   .obtain⟨_,aZ⟩:=g p (Go.ConcN.RW.refl p);have m:=i.bY;have ar:=i.mode;have bD:cnt (y h)=1:=by simp[cnt,X]
    have b5:1<=Vc u y:=by have:=le_sumTo (f:=λh=>cnt (y h)) hj;simp[Vc];omega
    have aX:∀ak∈#[rd (stA K.f),wr (stA K.f)],Bk K.f ak:=by intro ak s;simp at s;rcases s with rfl|rfl<;>exact bk_cell _ _ rfl
    have aY:∀h2 ak,(#[rd (stA K.f),wr (stA K.f)]:Array aN)[h2]?=f ak->(aJ ak).touch?=n∨0<deafBehind 1 ((#[rd (stA K.f),wr (stA K.f)]:Array aN).extract 0 h2):=by
     intro h2 ak s
     match h2,s with
     |0,_=>exact .inr afd
     |1,_=>exact .inr (by simp[deafBehind,rd])
     |h2+2,s=>simp at s
    have cb:∀a7,cnt (⟨1,a7,1⟩:WD)=0:=λ_=>rfl;have bn:∀a7,OpenSt u y->OpenSt u (upd y h ⟨1,a7,1⟩):=λa7 t x bc=>by
     by_cases ak:x=h
     .subst ak;exact wD
     rw[upd_ne y _ ak];exact t x bc
    generalize b0:b_=cd at ar m;generalize bZ:oO=cc at ar m;cases ar with
    |opn bx aV bP=>
     obtain⟨an,H⟩:∃an,Vc u y+pend tag=an+1:=⟨Vc u y+pend tag-1,by omega⟩
     rw[H]at m;have a5:WgAt ty K.f p (((an:Nat)+1)*KK+((0:Nat):Int)) 0:=N;obtain⟨k,d,_,aa⟩:=aZ an 0 w w a5;obtain⟨a7,aa⟩:=aa w;have bL:Vc u (upd y h ⟨1,0,1⟩)+pend tag=an:=Ox;refine book d (aside_setCell p (stA K.f) _) (m.setSt _) aX aY b' (.quit aa) a ?_ (.inl ⟨by omega,by grind⟩);have ak:((an:Nat):Int)*KK+((0:Nat):Int)=((Vc u (upd y h ⟨1,0,1⟩)+pend tag:Nat):Int)*KK:=N;rw[ak];exact .opn bx (bn 0 aV) (λz cn=>by grind)
    |reg bx aV bP=>
     obtain⟨an,H⟩:∃an,Vc u y=an+1:=⟨Vc u y-1,by omega⟩
     rw[H]at m;have cw:pend tag=0:=by cases tag<;>first|rfl|exact bx.elim
     have a5:WgAt ty K.f p (((an:Nat)+1)*KK+((1:Nat):Int)) 0:=N;obtain⟨k,d,bX,aa⟩:=aZ an 1 w w a5;by_cases bM:an=0
     .subst bM;obtain⟨av,ae⟩:=bX ⟨rfl,rfl⟩;refine book d (aside_setCell p (stA K.f) _) (m.setSt _) aX aY b' (.d2 ae) a ?_ (.inl ⟨by omega,by simp[cnt]⟩);have aH:∀x,x<u->x≠h->(y x).stage=1:=λx bc ak=>by have bA:=others_uncounted hj H bD x bc ak;have:=aV x bc;simp only[cnt]at bA;split at bA<;>omega
      have:=Go.ConcN.Mode.last (j:=u) (D:=upd y h ⟨4,0,1⟩) (tag:=tag) h bx hj wD (λx bc ak=>by rw[upd_ne y _ ak];grind);rw[upd_same]at this;grind
     obtain⟨a7,aa⟩:=aa w;have bL:Vc u (upd y h ⟨1,0,1⟩)=an:=Ox;refine book d (aside_setCell p (stA K.f) _) (m.setSt _) aX aY b' (.quit aa) a ?_ (.inl ⟨by omega,by grind⟩);have ak:((an:Nat):Int)*KK+((1:Nat):Int)=((Vc u (upd y h ⟨1,0,1⟩):Nat):Int)*KK+1:=N;rw[ak];exact .reg bx (bn 0 aV) w
    |last L _ aV bP cz=>
     grind
    |sema aV=>have:=aV h hj;omega
    |fin _ aV=>have:=aV h hj;omega
   obtain⟨k,M,V,d,⟨rfl,rfl⟩,I⟩:=e p (Go.ConcN.RW.refl p);exact ai d (.d1 I) a
  |d2 t=>
   rcases Goes.cases t with g|⟨A,rfl,e⟩
   .obtain⟨_,aD⟩:=g p (Go.ConcN.RW.refl p);obtain⟨az,aH,aE,aF⟩:=i.mode.isLast hj w;have m:=i.bY;rw[aE,aF,X]at m;obtain⟨k,d,av,ae⟩:=aD N;refine book d (.refl K.f p) m Sg R7 b' (.d3 ae) a ?_ (.inl ⟨by omega,by simp[cnt]⟩);have:=Go.ConcN.Mode.last (j:=u) (D:=upd y h ⟨3,0,1⟩) (tag:=tag) h az hj wD (λx bc ak=>by rw[upd_ne y _ ak];grind);rw[upd_same]at this;grind
   obtain⟨k,M,V,d,⟨rfl,rfl⟩,I⟩:=e p (Go.ConcN.RW.refl p);exact ai d (.d2 I) a
  |d3 t=>
   rcases Goes.cases t with g|⟨A,rfl,e⟩
   .obtain⟨_,aD⟩:=g p (Go.ConcN.RW.refl p);obtain⟨az,aH,aE,aF⟩:=i.mode.isLast hj w;have m:=i.bY;rw[aE,aF,X]at m;obtain⟨k,d,av,ae⟩:=aD N;refine book d (aside_setCell p (stA K.f) _) (m.setSt 0) Sg R7 b' (.d4 ae) a ?_ (.inl ⟨by omega,by simp[cnt]⟩);have:=Go.ConcN.Mode.last (j:=u) (D:=upd y h ⟨2,0,1⟩) (tag:=tag) h az hj wD (λx bc ak=>by rw[upd_ne y _ ak];grind);rw[upd_same]at this;grind
   obtain⟨k,M,V,d,⟨rfl,rfl⟩,I⟩:=e p (Go.ConcN.RW.refl p);exact ai d (.d3 I) a
  |d4 t=>
   rcases Goes.cases t with g|⟨A,rfl,e⟩
   .obtain⟨_,bH,aD⟩:=g p (Go.ConcN.RW.refl p);obtain⟨az,aH,aE,aF⟩:=i.mode.isLast hj w;have m:=i.bY;rw[aE,aF,X]at m;obtain⟨k,d,a7,aa⟩:=aD N;have bb:k.status=.running:=by
     cases a7 with
     |zero=>exact absurd aa.2 b'
     |succ a7=>exact aa.elim (λh=>absurd h.2 b') (λh=>h.1)
    refine aL d (aside_setCell p (smA K.f) _) (m.setSm 1) (V:=semEvents (smA K.f)) ?_ ?_ b' (.quit aa) cX ?_ (.inl ⟨by omega,by simp[cnt]⟩)
    .intro ak s;simp[semEvents]at s;rcases s with rfl|rfl|rfl|rfl
     .exact .inl a
     .exact bk_cell _ _ a
     .exact bk_cell _ _ a
     exact .inr (.inl a)
    .intro h2 ak s
     match h2,s with
     |0,s=>simp[semEvents]at s;subst s;exact .inl a
     |1,_=>exact .inr OT
     |2,_=>exact .inr OT
     |3,s=>simp[semEvents]at s;subst s;exact .inl a
     |h2+4,s=>simp[semEvents]at s
    intro S ah ck;have b9:=ck bH bb;have bp:S=.w3:=by
     rcases ah with rfl|⟨_,rfl⟩
     .cases S<;>first|rfl|exact az.elim|grind
     simp
    subst bp;simp only[dx];exact .sema λx bc=>by
     by_cases ak:x=h
     .subst ak;rw[upd_same]
     rw[upd_ne y _ ak];grind
   obtain⟨k,M,V,d,⟨rfl,rfl⟩,I⟩:=e p (Go.ConcN.RW.refl p);exact ai d (.d4 I) a
  |quit t=>
   cases bz with
   |zero=>rw[t.1]at a2;cases a2
   |succ a7=>
    rcases t with⟨cq,_⟩|⟨_,k,V,aM,e,aa⟩
    .grind
    have ab:∀ak∈V,Bk K.f ak:=λak s=>bk_of_mute (aM ak s);have bJ:∀h2 ak,V[h2]?=f ak->(aJ ak).touch?=n∨0<deafBehind ax (V.extract 0 h2):=λh2 ak s=>.inl (touch_mute (aM ak (uF s)));exact book (e p) (.refl K.f p) i.bY ab bJ b' (.quit aa) a (same _ _) (.inr ⟨a,a⟩)
end
end
section
open Go.Conc
open Go.ConcN (WD CTag Vc Ssum pend phi cnt WgLive PayAt Has RW DWs WSit RelBy sumTo upd upd_same upd_ne AtR0 isW3 isOpen OpenSt deafBehind_idle bk_cell okW_none Vc_upd Vc_le le_sumTo others_uncounted sumTo_upd_out bk_dis bk_en bk_rd bk_rw bk_sem allQuit_of exists_counted)
open Go.ConcR (KK WgAt stA smA rd wr mk Payload g_of_ofEvents Bk bk_of_mute ofEvent_loc_mark ofEvent_cell ofEvent_mk)
variable [Payload]
section
variable {K:hR}{ac h:ag->a6->Prop}{d ey:Nat->Nat}{ef G:Nat->Mem}{tag:CTag}{c9:cr}{O:Nat}{x:ag}{dk:pW}{dE:Option (Nat×Nat)}{o:Trace}{y:Nat->WD}{Q:Nat->Nat}{av:Nat->cr}{b_ oO:Int}
omit [Payload]in
def fP.congr{i}(b:fP K d ef o u i)(j:∀h,h<u->G h=ef h):fP K d G o u i:=
 ⟨b.base,b.dd,b.dc,b.bU,b.dZ,b.eB,b.eA,λe H=>by rw[j e H];exact b.bC e H,b.bQ,b.et,b.seen,b.old,b.eh,b.eJ,λm k g a d=>(b.new m k g a d).imp id λ⟨e,H,p,q⟩=>⟨e,H,p,by grind⟩,
  λe H=>by rw[j e H];exact b.eo e H,b.over⟩
def hS.congr{b x b_ O}{g}(i:hS P ty K F val d ef b x b_ g O C p)(k:G b=ef b):hS P ty K F val d G b x b_ g O C p:=by
 cases i with
 |da a h j=>exact .da a h N
 |rel a=>exact .rel a
 |tail e a=>exact .tail e a
def is.congr{e:Nat}(a:is P ty K F val d ef u gs p o y Q av e)(g:∀b,b<u->G b=ef b):is P ty K F val d G u gs p o y Q av e:=
 ⟨a.size,a.dr,a.above,λi H=>let ⟨C,k,j⟩:=a.c_ i H;⟨C,k,j.congr (g i H)⟩,a.bo.congr g,a.dX,a.dA,a.dB,a.rel,a.dn,a.dN,a.bP,a.cZ,a.cl,a.cx,a.dp,a.aI,λb h=>by rw[g b h];exact a.dG b h⟩
omit [Payload]in
def aab{b7}{V}(D:gA K d ef u b)(R:bc k b)(aP:dw b V)(A:cO k b aq b7):
  (∀g∈V,(aJ g).low b7.a.heap.size)/\(∀g∈V,∀e,(aJ g).touch?=f e->e.loc.isMemory=l->o3 K (l0 d b.a.heap.size 0) e) /\
  (∀g∈V,∀e,(aJ g).touch?=f e->e.kind=.plain->e.write=l->∀o,o<u->∀i m t,e.loc=.cell ⟨i,m,n⟩->ef o i m≠f t) /\
  (∀g∈V,g.loc≠.mark .disable/\g.loc≠.mark .enable)/\∀g∈V,∀e,g.loc≠.mark (.release e):=by
 have key:∀g∈V,(aJ g).low b7.a.heap.size/\(∀e,(aJ g).touch?=f e->e.loc.isMemory=l->o3 K (l0 d b.a.heap.size 0) e) /\
   (∀e,(aJ g).touch?=f e->e.kind=.plain->e.write=l->∀o,o<u->∀i m t,e.loc=.cell ⟨i,m,n⟩->ef o i m≠f t)/\(g.loc≠.mark .disable/\g.loc≠.mark .enable)/\∀e,g.loc≠.mark (.release e):=by
  intro g J;have x:=aP g J;obtain⟨loc,wr,Q⟩:=g;cases loc with
  |cell h=>
   obtain⟨B,C,j⟩:=x;simp only at B C j;subst B;have E:h.block<b.a.heap.size/\d h.block=0/\h.block≠K.af/\h.block≠K.f/\¬K.bA h.block:=by
    rcases j with j|⟨⟨L,I,j⟩,_⟩|⟨_,t,j⟩
    .exact j.elim
    .obtain⟨k1,p,F,q,r⟩:=D.blk _ (.inr ⟨L,I,j⟩);grind
    obtain⟨k1,p,F,q,r⟩:=D.D _ _ _ j;grind
   refine⟨by rw[ofEvent_cell];exact eK E.1 A.size,λi s _=>?_,λi s _ y o H w m t z M=>?_,⟨by simp,by simp⟩,by simp⟩
   .rw[ofEvent_cell]at s;simp[MemAct.touch?,e']at s;subst s;exact .inr ⟨h.block,a,by grind[lo],E.2.2.2.1,E.2.2.1,E.2.2.2.2,a⟩
   rw[ofEvent_cell]at s;simp[MemAct.touch?,e']at s;subst s;simp only at y z;have N:=D.bC o H w m t M;grind
  |obj O=>
   obtain⟨B,C⟩:=x;simp only at B C;subst B;obtain⟨L,I,j⟩:=C.resolve_left id;obtain⟨k1,p,F,q,r⟩:=D.blk _ (.inr ⟨L,I,j⟩);refine⟨?_,λi s _=>?_,λi s _ _ o _ w m t z=>?_,⟨by simp,by simp⟩,by simp⟩
   .simp[aJ,MemAct.low,Loc.low];exact eK r A.size
   .simp[aJ,MemAct.touch?]at s;subst s;exact .inr ⟨O,a,by grind[lo],F,p,q,a⟩
   simp[aJ,MemAct.touch?]at s;grind
  |mark T=>
   simp[ie]at x;rcases x with rfl|⟨S,rfl⟩
   .exact P5
   exact P5
  |_=>exact x.elim
 grind
def DL(cI:lF P ty K F val j ac h dk gs p o d ef u y Q av O tag c9 x b b_ oO){t}{V}{qV}{nP}{k i}(J:ap P l x p=.go t bi V)(Y:∀I,I<p.heap.size->ey I=d I)(N:p.heap.size<=bi.heap.size)(E:∀T,T<u->lH K d (ef T) T p bi)(B:∀z∈V,(aJ z).low bi.heap.size)(R:∀z∈V,∀x,(aJ z).touch?=f x->x.loc.isMemory=l->o3 K ey x)(S:∀z∈V,∀x,(aJ z).touch?=f x->x.kind=.plain->x.write=l->∀W,W<u->∀I U af,x.loc=.cell ⟨I,U,n⟩->ef W I U≠f af)(M:∀z∈V,∀x,z.loc≠.mark (.release x))(C:PayAt K.af F bi)(q:WgAt ty K.f bi k i)(A:hs P ty K F val j ac h qV u nP (deafBehind O V) t aF)(m:c0 aF {aF with a:=bi})(Z:gA K ey ef u aF)(ab:Go.ConcN.Mode u y qV k i)(aa:phi j (Vc u y) qV<phi j (Vc u y) tag∨(phi j (Vc u y) qV=phi j (Vc u y) tag/\cr.lt nP c9)):
  ∃g r s,runT P (crowd gs p dE) 0=(.next g,r)/\k8 (K.base+j) s dk/\g3 P ty K F val j ac h s g (o++r):=by
 have ag:=cI.ak.bo.base;have D:=runT_crowd_go (P:=P) (sl:=dE) (i:=0) cI.dx (by simpa using J)
 refine⟨_,_,(phi j (Vc u y) qV+Ssum u y+sumTo u Q,(av,nP)),D,?_,_,bi,dE,ey,ef,u,y,Q,av,deafBehind O V,qV,nP,t,aF,k,i,a,
  ⟨Go.ConcN.get_map_set_same _ _ _ Fi,A,m,Z,cI.ak.hU Y N E B R S M C ⟨_,_,q⟩,q,ab,rfl⟩⟩
 rw[cI.eH];rcases aa with ah|⟨ae,X⟩
 .exact Prod.Lex.left _ _ w
 rw[ae];exact Prod.Lex.right _ (Prod.Lex.right _ X)
def nM(m:lF P ty K F val j ac h dk gs p o d ef u y Q av O tag c9 x b b_ oO){J}{V}{nP}{s1}(aj:c0 s1 {s1 with a:=p})(ai:gA K d ef u s1)(D:ap P l x p=.go J aF.a V)(S:kG {s1 with a:=p} aF V∨dR K.f {s1 with a:=p} aF V)(s:hs P ty K F val j ac h tag u nP O J aF)(ar:cr.lt nP c9):
  ∃z E I,runT P (crowd gs p dE) 0=(.next z,E)/\k8 (K.base+j) I dk/\g3 P ty K F val j ac h I z (o++E):=by
 rcases S with⟨⟨k,aq,aB,t,C⟩,aP⟩|⟨rfl,B,M,an⟩
 .have X:gA K d ef u {s1 with a:=p}:=ai.rely aj.size;obtain⟨ab,ae,af,ag,ah⟩:=aab X aB aP C;have e:∀g,g<p.heap.size->(d g≠0∨g=K.af∨g=K.f)->aF.a.heap[g]?=p.heap[g]?:=λg q ao=>C.a4 g q λL ax R=>by obtain⟨aD,aE,aG,_⟩:=X.blk g (.inr ⟨L,ax,R⟩);grind
  have U:=m.ak.bo.base;refine DL m D (ey:=l0 d p.heap.size 0) (λg q=>lo q) C.size (λaw T=>⟨C.size,λg q ak=>e g q (.inl w),λg W au az _=>t.mem g W au (C.mem _ _ _ (ai.bC aw T g W au az)),λW _ _=>nn (e _ m.ak.cx (.inr (.inl a))) W,C.os,C.tape,C.output⟩) ab ae af ah ?_
   (m.bY.of_block (e _ m.ak.cl (.inr (.inr a)))) (aF:=aF) (qV:=tag) (nP:=nP) (by rw[deafBehind_idle ag];exact s) (c0.ew t.mem) (X.step t C m.ak.cl m.ak.cx m.ak.dp) m.mode (.inr ⟨rfl,ar⟩)
  obtain⟨aa,Y,Z⟩:=m.ak.bP;exact⟨aa,(e _ m.ak.cx (.inr (.inl a))).trans Y,Z⟩
 have i:∀r∈V,r=mk (.read B)∨r=mk (.write B):=N;refine DL m D (ey:=d) (λg q=>rfl) (bC _) (λaw T=>.refl ..) (λr A=>?_) (λr A g q _=>?_) (λr A g q aC=>?_) (λr A=>?_) m.ak.bP m.bY (aF:={s1 with a:=p}) (qV:=tag) (nP:=nP) ?_ (aj.fU ) (ai.rely aj.size) m.mode (.inr ⟨rfl,ar⟩)
 .have hW:=m.ak.cl;rcases i r A with rfl|rfl<;>(rw[ofEvent_mk];show B.block<_;grind)
 .rcases i r A with rfl|rfl<;>(rw[ofEvent_mk]at q;simp[MemAct.touch?]at q;subst q;exact .inl ⟨B,rfl,M,by simp⟩)
 .rcases i r A with rfl|rfl<;>(rw[ofEvent_mk]at q;simp[MemAct.touch?]at q;grind)
 .rcases i r A with rfl|rfl<;>simp[mk]
 rw[deafBehind_idle (λr A=>by rcases i r A with rfl|rfl<;>simp[mk])];exact s
def l5(q:lF P ty K F val j ac h dk gs p o d ef u y Q av O tag c9 x b b_ oO){D}{V}{e}{t}{z w}{s1}(af:c0 s1 {s1 with a:=p})(i:gA K d ef u s1)(R:ap P l x p=.go D bi V)(J:Aside K.f p bi)(C:WgAt ty K.f bi z w)(g:∀I∈V,Bk K.f I)(B:hs P ty K F val j ac h e u t (deafBehind O V) D {s1 with a:=bi})(k:Go.ConcN.Mode u y e z w)(ae:phi j (Vc u y) e<phi j (Vc u y) tag∨(phi j (Vc u y) e=phi j (Vc u y) tag/\cr.lt t c9)):
  ∃m r A,runT P (crowd gs p dE) 0=(.next m,r)/\k8 (K.base+j) A dk/\g3 P ty K F val j ac h A m (o++r):=by
 obtain⟨U,M,N⟩:=q.ak.bP;have X:c0 s1 {s1 with a:=bi}:=i.dg af (rk.bY J);refine DL q R (ey:=d) (λS s=>rfl) (by rw[J.size];grind) (λah W=>.bY J q.ak.bo.dd q.ak.bo.base (λS ab ag Z=>(q.ak.bo.bC ah W S ab ag Z).2.2.1) q.ak.bo.bU) (G9 g (by rw[J.size];exact q.ak.cl)) (λI T S s d=>?_) (λI T S s aa=>?_) (G_ g)
  ⟨U,(J.block _ q.ak.bo.bU).trans M,N⟩ C B X.fU (i.rely X.size) k ae
 .rcases g I T with bk|bk|⟨E,wr,rfl,Y⟩
  .exact z7
  .exact z7
  rw[ofEvent_cell]at s;simp[MemAct.touch?,e']at s;subst s;exact .inl ⟨E,a,Y,by simp⟩
 rcases g I T with bk|bk|⟨E,wr,rfl,Y⟩
 .exact z7
 .exact z7
 rw[ofEvent_cell]at s;simp[MemAct.touch?,e']at s;grind
end
section
variable {K:hR}{ac aj:ag->a6->Prop}{T ey:Nat->Nat}{bz h:Nat->Mem}{tag:CTag}{c9:cr}{O:Nat}{x:ag}{bT:pW}{dE:Option (Nat×Nat)}{o:Trace}{y:Nat->WD}{Q:Nat->Nat}{av:Nat->cr}{b_ W:Int}
def hs.gb(a:hs P ty K F val j ac aj tag u c9 O x b):u+pend tag<=j:=by cases a<;>simp[pend]<;>(try simp)<;>omega
omit [Payload]in
def nI(q:gN (af.aE P ty K.f) (dR K.f) br c9 x b)(r:c0 b {b with a:=p})(o:gA K T bz u b)(h:WgLive ty K.f p):
  (∃a,c0 a {a with a:=p}/\gA K T bz u a/\br x a)∨∃a,c0 a {a with a:=p}/\gA K T bz u a/\∃i e g k,ap P l x p=.go i e.a g/\(kG {a with a:=p} e g∨dR K.f {a with a:=p} e g)/\gN (af.aE P ty K.f) (dR K.f) br k i e/\cr.lt k c9:=by
 rcases q.bb (λd=>c0 d {d with a:=p}/\gA K T bz u d) (λd a M j=>⟨j.1.aO M,j.2.aO M⟩) (λG=>False.elim G) ⟨r,o⟩with⟨a,⟨k1,s⟩,m⟩|⟨_,a,⟨k1,s⟩,m⟩
 .grind
 exact .inr ⟨a,k1,s,m _ ⟨k1,λ_=>h⟩⟩
def hS.quits{g x b_ O}{e}{C}(b:hS P ty K F val T bz g x b_ e O C p)(a:b_=1):∃d,QuitsD P d O C:=by
 cases b with
 |da _ _ _=>cases a
 |rel _=>cases a
 |tail _ b=>exact⟨_,b.quits a⟩
def hS.jZ{e x b_ O}{d}(a:hS P ty K F val T bz e x b_ d O C p)(b:b_=1):x=0:=by
 cases a with
 |da _ _ _=>cases b
 |rel _=>rfl
 |tail _ a=>rfl
def acZ(cI:lF P ty K F val j ac aj bT gs p o T bz u y Q av O tag c9 x b b_ W)(bN:j<2147483648)(a0:∀C b,aj C b->dv (af.aE P ty K.f) (dR K.f) (re P ty K ac aj) C b)(a':x.status=.running):
  ∃ax i,runT P (crowd gs p dE) 0=(.next ax,i)/\((∃ey aR,wZ P K F val j ac ey aR ax (o++i))∨∃k,k8 (K.base+j) k bT/\g3 P ty K F val j ac aj k ax (o++i)):=by
 have bG:=Vc_le u y;have bu:=cI.ak.bo.base;have e:=cI.ak.cZ;have fin:∀{q:Prop},(∃ax i k,runT P (crowd gs p dE) 0=(.next ax,i)/\k8 (K.base+j) k bT/\g3 P ty K F val j ac aj k ax (o++i)) ->
   ∃ax i,runT P (crowd gs p dE) 0=(.next ax,i)/\((∃ey aR,wZ P K F val j ac ey aR ax (o++i))∨∃k,k8 (K.base+j) k bT/\g3 P ty K F val j ac aj k ax (o++i)):=
  λ{_} ⟨ax,i,k,aB,ai,aG⟩=>⟨ax,i,aB,.inr ⟨k,ai,aG⟩⟩
 have bh:=cI.dz.gb;have bx:=cI.dz;have A:=cI.bY;have ah:=cI.mode;cases bx with
 |@ff g c9 C b I X=>
  rcases nI X cI.rely cI.aE e with⟨aF,k1,s,_,hB,H,d⟩|⟨aF,k1,s,hB,b7,V,h,H,Z,d,aP⟩
  .obtain⟨aa,d⟩:=d {aF with a:=p} (mL k1 e);exact fin (q:=True) (l5 cI k1 s (H p) (.refl K.f p) A bk_dis (.fN I d) (ah.reopen B B a D) (.inl md))
  exact fin (q:=True) (nM cI k1 s H Z (.ff I d) aP)
 |@fN g c9 C b I X=>
  rcases nI X cI.rely cI.aE e with⟨aF,k1,s,_,az⟩|⟨aF,k1,s,hB,b7,V,h,H,Z,d,aP⟩
  .obtain⟨an,J,R,_⟩:=ah.open_inv B;rw[J,R]at A;obtain⟨fW,H,aa,d⟩:=az {aF with a:=p} (mL k1 e) (Vc (j-(g+1)) y) w (by simpa[pend]using A);refine fin (q:=True) (l5 cI k1 s H (aside_setCell p (stA K.f) _) (A.setSt _) bk_rw (.fP I d) ?_ (.inl md));have ag:(((Vc (j-(g+1)) y:Nat):Int)+1)*KK=((Vc (j-(g+1)) y+pend (.sp g 3):Nat):Int)*KK:=by simp[pend]
   rw[ag];exact .opn B an D
  exact fin (q:=True) (nM cI k1 s H Z (.fN I d) aP)
 |@fP g c9 C b I X=>
  rcases nI X cI.rely cI.aE e with⟨aF,k1,s,_,hB,H,d⟩|⟨aF,k1,s,hB,b7,V,h,H,Z,d,aP⟩
  .obtain⟨aa,d⟩:=d {aF with a:=p} (mL k1 e);exact fin (q:=True) (l5 cI k1 s (H p) (.refl K.f p) A bk_en (.fO I d) (ah.reopen B B a D) (.inl md))
  exact fin (q:=True) (nM cI k1 s H Z (.fP I d) aP)
 |@fO g c9 C b I X=>
  rcases nI X cI.rely cI.aE e with⟨aF,k1,s,_,az⟩|⟨aF,k1,s,hB,b7,V,h,H,Z,d,aP⟩
  .obtain⟨fW,rF,bm,_,⟨rc,bo⟩,ar⟩:=az {aF with a:=p} (mL k1 e);obtain⟨an,J,R,_⟩:=ah.open_inv B;rw[J,R]at A;have r:=runT_crowd_spawn (P:=P) (sl:=dE) (i:=0) cI.dx (by simpa using bm);rw[cI.ak.size]at r;have bs:=s.rely k1.size;let aR:=upd bz (j-(g+1)) aF.D;have a1:∀bD,bD<j-(g+1)->aR bD=bz bD:=λbD bb=>upd_ne bz _ w;have aH:aR (j-(g+1))=aF.D:=upd_same bz _ _;have aK:c0 (a6.dy {aF with a:=p}) {a6.dy {aF with a:=p}with a:=p}:=c0.ew k1.mem;have aY:hG T (aR (j-(g+1))) (K.base+(j-(g+1))) (a6.dy {aF with a:=p}):=by
    refine⟨λaZ aw=>?_,λaZ bq br t=>⟨.inr (by rw[aH];exact t),(bs.D aZ bq br t).2.2.2.2⟩⟩;rcases aw with aw|⟨L,bF,_⟩
    .exact aw.elim
    simp[a6.dy]at bF
   have S:=(cI.ak.congr a1).spawn (fW:=fW) (E:={g:=0,fn:=x.frame.fn,pos:=x.frame.place,act:=.go (K.base+(j-(g+1)))}) (bD:={g:=K.base+(j-(g+1)),fn:=rF.frame.fn,pos:=x.frame.place,act:=.start}) ⟨rfl,rfl⟩ ⟨rfl,rfl⟩
    (λaZ bq br t=>by rw[aH]at t;exact bs.D aZ bq br t) bo aK aY
   have bf:Vc (j-(g+1)+1) (upd y (j-(g+1)) ⟨7,0,0⟩)=Vc (j-(g+1)) y+1:=by simp[Vc,sumTo,upd_same];rw[sumTo_upd_out y _ cnt (bC _)];rfl
   have bd:Ssum (j-(g+1)+1) (upd y (j-(g+1)) ⟨7,0,0⟩)=Ssum (j-(g+1)) y+7:=by simp[Ssum,sumTo,upd_same];rw[sumTo_upd_out y _ WD.stage (bC _)]
   have bc:sumTo (j-(g+1)+1) (upd Q (j-(g+1)) 1)=sumTo (j-(g+1)) Q+1:=by have:sumTo (j-(g+1)) (upd Q (j-(g+1)) 1)=sumTo (j-(g+1)) Q:=sumTo_upd_out Q 1 id (i:=j-(g+1)) (j:=j-(g+1)) (bC _);show sumTo (j-(g+1)) (upd Q (j-(g+1)) 1)+upd Q (j-(g+1)) 1 (j-(g+1))=_;rw[upd_same];grind
   have au:OpenSt (j-(g+1)+1) (upd y (j-(g+1)) ⟨7,0,0⟩):=λY ak=>by
    by_cases ag:Y=j-(g+1)
    .subst ag;exact wD
    rw[upd_ne y _ ag];exact an Y w
   have a2:((gs.setIfInBounds 0 fW).push rF)[0]?=f fW:=by have bg:0<gs.size:=Fi;grind
   have bt:gA K T aR (j-(g+1)+1) {aF with a:=p}:=⟨bs.blk,bs.D,λbD bb aZ bq br t=>by
    rcases dY bD (j-(g+1))with aB|aB
    .rw[a1 bD aB]at t;exact bs.bC bD aB aZ bq br t
    .obtain rfl:bD=j-(g+1):=w
     rw[aH]at t;exact t⟩
   have bA:j-(g+1)+1=j-g:=w;rw[bA]at S bf bd bc au bt;have aE:∀aq,pend aq=0->((Vc (j-(g+1)) y+pend (.sp g 2):Nat):Int)*KK=((Vc (j-g) (upd y (j-(g+1)) ⟨7,0,0⟩)+pend aq:Nat):Int)*KK:=λaq bO=>by exact hK
   cases g with
   |zero=>
    obtain⟨aQ,d⟩:=ar;simp only[sD]at S bf bd bc au aE bt;refine⟨_,_,r,.inr ⟨(phi j (Vc j (upd y (j-(0+1)) ⟨7,0,0⟩)) .kd+Ssum j (upd y (j-(0+1)) ⟨7,0,0⟩)+sumTo j (upd Q (j-(0+1)) 1),(upd av (K.base+(j-(0+1))) rc,aQ)),by rw[cI.eH];exact Prod.Lex.left _ _ md,
     _,p,dE,T,aR,j,_,_,_,0,.kd,aQ,fW,{aF with a:=p},_,_,rfl,⟨a2,.kd d,k1.fU,bt,S,A,?_,rfl⟩⟩⟩
    rw[aE .kd a];exact .opn B au D
   |succ h=>
    obtain⟨aQ,d⟩:=ar;refine⟨_,_,r,.inr ⟨(phi j (Vc (j-(h+1)) (upd y (j-(h+1+1)) ⟨7,0,0⟩)) (.sp h 5)+Ssum (j-(h+1)) (upd y (j-(h+1+1)) ⟨7,0,0⟩)+sumTo (j-(h+1)) (upd Q (j-(h+1+1)) 1),(upd av (K.base+(j-(h+1+1))) rc,aQ)),by rw[cI.eH];exact Prod.Lex.left _ _ md,
     _,p,dE,T,aR,j-(h+1),_,_,_,0,.sp h 5,aQ,fW,{aF with a:=p},_,_,rfl,⟨a2,.ff w d,k1.fU,bt,S,A,?_,rfl⟩⟩⟩
    rw[aE (.sp h 5) a];exact .opn B au D
  exact fin (q:=True) (nM cI k1 s H Z (.fO I d) aP)
 |kd X=>
  rcases nI X cI.rely cI.aE e with⟨aF,k1,s,_,hB,H,d⟩|⟨aF,k1,s,hB,b7,V,h,H,Z,d,aP⟩
  .obtain⟨aa,d⟩:=a0 _ _ (d {aF with a:=p} (mL k1 e));exact fin (q:=True) (l5 cI k1 s (H p) (.refl K.f p) A bk_dis (.w1 d) (ah.reopen B B a D) (.inl md))
  exact fin (q:=True) (nM cI k1 s H Z (.kd d) aP)
 |w1 X=>
  rcases nI X cI.rely cI.aE e with⟨aF,k1,s,_,az⟩|⟨aF,k1,s,hB,b7,V,h,H,Z,d,aP⟩
  .obtain⟨an,J,R,_⟩:=ah.open_inv B;rw[J,R]at A;have bM:=Vc_le j y;obtain⟨fW,H,bg,bl⟩:=az {aF with a:=p} (mL k1 e) (Vc j y) w N;by_cases t:Vc j y=0
   .obtain⟨aa,d⟩:=bg t;refine fin (q:=True) (l5 cI k1 s H (.refl K.f p) A bk_rd (.ke d) ?_ (.inl md));have ag:((Vc j y+pend .w1:Nat):Int)*KK=0:=N;rw[ag];exact .fin B (allQuit_of an t)
   obtain⟨aa,d⟩:=bl t;refine fin (q:=True) (l5 cI k1 s H (.refl K.f p) A bk_rd (.w2 d) ?_ (.inl md));have:=ah.reopen (tag':=.w2 (Vc j y)) B B a (λz ag=>by grind);grind
  exact fin (q:=True) (nM cI k1 s H Z (.w1 d) aP)
 |@w2 z c9 C b X=>
  rcases nI X cI.rely cI.aE e with⟨aF,k1,s,_,az⟩|⟨aF,k1,s,hB,b7,V,h,H,Z,d,aP⟩
  .obtain⟨an,J,R,bn⟩:=ah.open_inv B;rw[J,R]at A;obtain⟨bJ,aB⟩:=bn z rfl;obtain⟨a7,aS⟩:=az {aF with a:=p} (mL k1 e) (Vc j y) w N;by_cases ag:Vc j y=z
   .obtain⟨fW,H,aa,d⟩:=a7 ag;exact fin (q:=True) (l5 cI k1 s H (aside_setCell p (stA K.f) _) (A.setSt _) bk_rw (.w3 d) (.reg B an w) (.inl md))
   obtain⟨fW,H,d⟩:=aS ag;obtain⟨aa,d⟩:=a0 _ _ d;refine fin (q:=True) (l5 cI k1 s H (.refl K.f p) A bk_rd (.w1 d) ?_ (.inl md));have:=ah.reopen (tag':=.w1) B B a D;grind
  exact fin (q:=True) (nM cI k1 s H Z (.w2 d) aP)
 |@w3 c9 C b X=>
  rcases nI X cI.rely cI.aE e with⟨aF,k1,s,aV⟩|⟨aF,k1,s,hB,b7,V,h,H,Z,d,aP⟩
  .obtain⟨_,a_,az⟩:=aV;obtain⟨aI,aX⟩:=az {aF with a:=p} (mL k1 e);obtain⟨E,m⟩:=cr.jq b c9;have aO:=oX.rely ⟨a',a_,az⟩ (mL k1 e);generalize b_=bL at ah A;generalize W=bK at ah A;cases ah with
   |opn aB _ _=>exact aB.elim
   |reg aB ai aG=>exact fin (q:=True) (l5 cI k1 s (aI ⟨_,A⟩) (.refl K.f p) A D (.blk (c9:=E) aO) (.reg B ai aG) (.inr ⟨rfl,m⟩))
   |last L aB ai aG bE=>exact fin (q:=True) (l5 cI k1 s (aI ⟨_,A⟩) (.refl K.f p) A D (.blk (c9:=E) aO) (.last L B ai aG bE) (.inr ⟨rfl,m⟩))
   |sema ai=>
    obtain⟨fW,H,aa,d⟩:=aX A;exact fin (q:=True) (l5 cI k1 s H (aside_setCell p (smA K.f) _) (A.setSm 0) bk_sem (.w4 d) (.fin B ai) (.inl md))
   |fin aB _=>exact aB.elim
  exact fin (q:=True) (nM cI k1 s H Z (.w3 d) (cr.hg aP))
 |blk X=>grind
 |w4 X=>
  rcases nI X cI.rely cI.aE e with⟨aF,k1,s,_,az⟩|⟨aF,k1,s,hB,b7,V,h,H,Z,d,aP⟩
  .obtain⟨ae,J,R⟩:=ah.fin_inv B;rw[J,R]at A;obtain⟨fW,H,aa,d⟩:=az {aF with a:=p} (mL k1 e) A;exact fin (q:=True) (l5 cI k1 s H (.refl K.f p) A bk_rd (.ke d) (.fin B ae) (.inl md))
  exact fin (q:=True) (nM cI k1 s H Z (.w4 d) aP)
 |ke X=>
  rcases nI X cI.rely cI.aE e with⟨aF,k1,s,_,hB,H,d⟩|⟨aF,k1,s,hB,b7,V,h,H,Z,d,aP⟩
  .obtain⟨aa,d⟩:=d {aF with a:=p} (mL k1 e);obtain⟨ae,J,R⟩:=ah.fin_inv B;rw[J,R]at A;exact fin (q:=True) (l5 cI k1 s (H p) (.refl K.f p) A bk_en (.acq d) (.fin B ae) (.inl md))
  exact fin (q:=True) (nM cI k1 s H Z (.ke d) aP)
 |acq X=>
  rcases nI X cI.rely cI.aE e with⟨aF,k1,s,_,fW,H,d⟩|⟨aF,k1,s,hB,b7,V,h,H,Z,d,aP⟩
  .obtain⟨ae,J,R⟩:=ah.fin_inv B;have r:=runT_crowd_go (P:=P) (sl:=dE) (i:=0) cI.dx (by simpa using H p);have a5:MemOp.ofEvents 0 x.frame.fn x.frame.place #[mk (.acquire (stA K.f))]=#[{g:=0,fn:=x.frame.fn,pos:=x.frame.place,act:=.mark (.acquire (stA K.f))}]:=by rw[ofEvents_eq];simp[ofEvent_mk]
   have aC:=cI.ak.hU (C:=x) (hB:=fW) (fn:=x.frame.fn) (pos:=x.frame.place) (V:=#[mk (.acquire (stA K.f))]) (ey:=T) (bi:=p) (λ_ _=>rfl) (bC _) (λbD _=>.refl ..) (by simp;exact cI.ak.cl) (by intro ag ab aZ aw;simp at ab;subst ab;exact cX) (by intro ag ab aZ aw;simp at ab;subst ab;simp[mk,aJ,MemAct.touch?]at aw) (by intro ag ab;simp at ab;subst ab;simp[mk]) cI.ak.bP e;have bH:deafBehind 0 #[mk (.acquire (stA K.f))]=0:=rfl;have bb:(o++#[({g:=0,fn:=x.frame.fn,pos:=x.frame.place,act:=.mark (.acquire (stA K.f))}:MemOp)])[o.size]?=f {g:=0,fn:=x.frame.fn,pos:=x.frame.place,act:=.mark (.acquire (stA K.f))}:=D
   have aT:=aC.bo.jI (by rw[aC.dA];rfl) (aC.dX _) (bk:=o.size) (by rw[a5,act?_of bb]) (by rw[a5];simp[Trace.g?]) (by rw[a5];exact⟨0,by simp[Trace.g?],by rw[deaf_old (bC _)];exact cI.ak.dA⟩) (λE m=>by
    obtain⟨g,I⟩:=cI.ak.rel E m (by rw[ae E m];omega)
    exact⟨g,I.appOther g_of_ofEvents w,lt_of_act? I.act⟩)
   have aM:∃bk,Leavers P (o++MemOp.ofEvents 0 x.frame.fn x.frame.place #[mk (.acquire (stA K.f))]) ((gs.map (woken P x fW p)).setIfInBounds 0 fW) bk:=by
    have aD:∀Y,∃bp,∀C,0<Y->((gs.map (woken P x fW p)).setIfInBounds 0 fW)[Y]?=f C->QuitsD P bp (Deaf (o++MemOp.ofEvents 0 x.frame.fn x.frame.place #[mk (.acquire (stA K.f))]) Y) C:=by
     intro Y;cases aL:((gs.map (woken P x fW p)).setIfInBounds 0 fW)[Y]? with
     |none=>simp
     |some C=>
      rcases n_ Y with ag|ao
      .exact⟨0,λhB X=>by omega⟩
      rcases dY Y K.base with aP|bI
      .obtain⟨bp,_,bj⟩:=aC.dr Y C ao aP aL;exact⟨bp,λhB _ a3=>by grind⟩
      obtain⟨E,rfl⟩:∃E,Y=K.base+E:=⟨Y-K.base,by omega⟩
      have m:E<j:=by have:=(jk.1 aL).1;rw[aC.size]at this;omega
      obtain⟨bB,a4,aN⟩:=aC.c_ E m;rw[aL]at a4;cases a4;obtain⟨bp,bj⟩:=aN.quits (ae E m);refine⟨bp,λhB _ a3=>?_⟩;cases a3;rw[aC.dB E m];omega
    exact⟨λY=>Classical.choose (aD Y),λY C ak M=>Classical.choose_spec (aD Y) C ak M,λY ak=>aC.above Y (by rw[aC.size]at ak;exact ak)⟩
   obtain⟨bk,aM⟩:=aM;refine⟨_,_,r,.inl ⟨T,bz,⟨_,p,dE,fW,aF,bk,rfl,Go.ConcN.get_map_set_same _ _ _ Fi,aC.size,d {aF with a:=p} (mL k1 e),k1,s,aM,aT,aC.dX,cI.ak.bP,λE m Y ak=>?_,cI.ak.cx,cI.ak.cl,cI.ak.dp⟩⟩⟩;obtain⟨bB,_,aN⟩:=cI.ak.c_ E m;rcases n_ Y with ag|ao
   .subst ag;exact cI.ak.dN E m (by rw[ae E m];omega)
   exact cI.ak.dn E m (aN.jZ (ae E m)) Y ao ak
  exact fin (q:=True) (nM cI k1 s H Z (.acq d) aP)
end
end
section
open Go.Conc
open Go.ConcN (WD CTag Vc Ssum pend phi cnt WgLive PayAt Has WSit RelBy sumTo upd upd_same upd_ne exists_counted)
open Go.ConcR (KK WgAt stA smA Payload)
variable [Payload]
section
variable {K:hR}{ac s:ag->a6->Prop}{d:Nat->Nat}{bz:Nat->Mem}{tag:CTag}{c9:cr}{O:Nat}{x:ag}{aj:pW}{dE:Option (Nat×Nat)}{o:Trace}{y:Nat->WD}{Q:Nat->Nat}{av:Nat->cr}{b_ T:Int}
def hS.running_of{b x b_ O}{h}{C}(g:hS P ty K F val d bz b x b_ h O C p)(e:b_≠1):C.status=.running:=by
 cases g with
 |da a _ _=>exact a.run λ_ _ b=>b.1
 |rel a=>exact Goes.running (λ_ _ b=>b.1) p (Go.ConcN.RW.refl p) a
 |tail _ a=>exact a.running_of e
def acK(g:lF P ty K F val j ac s aj gs p o d bz u y Q av O tag c9 x b b_ T):∃(m:Nat)(e:ag),gs[m]?=f e/\e.status=.running:=by
 rcases g.dz.status with⟨h,_⟩|⟨_,rfl⟩
 .exact⟨0,x,g.dx,h⟩
 have r:=g.mode;cases r with
 |opn a _ _=>exact a.elim
 |reg _ _ q=>
  obtain⟨m,k,z⟩:=exists_counted q;obtain⟨e,i,h⟩:=g.ak.c_ m k;exact⟨_,e,i,h.running_of w⟩
 |last L _ t q _=>
  obtain⟨e,i,h⟩:=g.ak.c_ L t;exact⟨_,e,i,h.running_of w⟩
 |fin a _=>exact a.elim
def SX(e:lF P ty K F val j ac s aj gs p o d bz u y Q av O tag c9 x b b_ T):∀m∈gs,awake m:=by
 intro m B E;obtain⟨i,a⟩:=Array.mem_iff_getElem?.1 B;rcases n_ i with rfl|r
 .rw[e.dx]at a;cases a;rcases e.dz.status with⟨h,_⟩|⟨h,_⟩<;>rw[h]<;>simp
 rcases dY i K.base with w|D
 .obtain⟨A,_,z⟩:=e.ak.dr i m r w a;rcases z.status with g|g<;>rw[g]<;>simp
 obtain⟨k,rfl⟩:∃k,i=K.base+k:=⟨i-K.base,by omega⟩
 have C:k<u:=by have:=(jk.1 a).1;rw[e.ak.size]at this;omega
 obtain⟨t,q,h⟩:=e.ak.c_ k C;rw[a]at q;cases q;rcases h.status with g|g<;>rw[g]<;>simp
def lF.at(e:lF P ty K F val j ac s aj gs p o d bz u y Q av O tag c9 x b b_ T)(IR):lF P ty K F val j ac s aj gs (p.at IR) o d bz u y Q av O tag c9 x b b_ T:=
 ⟨e.dx,e.dz,e.rely.eG (bC _) (λ_ _=>rfl) (λ_ _ _ _ g=>g) a a a,e.aE,e.ak.at IR,e.bY,e.mode,e.eH⟩
def acY(h:lF P ty K F val j ac s aj gs p o d bz u y Q av O tag c9 x b b_ T)(r:0<e)(I:e<K.base)(A:gs[e]?=f C)(B:C.status=.running):
  ∃E i m,runT P (crowd gs p dE) e=(.next E,i)/\k8 (K.base+j) m aj/\g3 P ty K F val j ac s m E (o++i):=by
 obtain⟨z,G,M⟩:=h.ak.dr e C r I A;cases z with
 |zero=>rw[M.1]at B;cases B
 |succ z=>
  rcases M with⟨H,_⟩|⟨_,q,V,X,U,J⟩
  .grind
  .have Y:(e==0)=v:=N;have S:=runT_crowd_go (P:=P) (sl:=dE) (i:=e) A (by rw[Y];exact U p)
   obtain⟨g,k,W,D,Z⟩:=h.dz.h6 C q p;have R:Go.ConcN.Mode u y g b_ T:=h.mode.retag D;refine⟨_,_,(phi j (Vc u y) g+Ssum u y+sumTo u Q,(upd av e (cr.dI z),k)),S,?_,_,p,dE,d,bz,u,y,Q,_,O,g,k,woken P C q p x,b,b_,T,a,
    ⟨by rw[Go.ConcN.get_map_set _ _ _ _ w,h.dx];rfl,W,h.rely,h.aE,h.ak.bs r I X J,h.bY,R,rfl⟩⟩
   rw[h.eH,Go.ConcN.phi_retag j _ D];exact Prod.Lex.right _ (Prod.Lex.left _ _ ⟨e,by omega,by rw[upd_same,G];exact cr.gw _ b,λaa t=>upd_ne av _ t⟩)
def Zt(M:j<2147483648)(y:∀q t,s q t->dv (af.aE P ty K.f) (dR K.f) (re P ty K ac s) q t){A}(D:g3 P ty K F val j ac s aj A o):
  ∃e a,stepT P A=(.next e,a)/\((∃g d,wZ P K F val j ac g d e (o++a))∨∃h,k8 (K.base+j) h aj/\g3 P ty K F val j ac s h e (o++a)):=by
 obtain⟨C,Q,dE,X,Z,x,T,S,V,B,tag,N,W,t,O,Y,rfl,b⟩:=D;obtain⟨k,q,m,r,i,p,E⟩:=crowd_pick (P:=P) (w:=Q) (sl:=dE) (SX b) (acK b);rw[E];have w:=b.at m;have z:x<=j:=by have:=b.dz.gb;omega
 rcases n_ k with rfl|I
 .rw[b.dx]at i;cases i;exact acZ (dE:=r) w M y p
 rcases dY k K.base with R|U
 .obtain⟨e,a,h,H,G,J⟩:=acY (dE:=r) w I R i p;grind
 obtain⟨u,rfl⟩:∃u,k=K.base+u:=⟨k-K.base,by omega⟩
 have L:u<x:=by have:=(jk.1 i).1;rw[b.ak.size]at this;omega
 obtain⟨e,a,h,H,G,J⟩:=ac3 (dE:=r) w M z b.dz.gb L i p;grind
def Zu(B:j<2147483648)(y:∀t w,s t w->dv (af.aE P ty K.f) (dR K.f) (re P ty K ac s) t w):∀i(q:Machine)g,g3 P ty K F val j ac s i q g ->
  ∃o m k b a,runNT P o q g=(.next m,k)/\wZ P K F val j ac b a m k:=by
 intro i;induction(aao (K.base+j)).apply i with
 |intro i _ A=>
  intro q g x;obtain⟨r,d,u,e⟩:=Zt B y x;rcases e with⟨b,a,e⟩|⟨h,e,p⟩
  .exact⟨1,r,g++d,b,a,by simp[runNT,u],e⟩
  obtain⟨o,m,k,b,a,k1,z⟩:=A h e r (g++d) p;exact⟨o+1,m,k,b,a,by simp only[runNT,u];exact k1,z⟩
def k5.gi{cH}{Y:ag->a6->Prop}(vE)(an:0<vE)(bo M)(aI:j<2147483648)(au:M≠bo)(Z:e_ b cH)(aL:C.status=.running)(ae:∃L∈b.t,M∈L.al)(ai:∃L∈b.t,bo∈L.al)(aC:∀d,(b.own d∨∃L∈b.t,d∈L.al)->d<b.a.heap.size)(bf:∀d,(d=M∨d=bo)->¬cH.own d/\(∀L∈cH.t,d∉L.al)/\∀o,cH.D d o=n)(aE:WgAt ty bo b.a 0 0)(Q:PayAt M F b.a)(bd:∀k:hR,k.f=bo->k.af=M->k.aI=vE->∃X U,(∀C b,U C b->dv (af.aE P ty k.f) (dR k.f) (re P ty k X U) C b)/\o2 P ty k F val j U j C cH /\
   ∀aa i,X aa i->gB i->PayAt M F i.a->(∀g,g<j->∀r,r<vE->i.a.cell? ⟨M,vE*g+r,n⟩=f (val g r))->M<i.a.heap.size->(∀d,(d=M∨d=bo)->¬i.own d/\(∀L∈i.t,d∉L.al)/\∀o,i.D d o=n) ->
    ∃w,Y aa w/\w.a=i.a/\gB w/\∀h:Nat->Prop,g2 h i->¬h M->g2 h w):k5 P C b Y:=by
 intro h p T aN a8 bl K G ah x av;have bb:¬h M:=λS=>let ⟨L,G,e⟩:=ae;x.t M S L G e
 have bc:¬h bo:=λS=>let ⟨L,G,e⟩:=ai;x.t bo S L G e
 have O:=aC M (.inr ae);have a':=aC bo (.inr ai);have R:1<=p.size:=(jk.1 K).1;let k:hR:={bA:=h,bQ:=aN.size,f:=bo,af:=M,base:=p.size,aI:=vE}
 obtain⟨X,U,ab,V,ba⟩:=bd k rfl rfl rfl;have aP:=x.aO Z;have I:gB cH:=.aO Z;have aQ:gA k (λ_=>0) (λ_ _ _=>n) 0 cH:=by
  refine⟨λd e=>⟨a,λm=>N,λm=>N,λm=>?_,by rw[Z.a];exact aC d (Z.blk d e)⟩,λd o aB t=>⟨a,λm=>?_,λm=>?_,λm=>?_,gB.lt I t⟩,λg q=>absurd q (iS g)⟩
  .rcases e with e|⟨L,G,e⟩
   .exact aP.own d m e
   exact aP.t d m L G e
  .grind
  .grind
  rw[aP.D d m o]at t;cases t
 have aS:is P ty k F val (λ_=>0) (λ_ _ _=>n) 0 p b.a aN (λ_=>⟨0,0,0⟩) (λ_=>0) (λr=>cr.dI (a8 r)) 0:=
  ⟨rfl,λr C s _ ak=>⟨a8 r,rfl,G.old r C s ak⟩,G.above,λg q=>absurd q (iS g),fP.start ah a R au bc bb,av,ah.hears,λg q=>absurd q (iS g),λg q=>absurd q (iS g),λg q=>absurd q (iS g),λg q=>absurd q (iS g),
   Q,⟨_,_,aE⟩,a',O,x.lt,an,λg q=>absurd q (iS g)⟩
 have aT:c0 cH {cH with a:=b.a}:=by have:=c0.ew I;rw[<-Z.a];exact this
 have aO:∃aG,g3 P ty k F val j X U aG (crowd p b.a T) aN:=by
  cases j with
  |zero=>
   obtain⟨az,V⟩:=V;exact⟨_,p,b.a,T,_,_,0,_,_,_,0,.kd,az,C,cH,_,_,a,⟨K,.kd V,aT,aQ,aS,aE,by have:=Go.ConcN.Mode.opn (j:=0) (D:=λ_=>(⟨0,0,0⟩:WD)) (tag:=.kd) B (λr s=>absurd s (iS r)) D;simpa[Vc,sumTo,pend]using this,a⟩⟩
  |succ j=>
   obtain⟨az,V⟩:=V;have A:hs P ty k F val (j+1) X U (.sp j 5) (j+1-(j+1)) az 0 C cH:=.ff (Nat.lt_succ_self j) V;rw[sI]at A;exact⟨_,p,b.a,T,_,_,0,_,_,_,0,.sp j 5,az,C,cH,_,_,a,⟨K,A,aT,aQ,aS,aE,by have:=Go.ConcN.Mode.opn (j:=0) (D:=λ_=>(⟨0,0,0⟩:WD)) (tag:=.sp j 5) B (λr s=>absurd s (iS r)) D;simpa[Vc,sumTo,pend]using this,a⟩⟩
 obtain⟨aG,aO⟩:=aO;obtain⟨bk,bg,bj,E,W,ax,⟨aV,z,a9,aF,H,bh,rfl,a1,_,a0,J,ao,aX,aY,aJ,aw,a_,aq,a4,ar⟩⟩:=Zu aI ab aG _ _ aO;have aD:gA k E W j {H with a:=z}:=ao.rely J.size;have aR:∀d,(d=M∨d=bo∨h d)->¬H.own d/\(∀L∈H.t,d∉L.al)/\∀o,H.D d o=n:=by
  intro d e;have key:∀g,(E g=0/\g≠k.af/\g≠k.f/\¬k.bA g/\g<z.heap.size)->g≠d:=N;refine⟨λaK=>key d (aD.blk d (.inl aK)) a,λL G aj=>key d (aD.blk d (.inr ⟨L,G,aj⟩)) a,λo=>?_⟩;cases aH:H.D d o with
  |none=>rfl
  |some aB=>exact absurd rfl (key d (aD.D d o aB aH))
 obtain⟨w,aZ,a7,a5,a2⟩:=ba aF {H with a:=z} a0 (λd o aB t=>J.mem d o aB t) aw a_ aq (λd e=>aR d (e.elim .inl λm=>.inr (.inl m)));have a3:g2 (λd=>h d∨d=bo) {H with a:=z}:=by have aM:∀d,(h d∨d=bo)->¬H.own d/\(∀L∈H.t,d∉L.al)/\∀o,H.D d o=n:=λd e=>aR d (e.elim (λm=>.inr (.inr m)) λm=>.inr (.inl m));exact⟨λd e=>(aM d e).1,λd e=>(aM d e).2.1,λd e=>(aM d e).2.2,λd e=>e.elim (ar d) λm=>by grind⟩
 grind
end
end
section
open Go.Conc Go.RowKit Go.Conc.Lib Go.ConcR.Gen
open Go.ConcN (WgLive)
open Go.ConcR (KK WgAt stA smA rd wr mk DC0)
variable {L:WgLink}
section
variable (P:aD)(dk:au->au->Prop)(L:WgLink)(bo:Nat)(hD:ag)
def AE(b:ag)(_:au):Prop:=b.status=.running/\∃a,(∀d,ap P l b d=.go a d #[mk .enable])/\∀w1,WgLive L.tWg bo w1->∃e,Goes P l dk DC0 (λb _=>b=hD) e a w1
def Sz(d:ag)(_:au):Prop:=d.status=.running/\∃b a,a.block=bo/\(∀e,ap P l d e=.go b e #[mk (.read a)])/\∀w1,WgLive L.tWg bo w1->∃g,Goes P l dk DC0 (AE P dk L bo hD) g b w1
def Gm(b:ag)(a:au):Prop:=b.status=.running/\∀e:Nat,e<2147483647->WgAt L.tWg bo a (e*KK) 0 ->
 ∃d,ap P l b a=.go d (a.setCell (stA bo) (.int .u64 ((e+1)*KK))) #[rd (stA bo),wr (stA bo)]/\∃g,Goes P l dk DC0 (λb a=>Sz P dk L bo hD b a∨AE P dk L bo hD b a) g d (a.setCell (stA bo) (.int .u64 ((e+1)*KK)))
def Sy(b:ag)(_:au):Prop:=b.status=.running/\∃a,(∀d,ap P l b d=.go a d #[mk .disable])/\∀w1,WgLive L.tWg bo w1->∃e,Goes P l dk DC0 (Gm P dk L bo hD) e a w1
end
set_option maxRecDepth 100000 in
def SU{P}(H:WgLib P L){dk:au->au->Prop}{bo}(d:∀{g w1},WgLive L.tWg bo g->dk g w1->WgLive L.tWg bo w1){hX:aG}{hV}{gq:Array ao}{h1:Nat}{h5:m Nat}{h3:m Item}(g:au)(b:WgLive L.tWg bo g):
  Goes P l dk DC0 (Sy P dk L bo (G (hX.at (hV.put ((gq[h1]?).bind (·.dst)) (.tuple #[])) (.inRegion gq h5::h3)) ai)) 12
   (G ((base L.add).at ⟨#[.pointer (f ⟨bo,0,n⟩),.int .i64 1,I,I,I,I,I,I,I,I,I,I,I,I,I,I,I,I,I,I,I,I,I,I,I,I,I,I,I,I,I,I,I,I,I,I,I,I,I,I,I,I,I,I,I,I,I,I,I,I,I,I,I,I,I,I,I,I,I,I,I,I,I,I,I,I,I,I,I,I,I,I,I,I,I,I,I,I,I,I,I,I,I,I,I,I,I,I,I,I,I,I,I,I,I,I,I,I,I,I,I,I,I,I,I,I,I,I,I,I,I,I,I,I,I,I,I],[]⟩ [.code (body_add L)]) (hX.at hV (.inRegion gq (h1::h5)::h3)::ai)) g:=by
 lib_facts
 simp only[body_add,addFn,ia]
 repeat (u_c aw d b)
 u_cond l d b
 repeat (u_c aw d b)
 u_reg d b
 u_op d b
 u_op d b
 u_c aB d b
 repeat (u_c aw d b)
 u_cond v d b
 u_c stepG_skip d b
 repeat (u_c aw d b)
 u_reg d b
 refine Goes.stop (λy k=>?_);refine⟨a,_,λg=>stepG_mark0 .disable D a a (by k_ne) a H.f_disable (x_disable_n L) (x_disable_b L) (x_disable_x L) (x_disable_f L),λg b=>?_⟩;clear k;refine⟨40,?_⟩
 walk_nrm
 u_c aB d b
 repeat (u_c aw d b)
 u_reg d b
 u_defer d b
 u_c aB d b
 repeat (u_c aw d b)
 u_reg d b
 u_op d b
 u_c aB d b
 repeat (u_c aw d b)
 u_reg d b
 u_bub d b
 u_c aB d b
 repeat (u_c aw d b)
 u_cond v d b
 u_c stepG_skip d b
 repeat (u_c aw d b)
 u_reg d b
 u_op d b
 u_op d b
 u_op d b
 u_op d b
 u_op d b
 u_op d b
 u_call H.f_uAdd (nm_uAdd L) uAddFn d b
 repeat (u_c aw d b)
 u_reg d b
 u_op d b
 u_c aB d b
 repeat (u_c aw d b)
 u_reg d b
 u_op d b
 u_op d b
 u_op d b
 u_op d b
 refine Goes.stop (λo j=>?_);replace b:=d b j;clear j;refine⟨a,λe B h=>?_⟩;have t:KK=4294967296:=rfl;have u:IntKind.u64.wrap ((e:Int)*KK+4294967296)=((e:Int)+1)*KK:=by rw[IntKind.wrap_u64];simp only[t];omega
 refine⟨_,(stepG_add_atomic a a (by k_ne) a H.f_addU64 (x_addU64_n L) (x_addU64_b L) (x_addU64_x L) .u64 (x_addU64_f L) a a h.cellSt (h.thaw 0)).trans (by rw[u];rfl),110,?_⟩;replace b:WgLive L.tWg bo (o.setCell (stA bo) (.int .u64 (((e:Int)+1)*KK))):=⟨_,_,h.setSt _⟩
 clear h
 walk_nrm
 u_op d b
 u_c aB d b
 u_c stepG_ret' d b
 u_leave1 H.f_uAdd d b
 u_op d b
 u_c aB d b
 have p:bits .and .u64 (((e:Int)+1)*4294967296) 2147483648=0:=by have:=Go.ConcN.st_flag (e+1) 0 w w;grind
 have q:bits .and .u64 (((e:Int)+1)*4294967296) 2147483647=0:=by have:=Go.ConcN.st_waiters (e+1) 0 w w;grind
 have f3:((e:Int)+1+2147483648) % 4294967296-2147483648=(e:Int)+1:=w;have f5:¬((e:Int)+1<0):=w;have f6:(0:Int)<(e:Int)+1:=w
 repeat (u_c aw d b)
 u_reg d b
 u_op d b
 u_op d b
 u_op d b
 u_op d b
 u_skip d b
 u_skip d b
 u_op d b
 u_c aB d b
 repeat (u_c aw d b)
 u_cond v d b
 u_c stepG_skip d b
 repeat (u_c aw d b)
 u_reg d b
 u_op d b
 u_op d b
 u_op d b
 u_op d b
 u_c aB d b
 repeat (u_c aw d b)
 u_reg d b
 u_op d b
 u_op d b
 u_op d b
 u_op d b
 u_c aB d b
 by_cases A:(e:Int)+1=1
 .repeat (u_c aw d b)
  u_reg d b
  u_op d b
  u_op d b
  u_op d b
  u_op d b
  u_op d b
  u_op d b
  u_op d b
  u_op d b
  u_op d b
  u_op d b
  u_c aB d b
  repeat (u_c aw d b)
  u_cond l d b
  repeat (u_c aw d b)
  u_reg d b
  u_op d b
  u_op d b
  u_op d b
  u_conv H.underlying_tPU32 H.room_tU32 (Go.ConcN.Gen.WgLive.cell1 b).choose_spec d b
  refine Goes.stop (λx r=>.inl ?_);clear r;refine⟨a,_,⟨bo,1,n⟩,a,λg=>stepG_markAt .read D a a (by k_ne) a H.f_raceRead (x_raceRead_n L) (x_raceRead_b L) (x_raceRead_x L) (x_raceRead_f L) (ad:=⟨bo,1,n⟩) (by simp[Act.eval]),λg b=>⟨50,?_⟩⟩
  walk_nrm
  u_c aB d b
  repeat (u_c aw d b)
  u_reg d b
  u_op d b
  u_op d b
  u_c aB d b
  repeat (u_c aw d b)
  u_cond v d b
  u_c stepG_skip d b
  repeat (u_c aw d b)
  u_reg d b
  u_op d b
  u_op d b
  u_op d b
  u_skip d b
  u_skip d b
  u_op d b
  u_op d b
  u_skip d b
  u_skip d b
  u_skip d b
  u_skip d b
  u_op d b
  u_c aB d b
  repeat (u_c aw d b)
  u_cond v d b
  u_c stepG_skip d b
  repeat (u_c aw d b)
  u_reg d b
  u_op d b
  u_op d b
  u_op d b
  u_skip d b
  u_skip d b
  u_op d b
  u_c aB d b
  repeat (u_c aw d b)
  u_cond l d b
  u_c stepG_ret' d b
  refine Goes.stop (λs i=>?_);clear i;refine⟨a,_,λg=>stepG_unwind_entry (v:=.tuple #[]) (evs:=#[mk .enable]) a H.f_enable (x_enable_n L) (x_enable_b L) (x_enable_x L) (x_enable_f L) (by simp[Extern.Race.none_]) wC wC,λg b=>⟨1,?_⟩⟩
  u_leave0 H.f_add d b
  grind[Goes.stop]
 have z:((e:Int)+1==1)=v:=N
 repeat (u_c aw d b)
 u_reg d b
 u_op d b
 u_op d b
 u_op d b
 u_op d b
 u_op d b
 u_op d b
 u_op d b
 u_op d b
 u_op d b
 u_op d b
 u_c aB d b
 repeat (u_c aw d b)
 u_cond v d b
 u_c stepG_skip d b
 repeat (u_c aw d b)
 u_reg d b
 u_op d b
 u_op d b
 u_c aB d b
 repeat (u_c aw d b)
 u_cond v d b
 u_c stepG_skip d b
 repeat (u_c aw d b)
 u_reg d b
 u_op d b
 u_op d b
 u_op d b
 u_skip d b
 u_skip d b
 u_op d b
 u_op d b
 u_skip d b
 u_skip d b
 u_skip d b
 u_skip d b
 u_op d b
 u_c aB d b
 repeat (u_c aw d b)
 u_cond v d b
 u_c stepG_skip d b
 repeat (u_c aw d b)
 u_reg d b
 u_op d b
 u_op d b
 u_op d b
 u_skip d b
 u_skip d b
 u_op d b
 u_c aB d b
 repeat (u_c aw d b)
 u_cond l d b
 u_c stepG_ret' d b
 refine Goes.stop (λs i=>.inr ?_);clear i;refine⟨a,_,λg=>stepG_unwind_entry (v:=.tuple #[]) (evs:=#[mk .enable]) a H.f_enable (x_enable_n L) (x_enable_b L) (x_enable_x L) (x_enable_f L) (by simp[Extern.Race.none_]) wC wC,λg b=>⟨1,?_⟩⟩
 u_leave0 H.f_add d b
 grind[Goes.stop]
end
section
open Go.Conc Go.RowKit Go.Conc.Lib Go.ConcR.Gen
open Go.ConcN (WgLive)
open Go.ConcR (KK WgAt stA smA rd wr mk DC0)
section
variable (P:aD)(dk:au->au->Prop)(L:WgLink)(bo:Nat)(hD:ag)(x:ag->Prop)
def Gn(b:ag)(_:au):Prop:=b.status=.running/\∃a,(∀d,ap P l b d=.go a d #[mk (.acquire (stA bo))])/\∀w1,WgLive L.tWg bo w1->∃e,Goes P l dk DC0 (λb _=>b=hD) e a w1
def AF(b:ag)(_:au):Prop:=b.status=.running/\∃a,(∀d,ap P l b d=.go a d #[mk .enable])/\∀w1,WgLive L.tWg bo w1->∃e,Goes P l dk DC0 (Gn P dk L bo hD) e a w1
def Gr(d:ag)(b:au):Prop:=d.status=.running/\(WgAt L.tWg bo b 0 0->∃a,ap P l d b=.go a b #[rd (stA bo)]/\∃e,Goes P l dk DC0 (AF P dk L bo hD) e a b)
def Gq(b:ag)(a:au):Prop:=b.status=.running/\b.offers=n/\((∃e,WgAt L.tWg bo a e 0)->ap P l b a=.go {b with status:=.blocked} a #[]) /\
 (WgAt L.tWg bo a 0 1->∃d,ap P l b a=.go d (a.setCell (smA bo) (.int .u32 0)) (semEvents (smA bo))/\∃g,Goes P l dk DC0 (Gr P dk L bo hD) g d (a.setCell (smA bo) (.int .u32 0)))
def Gs(d:ag)(_:au):Prop:=d.status=.running/\∃b a,a.block=bo/\(∀e,ap P l d e=.go b e #[mk (.write a)])/\∀w1,WgLive L.tWg bo w1->∃g,Goes P l dk DC0 (Gq P dk L bo hD) g b w1
def Gp(z:Nat)(e:ag)(b:au):Prop:=e.status=.running/\∀d:Nat,d<2147483648->WgAt L.tWg bo b (d*KK) 0 ->
 (d=z->∃a,ap P l e b=.go a (b.setCell (stA bo) (.int .u64 (d*KK+1))) #[rd (stA bo),wr (stA bo)]/\∃g,Goes P l dk DC0 (Gs P dk L bo hD) g a (b.setCell (stA bo) (.int .u64 (d*KK+1)))) /\
 (d≠z->∃a,ap P l e b=.go a b #[rd (stA bo)]/\∃g,Goes P l dk DC0 (λe _=>x e) g a b)
def SB(g:ag)(d:au):Prop:=g.status=.running/\∀b:Nat,b<2147483648->WgAt L.tWg bo d (b*KK) 0 ->
 ∃a,ap P l g d=.go a d #[rd (stA bo)]/\(b=0->∃e,Goes P l dk DC0 (AF P dk L bo hD) e a d)/\(b≠0->∃e,Goes P l dk DC0 (Gp P dk L bo hD x b) e a d)
def SA(b:ag)(_:au):Prop:=b.status=.running/\∃a,(∀d,ap P l b d=.go a d #[mk .disable])/\∀w1,WgLive L.tWg bo w1->∃e,Goes P l dk DC0 (λb _=>x b) e a w1
end
def rb(L:WgLink)(b:Nat)(e:aG)(d:m aG)(g:ag):Prop:=
 ∃a:Array X,g=G ((base L.wait).at ⟨a,[]⟩ [.code (L7 L),.inLoop (L7 L),.inBlock 0]) (e::d)/\a.size=84/\a[0]?=f (.pointer (f ⟨b,0,n⟩))
set_option maxRecDepth 100000 in
def aeJ{L}(H:WgLib P L){dk:au->au->Prop}{bo}(d:∀{p w1},WgLive L.tWg bo p->dk p w1->WgLive L.tWg bo w1){s}(p)(b:WgLive L.tWg bo p):
  Goes P l dk DC0 (SA P dk L bo (rb L bo s ai)) 6 (G ((base L.wait).at ⟨#[.pointer (f ⟨bo,0,n⟩),I,I,I,I,I,I,I,I,I,I,I,I,I,I,I,I,I,I,I,I,I,I,I,I,I,I,I,I,I,I,I,I,I,I,I,I,I,I,I,I,I,I,I,I,I,I,I,I,I,I,I,I,I,I,I,I,I,I,I,I,I,I,I,I,I,I,I,I,I,I,I,I,I,I,I,I,I,I,I,I,I,I,I],[]⟩ [.code (body_wait L)]) (s::ai)) p:=by
 lib_facts
 unfold rb;simp only[L7,body_wait,waitFn,ia]
 repeat (u_c aw d b)
 u_cond l d b
 repeat (u_c aw d b)
 u_reg d b
 refine Goes.stop (λg e=>?_);clear e;refine⟨a,_,λp=>stepG_mark0 .disable D a a (by k_ne) a H.f_disable (x_disable_n L) (x_disable_b L) (x_disable_x L) (x_disable_f L),λp b=>⟨6,?_⟩⟩
 walk_nrm
 u_c aB d b
 repeat (u_c aw d b)
 u_c stepG_block d b
 u_c stepG_loop d b
 exact Goes.stop λ_ _=>⟨_,a,a,a⟩
end
section
open Go.Conc Go.RowKit Go.Conc.Lib Go.ConcR.Gen
open Go.ConcN (WgLive)
open Go.ConcN.Gen
open Go.ConcR (KK WgAt stA smA rd wr mk DC0)
set_option maxRecDepth 100000 in
def aeI{L:WgLink}(H:WgLib P L){dk:au->au->Prop}{bo:Nat}(e:∀{h w1},WgLive L.tWg bo h->dk h w1->WgLive L.tWg bo w1){hX:aG}{hV:Act}{gq:Array ao}{h1:Nat}{h5:m Nat}{h3:m Item}(x:ag)(aP:rb L bo (hX.at hV (.inRegion gq (h1::h5)::h3)) ai x)(h:au)(b:WgLive L.tWg bo h):
  ∃a',Goes P l dk DC0 (SB P dk L bo (G (hX.at (hV.put ((gq[h1]?).bind (·.dst)) (.tuple #[])) (.inRegion gq h5::h3)) ai) (rb L bo (hX.at hV (.inRegion gq (h1::h5)::h3)) ai)) a' x h:=by
 lib_facts
 obtain⟨a4,rfl,ba,q⟩:=aP;obtain⟨bk,bl,bm,bn,bp,bq,br,bs,bt,bu,F,I,J,bO,K,bR,bz,O,R,S,T,bP,U,V,bx,W,X,bJ,Y,Z,aa,ab,bN,ae,bH,bB,af,ah,aj,bF,bD,bE,ak,an,aq,bC,Q,ar,av,ax,az,aC,aD,aE,bw,aF,aH,aI,bK,aJ,bI,aK,aL,aM,aN,bQ,y,bA,aO,aQ,aR,aS,aT,aV,bL,aX,aY,aZ,M,a0,a1,a2,a3,bG,rfl⟩:=array84 a4 ba;simp only[kf,mn,e']at q;subst q;refine⟨30,?_⟩;unfold rb;simp only[L7,body_wait,waitFn,ia]
 u_c stepG_block e b
 repeat (u_c aw e b)
 u_reg e b
 u_op e b
 u_op e b
 u_op e b
 u_call H.f_uLoad (nm_uLoad L) uLoadFn e b
 repeat (u_c aw e b)
 u_reg e b
 u_op e b
 u_c aB e b
 repeat (u_c aw e b)
 u_reg e b
 u_op e b
 u_op e b
 u_op e b
 refine Goes.stop (λbb C=>?_);replace b:=e b C;clear C;refine⟨a,λo a_ g=>?_⟩;rcases n_ o with rfl|A
 .replace g:WgAt L.tWg bo bb 0 0:=N;refine⟨_,stepG_load_atomic (v:=0) a a (by k_ne) a H.f_loadU64 (x_loadU64_n L) (x_loadU64_b L) (x_loadU64_x L) .u64 (x_loadU64_f L) a g.cellSt,λ_=>⟨80,?_⟩,λa9=>absurd a a9⟩;clear g
  walk_nrm
  u_op e b
  u_c aB e b
  u_c stepG_ret' e b
  u_leave1 H.f_uLoad e b
  u_op e b
  u_c aB e b
  repeat (u_c aw e b)
  u_reg e b
  u_op e b
  u_op e b
  u_op e b
  u_op e b
  u_c aB e b
  repeat (u_c aw e b)
  u_reg e b
  u_op e b
  u_op e b
  u_op e b
  u_op e b
  u_c aB e b
  repeat (u_c aw e b)
  u_reg e b
  u_op e b
  u_op e b
  u_c aB e b
  repeat (u_c aw e b)
  u_cond l e b
  repeat (u_c aw e b)
  u_cond l e b
  repeat (u_c aw e b)
  u_reg e b
  refine Goes.stop (λp k=>?_);clear k;refine⟨a,_,λh=>stepG_mark0 .enable D a a (by k_ne) a H.f_enable (x_enable_n L) (x_enable_b L) (x_enable_x L) (x_enable_f L),λh b=>⟨20,?_⟩⟩
  walk_nrm
  u_c aB e b
  repeat (u_c aw e b)
  u_reg e b
  u_op e b
  u_conv H.underlying_tWgP H.room_tWg (Go.ConcN.Gen.WgLive.cell0 b).choose_spec e b
  refine Goes.stop (λp k=>?_);clear k;refine⟨a,_,λh=>stepG_markAt .acquire D a a (by k_ne) a H.f_acquire (x_acquire_n L) (x_acquire_b L) (x_acquire_x L) (x_acquire_f L) Fl,λh b=>⟨40,?_⟩⟩
  walk_nrm
  u_c aB e b
  repeat (u_c aw e b)
  u_reg e b
  u_op e b
  u_op e b
  u_op e b
  u_op e b
  u_op e b
  u_op e b
  u_op e b
  u_op e b
  u_skip e b
  u_skip e b
  u_op e b
  u_c aB e b
  repeat (u_c aw e b)
  u_cond v e b
  u_c stepG_skip e b
  u_c stepG_ret' e b
  u_leave0 H.f_wait e b
  grind[Goes.stop]
 obtain⟨i,d⟩:∃i:Int,(o:Int)*KK=i:=⟨_,rfl⟩;have a5:i / 4294967296=(o:Int):=OR
 have a6:bits .and .u64 i 2147483648=0:=by rw[<-d];have:=Go.ConcN.st_flag o 0 w w;simpa[KK]using this
 have a7:bits .and .u64 i 2147483647=0:=by rw[<-d];have:=Go.ConcN.st_waiters o 0 w w;simpa[KK]using this
 have a8:IntKind.i32.wrap (o:Int)=(o:Int):=by grind[IntKind.wrap_i32]
 have w1:IntKind.u64.wrap (i+1)=i+1:=by rw[IntKind.wrap_u64,<-d];simp only[KK];omega
 have bd:decide ((o:Int)<0)=v:=nj w;have bf:decide (0<(o:Int))=l:=fa w;have bg:((o:Int)==0)=v:=N;have bh:decide ((o:Int)=0)=v:=nj w;rw[d]at g;refine⟨_,stepG_load_atomic (v:=i) a a (by k_ne) a H.f_loadU64 (x_loadU64_n L) (x_loadU64_b L) (x_loadU64_x L) .u64 (x_loadU64_f L) a g.cellSt,λs=>absurd s w,λ_=>⟨80,?_⟩⟩;clear g
 walk_nrm
 u_op e b
 u_c aB e b
 u_c stepG_ret' e b
 u_leave1 H.f_uLoad e b
 u_op e b
 u_c aB e b
 repeat (u_c aw e b)
 u_reg e b
 u_op e b
 u_op e b
 u_op e b
 u_op e b
 u_c aB e b
 repeat (u_c aw e b)
 u_reg e b
 u_op e b
 u_op e b
 u_op e b
 u_op e b
 u_c aB e b
 repeat (u_c aw e b)
 u_reg e b
 u_op e b
 u_op e b
 u_c aB e b
 repeat (u_c aw e b)
 u_cnd v e b
 u_c stepG_skip e b
 repeat (u_c aw e b)
 u_reg e b
 u_op e b
 u_op e b
 u_op e b
 u_op e b
 u_op e b
 u_op e b
 u_call H.f_uCas (nm_uCas L) uCasFn e b
 repeat (u_c aw e b)
 u_reg e b
 u_op e b
 u_c aB e b
 repeat (u_c aw e b)
 u_reg e b
 u_op e b
 u_op e b
 u_op e b
 u_op e b
 u_op e b
 refine Goes.stop (λp k=>?_);replace b:=e b k;clear k;refine⟨a,λt z g=>⟨λu=>?_,λu=>?_⟩⟩
 .subst u;rw[d]at g⊢;refine⟨_,(stepG_cas_hit (v:=i) (n:=i+1) a a (by k_ne) a H.f_casU64 (x_casU64_n L) (x_casU64_b L) (x_casU64_x L) .u64 (x_casU64_f L) a a a g.cellSt (g.thaw 0)).trans oV,90,?_⟩;replace b:WgLive L.tWg bo (p.setCell (stA bo) (.int .u64 (i+1))):=⟨_,_,g.setSt _⟩
  clear g
  walk_nrm
  u_op e b
  u_c aB e b
  u_c stepG_ret' e b
  u_leave1 H.f_uCas e b
  u_c aB e b
  repeat (u_c aw e b)
  u_cond l e b
  repeat (u_c aw e b)
  u_reg e b
  u_op e b
  u_op e b
  u_op e b
  u_op e b
  u_c aB e b
  repeat (u_c aw e b)
  u_cond l e b
  repeat (u_c aw e b)
  u_reg e b
  u_op e b
  u_op e b
  u_op e b
  u_conv H.underlying_tPU32 H.room_tU32 (Go.ConcN.Gen.WgLive.cell1 b).choose_spec e b
  refine Goes.stop (λp k=>?_);clear k;refine⟨a,_,⟨bo,1,n⟩,a,λh=>stepG_markAt .write D a a (by k_ne) a H.f_raceWrite (x_raceWrite_n L) (x_raceWrite_b L) (x_raceWrite_x L) (x_raceWrite_f L) (ad:=⟨bo,1,n⟩) (by simp[Act.eval]),λh b=>⟨60,?_⟩⟩
  walk_nrm
  u_c aB e b
  repeat (u_c aw e b)
  u_reg e b
  u_op e b
  u_c aB e b
  repeat (u_c aw e b)
  u_reg e b
  u_op e b
  u_op e b
  u_op e b
  u_op e b
  u_skip e b
  u_op e b
  u_c aB e b
  repeat (u_c aw e b)
  u_cond v e b
  u_c stepG_skip e b
  repeat (u_c aw e b)
  u_reg e b
  u_op e b
  u_op e b
  u_op e b
  u_op e b
  refine Goes.stop (λbc E=>?_);replace b:=e b E;clear E;refine⟨a,a,λ⟨bj,g⟩=>stepG_semacquire_wait a a a H.f_semacquire (x_semacquire_n L) (x_semacquire_b L) (x_semacquire_x L) (x_semacquire_f L) (by simp[Act.eval,smA]) g.cellSm,λr=>?_⟩;refine⟨_,(stepG_semacquire (n:=1) a a (by k_ne) a H.f_semacquire (x_semacquire_n L) (x_semacquire_b L) (x_semacquire_x L) (x_semacquire_f L) (by simp[Act.eval,smA]) r.cellSm (by k_ne) (r.thaw 1)).trans oV,40,?_⟩;replace b:WgLive L.tWg bo (bc.setCell (smA bo) (.int .u32 0)):=⟨_,_,r.setSm 0⟩
  clear r
  walk_nrm
  u_c aB e b
  repeat (u_c aw e b)
  u_reg e b
  u_op e b
  u_op e b
  u_op e b
  u_call H.f_uLoad (nm_uLoad L) uLoadFn e b
  repeat (u_c aw e b)
  u_reg e b
  u_op e b
  u_c aB e b
  repeat (u_c aw e b)
  u_reg e b
  u_op e b
  u_op e b
  u_op e b
  refine Goes.stop (λbM B=>?_);replace b:=e b B;clear B;refine⟨a,λg=>⟨_,stepG_load_atomic (v:=0) a a (by k_ne) a H.f_loadU64 (x_loadU64_n L) (x_loadU64_b L) (x_loadU64_x L) .u64 (x_loadU64_f L) a g.cellSt,40,?_⟩⟩;clear g
  walk_nrm
  u_op e b
  u_c aB e b
  u_c stepG_ret' e b
  u_leave1 H.f_uLoad e b
  u_op e b
  u_op e b
  u_c aB e b
  repeat (u_c aw e b)
  u_cond l e b
  repeat (u_c aw e b)
  u_reg e b
  refine Goes.stop (λp k=>?_);clear k;refine⟨a,_,λh=>stepG_mark0 .enable D a a (by k_ne) a H.f_enable (x_enable_n L) (x_enable_b L) (x_enable_x L) (x_enable_f L),λh b=>⟨20,?_⟩⟩
  walk_nrm
  u_c aB e b
  repeat (u_c aw e b)
  u_reg e b
  u_op e b
  u_conv H.underlying_tWgP H.room_tWg (Go.ConcN.Gen.WgLive.cell0 b).choose_spec e b
  refine Goes.stop (λp k=>?_);clear k;refine⟨a,_,λh=>stepG_markAt .acquire D a a (by k_ne) a H.f_acquire (x_acquire_n L) (x_acquire_b L) (x_acquire_x L) (x_acquire_f L) Fl,λh b=>⟨40,?_⟩⟩
  walk_nrm
  u_c aB e b
  repeat (u_c aw e b)
  u_reg e b
  u_op e b
  u_c aB e b
  repeat (u_c aw e b)
  u_cond v e b
  u_c stepG_skip e b
  u_c stepG_ret' e b
  u_leave0 H.f_wait e b
  grind[Goes.stop]
 refine⟨_,stepG_cas_miss (v:=(t:Int)*KK) (old:=i) (n:=i+1) a a (by k_ne) a H.f_casU64 (x_casU64_n L) (x_casU64_b L) (x_casU64_x L) .u64 (x_casU64_f L) a a a g.cellSt (g.thaw 0) OR,30,?_⟩;clear g
 walk_nrm
 u_op e b
 u_c aB e b
 u_c stepG_ret' e b
 u_leave1 H.f_uCas e b
 u_c aB e b
 repeat (u_c aw e b)
 u_cond v e b
 u_c stepG_skip e b
 u_c stepG_inBlock e b
 u_c stepG_inLoop e b
 exact Goes.stop λ_ _=>⟨_,a,by simp,by simp⟩
end
section
open Go.Conc Go.Conc.Lib
open Go.ConcN (WgLive)
open Go.ConcR (KK WgAt stA smA rd wr mk DC0 Payload)
def fO(b:an)(a:Nat)(d w1:au):Prop:=WgLive b a d->WgLive b a w1
def fO.refl{ty}{bo}(p):fO ty bo p p:=id
def fO.trans{ty}{bo}{a i s}(b:fO ty bo a i)(d:fO ty bo i s):fO ty bo a s:=λe=>d (b e)
def nY(b:au->au->Prop)(a:ag->au->Prop)(d:ag)(e:au):Prop:=∀w1,b e w1->a d w1
def Goes.eD{P}{e1}{e:au->au->Prop}{y:au->au->Array aN->Prop}{a:ag->au->Prop}(a0:∀k m o,e k m->e m o->e k o):
  ∀{j:Nat} {g:ag} {i:au},Goes P e1 e y a j g i->Goes P e1 e y (nY e a) j g i
 |0,g,i,d=>λw1 h w2 b=>d w2 (a0 _ _ _ h b)
 |j+1,g,i,d=>by
  rcases d with d|⟨q,d⟩
  .exact .inl λw1 h w2 b=>d w2 (a0 _ _ _ h b)
  refine .inr ⟨q,λw1 h=>?_⟩;have b:=d w1 h;cases p:ap P e1 g w1 with
  |go s t r=>
   rw[p,goes_go]at b;rw[goes_go];exact⟨b.1,Goes.eD a0 b.2⟩
  |_=>rw[p]at b;exact b.elim
structure k4(bo:Nat)(dN:a6->Prop):Prop where
 rely:∀b aF,dN b->c0 b aF->dN aF
 heap:∀b,dN b->∃k,bc k b
 iU:∀b,dN b->¬b.own bo/\(∀L∈b.t,bo∉L.al)/\∀r,b.D bo r=n
section
variable {P:aD}{L:WgLink}{bo:Nat}{dN:a6->Prop}
def ix(b:an)(a:Nat)(e:a6->Prop)(d:a6):Prop:=e d/\WgLive b a d.a
def k4.hr(Q:k4 bo dN){b}(a:dN b):gB b:=(Q.heap b a).choose_spec.mem
def k4.set(Q:k4 bo dN){b}(i:dN b)(e)(p:e.block=bo)(aa):c0 b {b with a:=b.a.setCell e aa}:=by
 obtain⟨q,r,s⟩:=Q.iU b i;have g:∀d,d≠bo->(b.a.setCell e aa).heap[d]?=b.a.heap[d]?:=λd h=>by have:=(aside_setCell b.a e aa).block d N;omega
 refine⟨a,a,a,Nat.le_of_eq (aside_setCell b.a e aa).size.symm,λd h=>g d N,λd j o m=>?_,(aside_setCell b.a e aa).os,(aside_setCell b.a e aa).tape,(aside_setCell b.a e aa).output⟩;have k:d≠bo:=N;show(b.a.setCell e aa).cell? _=_;rw[nn (g d k) j];exact Q.hr i d j o m
def k4.next(Q:k4 bo dN){ty}{b e}(a:ix ty bo dN b)(a7:(af.aE P ty bo).rely b e):ix ty bo dN e:=⟨Q.rely b e a.1 a7.1,a7.2 a.2⟩
def k4.i'(Q:k4 bo dN){ty}{b}(a:ix ty bo dN b):(af.aE P ty bo).rely b b:=⟨c0.ew (Q.hr a.1),id⟩
def k4.goes(Q:k4 bo dN){ty}{g:ag->a6->Prop}{Stop:ag->au->Prop}(o:∀C b,ix ty bo dN b->nY (fO ty bo) Stop C b.a->dv (af.aE P ty bo) (dR bo) g C b){j}{C}{b}(h:ix ty bo dN b)(k:Goes P l (fO ty bo) DC0 Stop j C b.a):dv (af.aE P ty bo) (dR bo) g C b:=by refine dv.goes (q:=af.aE P ty bo) (dk:=fO ty bo) (y:=DC0) (Stop:=nY (fO ty bo) Stop) (ix ty bo dN) (λb m d e=>Q.next d e) (λb m _ e=>e.2) ?_ (λb d=>Q.i' d) o j C b h (Goes.eD (λ_ _ _ p r=>p.trans r) k);rintro b i d s ⟨rfl,rfl⟩;exact⟨a,.inl (.aR (Q.heap b d.1).choose_spec)⟩
end
set_option maxRecDepth 100000 in
def Up{P}{L}(H:WgLib P L){bo}:Frame.enter P L.add #[.pointer (f ⟨bo,0,n⟩),.int .i64 1] .normal=(base L.add).at ⟨#[.pointer (f ⟨bo,0,n⟩),.int .i64 1,I,I,I,I,I,I,I,I,I,I,I,I,I,I,I,I,I,I,I,I,I,I,I,I,I,I,I,I,I,I,I,I,I,I,I,I,I,I,I,I,I,I,I,I,I,I,I,I,I,I,I,I,I,I,I,I,I,I,I,I,I,I,I,I,I,I,I,I,I,I,I,I,I,I,I,I,I,I,I,I,I,I,I,I,I,I,I,I,I,I,I,I,I,I,I,I,I,I,I,I,I,I,I,I,I,I,I,I,I,I,I,I,I,I,I],[]⟩ [.code (Go.ConcR.Gen.body_add L)]:=
 (enter_at (c:=Go.ConcR.Gen.body_add L) _ H.f_add bG).trans bG
set_option maxRecDepth 100000 in
def Uq{P}{L}(H:WgLib P L){bo}:Frame.enter P L.wait #[.pointer (f ⟨bo,0,n⟩)] .normal=(base L.wait).at ⟨#[.pointer (f ⟨bo,0,n⟩),I,I,I,I,I,I,I,I,I,I,I,I,I,I,I,I,I,I,I,I,I,I,I,I,I,I,I,I,I,I,I,I,I,I,I,I,I,I,I,I,I,I,I,I,I,I,I,I,I,I,I,I,I,I,I,I,I,I,I,I,I,I,I,I,I,I,I,I,I,I,I,I,I,I,I,I,I,I,I,I,I,I,I],[]⟩ [.code (Go.ConcR.Gen.body_wait L)]:=
 (enter_at (c:=Go.ConcR.Gen.body_wait L) _ H.f_wait bG).trans bG
section
variable [Payload]{P:aD}{L:WgLink}{K:hR}{dN:a6->Prop}{F j:Nat}{val:Nat->Nat->X}
def ST(H:WgLib P L)(Q:k4 K.f dN){u}{Next:ag->a6->Prop}{hX:aG}{hV}{gq}{h1}{h5}{h3}{ai}(D:∀b,ix L.tWg K.f dN b->dv (af.aE P L.tWg K.f) (dR K.f) (wV P L.tWg K F val u Next) (G (hX.at (hV.put ((gq[h1]?).bind (·.dst)) (.tuple #[])) (.inRegion gq h5::h3)) ai) b){b}(g:ix L.tWg K.f dN b):
  dv (af.aE P L.tWg K.f) (dR K.f) (Aw P L.tWg K F val u Next) (G (Frame.enter P L.add #[.pointer (f ⟨K.f,0,n⟩),.int .i64 1] .normal) (hX.at hV (.inRegion gq (h1::h5)::h3)::ai)) b:=by
 have C:∀h b,ix L.tWg K.f dN b->AE P (fO L.tWg K.f) L K.f (G (hX.at (hV.put ((gq[h1]?).bind (·.dst)) (.tuple #[])) (.inRegion gq h5::h3)) ai) h b.a->dv (af.aE P L.tWg K.f) (dR K.f) (Ax P L.tWg K F val u Next) h b:=by rintro h b g ⟨m,d,p,q⟩;refine⟨.leaf,m,d,p,λj k=>?_⟩;have i:=Q.next g k;obtain⟨w,o⟩:=q j.a i.2;exact Q.goes (λh b g e=>by obtain rfl:=e b.a (.refl _);grind) i o
 have z:∀h b,ix L.tWg K.f dN b->nY (fO L.tWg K.f) (Gm P (fO L.tWg K.f) L K.f (G (hX.at (hV.put ((gq[h1]?).bind (·.dst)) (.tuple #[])) (.inRegion gq h5::h3)) ai)) h b.a->dv (af.aE P L.tWg K.f) (dR K.f) (As P L.tWg K F val u Next) h b:=by
  rintro h b g e;refine⟨.leaf,(e b.a (.refl _)).1,λj k x y r=>?_⟩;have i:=Q.next g k;obtain⟨d,m,w,o⟩:=(e j.a k.2).2 x y r;have A:ix L.tWg K.f dN {j with a:=j.a.setCell (stA K.f) (.int .u64 ((x+1)*KK))}:=⟨Q.rely _ _ i.1 (Q.set i.1 _ rfl _),⟨_,_,r.setSt _⟩⟩;refine⟨d,m,Q.goes (λh b g e=>?_) A o⟩
  rcases e b.a (.refl _)with e|e
  .obtain⟨m,d,s,p,q,t⟩:=e;refine .step m λj k=>⟨d,j,_,q j.a,.inr ⟨a,s,p,.inl a⟩,?_⟩
   have i:=Q.next g k;obtain⟨w,o⟩:=t j.a i.2;exact Q.goes (λh b g e=>C h b g (e b.a (.refl _))) i o
  grind
 have r:=SU (P:=P) (L:=L) H (dk:=fO L.tWg K.f) (bo:=K.f) (λe B=>B e) (hX:=hX) (hV:=hV) (gq:=gq) (h1:=h1) (h5:=h5) (h3:=h3) (ai:=ai) b.a g.2;rw[Up H];refine Q.goes (λh b g e=>?_) g r;obtain⟨m,d,p,q⟩:=e b.a (.refl _);refine⟨.leaf,m,d,p,λj k=>?_⟩;have i:=Q.next g k;obtain⟨w,o⟩:=q j.a i.2;exact Q.goes z i o
section
variable (P L K dN)
def fQ(b a:ag)(d:a6):Prop:=ix L.tWg K.f dN d/\∃e,Goes P l (fO L.tWg K.f) DC0 (λa _=>a=b) e a d.a
def wU(e:aG)(a:m aG)(b:ag)(d:a6):Prop:=ix L.tWg K.f dN d/\∃g,Goes P l (fO L.tWg K.f) DC0 (λb _=>rb L K.f e a b) g b d.a
end
variable {hX:aG}{hV:Act}{gq:Array ao}{h1:Nat}{h5:m Nat}{h3:m Item}{ai:m aG}
omit [Payload]in
def S4(H:WgLib P L)(Q:k4 K.f dN){r x:ag->a6->Prop}(E:∀C b,fQ P L K dN (G (hX.at (hV.put ((gq[h1]?).bind (·.dst)) (.tuple #[])) (.inRegion gq h5::h3)) ai) C b->r C b)(M:∀C b,wU P L K dN (hX.at hV (.inRegion gq (h1::h5)::h3)) ai C b->x C b){C}{b}(g:wU P L K dN (hX.at hV (.inRegion gq (h1::h5)::h3)) ai C b):
  dv (af.aE P L.tWg K.f) (dR K.f) (re P L.tWg K r x) C b:=by
 generalize u:hX.at hV (.inRegion gq (h1::h5)::h3)=T at *;generalize aP:G (hX.at (hV.put ((gq[h1]?).bind (·.dst)) (.tuple #[])) (.inRegion gq h5::h3)) ai=m at E;have J:∀C b,ix L.tWg K.f dN b->nY (fO L.tWg K.f) (Gn P (fO L.tWg K.f) L K.f m) C b.a->dv (af.aE P L.tWg K.f) (dR K.f) (Au P L.tWg K r) C b:=by intro C b h g;obtain⟨k,d,s,t⟩:=g b.a (.refl _);exact⟨.leaf,k,d,s,λi e=>E _ _ ⟨Q.next h e,t i.a (Q.next h e).2⟩⟩
 have F:∀C b,ix L.tWg K.f dN b->nY (fO L.tWg K.f) (AF P (fO L.tWg K.f) L K.f m) C b.a->dv (af.aE P L.tWg K.f) (dR K.f) (wW P L.tWg K r) C b:=by intro C b h g;obtain⟨k,d,s,t⟩:=g b.a (.refl _);refine⟨.leaf,k,d,s,λi e=>?_⟩;obtain⟨p,j⟩:=t i.a (Q.next h e).2;exact Q.goes J (Q.next h e) j
 have O:∀C b,ix L.tWg K.f dN b->nY (fO L.tWg K.f) (Gr P (fO L.tWg K.f) L K.f m) C b.a->dv (af.aE P L.tWg K.f) (dR K.f) (Az P L.tWg K r) C b:=by intro C b h g;refine⟨.leaf,(g b.a (.refl _)).1,λi e o=>?_⟩;obtain⟨d,k,p,j⟩:=(g i.a e.2).2 o;exact⟨d,k,Q.goes F (Q.next h e) j⟩
 have N:∀C b,ix L.tWg K.f dN b->nY (fO L.tWg K.f) (Gq P (fO L.tWg K.f) L K.f m) C b.a->dv (af.aE P L.tWg K.f) (dR K.f) (oX P L.tWg K r) C b:=by intro C b h g;refine⟨.leaf,(g b.a (.refl _)).1,(g b.a (.refl _)).2.1,λi e=>⟨(g i.a e.2).2.2.1,λo=>?_⟩⟩;obtain⟨d,k,p,j⟩:=(g i.a e.2).2.2.2 o;exact⟨d,k,Q.goes O (b:={i with a:=i.a.setCell (smA K.f) (.int .u32 0)}) ⟨Q.rely _ _ (Q.next h e).1 (Q.set (Q.next h e).1 _ rfl _),⟨_,_,o.setSm 0⟩⟩ j⟩
 have S:∀C b,ix L.tWg K.f dN b->nY (fO L.tWg K.f) (Gs P (fO L.tWg K.f) L K.f m) C b.a->dv (af.aE P L.tWg K.f) (dR K.f) (oX P L.tWg K r) C b:=by
  intro C b h g;obtain⟨k,d,y,s,t,D⟩:=g b.a (.refl _);refine .step k λi e=>⟨d,i,_,t i.a,.inr ⟨a,y,s,.inr a⟩,?_⟩
  obtain⟨p,j⟩:=D i.a (Q.next h e).2;exact Q.goes N (Q.next h e) j
 have R:∀q C b,ix L.tWg K.f dN b->nY (fO L.tWg K.f) (Gp P (fO L.tWg K.f) L K.f m (rb L K.f T ai) q) C b.a->dv (af.aE P L.tWg K.f) (dR K.f) (Ay P L.tWg K r x q) C b:=by
  intro z C b h g;refine⟨.leaf,(g b.a (.refl _)).1,λi e q w o=>⟨λA=>?_,λA=>?_⟩⟩
  .obtain⟨d,k,p,j⟩:=((g i.a e.2).2 q w o).1 A;exact⟨d,k,Q.goes S (b:={i with a:=i.a.setCell (stA K.f) (.int .u64 (q*KK+1))}) ⟨Q.rely _ _ (Q.next h e).1 (Q.set (Q.next h e).1 _ rfl _),⟨_,_,o.setSt _⟩⟩ j⟩
  obtain⟨d,k,p,j⟩:=((g i.a e.2).2 q w o).2 A;exact⟨d,k,M _ _ ⟨Q.next h e,p,j⟩⟩
 obtain⟨h,p,j⟩:=g;refine Q.goes (λC b h g=>?_) h j;obtain⟨p,o⟩:=aeI (P:=P) (L:=L) H (dk:=fO L.tWg K.f) (bo:=K.f) (λg U=>U g) (hX:=hX) (hV:=hV) (gq:=gq) (h1:=h1) (h5:=h5) (h3:=h3) (ai:=ai) C (by rw[u];exact g b.a (.refl _)) b.a h.2;rw[u,aP]at o;refine Q.goes (λC b h g=>?_) h o;refine⟨.leaf,(g b.a (.refl _)).1,λi e q w o=>?_⟩;obtain⟨d,k,s,t⟩:=(g i.a e.2).2 q w o;refine⟨d,k,λB=>?_,λI=>?_⟩
 .obtain⟨p,j⟩:=s B;exact Q.goes F (Q.next h e) j
 obtain⟨p,j⟩:=t I;exact Q.goes (R q) (Q.next h e) j
omit [Payload]in
def aeH(H:WgLib P L)(Q:k4 K.f dN){s}{h:ag->a6->Prop}(M:∀d b,wU P L K dN s ai d b->h d b){b}(a:ix L.tWg K.f dN b):
  dv (af.aE P L.tWg K.f) (dR K.f) (Av P L.tWg K h) (G (Frame.enter P L.wait #[.pointer (f ⟨K.f,0,n⟩)] .normal) (s::ai)) b:=by have p:=aeJ (P:=P) (L:=L) H (dk:=fO L.tWg K.f) (bo:=K.f) (λg o=>o g) (s:=s) (ai:=ai) b.a a.2;rw[Uq H];refine Q.goes (λd b a g=>?_) a p;obtain⟨k,e,m,q⟩:=g b.a (.refl _);exact⟨.leaf,k,e,m,λj i=>M _ _ ⟨Q.next a i,q j.a (Q.next a i).2⟩⟩
end
end
section
open Go.Conc Go.RowKit Go.Conc.Lib Go.ConcR.Gen
open Go.ConcN (WgLive Has RW DWs AtR0 EvW)
open Go.ConcN.Gen
open Go.ConcR (KK WgAt stA smA rd wr mk DC0 Payload)
section
variable {dk:au->au->Prop}{y:au->au->Array aN->Prop}{Stop Q:ag->au->Prop}
def Goes.ht(k:∀a,dk a a)(u:∀b a,Stop b a->∃h s,ap P v b a=.go h a #[s])(r:∀g b a,Q b a->¬Goes P v dk y Stop g b a):
  ∀p g b a,Goes P v dk DC0 Q p b a->¬Goes P v dk y Stop g b a
 |0,g,b,a,j,i=>r g b a (j a (k a)) i
 |p+1,g,b,a,j,i=>by
  rcases j with j|⟨_,j⟩
  .grind
  have e:=j a (k a);cases m:ap P v b a with
  |go h d t=>
   rw[m,goes_go]at e;obtain⟨⟨rfl,rfl⟩,o⟩:=e;have q:¬Stop b d:=λw=>by grind
   cases g with
   |zero=>exact q (i d (k d))
   |succ g=>
    rcases i with i|⟨_,i⟩
    .grind
    have k1:=i d (k d);rw[m,goes_go]at k1;exact Goes.ht k u r p g h d o k1.2
  |_=>rw[m]at e;exact e.elim
def Goes.hq(q:∀b,dk b b)(z:∀d b,Stop d b->∃j w,ap P v d b=.go j b #[w])(r:∀e d b,Q d b->Goes P v dk y Stop e d b->∀w1,dk b w1->Stop d w1):
  ∀o e d b,Goes P v dk DC0 Q o d b->Goes P v dk y Stop e d b->Goes P v dk DC0 Stop o d b
 |0,e,d,b,k,i=>r e d b (k b (q b)) i
 |o+1,e,d,b,k,i=>by
  rcases k with k|⟨u,k⟩
  .exact .inl (r e d b (k b (q b)) i)
  refine .inr ⟨u,λw1 m=>?_⟩;have g:=k w1 m;cases p:ap P v d w1 with
  |go j h x=>
   rw[p,goes_go]at g;rw[goes_go];obtain⟨⟨rfl,rfl⟩,s⟩:=g;have t:¬Stop d h:=λu=>by grind
   refine⟨⟨a,a⟩,?_⟩;cases e with
   |zero=>exact absurd (i h m) t
   |succ e=>
    rcases i with i|⟨_,i⟩
    .grind
    have k1:=i h m;rw[p,goes_go]at k1;exact Goes.hq q z r o e j h s k1.2
  |_=>rw[p]at g;exact g.elim
end
variable [Payload]{L:WgLink}{bo M na E:Nat}{val:X}{s:aG}
def SK(P:aD)(d:ag)(_:au):Prop:=∃b,∀a,ap P v d a=.go b a #[mk .disable]
def SL(P:aD)(L:WgLink)(a g m e h:Nat)(d:X)(j:ag)(b:au):Prop:=
 (WgLive L.tWg a b/\Has g (h-1) d b)/\∃i,(∀b,ap P v j b=.go i b #[mk (.releaseMerge (stA a))])/\∀b,WgLive L.tWg a b/\Has g (h-1) d b->∃k,Goes P v (RW L.tWg a g m e (h-1)) DC0 (SK P) k i b
set_option maxRecDepth 100000 in
def T'(H:WgLib P L)(p)(b:WgLive L.tWg bo p/\Has M (E-1) val p):
  Goes P v (RW L.tWg bo M j na (E-1)) DC0 (SL P L bo M j na E val) 23 (G ((baseD L.done).at ⟨#[.pointer (f ⟨bo,0,n⟩),I,I,I],[]⟩ [.code (body_done L)]) (s::ai)) p:=by
 lib_facts
 simp only[body_done,body_add,doneFn,addFn,ia]
 u_reg kn_rely b
 u_op kn_rely b
 u_in kn_rely b
 refine goes_call a a (by k_ne) a H.f_add (nm_add L) a ⟨by u_nil,?_⟩
 walk_nrmf addFn
 repeat (u_c aw kn_rely b)
 u_cond l kn_rely b
 repeat (u_c aw kn_rely b)
 u_reg kn_rely b
 u_op kn_rely b
 u_op kn_rely b
 u_c aB kn_rely b
 repeat (u_c aw kn_rely b)
 u_cond l kn_rely b
 u_reg kn_rely b
 u_op kn_rely b
 u_conv H.underlying_tWgP H.room_tWg (Go.ConcN.Gen.WgLive.cell0 b.1).choose_spec kn_rely b
 refine Goes.stop (λe d=>?_);replace b:=kn_rely b d;clear d;refine⟨b,_,λp=>stepG_markAt .releaseMerge D a a (by k_ne) a H.f_relMerge (x_relMerge_n L) (x_relMerge_b L) (x_relMerge_x L) (x_relMerge_f L) Fl,λp b=>⟨10,?_⟩⟩
 walk_nrm
 u_c aB kn_rely b
 repeat (u_c aw kn_rely b)
 u_reg kn_rely b
 exact Goes.stop λe d=>⟨_,λp=>stepG_mark0 .disable D a a (by k_ne) a H.f_disable (x_disable_n L) (x_disable_b L) (x_disable_x L) (x_disable_f L)⟩
def T_(H:WgLib P L){o}(w:s.mode=.returning)(a0:QuitsD P o 0 (G s ai))(p)(k:WgLive L.tWg bo p/\Has M (E-1) val p):
  Goes P v (RW L.tWg bo M j na (E-1)) DC0 (AtR0 P L.tWg bo M j na E val) 23 (G ((baseD L.done).at ⟨#[.pointer (f ⟨bo,0,n⟩),I,I,I],[]⟩ [.code (body_done L)]) (s::ai)) p:=by
 have J:=doneN (Own:=λ_ _=>False) (Rd:=λ_ _=>False) (Low:=na) (n:=j) H w a0 p k;have r:∀g p,AtR0 P L.tWg bo M j na E val g p->∃h x,ap P v g p=.go h p #[x]:=λg p e=>by obtain⟨_,_,h,A,_⟩:=e;grind
 have R:(mk (.releaseMerge (stA bo)):aN)≠mk .disable:=wC;refine Goes.hq (λp=>.refl p) r ?_ _ _ _ _ (T' H p k) J;intro m g p e b w1 i;obtain⟨k,z,A,y⟩:=e;have u:AtR0 P L.tWg bo M j na E val g w1∨∃t,Goes P v (RW L.tWg bo M j na (E-1)) (DWs bo (λ_ _=>False) (λ_ _=>False) M j E) (AtR0 P L.tWg bo M j na E val) t z w1:=by
  cases m with
  |zero=>exact .inl (b w1 i)
  |succ m=>
   rcases b with b|⟨_,b⟩
   .grind
   grind[goes_go]
 rcases u with e|⟨t,e⟩
 .exact e
 exfalso;obtain⟨Q,F⟩:=y w1 (kn_rely k i);refine Goes.ht (λp=>.refl p) r ?_ _ _ _ _ F e;rintro q C w4 ⟨O,B⟩ b;have d:∀p,¬AtR0 P L.tWg bo M j na E val C p:=λp D=>by obtain⟨_,_,K,N,_⟩:=D;grind
 cases q with
 |zero=>exact d w4 (b w4 (.refl w4))
 |succ q=>
  rcases b with b|⟨_,b⟩
  .exact d w4 (b w4 (.refl w4))
  have k1:=b w4 (.refl w4);rw[B w4,goes_go]at k1;have:=(k1.1.2 _ (Array.mem_singleton.2 a)).2.1;exact this a
end
section
open Go.RowKit
open Go.Conc (G solo crowd AtRel Past EvL Leavers)
def a6.bw(b:au):a6:={t:=[],D:=λa d=>b.cell? ⟨a,d,n⟩,a:=b,own:=λa=>a<b.heap.size}
def bc.bw(p):bc [] (a6.bw p):=⟨λ_ _ _ b=>b,rfl,by simp,by simp[a6.bw],by simp[a6.bw],λd a=>⟨a,by simp[a6.bw]⟩⟩
def aco{k}{s}(e:mg P k s aa b)(j:P.inits.idxOf? k=n)(p)(q:∀a g h,b.D a g=f h->p.cell? ⟨a,g,n⟩=f h):∃d,ap P l (G s []) p=.ended (.done aa) p d/\∀i∈d,∃a g h,i=⟨.cell ⟨a,g,n⟩,v,v⟩/\b.D a g=f h:=by
 obtain⟨fn,r,m⟩:=e.fn;obtain⟨w,u⟩:=m p q;refine⟨seen P s.fn ((results fn s.tmps).events P p #[]),?_,λi t=>u i (Go.Conc.mem_seen t)⟩;have o:P.inits.idxOf? s.fn=n:=by rw[e.jg];exact j
 simp[G,ap,unwind,doReturn,e.mode,e.defers,e.kind,r,w,o,GStep.after]
abbrev uq:=Nat×an×X
abbrev mG(a:m uq):m ar:=a.map λb=>.K (eh b.1 b.2.1 b.2.2)
def a6.cR(a:m uq)(d:au):a6:={t:=a.map λe=>⟨.pointer (f ⟨e.1,0,n⟩),[e.1]⟩,D:=λb g=>if b∈a.map (·.1)then n else d.cell? ⟨b,g,n⟩,a:=d,own:=λb=>b<d.heap.size/\b∉a.map (·.1)}
def bc.cR{gs}{p}(C:(gs.map (·.1)).Nodup)(y:∀d∈gs,p.heap[d.1]?=f (.cells #[d.2.2] d.2.1 (0,0))):bc (mG gs) (a6.cR gs p):=by
 have D:∀d∈gs,d.1<p.heap.size:=λd t=>(jk.1 (y d t)).1;have k:∀(e:Nat) L,(a6.cR gs p).t[e]?=f L->∃d,gs[e]?=f d/\L=⟨.pointer (f ⟨d.1,0,n⟩),[d.1]⟩:=λe L m=>by simp[a6.cR,ni,rm]at m;grind
 refine⟨λh z J s=>?_,by simp[a6.cR],λe F L aM g=>?_,λe o L u i w h b j=>?_,λL m h b=>?_,λh b=>⟨b.1,λL m x=>?_⟩⟩
 .simp only[a6.cR]at s;split at s
  .cases s
  exact s
 .obtain⟨d,i,rfl⟩:=k e L g;simp[mG,ni,i,lK,e']at aM;subst aM;have t:=ca i;refine⟨λh=>if h=d.1 then f (.cells #[d.2.2] d.2.1 (0,0))else n,⟨a,bl a,λh b=>bj b⟩,λh z b=>?_,λh=>?_,λh b z=>?_⟩
  .simp only at b;split at b
   .rename_i r;cases b;rw[r];exact y d t
   grind
  .by_cases r:h=d.1<;>simp[r]
  rw[gO]at b;subst b;exact bl (hu.2 ⟨d,t,a⟩)
 .obtain⟨d,q,rfl⟩:=k e L i;obtain⟨E,I,rfl⟩:=k o u w;rw[gO]at b j;have r:d.1=E.1:=b.symm.trans j;have A:(gs.map (·.1))[e]?=f d.1:=N;have B:(gs.map (·.1))[o]?=f d.1:=N;grind[List.getElem?_inj]
 .obtain⟨e,g⟩:=A4 m;obtain⟨d,q,rfl⟩:=k e L g;rw[gO]at b;subst b;exact D d (ca q)
 obtain⟨e,g⟩:=A4 m;obtain⟨d,q,rfl⟩:=k e L g;rw[gO]at x;subst x;exact b.2 (hu.2 ⟨d,ca q,a⟩)
def bc.iX{gs}(e:bc (mG gs) b){a}(h:a∈gs):b.a.heap[a.1]?=f (.cells #[a.2.2] a.2.1 (0,0)):=by
 obtain⟨d,k⟩:=A4 h;have aM:(mG gs)[d]?=f (.K (eh a.1 a.2.1 a.2.2)):=N;have g:d<c b.t:=by rw[e.len];grind
 obtain⟨i,⟨_,j,_⟩,m,_⟩:=e.box d _ _ aM (bJ g);grind
def bm.iY{m}{args}{gs}(h:bm (af.ay P) m args (mG gs) res (λ_=>mG gs))(w:P.inits.idxOf? m=n)(O:(gs.map (·.1)).Nodup)(W:∀C∈gs,p.heap[C.1]?=f (.cells #[C.2.2] C.2.1 (0,0)))(ag:b5 (mG gs) (a6.cR gs p) z args){fF:X->au->Prop}(ah:∀s k b,bx (mG gs) b k (res s)->Below p.heap.size p b.a->∀D,fF k (b.a.at D)):
  ∃S last r i x,runNT P (S+1) (solo (G (Frame.enter P m z.toArray .normal) []) p) #[]=(.ended r i,x)/\runN P S (solo (G (Frame.enter P m z.toArray .normal) []) p)=.next last /\
   step P last=.ended r i/\Go.Conc.Good P fF last r i x:=by
 have T:=bc.cR O W;have key:=h.2 (a6.cR gs p) z ag T (λak b=>∃s k g,ak=G g []/\mg P m g k b/\bx (mG gs) b k (res s)/\Below p.heap.size p b.a) []
  (λs g k b o q u e=>.stop ⟨s,k,g,rfl,o,q,⟨e.os,e.tape,e.output,e.size,λU N=>by
   by_cases A:U∈gs.map (·.1)
   .obtain⟨C,Z,rfl⟩:=hu.1 A;rw[u.iX Z,W C Z]
   .exact e.a4 U ⟨N,A⟩⟩⟩)
 have aP:AM.jH (λ_=>False)=λ_=>False:=by funext d;cases d<;>rfl
 obtain⟨t,ao,aq,an,b,V,x,ax,o,q,u,e,aa,ab,aw,⟨s,k,g,rfl,k1,ae,ai⟩⟩:=key.ay (λ_=>False) #[G (Frame.enter P m z.toArray .normal) []] n #[] (λ_=>0) T.mem rfl (Go.Conc.leavers_one P _)
  (by rw[aP];exact Go.Conc.past_nil.mono (g5 _)) ⟨λ_ h=>h.elim,λ_ h=>h.elim,λ_ h=>h.elim,λ_ h=>h.elim⟩ (λaB=>by intro s w;simp[Trace.act?]at w)
 have aj:=Go.Conc.beside_ends (P:=P) (Shun:=AM.jH ao) (B:=b.a.heap.size) (D:=λ_ _ _=>False) (Post:=fF) (λ_ _ _ h=>h.elim) (sl:=V) (n:=0) u e aa (Go.Conc.Goes.stop λw1 B=>by
  obtain⟨D,rfl⟩:=B;obtain⟨K,I,J⟩:=aco k1 w (b.a.at D) (λF r Y R=>q F r Y R);refine⟨a,k,K,I,λA L=>?_,ah s k b ae ai D⟩;obtain⟨F,r,Y,rfl,R⟩:=J A L;refine Go.Conc.evL_cell _ _ (λH=>?_) (gB.lt q R);have:=ab.D F H r
  grind)
 obtain⟨E,last,r,i,t2,Q,az,ar,M⟩:=aj;refine⟨t+E,last,r,i,t2,?_,?_,ar,M⟩
 .rw[show t+E+1=t+(E+1) by omega];exact(Er t (E+1) o).trans Q
 have A:=runNT_fst P t (crowd #[G (Frame.enter P m z.toArray .normal) []] p n) #[];have av:(runNT P t (crowd #[G (Frame.enter P m z.toArray .normal) []] p n) #[]).1=.next (crowd aq b.a V):=by have:runNT P t (crowd #[G (Frame.enter P m z.toArray .normal) []] p n) #[]=_:=o;grind
 grind[Go.Conc.solo_eq_crowd,runN_add]
def Rd.cR{gs}{p}(T:∀a∈gs,p.heap[a.1]?=f (.cells #[a.2.2] a.2.1 (0,0)))(u:∀a∈gs,∃A z,a.2.2=.iface A z){aa}{o}{h j}{b:Nat->m M}(I:∀(g i:Nat)d,(b g)[i]?=f d->∃kd x,d=M.int kd x)(K:Rd (a6.bw p).D aa (.B o h j b)):Rd (a6.cR gs p).D aa (.B v h j b):=by
 obtain⟨U,D,C,k,rfl,r,s,R,N,O⟩:=K.jL;refine .hM r s R N λg J i d e=>?_;obtain⟨z,q,y⟩:=O g J i d e;obtain⟨kd,x,rfl⟩:=I g i d e;cases y with
 |int w=>
  refine⟨_,?_,.int w⟩;have q:p.cell? ⟨C,k+g*h+i,n⟩=f (.int kd x):=q;show(if C∈gs.map (·.1)then n else p.cell? _)=_;rw[bj,q];intro t;obtain⟨a,E,rfl⟩:=hu.1 t;obtain⟨A,z,F⟩:=u a E;simp[aH,T a E,F]at q;grind
end
section
open Go.ChangeShapes Go.WideShapes Go.ChangeAt Go.RowKit
def abW{H:Type}{a:an×X->H}{x}{M}{os}{r}{fn}{b}{h:m PathCond}{ry Kf handsOn again}{q:au->Array X->Prop}(aa:∀d g args,d.heap=g.heap->q d args->q g args)(own:ownKnob M.prog.godebug=n)(I:os.Started)(W:M.prog.funcs[r]?=f fn)(K:∃(d:au) (i:Tape) (e:Input),d.os=os/\(d.forCall i e).Shaped M.prog/\e.vars=[]/\Input.okWide M.prog (d.forCall i e) .any d.heap.size r e /\
   ((b.pre a M.prog fn h ry (d.forCall i e).memory e.args/\q (d.forCall i e).memory e.args)/\sizedMet a M.prog fn (OpenSpec.ofChange b) ry (d.forCall i e).memory e.args)/\x.holds M.prog (lone (Frame.enter M.prog r e.args .normal) [] (d.forCall i e)))(N:∀(k:au) (base:Nat) (args:Array X) (o p:m (DataW H)) (w:m MemPlace),
   (∀(z:Nat) A t,fn.params[z]?=f A->args[z]?=f t->Value.okWide M.prog k .any base A t) ->
   DataW.Whole a M.prog fn.params.toList b.vars ry k args.toList o p w->k.ShapedOpen M.prog->q k args ->
   ∃u last s g j,runNT M.prog (u+1) (Conc.solo (Conc.G (Frame.enter M.prog r args .normal) []) k) #[]=(.ended s g,j)/\runN M.prog u (Conc.solo (Conc.G (Frame.enter M.prog r args .normal) []) k)=.next last /\
    step M.prog last=.ended s g/\Conc.Good M.prog (λt Q=>b.post a M.prog fn ry Kf handsOn again k args t Q) last s g j):
  ReturnsInLeavingWide x M os r .any (λd args=>(b.pre a M.prog fn h ry d args/\q d args)/\sizedMet a M.prog fn (OpenSpec.ofChange b) ry d args) (b.post a M.prog fn ry Kf handsOn again):=by refine returnsInLeavingWide_of_good own I K ?_;intro d i e _ V _ U S ae;obtain⟨_,_,_,Y,R,_,_,_,_,O⟩:=U;have J:Y=fn:=sG (R.symm.trans W);subst J;obtain⟨⟨⟨o,p,w,C,L⟩,F⟩,ab⟩:=S;have T:=DataW.Whole.of_heap (w':=d.forCall i e) oV C;obtain⟨u,last,s,g,j,y,Z,E,B⟩:=N (d.forCall i e) d.heap.size e.args o p w O T V (aa (d.forCall i e).memory (d.forCall i e) e.args rfl F);exact⟨u,last,s,g,j,y,Z,E,B.mono λt D=>ChangeSpec.post_blind D⟩
def NK(h){a}{b}{s}(d)(kinds)(e)(i)(iH)(D:s.holds a b)(A:∀y∈d,(s.withDomain y).holds a b)(B:s.wfByText b=l)(x:∀y∈d,(s.withDomain y).wfByText b=l)(u:s.laidByTextAt h a kinds e)(g:s.start=.entering)(k:s.noBlocks=v/\s.again=v)(m:a.checked.prog.mainIs=f (i.1,i.2.toList))(E:(!i.1&&i.2.isEmpty&&!iH)=v)(p:∀j fn,a.checked.prog.funcNamed s.func=f j->a.checked.prog.funcs[j]?=f fn->iH=a.checked.prog.looks []/\∀(z:Nat) r,fn.params[z]?=f r->a.checked.prog.wantsStandIn r=v)(C:l=s.goesBy a.checked.prog):
  Claim7.holds a (.plain b) {stood:={row:=s,standIns:=[],harness:=i,looks:=iH},kinds:=[],alts:=d,goes:=l,laidByText:=l,laidKinds:=kinds,laidTests:=e,laidLooks:=h}:=by
 have o:∀q:OpenClaim,Claim7.isSixth {stood:={row:=q,standIns:=[],harness:=i,looks:=iH},kinds:=[]}=v:=λq=>by exact cX
 refine⟨Claim7.tied_new_at h kinds e (Claim7.new_of_sixth D i iH g k m (o s) p) B,λy t=>?_,u,(λw=>by cases w),C⟩;exact Claim7.tied_new_at h kinds e (Claim7.new_of_sixth (A y t) i iH g k m (o _) p) (x y t)
end
namespace R1
def x'(b:bA)(a:Nat):Int:=(ds b a-97) % 256
def pK(b:bA)(a:Nat):Bool:=(x' b (a-1)+2*x' b (a-2)+3*x' b (a-3)) % 5==0
def lS(b:bA)(a:Nat):Nat->Nat
 |0=>min (a+8) (c b)
 |d+1=>if c b<=a+(7-d)then c b else if pK b (a+(7-d))then a+(7-d)else lS b a d
def eu(b:bA)(a:Nat):Nat:=lS b a 5
def IB(o)(a)(d:a<c o):∀b,b<=5->a<lS o a b/\lS o a b<=c o/\lS o a b<=a+8
 |0,_=>by simp only[lS];omega
 |b+1,e=>by
  simp only[lS];split
  .omega
  split
  .omega
  exact IB o a d b w
theorem rJ(o)(a)(b:a<c o):a<eu o a/\eu o a<=c o/\eu o a<=a+8:=IB o a b 5 w
def lj(a:bA):Nat->Nat->m Nat
 |0,_=>[]
 |d+1,b=>if b<c a then eu a b::lj a d (eu a b)else[]
def TT(a:bA):m Nat:=lj a (c a) 0
def iJ(b:bA):Nat->Nat->m bA
 |0,_=>[]
 |d+1,a=>if a<c b then(b.drop a).take (eu b a-a)::iJ b d (eu b a)else[]
def cn(a:bA):m bA:=iJ a (c a) 0
def iX(a:m bA):Option bA:=if fU a.flatten&&(cn a.flatten==a)then f a.flatten else n
def cC(a:bA):Bool:=decide (1<=c a)&&decide (c a<=8)&&d6 a
def gn(d:bA):Int:=d.foldl (λb a=>27*b+((a.toNat:Int)-97) % 256+1) 0
def ce(a:Int):Bool:=decide (1<=a)&&decide (a<=99)
def d8(a:Int)(b:bA):Int:=(gn b*(2*a+1)+a*7919) % 999999999989
def fk(a:Nat):Nat:=if a<1∨8<a then 0 else if a<=2 then 2 else if a<=4 then 4 else 8
def fT(a:bA):bA:=if cC a then a++aU (fk (c a)-c a) 46 else[]
def fw(a:bA):bA:=(a.reverse.dropWhile (·==46)).reverse
def hP(a:bA):Option bA:=if cC (fw a)&&(fT (fw a)==a)then f (fw a)else n
abbrev c1:=Int×bA
abbrev cb:=Int×m c1
def right(b:Int)(a:c1):Bool:=match hP a.2 with|some d=>d8 b d==a.1|none=>v
def EG(b:m Int):Bool:=(aA (c b)).all λa=>a==0||decide (b.getD (a-1) 0<b.getD a 0)
def il(b:Int)(a:cb):Bool:=
 decide (1<=a.1)&&decide (a.1<=99)&&ce b&&decide (1<=c a.2)&&decide (c a.2<=4)&&a.2.all (right b)&&EG (a.2.map (·.1))
def iV(a:Int)(d:c1):Option bA:=match hP d.2 with|some b=>if ce a&&(d8 a b==d.1)then f b else n|none=>n
def fZ(b:Int)(e:cb)(d:Int):Option bA:=match e.2.find? (λa=>a.1==d)with|some a=>iV b a|none=>n
def hO(b:cb)(a:m Int):cb:=(b.1,b.2.filter λd=>a.contains d.1)
def fK(e:m c1)(a:c1):m c1:=match e with
 |[]=>[a]
 |b::d=>if a.1<b.1 then a::b::d else b::fK d a
def jZ(a e:Int)(b:m bA):cb:=(a,b.foldl (λg d=>fK g (d8 e d,fT d)) [])
abbrev fr:=Int×Int
def gb(a:fr):Bool:=decide (0<=a.1)&&decide (a.1<999999999989)&&decide (1<=a.2)&&decide (a.2<=99)
def ee(e:m fr)(a:fr):m fr:=match e with
 |[]=>[a]
 |b::d=>if b.1<a.1 then b::ee d a else a::(b::d).filter (λg=>!(g.1==a.1))
def i5(b:m fr)(d:Int):Int:=match b.find? (λa=>a.1==d)with|some a=>a.2|none=>0
def dF(b:m cb):m fr:=b.flatMap λa=>a.2.map λd=>(d.1,a.1)
def eG(a:m cb):m fr:=if(dF a).all gb then(dF a).foldl ee []else[]
abbrev m_:=bA×m Int
abbrev ej:=Int×m m_
def kV(b:Int)(a:cN):m_:=(a.1,(cn a.2).map (d8 b))
def fM(a b:Int)(d:m cN):ej:=(a,d.map (kV b))
def fg(d:Int)(e:m fr)(a:m bA)(b:bA):m bA:=if i5 e (d8 d b)==0&&!a.contains b then a++[b]else a
def ga(b:Int)(e:m cN)(d:m fr):m bA:=(e.flatMap λa=>cn a.2).foldl (fg b d) []
def dh(b:Int)(a:m cb)(d:Int):Option bA:=a.findSome? λe=>fZ b e d
def qE{b}(e:d6 b=l):∀a∈b,97<=a.toNat/\a.toNat<=122:=by intro a d;have:=aW.1 e a d;simpa[jx]using this
def Cc:∀(e:bA) (a d:Int)(h:Nat),(∀b∈e,97<=b.toNat/\b.toNat<=122)->0<=a->a<d->1<=d ->
  0<=e.foldl (λa b=>27*a+((b.toNat:Int)-97) % 256+1) a/\e.foldl (λa b=>27*a+((b.toNat:Int)-97) % 256+1) a<d*27 ^ c e
 |[],a,d,_,_,j,i,_=>by grind
 |b::e,a,d,h,g,j,i,p=>by obtain⟨o,k⟩:=g b D;have:=Cc e (27*a+((b.toNat:Int)-97) % 256+1) (d*27) h (λm q=>g m N) w w w;grind[Int.mul_assoc]
def L':∀{j:Nat},j<=8->(27:Int) ^ j<=282429536481:=by
 intro j a
 match j,a with
 |0,_|1,_|2,_|3,_|4,_|5,_|6,_|7,_|8,_=>decide
def xR{b:bA}(d:cC b=l):0<=gn b/\gn b<282429536481:=by simp[cC,cm,bw]at d;obtain⟨e,a⟩:=Cc b 0 1 0 (qE d.2) w w w;have:=L' d.1.2;rw[Int.one_mul]at a;exact⟨e,Int.lt_of_lt_of_le a this⟩
def TR:∀a:Fin 200,a.val≠0->Nat.gcd 999999999989 a.val=1:=afi
def aaM{x:Nat}{P s a}(b:P=(x:Int))(g:P ∣ s*a)(i:0<s)(k:s<P)(h:Nat.gcd x a.natAbs=1):False:=by
 subst b;have e:x ∣ s.natAbs*a.natAbs:=by have:=Int.natAbs_dvd_natAbs.2 g;grind[Int.natAbs_mul,Int.natAbs_natCast]
 have d:x ∣ s.natAbs:=Nat.Coprime.dvd_of_dvd_mul_right h e;have j:=Nat.le_of_dvd w d;omega
def Um{a b P:Int}(d:a % P=b % P):P ∣ a-b:=Int.dvd_of_emod_eq_zero (by rw[Int.sub_emod,d,Int.sub_self,Int.zero_emod])
def pa(b:bA):Int:=b.foldr (λa d=>27*d+((a.toNat:Int)-97) % 256+1) 0
def If:∀a:bA,0<=pa a
 |[]=>by simp[pa]
 |b::a=>by have:=If a;simp[pa,List.foldr_cons]at *;omega
def Ie:∀{T bk:bA},(∀a∈T,97<=a.toNat/\a.toNat<=122)->(∀a∈bk,97<=a.toNat/\a.toNat<=122)->pa T=pa bk->T=bk
 |[],[],_,_,_=>rfl
 |[],s::bk,_,b,d|s::bk,[],b,_,d=>by have:=If bk;simp[pa,List.foldr_cons,List.foldr_nil]at *;omega
 |a::T,s::bk,g,b,d=>by have j:=g a D;have k:=b s D;have h:=Ie (T:=T) (bk:=bk) (λe i=>g e N) (λe i=>b e N);simp[pa,List.foldr_cons]at d h;grind[UInt8.toNat_inj]
def TL{a d}(g:cC a=l)(h:cC d=l)(j:gn a=gn d):a=d:=by
 have i:∀a,gn a=pa a.reverse:=λa=>by simp[gn,pa,List.foldr_reverse]
 simp[cC,cm]at g h;rw[i,i]at j;exact List.reverse_inj.1 (Ie (λe b=>qE g.2 e (List.mem_reverse.1 b)) (λe b=>qE h.2 e (List.mem_reverse.1 b)) j)
def y1(o:ce h=l){j k}(p:cC j=l)(q:cC k=l)(i:d8 h j=d8 h k):j=k:=by
 refine TL p q ?_;simp[ce,cm,bw]at o;obtain⟨r,m⟩:=xR p;obtain⟨g,d1⟩:=xR q;have key:∀d e:Int,0<=d->0<=e->d<282429536481->d>e->(d*(2*h+1)+h*7919) % 999999999989=(e*(2*h+1)+h*7919) % 999999999989->False:=by intro d e z y u t i;have b:=Um i;rw[show(d*(2*h+1)+h*7919)-(e*(2*h+1)+h*7919)=(d-e)*(2*h+1) by grind]at b;have s:(2*h+1).natAbs<200:=w;exact aaM (x:=999999999989) a b w w (TR ⟨_,s⟩ N)
 rcases Int.lt_trichotomy (gn j) (gn k)with b|b|b
 .exact(key _ _ g r d1 b i.symm).elim
 .exact b
 exact(key _ _ r g m b i).elim
theorem ac7{a}(h:d6 a=l)(j):fw (a++aU j 46)=a:=by
 have i:∀j,List.dropWhile (·==46) ((aU j (46:UInt8))++a.reverse)=a.reverse:=by
  intro j;induction j with
  |zero=>
   simp[List.replicate_zero,p_];cases k:a.reverse with
   |nil=>rfl
   |cons b m=>
    have g:b∈a:=List.mem_reverse.1 N;have:=qE h b g;have d:(b==46)=v:=by simp[eW];rintro rfl;grind
    simp[d]
  |succ j e=>simpa[List.replicate_succ]using e
 unfold fw;grind
def aa'{a}(b:cC a=l):hP (fT a)=f a:=by
 have e:d6 a=l:=by simp[cC,cm]at b;exact b.2
 have g:fT a=a++aU (fk (c a)-c a) 46:=by simp[fT,b]
 have d:fw (fT a)=a:=by grind[ac7]
 simp[hP,d,b]
def jD(a:m c1)(b d:Nat):m c1:=(a.set b (a.getD d (0,[]))).set d (a.getD b (0,[]))
def nK(a:m c1)(b d:Nat):Bool:=decide ((a.getD b (0,[])).1<(a.getD d (0,[])).1)
def je:Nat->m c1->Nat->m c1
  |0,b,_=>b
  |d+1,b,a=>if(a-1) / 2=a then b else if nK b a ((a-1) / 2)=l then je d (jD b ((a-1) / 2) a) ((a-1) / 2)else b
def jv(b:m c1)(a d:Nat):Nat:=if 2*a+2<d/\nK b (2*a+2) (2*a+1)=l then 2*a+2 else 2*a+1
def hh:Nat->m c1->Nat->Nat->m c1
  |0,a,_,_=>a
  |e+1,a,b,d=>if d<=2*b+1 then a else if nK a (jv a b d) b=l then hh e (jD a b (jv a b d)) (jv a b d) d else a
def hQ(a:m c1)(b:c1):m c1:=je (c a+1) (a++[b]) (c a)
def hl(a:m c1):m c1:=hh (c a) (jD a 0 (c a-1)) 0 (c a-1)
def kZ:Nat->m c1->m c1
  |0,_=>[]
  |b+1,a=>if c a=0 then[]else(hl a).getD (c a-1) (0,[])::kZ b ((hl a).take (c a-1))
def ma(a:m c1):m c1:=kZ (c a) (a.foldl hQ [])
theorem pI(d)(e u):c (jD d e u)=c d:=by simp[jD]
def NX:∀a b d,c (je a b d)=c b
  |0,_,_=>rfl
  |a+1,b,d=>by unfold je;split;rfl;split;rw[NX a,pI];rfl
def IQ:∀a b d e,c (hh a b d e)=c b
  |0,_,_,_=>rfl
  |a+1,b,d,e=>by unfold hh;split;rfl;split;rw[IQ a,pI];rfl
def Me(d)(a):c (hQ d a)=c d+1:=by simp[hQ,NX]
theorem L8(d):c (hl d)=c d:=by simp[hl,IQ,pI]
def ac'{d}(g:e<c d)(h:u<c d){a}:a∈jD d e u->a∈d:=by intro b;unfold jD at b;grind
def Eb(a):hQ [] a=[a]:=cX
def Ec(a b):hQ [a] b=if b.1<a.1 then[b,a]else[a,b]:=Gd
def Md(a i b):hQ [a,i] b=if b.1<a.1 then[b,i,a]else[a,i,b]:=Gd
def abr(b i s a):hQ [b,i,s] a=if a.1<i.1 then(if a.1<b.1 then[a,b,s,i]else[b,a,s,i])else[b,i,s,a]:=Gd
def Ea(a){d a7}{E}(e:c d=j+1)(b:hl d=a7++[E])(g:c a7=j):kZ (a+1) d=E::kZ a a7:=by rw[kZ,bj w,b];grind
def abk(a):kZ 1 [a]=[a]:=cX
def L9(b i):kZ 2 [b,i]=[b,i]:=by rw[Ea 1 (a7:=[i]) (E:=b) (j:=1) a cX a,abk]
def L_(b i s):kZ 3 [b,i,s]=if i.1<s.1 then[b,i,s]else[b,s,i]:=by rw[Ea 2 (a7:=if i.1<s.1 then[i,s]else[s,i]) (E:=b) (j:=2) a (by simp[hl,hh,jD,jv,nK];split<;>rfl) (by split<;>rfl)];split<;>rw[L9]
def abl(d i s b):kZ 4 [d,i,s,b]=d::kZ 3 (if s.1<i.1 then(if s.1<b.1 then[s,i,b]else[b,i,s])else if i.1<b.1 then[i,b,s]else[b,i,s]):=by rw[Ea 3 (a7:=if s.1<i.1 then(if s.1<b.1 then[s,i,b]else[b,i,s])else if i.1<b.1 then[i,b,s]else[b,i,s]) (E:=d) (j:=3) a ?_ (by split<;>split<;>rfl)];by_cases e:s.1<i.1<;>by_cases g:s.1<b.1<;>by_cases h:i.1<b.1<;>simp[hl,hh,jD,jv,nK,e,g,h]
theorem abv(d)(r:c d<=4)(i:d.Pairwise λa b=>a.1≠b.1):ma d=d.foldl fK []:=by
  match d,r with
  |[],_=>rfl
  |[a],_=>exact cX
  |[a,b],_=>
    simp at i;simp[ma,List.foldl,Eb,Ec,fK,fs,gQ];split<;>simp[L9]
  |[a,b,e],_=>
    simp at i;obtain⟨⟨x,w⟩,y⟩:=i;simp[ma,List.foldl,Eb,Ec,fK,fs,gQ];by_cases o:b.1<a.1<;>by_cases h:e.1<a.1<;>by_cases p:e.1<b.1<;>first|omega |
      (have m:(a.1<b.1)=¬(b.1<a.1):=by grind
       have j:(a.1<e.1)=¬(e.1<a.1):=N;have k:(b.1<e.1)=¬(e.1<b.1):=N
       simp[o,h,p,m,j,k,Md,L_,fK])
  |[a,b,e,g],_=>
    simp at i;obtain⟨⟨x,w,y⟩,⟨C,D⟩,B⟩:=i;simp[ma,List.foldl,Eb,Ec,fK,fs,gQ];by_cases o:b.1<a.1<;>by_cases h:e.1<a.1<;>by_cases p:e.1<b.1<;>by_cases q:g.1<a.1<;>by_cases A:g.1<b.1<;>by_cases u:g.1<e.1<;>first|omega |
      (have m:(a.1<b.1)=¬(b.1<a.1):=by grind
       have j:(a.1<e.1)=¬(e.1<a.1):=N;have k:(b.1<e.1)=¬(e.1<b.1):=N;have s:(a.1<g.1)=¬(g.1<a.1):=N;have z:(b.1<g.1)=¬(g.1<b.1):=N;have t:(e.1<g.1)=¬(g.1<e.1):=N
       simp[o,h,p,q,A,u,m,j,k,s,z,t,Md,abr,abl,L_,fK])
def y2{a:Type}[BEq a][LawfulBEq a]:∀(L b:m a),L.Nodup->(∀d∈L,d∈b)->c L<=c b
 |[],b,_,_=>g5 _
 |e::L,b,p,i=>by
  obtain⟨o,k⟩:=List.nodup_cons.1 p;have h:=i e iB;have:=y2 L (b.erase e) k λd g=>by have:d≠e:=λj=>o (j▸g);exact(List.mem_erase_of_ne this).2 (i d (mo _ g))
  have j:=List.length_erase_of_mem h;have:=List.length_pos_of_mem h;simp[fs];omega
def Bj:∀{j k:m Int},j.Pairwise (· < ·)->k.Pairwise (· < ·)->(∀e,e∈j↔e∈k)->j=k
 |[],[],_,_,_=>rfl
 |[],h::k,_,_,a=>by have:=(a h).2 iB;cases this
 |g::j,[],_,_,a=>by have:=(a g).1 iB;cases this
 |g::j,h::k,u,w,a=>by
  obtain⟨r,p⟩:=iR.1 u;obtain⟨s,q⟩:=iR.1 w;have d:=(a g).1 iB;have b:=(a h).2 iB;simp[fh]at d b;have t:g=h:=by
   rcases d with d|d
   .exact d
   rcases b with b|b
   .exact b.symm
   have:=r h b;have:=s g d;omega
  subst t;rw[Bj p q λe=>?_];have o:=a e;simp[fh]at o;constructor
  .intro C;have:=r e C;rcases o.1 (.inr C)with i|i
   .omega
   exact i
  intro C;have:=s e C;rcases o.2 (.inr C)with i|i
  .omega
  exact i
section
variable {q:af S}
def BI:bI:=λargs a=>match args,a with
 |[.n (.R (.c (.S b)))],[]=>f (bg (f_ b),[],[])
 |_,_=>n
def adq:bL q 77 BI:=by intro args g b d a e _;unfold BI at e;grind[XO]
def xE:bI:=λargs a=>match args,a with
 |[.n (.R (.c (.S b)))],[]=>f (bg (fU b),[],[])
 |_,_=>n
def t78:bL q 78 xE:=by intro args g b d a e _;unfold xE at e;grind[YL]
def BJ:bI:=λargs d=>match args,d with
 |[.n (.R (.c (.S a))),.n (.R (.c (.S b)))],[]=>f (bg (ld a b),[],[a≠[],b≠[]])
 |_,_=>n
def t79:bL q 79 BJ:=by
 intro args h e g d b a;unfold BJ at b;split at b
 .cases b;exact UX _ _ a.1 a.2
 grind
def Iw:m (Nat×bI):=(77,BI)::(78,xE)::(79,BJ)::Im
def lR:a' q Iw:=a'.cons adq (a'.cons t78 (a'.cons t79 ql))
def cu(b:m cN)(a:Nat):bA:=(b.getD a ([],[])).1
def lB(b:m cN)(a:Nat):bA:=(b.getD a ([],[])).2
def kx(o)(e):(o.getD e bu.E).1=cu o e:=rfl
def tY(o)(e):(o.getD e bu.E).2=lB o e:=rfl
def jc(b:m cN)(a:Nat):Bool:=f_ (cu b a)&&fU (lB b a)&&(a==0||aQ (cu b (a-1)) (cu b a))&&(aA a).all λd=>!ld (cu b d) (cu b a)
def dO(a:m cN):Bool:=(aA (c a)).all (jc a)&&decide (c a<=6)
def gf{b:Nat->Bool}:(aA j).all b=l↔∀a,a<j->b a=l:=N
def ze{b}(a:f_ b=l):b≠[]:=by rintro rfl;exact cX
def zU{o}(b:e<c o)(d:jc o e=v):dO o=v:=by
 cases a:dO o with
 |false=>rfl
 |true=>
  simp only[dO,cm]at a;grind
def YO(o):Y q 50 [bu.B o] [] (bg (dO o)) []:=by
 refine Y.I func50 rfl λy=>?_;have E:=y.B 0 a;refine b9 lR a B (g.ek (λb=>b<=c o/\∀e,e<b->jc o e=l) (λb:Nat=>[(0,bu.B o),(3,R b)]) (λ_=>[]) (λb=>c o-b) 0 a Gg ⟨by omega,by omega⟩ a ?_);rintro b ⟨u,x⟩;by_cases t:b<c o
 .by_cases i:f_ (cu o b)=l
  .by_cases O:fU (lB o b)=l
   .by_cases j:b=0∨aQ (cu o (b-1)) (cu o b)=l
    .apply g.cj [(0,bu.B o),(3,R b),(4,R 0)] []
     .intro bY;by_cases k:b=0
      .refine a_ lR [8,16,24,-29] a ?_ (bY _ _ a ?_)
       .simp[-al,t,kx,tY,i,O];omega
       simp[bs]
      have C:=j.resolve_left k;have s:a8 .i64 ((b:Int)-1):=cX;have A:((b:Int)-1).toNat=b-1:=w;refine a_ lR [8,16,24,29,-42] a QE (bY _ _ a ?_);simp[bs]
     ·
      have z:jc o b=(aA b).all (λe=>!ld (cu o e) (cu o b)):=by
       rcases j with rfl|C
       .simp[jc,i,O]
       simp[jc,i,O,C]
      refine g.ek (λe=>e<=b/\∀m,m<e->ld (cu o m) (cu o b)=v) (λe:Nat=>[(0,bu.B o),(3,R b),(4,R e)]) (λ_=>[]) (λe=>b-e) 0 a Gg ⟨by omega,by omega⟩ a ?_;rintro e ⟨I,F⟩;by_cases h:e<b
      .have d:f_ (cu o e)=l:=by have:=x e h;simp only[jc,cm]at this;exact this.1.1.1
       cases p:ld (cu o e) (cu o b)with
       |true=>
        refine a_ lR [47,60] a ?_ (g.bS (g.dP (bZ.zero a ?_)))
        .simp[-al,t,h,kx,p,ze i,ze d];omega
        have:jc o b=v:=N;simp[zU t this]
       |false=>
        refine a_ lR [47,-60] a ?_ (g.again (e+1) a ?_ ?_ ?_ a)
        .simp[-al,t,h,kx,p,ze i,ze d,a8];omega
        .simp[bs]
        .grind
        omega
      have h:e=b:=w;subst h;refine a_ lR [-47] a D (g.bs a a ?_);exact b9 lR a cX (g.again (e+1) a Gg N w a)
    have k:b≠0:=λr=>j (.inl r);have C:aQ (cu o (b-1)) (cu o b)=v:=N;have s:a8 .i64 ((b:Int)-1):=cX;have A:((b:Int)-1).toNat=b-1:=w;refine a_ lR [8,16,24,29,42] a QE (g.bS (bZ.zero a ?_));simp[U,zU t (by simp[jc,k,C])]
   refine a_ lR [8,16,-24] a ?_ (g.bS (bZ.zero a ?_))
   .simp[-al,t,kx,tY,i,O]
   simp[U,zU t (by simp[jc,O])]
  refine a_ lR [8,-16] a ?_ (g.bS (bZ.zero a ?_))
  .simp[-al,t,kx,i]
  simp[U,zU t (by simp[jc,i])]
 refine a_ lR [-8] a bK (g.bs a a ?_);refine b9 lR a B (g.aw a ?_);simp only[U,dO];grind
end
section
open Go.Proofs Go.Conc.Lib
def q2:WgLink:={add:=188,done:=190,wait:=192,relMerge:=228,disable:=229,enable:=230,inBubble:=231,associate:=232,fatal:=233,uOr:=234,uAdd:=235,raceRead:=236,uLoad:=237,uStore:=238,disassociate:=239,semrelease:=240,acquire:=242,isAssociated:=243,uCas:=244,raceWrite:=245,semacquire:=246,orU64:=284,addU64:=285,loadU64:=286,storeU64:=287,casU64:=290,tWgP:=292,tUP:=220,tAssoc:=294,tWg:=244,tAU:=241,tU64:=239,tUint:=265,tU32:=242,tPU32:=298,tPAU:=347,tPU64:=349,tNoCopy:=236,tANoCopy:=237,tAlign64:=238}
def wx:WgLib S q2 where
 f_add:=Tryz.func188.trans (eF f bG)
 f_done:=Tryz.func190.trans (eF f bG)
 f_wait:=Tryz.func192.trans (eF f bG)
 f_relMerge:=Tryz.func228.trans (eF f bG)
 f_disable:=Tryz.func229.trans (eF f bG)
 f_enable:=Tryz.func230.trans (eF f bG)
 f_inBubble:=Tryz.func231.trans (eF f bG)
 f_associate:=Tryz.func232.trans (eF f bG)
 f_fatal:=Tryz.func233.trans (eF f bG)
 f_uOr:=Tryz.func234.trans (eF f bG)
 f_uAdd:=Tryz.func235.trans (eF f bG)
 f_raceRead:=Tryz.func236.trans (eF f bG)
 f_uLoad:=Tryz.func237.trans (eF f bG)
 f_uStore:=Tryz.func238.trans (eF f bG)
 f_disassociate:=Tryz.func239.trans (eF f bG)
 f_semrelease:=Tryz.func240.trans (eF f bG)
 f_acquire:=Tryz.func242.trans (eF f bG)
 f_isAssociated:=Tryz.func243.trans (eF f bG)
 f_uCas:=Tryz.func244.trans (eF f bG)
 f_raceWrite:=Tryz.func245.trans (eF f bG)
 f_semacquire:=Tryz.func246.trans (eF f bG)
 f_orU64:=Tryz.func284.trans (eF f bG)
 f_addU64:=Tryz.func285.trans (eF f bG)
 f_loadU64:=Tryz.func286.trans (eF f bG)
 f_storeU64:=Tryz.func287.trans (eF f bG)
 f_casU64:=Tryz.func290.trans (eF f bG)
 underlying_tWgP:=Tryz.underlying292
 runUnderlying_tWgP:=Tryz.runUnderlying292
 sizeOf_tWgP:=Tryz.sizeOf292
 isAgg_tWgP:=Tryz.isAgg292
 zeroValue_tWgP:=Tryz.zeroValue292
 underlying_tUP:=Tryz.underlying220
 runUnderlying_tUP:=Tryz.runUnderlying220
 sizeOf_tUP:=Tryz.sizeOf220
 isAgg_tUP:=Tryz.isAgg220
 zeroValue_tUP:=Tryz.zeroValue220
 underlying_tI32:=Tryz.underlying294
 runUnderlying_tI32:=Tryz.runUnderlying294
 sizeOf_tI32:=Tryz.sizeOf294
 isAgg_tI32:=Tryz.isAgg294
 zeroValue_tI32:=Tryz.zeroValue294
 underlying_tWg:=Tryz.underlying244
 runUnderlying_tWg:=Tryz.runUnderlying244
 sizeOf_tWg:=Tryz.sizeOf244
 isAgg_tWg:=Tryz.isAgg244
 zeroValue_tWg:=Tryz.zeroValue244
 underlying_tAU:=Tryz.underlying241
 runUnderlying_tAU:=Tryz.runUnderlying241
 sizeOf_tAU:=Tryz.sizeOf241
 isAgg_tAU:=Tryz.isAgg241
 zeroValue_tAU:=Tryz.zeroValue241
 underlying_tU64:=Tryz.underlying239
 runUnderlying_tU64:=Tryz.runUnderlying239
 sizeOf_tU64:=Tryz.sizeOf239
 isAgg_tU64:=Tryz.isAgg239
 zeroValue_tU64:=Tryz.zeroValue239
 underlying_tSh:=Tryz.underlying265
 runUnderlying_tSh:=Tryz.runUnderlying265
 sizeOf_tSh:=Tryz.sizeOf265
 isAgg_tSh:=Tryz.isAgg265
 zeroValue_tSh:=Tryz.zeroValue265
 underlying_tU32:=Tryz.underlying242
 runUnderlying_tU32:=Tryz.runUnderlying242
 sizeOf_tU32:=Tryz.sizeOf242
 isAgg_tU32:=Tryz.isAgg242
 zeroValue_tU32:=Tryz.zeroValue242
 underlying_tPU32:=Tryz.underlying298
 runUnderlying_tPU32:=Tryz.runUnderlying298
 sizeOf_tPU32:=Tryz.sizeOf298
 isAgg_tPU32:=Tryz.isAgg298
 zeroValue_tPU32:=Tryz.zeroValue298
 underlying_tPAU:=Tryz.underlying347
 runUnderlying_tPAU:=Tryz.runUnderlying347
 sizeOf_tPAU:=Tryz.sizeOf347
 isAgg_tPAU:=Tryz.isAgg347
 zeroValue_tPAU:=Tryz.zeroValue347
 underlying_tPU64:=Tryz.underlying349
 runUnderlying_tPU64:=Tryz.runUnderlying349
 sizeOf_tPU64:=Tryz.sizeOf349
 isAgg_tPU64:=Tryz.isAgg349
 zeroValue_tPU64:=Tryz.zeroValue349
 underlying_t0:=Tryz.underlying0
 runUnderlying_t0:=Tryz.runUnderlying0
 sizeOf_t0:=Tryz.sizeOf0
 isAgg_t0:=Tryz.isAgg0
 zeroValue_t0:=Tryz.zeroValue0
 underlying_t3:=Tryz.underlying3
 runUnderlying_t3:=Tryz.runUnderlying3
 sizeOf_t3:=Tryz.sizeOf3
 isAgg_t3:=Tryz.isAgg3
 zeroValue_t3:=Tryz.zeroValue3
 underlying_t4:=Tryz.underlying4
 runUnderlying_t4:=Tryz.runUnderlying4
 sizeOf_t4:=Tryz.sizeOf4
 isAgg_t4:=Tryz.isAgg4
 zeroValue_t4:=Tryz.zeroValue4
 underlying_t9:=Tryz.underlying9
 runUnderlying_t9:=Tryz.runUnderlying9
 sizeOf_t9:=Tryz.sizeOf9
 isAgg_t9:=Tryz.isAgg9
 zeroValue_t9:=Tryz.zeroValue9
 underlying_t20:=Tryz.underlying20
 runUnderlying_t20:=Tryz.runUnderlying20
 sizeOf_t20:=Tryz.sizeOf20
 isAgg_t20:=Tryz.isAgg20
 zeroValue_t20:=Tryz.zeroValue20
 underlying_t21:=Tryz.underlying21
 runUnderlying_t21:=Tryz.runUnderlying21
 sizeOf_t21:=Tryz.sizeOf21
 isAgg_t21:=Tryz.isAgg21
 zeroValue_t21:=Tryz.zeroValue21
 room_tWg:=bG
 room_tU32:=bG
end
end R1
def b5.imp{h g}{bf a}(i:∀e,bx k b e h->bx k b e g)(j:∀z,b5 k b z bf->b5 k b z a):∀z,b5 k b z (h::bf)->b5 k b z (g::a)
 |[],d=>d.elim
 |e::z,d=>⟨i e d.1,j z d.2⟩
abbrev x6(a:cN):y:=.n (.agg [.c (.S a.1),.c (.S a.2)])
abbrev mZ(a:m cN)(b:Bool):y:=.T [.R (.c (.B v 2 (c a) (bu.fn a))),.R (.c (.bool b))]
namespace R1
variable {q:af S}
def sS:bI:=λargs d=>match args,d with
 |[e],[]=>match jA 2 e with
  |none=>n
  |some (a,b)=>f (bg (dO (bu.ad a b)),[],[bu.bH a b])
 |_,_=>n
def t50:bL q 50 sS:=by
 intro args j e g d a b;unfold sS at a;split at a
 .split at a
  .cases a
  rename_i k m h;cases a;exact(YO _ ).args (λ_ z=>b5.imp (λ_=>bu.cv h b) (λ_ i=>i) z)
 grind
def Ix:m (Nat×bI):=(50,sS)::Iw
def TM:a' q Ix:=a'.cons t50 lR
end R1
def c6.aW(a:c6 α)(d)(e):bs (c d+1) (cj (c d) (a.fn d) (λb=>[a.a8 e].getD b [])) (a.fn (d++[e])):=by intro b g;unfold cj c6.fn gK;grind
@[simp] theorem bs.same{a:Nat->m M}:bs j a a:=λ_ _=>rfl
@[simp] theorem bs.nil{a b:Nat->m M}:bs 0 a b:=λe d=>by omega
namespace R1
variable {q:af S}
def Iy:m (Nat×bI):=Ix
def TN:a' q Iy:=TM
end R1
def kF.fY{args}(h:kF args k)(m:Nat){ai}(d:args[m]?=f (.n (.agg ai)))(i:Nat){o}{p}(b:ai[i]?=f (Q.c (.B o p j V))):j<=9223372036854775807:=by obtain⟨q,s,g⟩:=h.at d;obtain⟨z,_,a⟩:=g;obtain⟨r,_,e⟩:=bP.get a b;cases e<;>omega
namespace R1
def lM{T:Nat->Bool}(a:e<j)(b:T e=v):(aA j).all T=v:=N
def jn{T:Nat->Bool}(b:∀a,a<e->T a=l)(g:T e=l):∀a,a<e+1->T a=l:=λa d=>by grind
end R1
def dH.put(a b:Int):dH->dH
 |.nil=>.ax .nil a b .nil
 |.ax d E g e=>if a<E then .ax (d.put a b) E g e else if E<a then .ax d E g (e.put a b)else .ax d a b e
def dH.ad:dH->m (Int×Int)
 |.nil=>[]
 |.ax a d e b=>a.ad++(d,e)::b.ad
def dH.find(a:Int):dH->Int
 |.nil=>0
 |.ax d b g e=>if a=b then g else if a<b then d.find a else e.find a
namespace R1
theorem abz{d}{b}(g:∀a∈d,a.1<b.1):ee d b=d++[b]:=by
 induction d with
 |nil=>rfl
 |cons i h e=>
  simp[ee];grind
def Mi{d a}{b}(h:∀e∈d,e.1<b.1):ee (d++a) b=d++ee a b:=by
 induction d with
 |nil=>rfl
 |cons i d g=>
  simp[uK,ee];grind
def abC{d a7}{b}(g:∀a∈a7,b.1<a.1):ee (d++a7) b=ee d b++a7:=by
 have k:a7.filter (λh=>!(h.1==b.1))=a7:=sz.2 λa j=>by grind
 induction d with
 |nil=>
  cases a7 with
  |nil=>rfl
  |cons e a7=>
   have:=g e iB;simp[p_,ee];grind
 |cons e d i=>
  simp[uK,ee];grind
abbrev dH.fo(a:dH):Prop:=a.ad.Pairwise λb d=>b.1<d.1
theorem Ef{g i}:∀{o:dH},dH.fo o->(o.put g i).ad=ee o.ad (g,i)
 |.nil,_=>rfl
 |.ax d e h a7,q=>by
  obtain⟨s,p,t⟩:=nh.1 q;have r:=iR.1 p;have m:∀a∈d.ad,a.1<e:=λa b=>t a b (e,h) iB;simp[dH.put,dH.ad];split
  .rename_i j;simp[dH.ad];rw[Ef (o:=d) s,abC (a7:=(e,h)::a7.ad)];grind
  split
  .rename_i _ j;simp[dH.ad];rw[Ef (o:=a7) r.2,Mi (d:=d.ad) λa b=>by grind];simp[ee];grind
  have k:g=e:=w;subst k;simp[dH.ad];rw[Mi (d:=d.ad) λa b=>m a b];simp only[ee];rw[bj D,sF,bj D,sz.2 λa b=>by grind]
theorem abE{d}{b}(j:d.Pairwise λe a=>e.1<a.1):(ee d b).Pairwise (λe a=>e.1<a.1)/\∀g∈ee d b,g=b∨g∈d:=by
 induction d with
 |nil=>simp[ee]
 |cons a p h=>
  obtain⟨m,i⟩:=iR.1 j;obtain⟨k,o⟩:=h i;simp[ee];grind[List.pairwise_cons]
def C7{j}:∀{o:dH},dH.fo o->o.find j=i5 o.ad j
 |.nil,_=>rfl
 |.ax b d q p,m=>by obtain⟨h,e,i⟩:=nh.1 m;have g:=iR.1 e;have s:∀a∈b.ad,a.1<d:=λa k=>i a k (d,q) iB;simp[dH.find,dH.ad];have r:=C7 (j:=j) (o:=b) h;have t:=C7 (j:=j) (o:=p) g.2;unfold i5 at *;grind
end R1
namespace R1
section
variable {q:af S}
def mP(b:cN)(a:m cN×Bool)(d:bA):m cN×Bool:=if a.2=l then a else if aQ d b.1=l then a else(a.1++[b],l)
def zl(d:cN)(a:m cN×Bool)(b:cN):m cN×Bool:=if b.1=d.1 then a else(a.1++[b],a.2)
def r6(b:cN)(a:m cN×Bool)(d:cN):m cN×Bool:=zl b (mP b a d.1) d
def mQ(a:cN)(b:m cN):m cN×Bool:=b.foldl (r6 a) ([],v)
def lv(b:m cN)(a:cN):m cN:=if(mQ a b).2=l then(mQ a b).1 else(mQ a b).1++[a]
theorem pg{o}(b:e<c o):o[e]=(cu o e,lB o e):=by have a:o.getD e ([],[])=o[e]:=N;simp only[cu,lB,a]
def abu{a}{o}(b:e<c o):mQ a (o.take (e+1))=r6 a (mQ a (o.take e)) (cu o e,lB o e):=by rw[uO,bJ b,pg b];simp[mQ]
def Mf(a)(uQ)(C):(mP a uQ C).1.length<=c uQ.1+1:=Ao
def abt(a)(uQ)(C):(zl a uQ C).1.length<=c uQ.1+1:=by unfold zl;grind
def Mg(b):∀e(a:m cN×Bool),(e.foldl (r6 b) a).1.length<=c a.1+2*c e
 |[],a=>by simp
 |d::g,a=>by
  have h:=Mg b g (r6 b a d);have i:=Mf b a d.1;have j:=abt b (mP b a d.1) d;simp only[iT,fs];have:(r6 b a d).1.length<=c a.1+2:=by unfold r6;omega
  omega
abbrev x8(b:Nat)(a:m cN):y:=.n (.R (.x b 2 (c a) (bu.fn a)))
abbrev nk(a:m cN):ar:=.x 51 2 (c a) (bu.fn a)
def XY(o)(aj)(F:c o<=4000000):Y q 116 [bu.B o,x6 aj] [] (x8 0 (lv o aj)) [nk (lv o aj)]:=by
 refine Y.I func116 rfl λE=>?_;refine aR a B (g.bG 5 51 2 a a ?_);let Q:Nat->m cN×Bool:=λe=>mQ aj (o.take e);have s:∀e,e<=c o->(Q e).1.length<=8000000:=by intro e k;have:=Mg aj (o.take e) ([],v);simp at this;show(mQ aj (o.take e)).1.length<=_;unfold mQ;omega
 refine g.b' (λe=>e<=c o) (λe:Nat=>[(0,bu.B o),(3,aI 0 0),(7,R e),(5,x8 1 (Q e).1),(6,bg (Q e).2)]) (λe=>[.cells 51 [.c (.S aj.1),.c (.S aj.2)],nk (Q e).1]) (λe=>c o-e) 0 a ?_ a ?_ w ?_
 .simp[bs,Q,mQ]
 .simp[bs,Q,mQ]
 intro e k;by_cases t:e<c o
 .have z:Q (e+1)=r6 aj (Q e) (cu o e,lB o e):=abu t;have y:=s e k;generalize Q e=b at *;have A:=Mf aj b (cu o e);apply g.cj [(0,bu.B o),(3,aI 0 0),(7,R e),(5,x8 1 (mP aj b (cu o e)).1),(6,bg (mP aj b (cu o e)).2)] [.cells 51 [.c (.S aj.1),.c (.S aj.2)],nk (mP aj b (cu o e)).1]
  .intro bY;cases r:b.2 with
   |true=>
    have j:mP aj b (cu o e)=b:=Ao;rw[j]at bY;refine bO [12,15,909] a gM (bY _ _ a ?_);exact bv
   |false=>
    cases x:aQ (cu o e) aj.1 with
    |true=>
     have j:mP aj b (cu o e)=b:=Ao;rw[j]at bY;refine bO [12,-15,-25,909] a ?_ (bY _ _ a ?_)
     .simp[-al,t,kx,x]
     exact bv
    |false=>
     have j:mP aj b (cu o e)=(b.1++[aj],l):=Ao;rw[j]at bY;refine bO [12,-15,25,909] a ?_ (g.bb _ a ?_ (bY _ _ a ?_))
     .simp[-al,t,kx,x,show rR.bytes=32 from a];omega
     .exact Ri
     exact Ri
  have u:Q (e+1)=zl aj (mP aj b (cu o e)) (cu o e,lB o e):=z;generalize mP aj b (cu o e)=h at *;by_cases p:cu o e=aj.1
  .have i:Q (e+1)=h:=by rw[u];exact bl p
   refine bO [-38] a ?_ (g.b6 (e+1) a ?_ a ?_ ?_ ?_)
   .simp[-al,t,kx,p,a8];omega
   .simp_all
   .simp_all
   .omega
   omega
  have i:Q (e+1)=(h.1++[(cu o e,lB o e)],h.2):=by rw[u];exact bj p
  refine bO [38] a ?_ (g.b6 (e+1) a ?_ a ?_ ?_ ?_)
  .simp[-al,t,kx,p,a8,show rR.bytes=32 from a];omega
  .exact QB
  .exact QB
  .omega
  omega
 have:e=c o:=w;subst this;have C:Q (c o)=mQ aj o:=N;have y:=s (c o) (bC _);refine a4 [-12] a D (g.bs a a ?_);have d:lv o aj=if(Q (c o)).2=l then(Q (c o)).1 else(Q (c o)).1++[aj]:=hK;cases r:(Q (c o)).2 with
 |true=>
  rw[r,bl a]at d;refine a4 [46] a D (g.bb [.cells 51 [.c (.S aj.1),.c (.S aj.2)],nk (lv o aj)] a du (g.aJ [1] a du ?_));grind
 |false=>
  rw[r,bj D]at d;refine a4 [-46] a ?_ (g.bb [.cells 51 [.c (.S aj.1),.c (.S aj.2)],nk (lv o aj)] a ?_ (g.aJ [1] a ?_ ?_))
  .simp[show rR.bytes=32 from a];omega
  .exact P2
  .exact P2
  grind
end
end R1
def bs.app0{b a:Nat->m M}:bs j (cj 0 b a) a:=λd _=>by simp[cj]
namespace R1
variable {q:af S}
def Bs:bI:=λargs g=>match args,g with
 |[h,.n (.agg [.c (.S a),.c (.S b)])],[]=>match jA 2 h with
  |none=>n
  |some (d,e)=>f (x8 0 (lv (bu.ad d e) (a,b)) ,[ nk (lv (bu.ad d e) (a,b))],[bu.bH d e,c ((bu.ad d e))<=4000000])
 |_,_=>n
def adc:bL q 116 Bs:=by
 intro args j g h e a b;unfold Bs at a;split at a
 .split at a
  .cases a
  rename_i k m i;cases a;exact(XY _ _ (b.2)).args (λ_ z=>b5.imp (λ_=>bu.cv i b.1) (b5.imp (λ_ d=>d) (λ_ d=>d)) z)
 cases a
def Iz:m (Nat×bI):=(116,Bs)::Iy
def sV:a' q Iz:=a'.cons adc (TN)
def jE(a:m cN)(b d:bA):m cN×Bool:=
 if dO a=l/\f_ b=l/\fU d=l then(if dO (lv a (b,d))=l then(lv a (b,d),l)else(a,v))else([],v)
abbrev aem(d:Nat)(a:m cN)(b:Bool):y:=.T [.R (.x d 2 (c a) (bu.fn a)),.R (.c (.bool b))]
def NP{o}(a:dO o=l):c o<=6:=by simp only[dO,cm,bw]at a;omega
def JT(o)(b d):Y q 73 [bu.B o,b2 b,b2 d] [] (aem 0 (jE o b d).1 (jE o b d).2) [nk (jE o b d).1]:=by
 refine Y.I func73 rfl λr=>?_;have e:¬(dO o=l/\f_ b=l/\fU d=l)->jE o b d=([],v):=λp=>bj p;cases h:dO o with
 |false=>
  rw[e N];refine a_ sV [-10] a ?_ ?_
  .simp[bu.l,bu.U,h]
  exact FO
 |true=>
  have s:=NP h;cases i:f_ b with
  |false=>
   rw[e N];refine a_ sV [10,-14] a ?_ ?_
   .simp[bu.l,bu.U,h,i]
   exact FO
  |true=>
   cases m:fU d with
   |false=>
    rw[e N];refine a_ sV [10,14,-19] a ?_ ?_
    .simp[bu.l,bu.U,h,i,m]
    exact FO
   |true=>
    have j:jE o b d=if dO (lv o (b,d))=l then(lv o (b,d),l)else(o,v):=bl ⟨h,i,m⟩;cases k:dO (lv o (b,d))with
    |true=>
     rw[k,bl a]at j;rw[j];refine a_ sV [10,14,19,29] a ?_ (g.bb [nk (lv o (b,d))] a ?_ (g.aJ [0] a ?_ ?_))
     .simp[bu.l,bu.U,h,i,m,k];omega
     .simp[bu.l]
     .simp[bu.l]
     grind
    |false=>
     rw[k,bj D]at j;rw[j];refine a_ sV [10,14,19,-29] a ?_ (g.bb [nk (lv o (b,d)),nk o] a ?_ (g.aJ [1] a ?_ ?_))
     .simp[bu.l,bu.U,h,i,m,k,show rR.bytes=32 from a];omega
     .simp[bu.l,bs.app0]
     .simp[bs.app0]
     grind
def YP(o)(b d):Y q 73 [bu.B o,b2 b,b2 d] [] (mZ (jE o b d).1 (jE o b d).2) []:=
 (JT o b d).b2 a D a
def BH:bI:=λargs g=>match args,g with
 |[h,.n (.R (.c (.S d))),.n (.R (.c (.S e)))],[]=>match jA 2 h with
  |none=>n
  |some (a,b)=>f (mZ (jE (bu.ad a b) d e).1 (jE (bu.ad a b) d e).2,[],[bu.bH a b])
 |_,_=>n
def adp:bL q 73 BH:=by
 intro args j g h e a d;unfold BH at a;split at a
 .split at a
  .cases a
  rename_i k m i;cases a;exact(YP _ _ _ ).args (λ_ z=>b5.imp (λ_=>bu.cv i d) (b5.imp (λ_ b=>b) (b5.imp (λ_ b=>b) (λ_ b=>b))) z)
 cases a
def IA:m (Nat×bI):=(73,BH)::Iz
def TO:a' q IA:=a'.cons adp (sV)
end R1
def oN(a:m M)(d:Nat):Nat×(Nat->m M):=match da d a with|some (.B _ _ e b)=>(e,b)|_=>(0,λ_=>[])
def az:c6 Int:={bm:=1,a8:=λb=>[.int .i64 b],b_:=λa=>nE a 0,E:=0,inv:=λ_=>rfl,len:=λ_=>rfl}
def bS:c6 bA:={bm:=1,a8:=λb=>[.S b],b_:=λa=>tR a 0,E:=[],inv:=λ_=>rfl,len:=λ_=>rfl}
namespace R1
def bH:c6 c1:={bm:=2,a8:=λb=>[.int .i64 b.1,.S b.2],b_:=λa=>(nE a 0,tR a 1),E:=(0,[]),inv:=λ_=>rfl,len:=λ_=>rfl}
def fi:c6 fr:={bm:=2,a8:=λb=>[.int .i64 b.1,.int .i64 b.2],b_:=λa=>(nE a 0,nE a 1),E:=(0,0),inv:=λ_=>rfl,len:=λ_=>rfl}
abbrev lw(a:cb):M:=.B v 2 (c a.2) (bH.fn a.2)
def a2:c6 cb:={bm:=2,a8:=λb=>[.int .i64 b.1,lw b],b_:=λa=>(nE a 0,bH.ad (oN a 1).1 (oN a 1).2),E:=(0,[]),inv:=λb=>by show(b.1,bH.ad (c b.2) (bH.fn b.2))=b;rw[bH.l],len:=λ_=>rfl}
def cw:c6 m_:={bm:=2,a8:=λd=>[.S d.1,.B v 1 (c d.2) (az.fn d.2)],b_:=λa=>(tR a 0,az.ad (oN a 1).1 (oN a 1).2),E:=([],[]),inv:=λb=>by show(b.1,az.ad (c b.2) (az.fn b.2))=b;rw[az.l],len:=λ_=>rfl}
def bh:c6 ej:={bm:=2,a8:=λd=>[.int .i64 d.1,.B v 2 (c d.2) (cw.fn d.2)],b_:=λa=>(nE a 0,cw.ad (oN a 1).1 (oN a 1).2),E:=(0,[]),inv:=λb=>by show(b.1,cw.ad (c b.2) (cw.fn b.2))=b;rw[cw.l],len:=λ_=>rfl}
def a3:c6 (Int×Int):=fi
abbrev fR(a:cb):y:=.n (.agg [.c (.int .i64 a.1),.c (lw a)])
abbrev x4(a:Option bA):y:=.n (.agg [.c (.S (a.getD [])),.c (.bool a.isSome)])
end R1
structure jg(α:Type) where
 a8:α->y
 ea:y->Option (α×m Prop)
 ok:∀{O x r},ea O=f (x,r)->U r->∀{k:m ar} {b:a6} {aa:X},bx k b aa O->bx k b aa (a8 x)
def c7:jg Int:=⟨R,λa=>match a with|.n (.R (.c (.int .i64 b)))=>f (b,[])|_=>n,λ{a d g} e _ _ _ _ h=>by grind⟩
def eL:jg bA:=⟨b2,λa=>match a with|.n (.R (.c (.S b)))=>f (b,[])|_=>n,λ{a d g} e _ _ _ _ h=>by grind⟩
def dD:jg Bool:=⟨bg,λa=>match a with|.n (.R (.c (.bool b)))=>f (b,[])|_=>n,λ{a d g} e _ _ _ _ h=>by grind⟩
def eS(b:c6 α):jg (m α):=⟨b.B,λh=>match jA b.bm h with|some (g,a)=>f (b.ad g a,[b.bH g a])|none=>n,λ{h j k} d e _ _ _ i=>by
 split at d
 .rename_i g a he;cases d;exact b.cv he e i
 .cases d⟩
def sy:jg (Int×bA):=⟨λd=>.n (.agg [.c (.int .i64 d.1),.c (.S d.2)]),λb=>match b with|.n (.agg [.c (.int .i64 a),.c (.S e)])=>f ((a,e),[])|_=>n,λ{b a h} g _ _ _ _ i=>by grind⟩
def sx:jg (Int×Int):=⟨λd=>.n (.agg [.c (.int .i64 d.1),.c (.int .i64 d.2)]),λb=>match b with|.n (.agg [.c (.int .i64 a),.c (.int .i64 e)])=>f ((a,e),[])|_=>n,λ{b a h} g _ _ _ _ i=>by grind⟩
def jJ(e:c6 α):jg (Int×m α):=⟨λj=>.n (.agg [.c (.int .i64 j.1),.c (.B v e.bm (c j.2) (e.fn j.2))]),λp=>match p with
 |.n (.agg [.c (.int .i64 o),.c q])=>match jA e.bm (.n (.R (.c q)))with|some (i,d)=>f ((o,e.ad i d),[e.bH i d])|none=>n
 |_=>n,λ{p o u} g h _ b _ t=>by
 split at g
 .split at g
  .rename_i i d he;cases g;obtain⟨z,r,a⟩:=t
   match z,a with
   |[],a=>exact a.elim
   |[_],a=>exact a.2.elim
   |_::_::_::_,a=>exact a.2.2.elim
   |[w,s],a=>exact⟨_,r,a.1,e.cv (k:=[]) (b:=b) (aa:=s) he h a.2.1,B⟩
  cases g
 .cases g⟩
def dc(d:jg α)(a:α->y)(pre:α->m Prop):bI:=λargs e=>match args,e with
 |[g],[]=>match d.ea g with
  |some (b,h)=>f (a b,[],gT h (pre b))
  |none=>n
 |_,_=>n
def ek{b:Type}(g:jg α)(h:jg b)(a:α->b->y)(pre:α->b->m Prop):bI:=λargs i=>match args,i with
 |[j,k],[]=>match g.ea j with
  |some (d,o)=>match h.ea k with
   |some (e,p)=>f (a d e,[],gT o (gT p (pre d e)))
   |none=>n
  |none=>n
 |_,_=>n
def kl{b d:Type}(i:jg α)(j:jg b)(k:jg d)(a:α->b->d->y)(pre:α->b->d->m Prop):bI:=λargs o=>match args,o with
 |[p,q,r],[]=>match i.ea p with
  |some (e,s)=>match j.ea q with
   |some (g,t)=>match k.ea r with
    |some (h,u)=>f (a e g h,[],gT s (gT t (gT u (pre e g h))))
    |none=>n
   |none=>n
  |none=>n
 |_,_=>n
section
variable {q:af P}{aj:aZ}{e u:Type}{Q:jg α}{bT:jg e}{M:jg u}
def bL.a9{b:α->y}{pre:α->m Prop}(k:∀e,U (pre e)->Y q aj [Q.a8 e] [] (b e) []):bL q aj (dc Q b pre):=by
 intro args o g j h a d;unfold dc at a;split at a
 .split at a
  .rename_i p e r i;cases a;rw[U.Y]at d;exact(k e d.2).args λs z=>b5.imp (λ_ g=>Q.ok i d.1 g) (λ_ g=>g) z
  cases a
 cases a
def bL.bl{d:α->e->y}{pre:α->e->m Prop}(o:∀h i,U (pre h i)->Y q aj [Q.a8 h,bT.a8 i] [] (d h i) []):bL q aj (ek Q bT d pre):=by
 intro args p g k j a b;unfold ek at a;split at a
 .split at a
  .rename_i t u h r s;split at a
   .rename_i i w cZ;cases a;rw[U.Y,U.Y]at b;exact(o h i b.2.2).args λx z=>b5.imp (λ_ g=>Q.ok s b.1 g) (b5.imp (λ_ g=>bT.ok cZ b.2.1 g) (λ_ g=>g)) z
   cases a
  cases a
 cases a
def bL.c7{j:α->e->u->y}{pre:α->e->u->m Prop}(t:∀k i s,U (pre k i s)->Y q aj [Q.a8 k,bT.a8 i,M.a8 s] [] (j k i s) []):bL q aj (kl Q bT M j pre):=by
 intro args w g p o a b;unfold kl at a;split at a
 .split at a
  .rename_i x A C k r h;split at a
   .rename_i i B cZ;split at a
    .rename_i s D d;cases a;rw[U.Y,U.Y,U.Y]at b;exact(t k i s b.2.2.2).args λE z=>b5.imp (λ_ g=>Q.ok h b.1 g) (b5.imp (λ_ g=>bT.ok cZ b.2.1 g) (b5.imp (λ_ g=>M.ok d b.2.2.1 g) (λ_ g=>g))) z
    cases a
   cases a
  cases a
 cases a
end
namespace R1
def dS(d:m y)(a:y):bI:=λargs b=>match b with|[]=>f (a,[],[args=d])|_=>n
def d9{b:af S}{aj}{d}{res}(j:Y b aj d [] res []):bL b aj (dS d res):=by
 intro args i k g e a h;unfold dS at a;split at a
 .cases a;simp_all
 cases a
def la(g:m y)(d:m ar)(a:y)(b:m ar):bI:=λargs e=>f (a,b,[args=g,e=d])
def mb{d:af S}{aj}{e}{a aX}{res}(k:Y d aj e a res aX):bL d aj (la e a res aX):=by intro args j m h g b i;cases b;simp_all
end R1
def lG(b:Mem):m X->m M->Prop
 |[],[]=>True
 |e::z,d::a=>Rd b e d/\lG b z a
 |_,_=>False
structure rh(α:Type) where
 a8:α->m M
 b_:m M->Option (α×m Prop×m M)
 ok:∀{ai x r a7},b_ ai=f (x,r,a7)->U r->∀{bB:Mem} {z:m X},lG bB z ai->∃v1 v2,z=v1++v2/\lG bB v1 (a8 x)/\lG bB v2 a7
def lG.app{bB}:∀{g h:m X}{a b:m M},lG bB g a->lG bB h b->lG bB (g++h) (a++b)
 |[],_,[],_,_,d=>d
 |_::_,_,_::_,_,e,i=>⟨e.1,e.2.app i⟩
 |[],_,_::_,_,d,_=>d.elim
 |_::_,_,[],_,d,_=>d.elim
def lG.R{s}{e}(d:lG bB z (s::e)):∃a b,z=a::b/\Rd bB a s/\lG bB b e:=by
 cases z with
 |nil=>exact d.elim
 |cons a z=>exact⟨a,z,rfl,d⟩
def vk(e:c6 α):rh (m α):=⟨λp=>[.B v e.bm (c p) (e.fn p)],λg=>match g with
 |t::q=>match jA e.bm (.n (.R (.c t)))with|some (o,d)=>f (e.ad o d,[e.bH o d],q)|none=>n
 |_=>n,λ{g x y q} h i r z j=>by
 split at h
 .split at h
  .rename_i o d he;cases h;obtain⟨aa,s,rfl,u,w⟩:=j.R;exact⟨[aa],s,a,⟨e.cv (k:=[]) (b:=⟨[],r,default,λ_=>True⟩) (aa:=aa) he i u,B⟩,w⟩
  cases h
 .cases h⟩
def yo{k:Type}(Q:rh α)(e:rh k):rh (α×k):=⟨λp=>Q.a8 p.1++e.a8 p.2,λb=>match Q.b_ b with
 |some (j,m,o)=>match e.b_ o with|some (q,y,A)=>f ((j,q),gT m y,A)|none=>n
 |none=>n,λ{b j m o} d a B z g=>by
 split at d
 .rename_i u;split at d
  .rename_i C;cases d;rw[U.Y]at a;obtain⟨h,D,rfl,t,s⟩:=Q.ok u a.1 g;obtain⟨w,i,rfl,x,r⟩:=e.ok C a.2 s;exact⟨h++w,i,(mq _ _ _).symm,t.app x,r⟩
  cases d
 .cases d⟩
def zW:m Q->Option (m M)
 |[]=>f []
 |.c d::b=>match zW b with|some a=>f (d::a)|none=>n
 |_=>n
def Eo:m M->m Q
 |[]=>[]
 |b::a=>.c b::Eo a
def NU{k}{b}:∀{e:m Q}{g:m M}{z:m X},zW e=f g->bP k b z e->lG b.D z g
 |[],g,z,a,d=>by cases a;cases z with|nil=>trivial|cons=>exact d.elim
 |.c o::h,g,z,a,d=>by
  simp only[zW]at a;split at a
  .rename_i i;cases a;cases z with
   |nil=>exact d.elim
   |cons j z=>exact⟨d.1,NU i d.2⟩
  cases a
 |.ptr ..::_,_,_,a,_=>by cases a
 |.x ..::_,_,_,a,_=>by cases a
 |.aP ..::_,_,_,a,_=>by cases a
 |.O ..::_,_,_,a,_=>by cases a
 |.any::_,_,_,a,_=>by cases a
def Mt{k}{b}:∀{d:m M}{z:m X},lG b.D z d->bP k b z (Eo d)
 |[],[],_=>trivial
 |_::_,_::_,a=>⟨a.1,Mt a.2⟩
 |[],_::_,a=>a.elim
 |_::_,[],a=>a.elim
def AO(d:rh α):jg α:=⟨λb=>.n (.agg (Eo (d.a8 b))),λj=>match j with
 |.n (.agg i)=>match zW i with
  |some e=>match d.b_ e with|some (b,k,[])=>f (b,k)|_=>n
  |none=>n
 |_=>n,λ{j b k} a g t u w s=>by
 split at a
 .split at a
  .rename_i C;split at a
   .rename_i p;cases a;obtain⟨z,rfl,r⟩:=s;obtain⟨h,q,rfl,o,m⟩:=d.ok p g (NU C r);cases q with
    |nil=>exact⟨h,by simp,Mt o⟩
    |cons=>exact m.elim
   cases a
  cases a
 .cases a⟩
end Go.AM
