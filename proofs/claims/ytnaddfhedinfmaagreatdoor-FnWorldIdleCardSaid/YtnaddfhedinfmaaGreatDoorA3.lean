/- Part 3. No condition. -/
import Derived.Test.YtnaddfhedinfmaaGreatDoorA2
import Derived.Laws.Externs
import Derived.Lib.Builder
import Derived.Conc.Beside
import Derived.Conc.CrowdRun
import Derived.Conc.WgGenN2
import Derived.Conc.WgGenN3
import Derived.Conc.LeavingOf
import Derived.Below
import Derived.ProofKit
import Derived.OpenShut
import Derived.OpenVars
import Derived.LaidMore
import Derived.Lay
import Derived.SevenTiedAt
set_option linter.all false
set_option maxHeartbeats 8000000
open Go.Proofs
open Go.Proofs.Tryz
open Go.Conc (G)
open List renaming length → c, range → aD, replicate → aY, getD_eq_getElem?_getD → al
open Go renaming Value → Z, TypeId → av, Event → aU, undef → K, World → au, Frame → aK, FuncId → a3, execOp → ac, Operand → aA, Program → aI, Goroutine → ak, stepG → aq, Oper → ap
open Option renaming some → h, none → q
open Bool renaming true → f, false → m
open Nat renaming beq → af, ble → ay
open Go.Region renaming wanted → aV
open Go.World renaming cell? → aN
open Go.Op renaming bytesLess → aW
open Go.Sem renaming events_bind → aH
open Go.Result renaming evThen_ok → aJ
open Go.Instr renaming sliceBounds → aX
open Go.Proofs.Tryz renaming prog → V
open Go.MemAct renaming ofEvent → aP
open Go.Conc renaming stepG_seq → aw, stepG_region_end → aF
namespace Go.AM
variable {k A:Nat}{i:Int}{d j e w:Nat}{W:av}{H:Z->(Nat->Option Obj)->Prop}{L:Array Bool}{bB:Mem}{D:Nat}{P:aI}{bq:ak->a5->Prop}{s:Code}{C:ak}{t:ap}{b:a5}{o:av}{aa:Z}{l X:aA}{α:Type}{η:aA->z}{ι:Type}{n:p an}{F:bH}{all:p ap}{dn:Array av}{cap:p N}{cR:p z}{k6:Nat->Option Obj}{ah:p aK}{bg:p (Nat×Bool)}{T:Nat->p N}{cP:aA}{gs:Array ak}{aO:p Nat}{cf:p Prop}{off:Nat}{op:BinOp}{aC:Array ap}{ab:p Prop}{br:p ap}{az:a5}{ty:av}{val:Nat->Nat->Z}{B:p Z}{bh:au}{ag:Array aA}{ao dd:p an}{res:ι->z}{aL:ι->p an}
variable {CT:p (Nat×bK)}{ar:p ig}{be:fq}{ad:p (Nat×bv)}{a4:bv}
section
variable {r:ai P}{bc:p (Nat×bv)}{ad:av}{I:Bool}{v1:Z}{bN:Option (Nat×Nat)}{ag:p UInt8}{i:Nat}
def IR{P}{j t}{o}{i}:∀(B:p Z)a(g:Array Z)d(b:Array aU),d.heap[j]?=h (.cells g o i)->i.2<=t+a->t+a+c B<=g.size->(∀e∈B,e.oneCell'=f) ->
  ∀l∈(storeCells ⟨j,t,q⟩ B a).events P d b,l∈b∨∃n,a<=n/\n<a+c B/\l=tN j (t+n)
 |[],_,_,_,_,_,_,_,_=>λl r=>.inl cQ
 |e::k,a,g,d,b,C,F,I,s=>λl r=>by
  have bp:t+a<g.size:=M;have u:d.cell? ⟨j,t+a,q⟩=h g[t+a]:=Nz;have A:d.frozen? ⟨j,t+a,q⟩=m:=by obtain⟨x,D⟩:=i;simp[World.frozen?,C,An,dt];grind
  have v:(store (⟨j,t+a,q⟩:Addr) e).run P d=.ok () (d.setRow j (g.setIfInBounds (t+a) e)):=Np;have w:(store (⟨j,t+a,q⟩:Addr) e).events P d b=b.push (tN j (t+a)):=by rw[events_store P d b _ e _ (s e E),u];exact hp
  simp[storeCells,aH,gM,v,w,aJ]at r;rcases IR k (a+1) (g.setIfInBounds (t+a) e) _ _ (setRow_heap _ _ _ _ _ _ C) y M (λz N=>s z M) l r with J|⟨n,O,K,rfl⟩
  .grind
  grind
def mW.at{L}{j C cap}{e:Nat->Option Obj}(t:mW P n b d ad W I v1 (h (C,cap)) ag i L j e):
  C≠j/\c ag<=cap/\0<cap/\cap<=9223372036854775807/\i<=c ag/\(∃g,c (fN ag++g)=cap/\e C=h (.cells (fN ag++g).toArray W (0,i)))/\(∀s,(e s).isSome=f↔s=j∨s=C)/\C∈L.al:=by
 obtain⟨v,w,_,_,k,l,o,p,r,a,u⟩:=t.f_;have:v=j:=by rw[t.v]at w;grind
 subst this;obtain⟨g,a,x⟩:=a;exact⟨k,l,o,p,r,⟨g,a,x⟩,u,(t.al C).2 M⟩
def ab7{L}(a:b.m[d]?=h L):b.m.set d L=b.m:=mV
def mW.b_{L}{j C cap}{g:Nat->Option Obj}(t:bb n b)(u:n[d]?=h (.J (eD ad W I v1 (h (C,cap)) ag i)))(e:mW P n b d ad W I v1 (h (C,cap)) ag i L j g){oI}{pa}{t1}{bh}(A:c (fN oI++t1)=cap)(N:c oI<=cap)(E:pa<=c oI)(R:bh.heap.size=b.a.heap.size)(o:∀a,a≠C->bh.heap[a]?=b.a.heap[a]?)(U:bh.heap[C]?=h (.cells (fN oI++t1).toArray W (0,pa)))(v:bh.os=b.a.os)(K:bh.tape=b.a.tape)(B:bh.output=b.a.output):
  bb (n.set d (.J (eD ad W I v1 (h (C,cap)) oI pa))) {b with a:=bh}/\cN n b (n.set d (.J (eD ad W I v1 (h (C,cap)) oI pa))) {b with a:=bh}:=by
 obtain⟨k,w,r,s,x,⟨T,z,S⟩,bz,Q⟩:=e.at;obtain⟨J,F⟩:=t.b_ (d:=d) (j2:=eD ad W I v1 (h (C,cap)) oI pa) (cm:=L) (bh:=bh) u e.m rfl y
  (λa l D=>o a M) (λa l=>.inl l)
  ⟨λa=>if a=C then h (.cells (fN oI++t1).toArray W (0,pa))else g a,⟨j,e.v,e.cell,(show(if j=C then _ else g j)=_ from(bm λp=>k p.symm).trans e.cE),k,N,r,s,E,⟨t1,A,by simp⟩,λa=>by
   grind⟩,λa O l=>by
   by_cases p:a=C
   .grind
   .simp only[p,dh]at l;rw[o a p];exact e.heap _ _ l,λa=>by
   rw[e.al a]
   grind⟩ v K B
 rw[ab7 e.m]at J F;grind
def a0.ih{x}(u:t.op=.call {callee:=.builtin .append,args:=#[l,X],argTypes:=#[o,x]}){a4}(ab:P.underlying o=h (.slice W))(N:P.underlying x=h .string)(aa:P.info? W=h a4)(Z:a4.size=1){C cap}(s:n[d]?=h (.J (eD ad W I v1 (h (C,cap)) ag i)))(S:η l=cM (jD (h (C,cap)) k))(R:c ag=k){b}(T:η X=ax (.V b))(aN:k+c b<=cap):
  a0 P t η n (cM (jD (h (C,cap)) (k+c b))) (n.set d (.J (eD ad W I v1 (h (C,cap)) (ag++b) i))):=by
 intro j Y r v;subst R;obtain⟨L,aP,aB,w⟩:=eD.row (P:=P) r s;obtain⟨ar,au,av,aw,B,⟨g,az,D⟩,aA,aj⟩:=w.at;have z:=v l;rw[S]at z;have z:=Rd.bj z;have O:=v X;rw[T]at O;have O:=b6 O;generalize H:Y X=aJ at O;cases O with
 |@V e _ ae aK=>
 have ak:e.size=c b:=by rw[<-ae,m5];rfl
 have A:=w.heap _ _ D;have aL:(fN ag++g).toArray.size=cap:=M;have ai:=Lib.run_append_room_stringF (P:=P) j.a o x t.type W a4 ab N aa Z C (c ag) cap _ _ A B e y M;have G:((fN ag++g).toArray.toList.take (c ag)++Lib.strCells e++(fN ag++g).toArray.toList.drop (c ag+e.size))=fN (ag++b)++g.drop (c b):=by
  have F:(fN ag++g).take (c ag)=fN ag:=EL;have J:(fN ag++g).drop (c ag+e.size)=g.drop (c b):=by rw[List.drop_append,MP,List.drop_eq_nil_of_le M,ak];simp
  have K:Lib.strCells e=fN b:=by simp[Lib.strCells,fN,ae]
  rw[List.toList_toArray,F,J,K,aen]
 rw[G,ak]at ai;have ah:c g=cap-c ag:=EL;have aH:c (fN (ag++b)++g.drop (c b))=cap:=EL;have aI:(j.a.setRow C (fN (ag++b)++g.drop (c b)).toArray).heap[C]?=h (.cells (fN (ag++b)++g.drop (c b)).toArray W (0,i)):=setRow_heap j.a C _ _ W _ A;obtain⟨V,an⟩:=w.b_ (pa:=i) (bh:=j.a.setRow C (fN (ag++b)++g.drop (c b)).toArray) r s aH M M (setRow_size _ _ _) (λE aq=>setRow_other j.a C E _ aq) aI rfl rfl rfl;refine⟨.value (.slice (h ⟨C,0,q⟩) (c ag+c b) cap),_,?_,Rd.val a,V,an,?_⟩
 .rw[la u,z,H];simp[cI,d6];have aO:(Builtin.append_ #[o,x] t.type #[jD (h (C,cap)) (c ag),.string e]).run P j.a=_:=ai;exact hp
 rw[la u,z,H];refine jh λaC p=>?_;have Q:=Lib.run_firstCells_string (P:=P) j.a 1 e;have ao:=run_storeCells_atF P C (c ag) W (0,i) (Lib.strCells e) 0 _ j.a A M M (Lib.strCells_oneCell e);have aE:c ag+e.size<=cap:=y;have aM:(Builtin.firstCells 1 e.size (.string e)).events P j.a #[]=#[]:=rfl;simp[jD,Builtin.append_,run_underlying ab,run_underlying N,sizeOf,typeInfo,aa,Z,Builtin.lenOf,aE,Q,aM,gM,ao]at p;rcases IR (Lib.strCells e) 0 _ j.a _ A M M (Lib.strCells_oneCell e) aC p with aQ|⟨aR,aF,aG,rfl⟩
 .grind
 exact ob (b8 w.m) aj (w.u _ aj _)
def a0.im{A}(g:t.op=.call {callee:=.builtin .append,args:=#[l,X],argTypes:=#[o,A]}){a4}(v:P.underlying o=h (.slice W))(s:P.underlying A=h .string)(r:P.info? W=h a4)(B:η l=cM (jD q 0))(z:η X=ax (.V [])):a0 P t η n (cM (jD q 0)) n:=by
 refine .aZ λw p x i=>?_;have e:=i l;rw[B]at e;have e:=Rd.bj e;have d:=i X;rw[z]at d;have d:=b6 d;generalize u:p X=C at d;cases d with
 |@V b _ E D=>
 have j:b.size=0:=by have:c b.data.toList=0:=M;rw[m5]at this;exact this
 have k:=Lib.run_firstCells_string (P:=P) w.a a4.size b;rw[j]at k;have y:(Builtin.firstCells a4.size 0 (.string b)).events P w.a #[]=#[]:=rfl;refine⟨.slice q 0 0,?_,Rd.val a,?_⟩
 .rw[la g,e,u];simp[jD,Builtin.append_,run_underlying v,run_underlying s,sizeOf,typeInfo,r,Builtin.lenOf,j,k]
 rw[la g,e,u];simp[jD,Builtin.append_,run_underlying v,run_underlying s,sizeOf,typeInfo,r,Builtin.lenOf,j,k,y]
def R2{u}{fn}{ab}(ai:P.underlying o=h (.slice W))(B:P.funcs[u]?=h fn)(O:(fn.name== "runtime.NumGoroutine")=m)(aj:fn.body.isNone=f)(R:Extern.findNext fn=q)(G:Extern.find fn=h (Extern.BytealgMakeNoZero.makeNoZero ab #[o]))(D:t.op=.call {callee:=.value cP,args:=#[l],argTypes:=dn})(aA:η cP=.q (.aq (.c (.fn (.func u) [] []))))(X:η l=.q (.aq (.c (.int .i64 k))))(aK:0<k)(T:k<=140737488355328)(C:n[d]?=h (.J (eD ad W I v1 q ag i))):
  ∀b g,bb n b->(∀ar,bx n b (g ar) (η ar))->∃(F:{aN:Nat×Nat // k<=aN.2}) (v:a5) (J:Z),(ac g t).run P b.a=.ok (.value J) v.a/\bx (n.set d (.J (eD ad W I v1 (h F.1) [] 0))) v J (cM (jD (h F.1) k)) /\
   bb (n.set d (.J (eD ad W I v1 (h F.1) [] 0))) v/\cN n b (n.set d (.J (eD ad W I v1 (h F.1) [] 0))) v/\ds b ((ac g t).events P b.a #[]):=by
 intro b g aM E;obtain⟨L,ak,aG,p⟩:=eD.row (P:=P) aM C;have z:g cP=.func (.func u) #[] #[]:=by
  have j:=E cP;rw[aA]at j;have j:=b6 j;generalize g cP=J at j;cases j with
  |fn aJ e aR ak aH aI aE aF d1 d2=>
   grind
 have ah:g l=.int .i64 k:=by have j:=E l;rw[X]at j;have j:=b6 j;generalize g l=J at j;cases j;rfl
 obtain⟨e,j,K,Q⟩:=Lib.run_makeNoZero (P:=P) b.a ab o W ai k y;have Q:=Q (by simp[maxLen];omega);have av:(callFunc u #[.int .i64 k]).run P b.a=.ok (.value (.slice (h ⟨b.a.heap.size,0,q⟩) k e.size)) (b.a.drew.drew.alloc (.cells e W)):=by rw[run_callFunc_extern B O aj R G,j];rfl
 let bh:au:=b.a.drew.drew.alloc (.cells e W);have V:bh.heap[b.a.heap.size]?=h (.cells e W (0,0)):=lT b.a.drew.drew _;have aq:bh.heap.size=b.a.heap.size+1:=by show(b.a.drew.drew.heap.push _).size=_;simp
 obtain⟨A,aa,aO,aP,aQ⟩:=p.f_;have aB:A=ak:=by rw[p.v]at aa;grind
 subst aB;have N:=aM.lt L (b8 p.m) A p.mem;have aw:b.a.heap.size≠A:=y;obtain⟨ae,t2⟩:=aM.b_ (d:=d) (j2:=eD ad W I v1 (h (b.a.heap.size,e.size)) [] 0) (cm:=⟨L.v,[A,b.a.heap.size]⟩) (bh:=bh) C p.m rfl y
  (λr x R=>iM b.a.drew.drew _ x) (λr x=>by
   simp at x;rcases x with rfl|rfl
   .exact .inl p.mem
   grind)
  ⟨λr=>if r=A then h (.cells #[if I then L.v else .pointer q,v1] ad (0,0))else if r=b.a.heap.size then h (.cells e W (0,0))else q,⟨A,p.v,p.cell,by simp,aw,by simp,by omega,by simp[maxLen]at Q;omega,by simp,⟨e.toList,by simp[fN],by exact hp⟩,λr=>by
   grind⟩,λr aL x=>by
   by_cases w:r=A
   .subst w;simp[dH]at x;have:bh.heap[r]?=b.a.heap[r]?:=iM b.a.drew.drew _ N;rw[this,<-x];exact p.heap _ _ p.cE
   grind,λr=>by grind⟩ rfl rfl rfl
 refine⟨⟨(b.a.heap.size,e.size),K⟩,_,_,?_,Rd.val rfl,ae,t2,?_⟩
 .simp[ac,D,resolve,Deferred.ofValue,invoke,z,ah,av,bh,jD]
 intro a az;simp[ac,D,resolve,Deferred.ofValue,invoke,z,ah]at az;have H:a∈(callFunc u #[.int .i64 k]).events P b.a #[]:=M;have ax:fn.name≠ "runtime.NumGoroutine":=M;have aC:fn.body=q:=by simpa using aj
 have key:∀s:Array aU,∀w∈(Extern.BytealgMakeNoZero.makeNoZero ab #[o] #[.int .i64 k]).events P b.a s,w∈s∨∃Y,w=⟨.mark Y,m,f⟩/\Go.Conc.Neutral Y:=by
  intro s w G;change w∈Sem.events P (underlying _ >>= _) _ _ at G;have j:¬(k:Int)<0:=y;have K:¬(281474976710656:Int)<(k:Int):=y;have ao:w∈(askRoom (grownCap b.a k 0 W)).events P b.a.drew s:=by simpa[run_underlying ai,j,K,Question.forced,newRow,grownCap]using G
  grind[Go.Conc.events_askRoom]
 have:a∈(Extern.BytealgMakeNoZero.makeNoZero ab #[o] #[.int .i64 k]).events P b.a ((#[]:Array aU).push ⟨.mark (.extern u),m,f⟩):=by have w:callFunc u #[.int .i64 k]=callFunc u #[.int .i64 k]:=rfl;simpa[callFunc,B,ax,aC,R,G,j]using H
 rcases key _ _ this with an|⟨Y,rfl,S⟩
 .simp at an;subst an;exact .inr ⟨u,rfl⟩
 exact .inl S
def R3{N ar}(cv:t.op=.call {callee:=.builtin .unsafeString,args:=#[l,X],argTypes:=#[N,ar]})(K:P.underlying N=h (.pointer W))(H:P.cellsOf W=1){C cap}(v:n[d]?=h (.J (eD ad W I v1 (h (C,cap)) ag i)))(ab:η l=cM (.pointer (h ⟨C,0,q⟩)))(ah:η X=ax (.int .i64 (c ag))):
  a0 P t η n (ax (.V ag)) (n.set d (.J (eD ad W I v1 (h (C,cap)) ag (c ag)))):=by
 intro b o u Q;obtain⟨L,aV,aT,R⟩:=eD.row (P:=P) u v;obtain⟨aL,s,aO,aP,aQ,⟨S,B,Z⟩,aR,aF⟩:=R.at;have O:=Q l;rw[ab]at O;have O:=Rd.bj O;have aj:o X=.int .i64 (c ag):=by have z:=Q X;rw[ah]at z;have z:=b6 z;generalize o X=aW at z;cases z;rfl
 have Y:=R.heap _ _ Z;have ak:ac o t=(do pure (.value (<-Builtin.unsafeString_ #[N,ar] t.type #[o l,o X]))):=Q8;have aa:(fN ag++S).toArray.size=cap:=M;by_cases D:ag=[]
 .subst D;have az:=Lib.run_unsafeString_none (P:=P) b.a N ar t.type (h ⟨C,0,q⟩);obtain⟨w,V⟩:=R.b_ (oI:=[]) (pa:=0) (t1:=S) (bh:=b.a) u v B s E rfl (λ_ _=>rfl) M rfl rfl rfl;refine⟨.value (.string .empty),_,hp,Rd.V a E,w,V,?_⟩;rw[ak,O,aj];exact OT
 .have e:∀j l,ag[j]?=h l->b.a.cell? ((⟨C,0,q⟩:Addr).add j)=h (.int .u8 l.toNat):=by
   intro j l T;rw[gM];simp[aN,Y,cV];have av:=(cO.1 T).1;have:(fN ag)[j]?=h (.int .u8 l.toNat):=by simp[fN,T]
   grind
  have an:b.a.shape? C=h (W,cap):=by simp[World.shape?,Y];grind
  have az:=Lib.run_unsafeString_row (P:=P) b.a N ar t.type W K H C cap an ag D s y e;have ae:c ag≠0:=M;have F:(b.a.freeze ⟨C,0,q⟩ (c ag)).heap[C]?=h (.cells (fN ag++S).toArray W (0,c ag)):=by simp[World.freeze,ae,dh,Aw,dH,Y,lC];grind
  obtain⟨w,V⟩:=R.b_ (oI:=ag) (pa:=c ag) (t1:=S) (bh:=b.a.freeze ⟨C,0,q⟩ (c ag)) u v B s (bC _) zV (λaS au=>by
   simp only[World.freeze,ae,dh,Aw]
   grind) F zV zV zV
  refine⟨.value (.string ⟨ag.toArray⟩),_,?_,Rd.V E y,w,V,?_⟩
  .rw[ak,O,aj];simp only[cI,d6,az];rfl
  rw[ak,O,aj];refine jh λr x=>?_;have aB:¬(c ag:Int)<0:=y;have aG:¬(9223372036854775807:Int)<(c ag:Int):=y;have aw:=Lib.liesAt_bytes (P:=P) H (cap / P.cellsOf W) (c ag) M;have aA:IntKind.i64.max=9223372036854775807:=rfl;have J:=Lib.run_loadBytes (P:=P) b.a ag ⟨C,0,q⟩ .empty e;have aE:∀(G:p UInt8) (A:Nat) (k:ByteArray) (g:Array aU),(∀j l,G[j]?=h l->b.a.cell? ⟨C,A+j,q⟩=h (.int .u8 l.toNat))->∀r∈(loadBytes ⟨C,A,q⟩ k (c G)).events P b.a g,r∈g∨∃j,r=ps C j:=by
   intro G;induction G with
   |nil=>intro A k g _ r x;exact .inl (by simpa[loadBytes]using x)
   |cons X G ai=>
    intro A k g H r x;have ao:=H 0 X a;simp only[j9]at ao;have aM:(load ⟨C,A,q⟩).run P b.a=.ok (.int .u8 X.toNat) b.a:=by grind[run_load]
    simp only[fj,loadBytes,aH,aM,aJ,Cd ao,gM]at x;rcases ai (A+1) _ _ (λj l T=>by have:=H (j+1) l M;grind) r x with aq|aq
    .grind
    grind
  have aI:(variablesAt ⟨C,0,q⟩ W (c ag)).run P b.a=.ok f b.a:=by simp[variablesAt,an,aw]
  have aC:∀g,(variablesAt ⟨C,0,q⟩ W (c ag)).events P b.a g=g:=λg=>by simp[variablesAt,an,aw]
  have aK:r∈(loadBytes ⟨C,0,q⟩ .empty (c ag)).events P b.a #[]:=by change r∈Sem.events P (asInt (.int .i64 (c ag:Int)) >>= _) _ _ at x;simpa[asInt,asIntOf,aA,aB,aG,ae,elemOf,run_underlying K,aI,aC,J]using x
  rcases aE ag 0 .empty #[] (λj l T=>by grind[gM]) r aK with aq|⟨j,rfl⟩
  .grind
  exact qh (b8 R.m) aF
end
section
variable {r:ai P}{R:p (Nat×bv)}{ad:av}{C:Bool}{v1:Z}{bN:Option (Nat×Nat)}{ag:p UInt8}{e:Nat}
def a0.exact{j}{i}(k:η l=cM aa)(o:∀(a:aA->Z) g,a l=aa->(ac a t).run P g=.ok (.value j) g/\(ac a t).events P g #[]=#[])(u:∀n e,bx n e j i):a0 P t η n i n:=by refine .aZ λe a s d=>?_;have b:=d l;rw[k]at b;have b:=Rd.bj b;obtain⟨p,r⟩:=o a e.a b;grind
def a0.fG(g:t.op=.call {callee:=.builtin .len,args:=#[l],argTypes:=dn})(e:dn[0]?=h o)(d:P.underlying o=h (.slice W)){a}{s}(j:η l=cM (.slice a k s))(i:k<=9223372036854775807):a0 P t η n (ax (.int .i64 k)) n:=
  .exact j (λp r b=>by constructor<;>simp[ac,g,resolve,invoke,builtin,Builtin.len_,b,run_underlying d,goInt,e]) (λ_ _=>Rd.int nJ)
def a0.gY(g:t.op=.call {callee:=.builtin .cap,args:=#[l],argTypes:=dn})(e:dn[0]?=h o)(d:P.underlying o=h (.slice W)){a}{s}(j:η l=cM (.slice a k s))(i:s<=9223372036854775807):a0 P t η n (ax (.int .i64 s)) n:=
  .exact j (λp r b=>by constructor<;>simp[ac,g,resolve,invoke,builtin,Builtin.cap_,b,run_underlying d,goInt,e]) (λ_ _=>Rd.int nJ)
def a0.h3(g:t.op=.call {callee:=.builtin .unsafeSliceData,args:=#[l],argTypes:=dn}){s}(d:η l=cM (.slice q k s)):a0 P t η n (cM (.pointer q)) n:=
  .exact d (λi j b=>by
    have e:Builtin.unsafeSliceData_ dn t.type #[.slice q k s]=pure (.pointer q):=rfl
    constructor<;>simp[ac,g,resolve,invoke,builtin,b,e]) (λ_ _=>Rd.val a)
def a0.h4(j:t.op=.call {callee:=.builtin .unsafeSliceData,args:=#[l],argTypes:=dn}){b}{s}(i:η l=cM (.slice (h b) k s))(e:s≠0):a0 P t η n (cM (.pointer (h b))) n:=
  .exact i (λp r d=>by
    obtain⟨o,rfl⟩:=Nat.exists_eq_succ_of_ne_zero e;have g:Builtin.unsafeSliceData_ dn t.type #[.slice (h b) k (o+1)]=pure (.pointer (h b)):=rfl
    constructor<;>simp[ac,j,resolve,invoke,builtin,d,g]) (λ_ _=>Rd.val a)
def a0.ja(C:t.op=.slice o l q (h X) q)(D:P.underlying o=h (.slice W)){a4}(r:P.info? W=h a4){g}{p i:Nat}(M:η l=cM (.slice (h g) k p))(K:η X=ax (.int .i64 i))(z:i<=k)(u:k<=p)(E:p≠0)(J:g.add 0=g):a0 P t η n (cM (.slice (h g) i p)) n:=by
  refine .aZ λF y e w=>?_;have j:=w l;rw[M]at j;have j:=Rd.bj j;have B:y X=.int .i64 i:=by have b:=w X;rw[K]at b;have b:=b6 b;generalize y X=N at b;cases b;rfl
  have s:((q:Option Z)=q/\(q:Option Int)=q)∨∃i x,(q:Option Z)=h (.int i x)/\(q:Option Int)=h x:=.inl ⟨rfl,rfl⟩;have e:(h (Value.int .i64 i)=q/\(h (i:Int))=q)∨∃A x,h (Value.int .i64 i)=h (.int A x)/\(h (i:Int))=h x:=.inr ⟨_,_,rfl,rfl⟩;have v:U (jc k q (h (i:Int))):=by simp[jc,z]
  obtain⟨d,_,_⟩:=vM (P:=P) (kj:=f) u s e v F.a;have I:=uX (P:=P) (kj:=f) u s e v F.a;simp only[bS,c1]at d;refine⟨.slice (h g) i p,?_,Rd.val a,?_⟩
  · simp[ac,C,j,B,Instr.sliceAt,run_underlying D,Instr.slice,d,sizeOf,typeInfo,r,E,J]
  · simp[ac,C,j,B,Instr.sliceAt,run_underlying D,Instr.slice,d,I,sizeOf,typeInfo,r,E]
def a0.iF{i}(j:t.op=.call {callee:=.builtin .copy,args:=#[l,X],argTypes:=#[o,i]})(r:P.underlying o=h (.slice W)){a4}(e:P.info? W=h a4){g}{s}(u:η l=cM (.slice (h g) 0 s))(p:η X=cM (.slice q 0 0)):a0 P t η n (ax (.int .i64 0)) n:=by
  refine .aZ λw v k a=>?_;have d:=a l;rw[u]at d;have d:=Rd.bj d;have b:=a X;rw[p]at b;have b:=Rd.bj b;refine⟨.int .i64 0,?_,Rd.int lu,?_⟩<;>
  simp[ac,j,resolve,invoke,builtin,Builtin.copy_,d,b,run_underlying r,sizeOf,typeInfo,e,Builtin.lenOf,Builtin.firstCells,storeCells,goInt]
def a0.jU{w j}(cv:t.op=.call {callee:=.builtin .unsafeString,args:=#[l,X],argTypes:=#[w,j]})(u:η l=cM (.pointer q))(s:η X=ax (.int .i64 ((0:Nat):Int))):a0 P t η n (ax (.V [])) n:=by
  refine .du λb e r i=>?_;have g:=i l;rw[u]at g;have g:=Rd.bj g;have k:e X=.int .i64 0:=by have d:=i X;rw[s]at d;have d:=b6 d;generalize e X=v at d;cases d;rfl
  have o:ac e t=(do pure (.value (<-Builtin.unsafeString_ #[w,j] t.type #[e l,e X]))):=Q8;have p:=Lib.run_unsafeString_none (P:=P) b.a w j t.type q;refine⟨.string .empty,?_,Rd.V a E,?_⟩
  · rw[o,g,k]
    simp only[cI,d6,p];rfl
  · rw[o,g,k]
    exact OT
def a0.iv(A:n[d]?=h (.J (eD ad W C v1 bN ag e))){i dst}(u:t.op=.convert i dst l)(z:P.underlying i=h (.pointer ad))(x:P.underlying dst=h .unsafePointer){w}(a:P.info? ad=h w)(v:w.size≠0)(B:η l=aG d 0):a0 P t η n (aG d 0) n:=by
  refine .aZ λo p j k=>?_;obtain⟨L,b,k6,a'⟩:=eD.row (P:=P) j A;have g:=k l;rw[B]at g;have y:=a'.ptr g;have s:o.a.shape? b=h (ad,2):=Nm;have r:=Lib.run_to_unsafe (P:=P) o.a ⟨b,0,q⟩ z x a v s E;refine⟨p l,by simp[ac,u,y,r],g,?_⟩;have:(convert i dst (.pointer (h ⟨b,0,q⟩))).events P o.a #[]=#[]:=by simp[convert,run_underlying z,run_underlying x,Conv.unsafePointer,Conv.seenAt,viewAt,cellsIn,s,sizeOf,typeInfo,a,v]
  simp[ac,u,y,r,this]
def a0.iq(A:n[d]?=h (.J (eD ad W C v1 bN ag e))){i dst}(u:t.op=.convert i dst l)(z:P.underlying i=h .unsafePointer)(x:P.underlying dst=h (.pointer ad)){w}(a:P.info? ad=h w)(B:w.size≠0)(r:liesAt P P.depth ad (2 / P.cellsOf ad) 0 ad 1=f)(D:η l=aG d 0):a0 P t η n (aG d 0) n:=by
  refine .aZ λo p j k=>?_;obtain⟨L,b,k6,a'⟩:=eD.row (P:=P) j A;have g:=k l;rw[D]at g;have y:=a'.ptr g;have v:o.a.shape? b=h (ad,2):=Nm;have s:=Lib.run_from_unsafe (P:=P) o.a ⟨b,0,q⟩ z x a v r;refine⟨p l,by simp[ac,u,y,s],g,?_⟩;have:(convert i dst (.pointer (h ⟨b,0,q⟩))).events P o.a #[]=#[]:=by simp[convert,run_underlying z,run_underlying x,Conv.unsafePointer,Conv.seenAt,viewAt,variablesAt,v,sizeOf,typeInfo,a,B,r]
  simp[ac,u,y,s,this]
def a0.jC{i}{fn}(u:P.funcs[i]?=h fn)(r:(fn.name== "runtime.NumGoroutine")=m)(d:fn.body.isNone=f)(e:Extern.findNext fn=q)(v:Extern.find fn=h Extern.AbiNoEscape.same)(g:t.op=.call {callee:=.value cP,args:=#[l],argTypes:=dn})(D:η cP=.q (.aq (.c (.fn (.func i) [] [])))){o}(N:η l=o):a0 P t η n o n:=by
  refine .du λk a B j=>?_;have s:a cP=.func (.func i) #[] #[]:=by
    have b:=j cP;rw[D]at b;have b:=b6 b;generalize a cP=M at b;cases b with
    |fn A y F I K J w x d1 d2=>
      grind
  have C:(callFunc i #[a l]).run P k.a=.ok (.value (a l)) k.a:=by rw[run_callFunc_extern u r d e v];rfl
  have E:=Ig (P:=P) u r d e v #[a l] (λ_ _=>rfl) k.a #[];refine⟨a l,?_,by grind,λz p=>?_⟩
  · simp[ac,g,resolve,Deferred.ofValue,invoke,s,C]
  · simp[ac,g,resolve,Deferred.ofValue,invoke,s,E]at p
    subst p;exact .inr ⟨_,rfl⟩
end
def Dg{a n:Type}{e:a->n}:∀{g:p a},(g.map e).Nodup->∀{b d:a},b∈g->d∈g->e b=e d->b=d
 |[],_,_,_,s,_,_=>by grind
 |u::t,k,b,d,o,r,l=>by
  simp only[mg,List.nodup_cons]at k;rcases fl.1 o with j|j<;>rcases fl.1 r with i|i
  .grind
  .grind
  .grind
  exact Dg k.2 j i l
def qD{bU}{a}(d:bU≠.bn)(b:jO a=f):jO (bU::a)=f:=by cases bU<;>first|exact b|grind
section
variable {r:ai P}
def g.bS{aM n}(i:∀k b d,aM k b d->n k b d):∀{ar:p ig}{k:Exit}{b:bH}{d:p an},g r D aM ar k b d->g r D n ar k b d
 |[],k,b,d,a=>i k b d a
 |.code l::ar,.normal,b,d,a=>bY.mono a λ_ _ _ a=>g.bS i a
 |.code l::ar,.exit _,b,d,a=>g.bS (ar:=ar) i a
 |.code l::ar,.ret,b,d,a=>g.bS (ar:=ar) i a
 |.code l::ar,.panic _,b,d,a=>g.bS (ar:=ar) i a
 |.code l::ar,.goto _,b,d,a=>g.bS (ar:=ar) i a
 |.code l::ar,.outgrown,b,d,a=>g.bS (ar:=ar) i a
 |.blk id::ar,.exit o,b,d,a=>by
  simp only[g]at a⊢;split
  .rename_i k;rw[bs k]at a;exact g.bS (ar:=ar) i a
  rename_i k;rw[bm k]at a;exact g.bS (ar:=ar) i a
 |.blk id::ar,.normal,b,d,a=>g.bS (ar:=ar) i a
 |.blk id::ar,.ret,b,d,a=>g.bS (ar:=ar) i a
 |.blk id::ar,.panic _,b,d,a=>g.bS (ar:=ar) i a
 |.blk id::ar,.goto _,b,d,a=>g.bS (ar:=ar) i a
 |.blk id::ar,.outgrown,b,d,a=>g.bS (ar:=ar) i a
 |.ae j e::ar,.normal,b,d,a=>e9.mono a λ_ _ a=>g.bS i a
 |.ae j e::ar,.exit _,b,d,a=>g.bS (ar:=ar) i a
 |.ae j e::ar,.ret,b,d,a=>g.bS (ar:=ar) i a
 |.ae j e::ar,.panic _,b,d,a=>g.bS (ar:=ar) i a
 |.ae j e::ar,.goto _,b,d,a=>g.bS (ar:=ar) i a
 |.ae j e::ar,.outgrown,b,d,a=>g.bS (ar:=ar) i a
def g.fF{id}{O:bH->p an->Prop}{d s j}(a:iK id d=q)(b:iK id s=h j)(l:g r D be j .normal F n):
  g r D (v5 O (g r D be s)) (.code (.exit id)::d) .normal F n:=
 g.bS (λk e i o=>by cases k<;>exact o) (g.bt (r:=r) (D:=D) (Ai:=be) (O:=O) (F:=F) (n:=n) a b l)
end
section
variable {r:ai P}
def g.bd{fn}{u}{ao:ι->p an}(e)(aO){ah}{o}{j}(i:U ab)(b1:∀w,w<u->aO[w]?=h w)(k:fn.results.toList=[.cell o ty]:=by exact rfl)(bp:bW ad ty=h j:=by exact rfl)(A:j.agg=f:=by exact rfl)(t:look F o=aG d 0:=by exact rfl)(gD:c6 d n=h (.cells W ah):=by exact rfl)(x:af (c ah) j.size=f:=by exact rfl)(s:ed d aO=m:=by exact rfl)(ae:kk (.q (.agg ah)) (e7 aO (res e))=h ab:=by exact rfl)(I:hI (c aO) (res e)=f:=by exact rfl)(R:dv aO n=h (ao e):=by exact rfl)(C:l2 (ao e)=f:=by exact rfl)(ji:e6 aO=f:=by exact rfl):
  g r D (λaj F aL=>∃w,uj ad fn u (res w) (ao w) aj F aL) (.code .ret::ar) .normal F n:=
 g.ret ⟨e,.inl a,aO,d,W,ah,o,ty,j,ab,q,nofun,k,bp,A,di x,t,ei gD,J' s,ae,i,I,R,C,ji,b1⟩
def g.cr{fn}{i}{ao:ι->p an}(e)(aO){ah}{o bz}{j}{l}(A:U ab)(b1:∀w,w<i->aO[w]?=h w)(t:fn.results.toList=[.cell o ty,.tmp bz]:=by exact rfl)(bp:bW ad ty=h j:=by exact rfl)(k:j.agg=f:=by exact rfl)(bc:look F o=aG d 0:=by exact rfl)(R:look F bz=.q l:=by exact rfl)(gD:c6 d n=h (.cells W ah):=by exact rfl)(x:af (c ah) j.size=f:=by exact rfl)(s:ed d aO=m:=by exact rfl)(ae:kk (.Q [.agg ah,l]) (e7 aO (res e))=h ab:=by exact rfl)(I:hI (c aO) (res e)=f:=by exact rfl)(a':dv aO n=h (ao e):=by exact rfl)(C:l2 (ao e)=f:=by exact rfl)(ji:e6 aO=f:=by exact rfl):
  g r D (λaj F aL=>∃w,uj ad fn i (res w) (ao w) aj F aL) (.code .ret::ar) .normal F n:=
 g.ret ⟨e,.inl a,aO,d,W,ah,o,ty,j,ab,h (bz,l),λ_ u=>by cases u;exact R,t,bp,k,di x,bc,ei gD,J' s,ae,A,I,a',C,ji,b1⟩
def Y.bp(aQ:bn P ad){d}{fn}{args}{res}(k:P.funcs[d]?=h fn)(j:(fn.name== "runtime.NumGoroutine")=m)(b:fn.body=h s)(i:ay args.length fn.ntmps=f)(o:kw args n->g r fn.ntmps (λl e a=>∃_:Unit,uj ad fn n.length res ao l e a) [.code s] .normal (hZ 0 args) n):Y r d args n res ao:=
 (bk.bE (ι:=Unit) (ao:=λ_=>ao) (res:=λ_=>res) aQ k j b i o).toY
end
section
variable {r:ai P}
def g.jD{I:ι->z}{e:ι->p an}(Q:dx r D all t F n I e)(T:fa D t.dst=f)(S:∀o,g r D be (.ae all br::ar) .normal (fS t.dst (I o) F) (e o)):g r D be (.ae all (t::br)::ar) .normal F n:=by
  intro V J u d E k i C idx j a x;cases idx with
  |nil=>exact a.elim
  |cons R idx=>
  refine Q V J u d E k i C R idx j a.1 λo X y v w b=>?_;refine S o y _ ?_ w E k i C idx j a.2 λK l A s U M O B=>x K l A s U M O (b.trans B);cases N:t.dst with
  |none=>exact u.mono b d.len
  |some W=>exact(u.mono b d.len).put (k9 T W N) v
def dx.gf[r.b']{bl}(aN:bk r bl cR [] res aL){aa}(aT:oH all F t=f)(bu:t.op=.call {callee:=.value cP,args:=ag,argTypes:=dn})(V:gN (bF F cP)=h (bl,cap))(bs:pM n (ag.toList.map (bF F)++e0 cap) aa)(bL:lX aa (gq [] cR)=h ab)(a2:U ab)(aX:g4 0 cR=f)(bI:∀u,yf (res u)=f)(a1:∀u,qE (aL u)=f):dx r D all t F n res (λu=>n++aL u):=by
  intro b x ba aw j a4 ah bM bH idx g aW bp;have an:=eJ ba cP;unfold gN at V;split at V
  case h_2=>cases V
  case h_1 u0 uM he=>
    cases V;rw[he]at an;have bD:=b6 an;generalize O:x.eval cP=bU at bD;cases bD with
    |fn bn J aZ ax bS bm e y bW bA=>
      have aQ:bn=[]:=jy aZ;subst aQ;have bP:b4 n b J (e0 cap):=qa (λu s br=>⟨bm u,y u M,bA u s br⟩) ax;have G:b4 n b (ag.toList.map x.eval++J) (ag.toList.map (bF F)++e0 cap):=(m2 (eJ ba) ag.toList).append bP;generalize bG:ag.toList.map x.eval++J=B at G;obtain⟨⟨fn,aP,aA,bQ⟩,T⟩:=aN;have aC:∀aF,(ac x.eval t).run P aF=.ok (.enter bl B.toArray) aF:=λaF=>by grind[mK]
      have av:∀aF,(ac x.eval t).events P aF #[]=#[]:=λaF=>(mK bu aP aA bQ O aF).2;refine .next a λl a3=>?_;have W:=r.bM a3;have v:=aw.rely W;have aH:=ba.rely W aw;have bK:b4 n l B (ag.toList.map (bF F)++e0 cap):=G.mono W.aR.ext aw.len;obtain⟨R,au,bE,a7,bw,a8,bV,bx⟩:=bs l B v bK;let Q:a5:={l with m:=[],u:=au,own:=λj=>l.own j∨∃L∈l.m,j∈L.al}
      have aV:bb [] Q:=by
        refine⟨a8,a,by simp,by grind,by grind,λj g=>⟨?_,by grind⟩⟩;rcases g with g|⟨d,Y,g⟩
        · exact(v.own j g).1
        · exact v.lt d Y j g
      have aR:eT l Q:=by refine⟨rfl,a7,λj g t=>bw j (λaE=>by grind) t,a8,λj g=>?_⟩;grind
      have bY:b4 [] Q B cR:=by have bd:=s' bL a2 bx;exact(b4.sub (aO:=[]) (n:=n) (ao:=[]) (b:={l with u:=au}) (lw:=[]) rfl rfl bd aX).mono (n:=[]) (b:={l with m:=[],u:=au}) (ao:=[]) (az:=Q) ⟨λ_ _ _ w=>w,λz R L aE bo=>by grind⟩ rfl
      refine⟨_,l,_,tz aW (jZ aT _ _ _ aH) g (aC l.a),⟨⟨n,n,v,v,.refl _ _⟩,ds.seen (by rw[av];exact .nil)⟩,.aV aR (T Q B bY aV bM _ λu bT p bX a0 aB K a9=>?_)⟩;refine uA (ah:=ah) (s:=j.M x (.inRegion all.toArray (bH::idx)::a4)) K a0 λC bc=>?_;have X:=K.rely bc;have S:=a9.trans bc.aR;have bO:=aB.mono bc.aR.ext K.len
      classical
      let Z:Mem:=λj t=>if R j then l.u j t else C.u j t;have bz:∀j,(l.own j∨∃L∈l.m,j∈L.al)->C.own j:=λj g=>by rw[S.own];exact g
      have ad:nP C {C with u:=Z}:=by
        refine⟨a,a,a,λj t p O=>?_,λj t p O=>?_⟩
        · grind
        grind
      refine .b1 ai.b'.ok ad ?_;have ae:∀j t p,Z j t=h p->C.u j t=h p:=ad.e5;let A:a5:={C with u:=Z,m:=l.m++C.m,own:=l.own}
      have ak:∀j t p,l.u j t=h p->Z j t=h p:=λj t p O=>by
        by_cases o:R j
        · grind
        · simp[Z,o,dh];exact S.mem j t p (a7 j t p O)
      have aj:∀j,j<l.a.heap.size->∀t,Z j t=l.u j t:=λj g t=>by
        by_cases o:R j
        · grind
        · simp[Z,o,dh]
          rw[S.bF j g M t];grind
      have bN:c C.m=c (aL u):=X.len;have aG:fh n l (n++aL u) A:=by
        refine⟨ak,λz R L aE bo=>⟨R,L,?_,?_,.refl _ _⟩⟩
        · grind
        grind
      have aM:l.a.heap.size<=C.a.heap.size:=S.size;have bC:∀z d,(l.m++C.m)[z]?=h d->(z<c l.m/\l.m[z]?=h d)∨(c l.m<=z/\C.m[z-c l.m]?=h d):=λz d w=>by grind
      have aU:bb (n++aL u) A:=by
        refine⟨λj t p O=>X.mem j t p (ae j t p O),by simp[A,v.len,bN],?_,?_,?_,?_⟩
        · intro z R d aE Y
          rcases bC z d Y with⟨ar,e⟩|⟨aq,e⟩
          · rw[ky (by rw[<-v.len];exact ar)]at aE
            exact(v.box z R d aE e).cd aG v.len λk o=>⟨S.a6 k (.inr ⟨d,b8 e,o⟩),aj k (v.lt d (b8 e) k o)⟩
          · rw[hl (by rw[<-v.len];exact aq),<-v.len]at aE
            have aK:=X.box _ R d aE e;rcases KB (a1 u) R (b8 aE)with⟨H,rfl⟩|rfl
            · obtain⟨bj,bf,bg,bh,bR⟩:=aK
              refine⟨bj,bf,bg,bh,λk o t=>?_⟩;grind
            · trivial
        · intro z a6 E I aI aJ k N a'
          rcases bC z E aI with⟨ar,e⟩|⟨aq,e⟩<;>rcases bC a6 I aJ with⟨bt,y⟩|⟨bq,y⟩
          · exact v.a3 z a6 E I e y k N a'
          · exact absurd a' ((X.own k (bz k (.inr ⟨E,b8 e,N⟩))).2 I (b8 y))
          · exact absurd N ((X.own k (bz k (.inr ⟨I,b8 y,a'⟩))).2 E (b8 e))
          · have:=X.a3 _ _ E I e y k N a';omega
        · intro d Y k o
          rcases gk.1 Y with w|w
          · exact ey (v.lt d w k o) aM
          · exact X.lt d w k o
        · intro k o
          refine⟨ey (v.own k o).1 aM,λd Y=>?_⟩;rcases gk.1 Y with w|w
          · exact(v.own k o).2 d w
          · exact(X.own k (bz k (.inl o))).2 d w
      have aS:eT {C with u:=Z} A:=by refine⟨rfl,λ_ _ _ w=>w,λ_ _ _=>rfl,λj t p O=>X.mem j t p (ae j t p O),λk o=>?_⟩;grind
      have a_:dc n l (n++aL u) A:=by
        refine⟨aM,λk o=>S.a6 k (.inl o),ak,λk o _ t=>aj k o t,λd Y k o=>?_,aG.box,S.os,S.tape,S.output,a⟩;rcases gk.1 Y with w|w
        · grind
        · rcases S.bV d w k o with e|⟨bJ,e,_⟩
          · grind
          grind
      refine .aV aS ?_;have bB:=qk (j:=j) (x:=x) (i:=a4) all.toArray bH idx p;rw[aW]at bB;simp[n0]at bB;rw[bB];exact bp u p A (Yl (bI u) bO) aU (W.aR.trans a_)
def g.gf[r.b']{e:Type}{cP}{ag}{dn}{l}{cap}{cR}{a:e->z}{b:e->p an}(A:bk r l cR [] a b){s}(w:oH all F t=f)(j:t.op=.call {callee:=.value cP,args:=ag,argTypes:=dn})(B:gN (bF F cP)=h (l,cap))(i:pM n (ag.toList.map (bF F)++e0 cap) s){ab}(o:lX s (gq [] cR)=h ab)(v:U ab)(x:g4 0 cR=f)(u:∀d,yf (a d)=f)(y:∀d,qE (b d)=f)(C:fa D t.dst=f)(k:∀d,g r D be (.ae all br::ar) .normal (fS t.dst (a d) F) (n++b d)):g r D be (.ae all (t::br)::ar) .normal F n:=.jD (dx.gf A w j B i o v x u y) C k
def g.iB[r.b']{l}(y:bk r l cR [] res aL)(A j){o}{i}(u:oH all F t=f)(d:t.op=.call {callee:=.value cP,args:=ag,argTypes:=dn})(B:gN (bF F cP)=h (l,cap))(z:(ag.toList.map (bF F)++e0 cap)[j]?=h (cM o))(b:Ag n A o i k T)(p:lX ((ag.toList.map (bF F)++e0 cap).set j (ax (.S m i k T))) (gq [] cR)=h ab)(v:U ab)(w:g4 0 cR=f)(s:∀a,yf (res a)=f)(x:∀a,qE (aL a)=f)(C:fa D t.dst=f)(e:∀a,g r D be (.ae all br::ar) .normal (fS t.dst (res a) F) (n++aL a)):g r D be (.ae all (t::br)::ar) .normal F n:=
  g.gf y u d B ((pM.refl _ _).step j A z b) p v w s x C e
end
section
variable {r:ai P}
theorem dx.fa{y:ι->z}{a:ι->p an}(M:t.guard=q)(E:ev P D t F n y a):dx r D all t F n y a:=by intro T A C b Q S B O R s l o k;refine ri l o (iV M) λJ e=>?_;have g:=b.rely e;obtain⟨w,N,d,x,i,j,K,u,v,I⟩:=E J A (C.rely e b) g;exact⟨N,d,x,i,j,⟨⟨n,a w,g,u,v⟩,I⟩,k w x d K u (e.aR.trans (v.tooU g))⟩
def dx.eU{E}(K:bk r E cR dd res aL)(aO)(ah:t.guard=q)(e:t.op=.call {callee:=.value cP,args:=ag,argTypes:=dn})(i:gN (bF F cP)=h (E,cap))(Y:∀g B,b4 n g B (ag.toList.map (bF F)++e0 cap)->b4 n g B (gq aO cR))(ak:g4 (c aO) cR=f)(an:dv aO n=h dd)(R:eo dd=f)(ai:∀a,eo (aL a)=f)(w:e6 aO=f)(ao:∀a,ay (c aO) (c (aL a))=f):
  dx r D all t F n (λa=>e7 (aO++gJ (c n) (c (aL a)-c aO)) (res a)) (λa=>c_ aO (aL a) n):=by
 intro g S J p ar ab U aq au y o s l;have N:=eJ J cP;unfold gN at i;split at i
 case h_2=>cases i
 case h_1 u0 uM he=>
  cases i;rw[he]at N;have C:=b6 N;generalize O:S.eval cP=X at C;cases C with
  |fn W b v d V j Z k ae x=>
   have aj:=jy v;subst aj;have aa:b4 n g b (e0 cap):=qa (λa T u=>⟨j a,k a M,x a T u⟩) d;have ad:=Y g _ ((m2 (eJ J) ag.toList).append aa);obtain⟨fn,Q,I,A⟩:=K.1;exact AQ o s (iV ah) p (λz=>(mK e Q I A O z).1) (λz=>(mK e Q I A O z).2) K ad ak an R ai w (λa=>e' (ao a)) l
def dx.dj{e}(s:bk r e cR dd res aL)(aO)(i:t.guard=q)(d:t.op=.call {callee:=.value cP,args:=ag,argTypes:=dn})(v:gN (bF F cP)=h (e,cap))(g:k5 (ag.toList.map (bF F)++e0 cap)=gq aO cR)(k:g4 (c aO) cR=f)(l:dv aO n=h dd)(u:eo dd=f)(j:∀a,eo (aL a)=f)(b:e6 aO=f)(o:∀a,ay (c aO) (c (aL a))=f):
  dx r D all t F n (λa=>e7 (aO++gJ (c n) (c (aL a)-c aO)) (res a)) (λa=>c_ aO (aL a) n):=.eU s aO i d v (λ_ _ p=>g▸uL p) k l u j b o
def dx.bQ{e}(u:bk r e cR dd res aL)(aO)(j:t.guard=q)(d:t.op=.call {callee:=.value cP,args:=ag,argTypes:=dn})(v:gN (bF F cP)=h (e,cap))(g:lX (ag.toList.map (bF F)++e0 cap) (gq aO cR)=h ab)(i:U ab)(l:g4 (c aO) cR=f)(o:dv aO n=h dd)(w:eo dd=f)(k:∀a,eo (aL a)=f)(b:e6 aO=f)(s:∀a,ay (c aO) (c (aL a))=f):
  dx r D all t F n (λa=>e7 (aO++gJ (c n) (c (aL a)-c aO)) (res a)) (λa=>c_ aO (aL a) n):=.eU u aO j d v (λ_ _ p=>s' g i p) l o w k b s
def ev.fA(I:j1 P t l X W a4){aH i}{V}{d:Nat->p N}(R:a4.size=i)(ae:bF F l=ax (.S f aH 0 T))(aw:bF F X=ax (.S V i A d))(k:0<A)(j:A*a4.bytes<=140737488355328)(aL:∀C,C<A->∀ah∈d C,nj ah=f):
  ev P D t F n (ι:={E:fg×p Z // eg i A d E.2}) (λE=>cM (cX E.1.1 A)) (λE=>n++[.J (ck W i E.1.1 A E.1.2)]):=by
 intro b az K g;obtain⟨a0,t2,C,cc,aq,e,aF,G,z⟩:=I.op;have J:=eJ K l;rw[ae]at J;have aa:=Rd.fT (i:=aH) (f_:=a4.size) (.inr a) (b6 J);have u:=eJ K X;rw[aw]at u;have u:=b6 u;obtain⟨aZ,aI,B,S,aX,aJ,av,aT,aN⟩:=aa.b3;have aM:=av a;subst aM;rw[S]at aa;have aB:Rd b.u (az.eval X) (.S V a4.size A d):=M;obtain⟨s,ab,Y,r,aA,aS,aQ,aR⟩:=vL (P:=P) (ty:=t.type) e aF G z I.elem g aa aB y M I.bytes;have aK:=uW (P:=P) (ty:=t.type) e aF G z I.elem g aa aB y M I.bytes;have aj:ce 0 T d=d:=by funext C;simp[ce]
 rw[R,cV,aj]at r;rw[R]at aQ;rw[cV]at aA aR;have aC:eg i A d s:=⟨r.len,r.bJ,λC e aU ah v=>by
  obtain⟨aV,ad,aG⟩:=r.rd C e aU ah v
  grind[u9]⟩
 have O:∀l∈s,dW l=f:=λl ae=>by
  obtain⟨w,ar,rfl⟩:=hD ae;have ao:0<i:=M;have aP:=r.len;have e:w / i<A:=si M;have L:w / i*i+w % i=w:=uo w i;have v:w % i<c (d (w / i)):=by rw[r.bJ _ e];exact pZ _ ao
  obtain⟨aV,ad,aG⟩:=aC.b4 _ e _ _ (bI v);rw[L,bI ar]at ad;cases ad;exact(aG b.u).cell
 let o:au:=b.a.drew.alloc (.cells (s++ab).toArray W);have aE:ep (n++[.J (ck W i (.row b.a.heap.size Y) A s)]) {b with a:=o,m:=b.m++[⟨.nilFunc,[b.a.heap.size]⟩]} (.J (ck W i (.row b.a.heap.size Y) A s)) ⟨.nilFunc,[b.a.heap.size]⟩:=by
  refine⟨λx=>if x=b.a.heap.size then h (.cells (s++ab).toArray W (0,0))else q,⟨a,O,r.len,aA,aS,ab,aQ,a⟩,λx t U=>?_,λx=>?_,λx U t=>?_⟩
  .by_cases ai:x=b.a.heap.size
   .subst ai;simp only[dH]at U;cases U;exact lT b.a.drew _
   grind
  .by_cases ai:x=b.a.heap.size<;>simp[ai]
  simp at U;subst U;cases k:b.u b.a.heap.size t with
  |none=>rfl
  |some aW=>have:=g.block k;omega
 have aO:o.heap.size=b.a.heap.size+1:=Nh;have H:bb n {b with a:=o}/\cN n b n {b with a:=o}:=
  g.cY y (λag j=>iM b.a.drew _ j) (λag j t=>rfl) (λag j t aW k=>by have:=g.block k;omega) a a a
 obtain⟨ak,an⟩:=H.1.b0 H.2 rfl g aE (λag j=>by grind);refine⟨⟨(.row b.a.heap.size Y,s),aC⟩,.value (.slice (h ⟨b.a.heap.size,0,q⟩) A Y),_,_,?_,.inl a,Rd.val a,ak,an,?_⟩
 .rw[la aq,S];simp[aR];rfl
 grind[la,jh]
def g.fA{l X}{W}{a4}(B:j1 P t l X W a4){x i A}{o}{d a:Nat->p N}(y:a4.size=i)(C:bF F l=ax (.S f x 0 d))(v:bF F X=ax (.S o i A a))(j:0<A)(e:A*a4.bytes<=140737488355328)(u:∀s,s<A->∀w∈a s,nj w=f)(z:t.guard=q)(E:fa D t.dst=f)(k:∀b:{b:fg×p Z // eg i A a b.2},g r D be (.ae all br::ar) .normal (fS t.dst (cM (cX b.1.1 A)) F) (n++[.J (ck W i b.1.1 A b.1.2)])):g r D be (.ae all (t::br)::ar) .normal F n:=
 g.cF _ _ z E (ev.fA B y C v j e u) k
def g.fe(W)(i)(j:g r D be (.code s::ar) .normal F (n++[.J (ck W i (.nil q) 0 [])])):g r D be (.code s::ar) .normal F n:=by refine g.aV (λk p b a=>?_) j;obtain⟨l,d⟩:=a.b0 (bU:=.J (ck W i (.nil q) 0 [])) (L:=⟨.nilFunc,[]⟩) (.refl _ _) rfl a ⟨λ_=>q,⟨rfl,by simp,by simp,rfl,rfl⟩,by simp,by simp,by simp⟩ E;exact⟨{k with m:=k.m++[⟨.nilFunc,[]⟩]},rfl,⟨b.size,b.defers.imp λ_ e=>e.mono d.ext,λo=>(b.aH o).mono d.ext a.len⟩,l,d⟩
end
def FE(i:Z)(e g:Nat)(a:Nat->p N)(d b:N):Prop:=b=d∨(d=.val i/\b=.S m e g a)
def bb.fx{aL e8}{i}{bN}{ag}(r:bb (aL++[.J (ck W i bN k ag)]) b)(aw:eg i k T ag){t}{eH}{A o}{C lO:Nat->p N}(z:aL[t]?=h (.h eH A o C))(aU:e8=aL.set t (.h eH A o lO))(az:ki (c e8) e8=f)(ab:∀l,l<o->c (lO l)=c (C l))(Z:∀l,l<o->∀(w:Nat) (K:N),(lO l)[w]?=h K->∃y,(C l)[w]?=h y/\FE (cX bN k) i k T y K):
  ∃s:a5,bb e8 s/\eT b s/\(∀aj Q,bx (aL++[.J (ck W i bN k ag)]) b aj Q->hI (c e8) Q=f->bx e8 s aj Q)/\∀{n:p an} {x:a5},dc n x (aL++[.J (ck W i bN k ag)]) b->n.length<=c e8->dc n x e8 s:=by
 have G:=(cO.1 z).1;have aE:(aL++[an.J (ck W i bN k ag)])[c aL]?=h (.J (ck W i bN k ag)):=E
 obtain⟨L,cd,au,av,ao,S,aJ,aK⟩:=ck.fH aE T (λl g=>⟨aw.d' l g,λaT w y aV u aI=>by
  obtain⟨aW,aP,aQ⟩:=aw.b4 l g w y u
  grind⟩) b r
 obtain⟨D,F⟩:=r.b9 (cd:=cd) (bh:=b.a) (d':=.x) (cm:=⟨L.v,[]⟩) aE au rfl (bC _) (λ_ _ _=>rfl) (λj _ e ad=>ao j e ad) av S E rfl rfl rfl v;have O:(aL++[an.J (ck W i bN k ag)]).set (c aL) .x=aL++[.x]:=E;rw[O]at D F;have ax:(aL++[an.x])[t]?=h (.h eH A o C):=M;have aR:=D.len;have R:=bI (l:=b.m.set (c aL) ⟨L.v,[]⟩) (i:=t) M;generalize(b.m.set (c aL) ⟨L.v,[]⟩)[t]'_=sc at R;have H:=D.box t _ sc ax R;have ae:fD (.h eH A o C) sc (.h eH A o lO) sc:=⟨λ_=>rfl,bC _⟩
 have aS:(b.m.set (c aL) ⟨L.v,[]⟩).set t sc=b.m.set (c aL) ⟨L.v,[]⟩:=mV;obtain⟨aq,I⟩:=D.b9 (cd:=cd) (bh:=b.a) (d':=.h eH A o lO) (cm:=sc) ax R ae (bC _) (λ_ _ _=>rfl) (λ_ _ _ _=>rfl) (λ_ _ _ aG=>aG) S
  (λj e=>⟨.inl e,D.lt sc (b8 R) j e⟩) a a a (by
   rcases H with⟨dK,eF⟩|⟨j,U,B,ak,dK,eF,jK,V,X,ar,Y⟩
   .exact .inl ⟨dK,eF⟩
   .refine .inr ⟨j,U,B,ak,dK,eF,jK,V,X,⟨ar.len,λl g=>by rw[ab l g];exact ar.bJ l g,λl g w K u=>?_⟩,Y⟩;obtain⟨y,aF,aA⟩:=Z l g w K u;obtain⟨aO,ah,ai⟩:=ar.rd l g w y aF;refine⟨aO,ah,?_⟩;rcases aA with rfl|⟨rfl,rfl⟩
    .exact ai
    grind[Rd.bj])
 have aC:(aL++[an.x]).set t (.h eH A o lO)=e8++[.x]:=M;rw[aC]at aq I;have J:=F.trans I;refine⟨_,aq.drop (br:=[.x]) az,⟨a,av,λj e ad=>ao j (e L (b8 au)) ad,S,λj e=>?_⟩,λaj Q aN aa=>(aN.mono J.ext r.len).drop (br:=[.x]) aa,λ{n x} aM ae=>(aM.trans (J.tooU r)).drop (br:=[.x]) ae⟩;rcases e with e|⟨cm,aB,e⟩
 .exact .inl e
 have aH:=hc aB;grind
def bk.fx{P:aI}{d:Type}{I:ai P}{K}{args}{n}{b:d->z}{aL e8:d->p an}{W i k}{bN:d->fg}{ag:d->p Z}{l:Nat->p N}(M:bk I K args n b (λa=>aL a++[.J (ck W i (bN a) k (ag a))]))(ab:∀a,eg i k l (ag a))(Q){eH}{R r:Nat}{s:d->Nat->p N}{lO:Nat->p N}(ad:∀a,(aL a)[Q]?=h (.h eH R r (s a)))(X:∀a,e8 a=(aL a).set Q (.h eH R r lO))(aa:∀a,ki (c (e8 a)) (e8 a)=f)(V:∀a,hI (c (e8 a)) (b a)=f)(Y:∀a,c n<=c (e8 a))(aj:∀a g,g<r->c (lO g)=c (s a g))(ak:∀a g,g<r->∀(O:Nat) (S:N),(lO g)[O]?=h S->∃J,(s a g)[O]?=h J/\FE (cX (bN a) k) i k l J S):bk I K args n b e8:=by refine⟨M.1,λae B D A U w y=>M.2 ae B D A U w λa x T ah C e o F=>?_⟩;obtain⟨E,t,j,u,v⟩:=o.fx (ab a) (ad a) (X a) (aa a) (aj a) (ak a);exact .aV j (y a x T E (C.mono j.mem) (u T _ e (V a)) t (v F (Y a)))
def Sc(aQ:bn P ad){parts}(u:t.op=.buildSlice o k parts){i}{T}(g:rK ad η o k parts.toList=h (i,T)){e}(s:bW ad o=h e)(ae:e.desc=.slice W){ρ:aA->Z}(K:∀ar,bx n b (ρ ar) (η ar)):
  ∃r:p Z,eW b.u i k (λe=>T.getD e []) r/\k<=16777216/\0<i/\(ac ρ t).run P b.a=.ok (.value (.slice (h ⟨b.a.heap.size,0,q⟩) k k)) (b.newRow W r).a/\(ac ρ t).events P b.a #[]=#[]:=by
 unfold rK at g;simp[s,ae]at g
 .skip
  cases w:bW ad W with
  |none=>grind
  |some d=>
   simp[w]at g;cases A:af d.size 0 with
   |true=>grind
   |false=>
    simp[A]at g;cases G:ay (k*d.size) 16777216 with
    |false=>grind
    |true=>
     simp[G]at g;cases aa:pq η parts.toList with
     |none=>grind
     |some U=>
      simp[aa]at g;cases aq:ry (λi=>h (i*d.size,d.size)) U (aY (k*d.size) O.any)with
      |none=>grind
      |some D=>
       simp[aq]at g;cases H:h0 D with
       |none=>grind
       |some aF=>
        simp[H]at g;cases ab:rp d.size k aF with
        |none=>grind
        |some ai=>
         simp only[ab,eR,lD]at g;obtain⟨rfl,rfl⟩:=g;have aL:d.size≠0:=λaB=>by rw[aB]at A;cases A
         have aC:=e' G;obtain⟨ao,l,Na,aH,aI,a,ag,aJ,aK⟩:=(aQ W d w).c';have an:l.cells.size=d.size:=by have:=eI List.length ag;grind
         have ak:∀j∈l.cells.toList,dW j=f:=by intro j L;have ah:lE j∈l.cells.toList.map lE:=k2.2 ⟨j,L,rfl⟩;rw[ag]at ah;obtain⟨aN,_,I⟩:=k2.1 ah;exact(Rd.fp (bB:=b.u) I.symm).cell
         have z:∀aE,(∀j∈(aD aE).map (λv=>l.cells[v % l.cells.size]!),dW j=f):=by grind[Nat.mod_lt]
         have au:∀B:p Z,(∀j∈B,dW j=f)->bM n b B (aY (c B) O.any):=by
          intro B;induction B with
          |nil=>intro _;trivial
          |cons j B N=>intro L;exact⟨L j E,N λaG x=>L aG M⟩
         obtain⟨R,S⟩:=yK (n:=n) (b:=b) K aa;have aM:bM n b ((Array.range (k*d.size)).map (λv=>l.cells[v % l.cells.size]!)).toList (aY (k*d.size) O.any):=by have:=au _ (z (k*d.size));simpa using this
         obtain⟨r,V,X⟩:=x5 (n:=n) (b:=b) (vE:=λi=>h (i*d.size,d.size)) (λi aO J=>J) aq R S aM;have nD:=rr H X;obtain⟨az,C⟩:=BD (bB:=b.u) (B:=r.toList) ab (by simpa using nD.cM) nD.eV;refine⟨r.toList,C,fF (um k y) aC,by omega,?_,?_⟩
         rotate_left
         .exact QT
         have x:=(aQ o e s).run_underlying (Q:=b.a);rw[ae]at x;have av:(zeroValue W).run P b.a=.ok l b.a:=Nx;have F:Instr.fill (λi=>h (i*d.size,d.size)) ((Array.range (k*d.size)).map (λv=>l.cells[v % l.cells.size]!)) (parts.map λ(e,Y)=>(e,ρ Y)).toList=h r:=by simpa using V
         by_cases ax:k*d.size=0
         .have aw:k=0:=by grind[Nat.mul_eq_zero]
          subst aw;have aj:Array.range 0=#[]:=rfl;simp[aj]at F;simp[ac,u,Instr.buildSlice,x,(aQ W d w).bf,aj,F,Go.newRow,a5.newRow]
         rw[show ac ρ t=(do pure (.value (<-Instr.buildSlice o k (parts.map λ(e,Y)=>(e,ρ Y))))) by simp[ac,u]];simp only[Instr.buildSlice,cI,x,c0,(aQ W d w).bf,ax,dh,av,show¬k*d.size>2 ^ 24 by omega,sw,F,d6];simp[Go.newRow,a5.newRow]
section
variable {r:ai P}
def g.gQ(aQ:bn P ad){parts}(C:t.op=.buildSlice o k parts){i}{T}{e}(v:bW ad o=h e)(M:e.desc=.slice W)(s:rK ad (bF F) o k parts.toList=h (i,T))(S:t.guard=q)(V:fa D t.dst=f)(w:g r D be (.ae all br::ar) .normal (fS t.dst (cy (c n) (.S k i 0 k)) F) (n++[.h W i k (λe=>T.getD e [])])):g r D be (.ae all (t::br)::ar) .normal F n:=by
 refine g.cF (ι:=Unit) (λ_=>cy (c n) (.S k i 0 k)) (λ_=>n++[.h W i k (λe=>T.getD e [])]) S V (λb A O j=>?_) λ_=>w;obtain⟨p,y,I,E,B,K⟩:=Sc (n:=n) (b:=b) (ρ:=A.eval) aQ C s v M (λX=>eJ O X);have aE:ep (n++[.h W i k (λe=>T.getD e [])]) {b with a:=(b.newRow W p).a,m:=b.m++[⟨.slice (h ⟨b.a.heap.size,0,q⟩) 0 k,[b.a.heap.size]⟩]} (.h W i k (λe=>T.getD e [])) ⟨.slice (h ⟨b.a.heap.size,0,q⟩) 0 k,[b.a.heap.size]⟩:=by
  refine .inr ⟨b.a.heap.size,k,p,[],a,by rw[hY];exact lT b.a _,by rw[hY];exact y.len,bC _,by omega,y,λt=>?_⟩;cases l:b.u b.a.heap.size t with
  |none=>rfl
  |some U=>have:=j.block l;omega
 have z:bb n {b with a:=(b.newRow W p).a}/\cN n b n {b with a:=(b.newRow W p).a}:=
  j.cY (by simp[a5.newRow]) (λu d=>iM b.a _ d) (λu d t=>rfl) (λu d t U l=>by have:=j.block l;omega) a a a
 obtain⟨R,Q⟩:=z.1.b0 z.2 rfl j aE (λu d=>by simp at d;subst d;exact⟨bC _,by simp[a5.newRow]⟩);refine⟨(),.value (.slice (h ⟨b.a.heap.size,0,q⟩) k k),{b with a:=(b.newRow W p).a,m:=b.m++[⟨.slice (h ⟨b.a.heap.size,0,q⟩) 0 k,[b.a.heap.size]⟩]},_,B,.inl rfl,?_,R,Q,by rw[K];exact .nil⟩;refine⟨.slice (h ⟨b.a.heap.size,0,q⟩) 0 k,⟨_,_,k,k,a,bC _,by simp,by omega,a,λ_=>⟨_,a,by simp⟩⟩,by simp,λY J N x s=>?_⟩;simp at s;obtain⟨_,_,rfl,_⟩:=s;exact⟨bC _,λ_=>⟨_,by show(b.m++[_])[c n]?=_;rw[<-j.len,wL],a⟩⟩
end
def uQ(n j k:Nat)(g:Nat->p N):O->O×p Prop
 |.R b (.S i a e d)=>match af b n with
  |true=>match af a j with
   |true=>(.c (.S m j d (hv e g)),[i=k,e+d<=k])
   |false=>(.R b (.S i a e d),[])
  |false=>(.R b (.S i a e d),[])
 |l=>(l,[])
def o5(g e i:Nat)(a:Nat->p N):p O->p O×p Prop
 |[]=>([],[])
 |j::n=>match uQ g e i a j with
  |(b,k)=>match o5 g e i a n with
   |(d,l)=>(b::d,gA k l)
def BQ(i g j:Nat)(a:Nat->p N):E1->E1×p Prop
 |.aq k=>match uQ i g j a k with|(b,e)=>(.aq b,e)
 |.agg d=>match o5 i g j a d with|(l,e)=>(.agg l,e)
def BP(g e i:Nat)(a:Nat->p N):z->z×p Prop
 |.q k=>match BQ g e i a k with|(b,j)=>(.q b,j)
 |d=>(d,[])
def uR(e d g:Nat)(a:Nat->p N):bH->bH×p Prop
 |[]=>([],[])
 |(o,j)::n=>match BP e d g a j with
  |(i,k)=>match uR e d g a n with
   |(b,l)=>((o,i)::b,gA k l)
def iF(g k l:Nat)(b:Nat->p N):Nat->p an->p an×p Prop
 |_,[]=>([],[])
 |j,d::s=>match iF g k l b (j+1) s with
  |(a,i)=>match af j g with
   |true=>(.x::a,i)
   |false=>match d with
    |.cells n e=>match o5 g k l b e with|(o,r)=>(.cells n o::a,gA r i)
    |d=>(d::a,i)
section
variable {b2:a5}{W i:Nat}
structure l_(n:p an)(b:a5)(d i k:Nat)(T:Nat->p N)(ao:p an)(b2:a5):Prop where
 a6:∀aa x,cw n b aa x->cw ao b2 aa x
 eX:∀aa f_ t A,cw n b aa (.R d (.S k f_ t A))->f_=i->t+A<=k->Rd b2.u aa (.S m i A (hv t T))
def l_.cO(g:l_ n b d i k T ao b2){aa}{x}(l:U (uQ d i k T x).2)(j:cw n b aa x):cw ao b2 aa (uQ d i k T x).1:=by
 unfold uQ at l⊢;split
 .rename_i r C p t A;split
  .rename_i a;split
   .rename_i e;simp[a,e]at l;have a:=di a;have e:=di e;subst a;obtain⟨rfl,o⟩:C=k/\t+A<=k:=l;exact g.eX aa _ _ _ j e o
   exact g.a6 aa _ j
  exact g.a6 aa _ j
 exact g.a6 aa _ j
def l_.gq(j:l_ n b d i k T ao b2):∀{B:p Z}{a:p O},U (o5 d i k T a).2->bM n b B a->bM ao b2 B (o5 d i k T a).1
 |[],[],_,_=>trivial
 |[],_::_,_,e=>e.elim
 |_::_,[],_,e=>e.elim
 |o::B,l::a,g,e=>by simp only[o5]at g⊢;rw[U.Y]at g;exact⟨j.cO g.1 e.1,j.gq g.2 e.2⟩
def l_.q(e:l_ n b d i k T ao b2){l}(a:U (BQ d i k T l).2)(g:er n b aa l):er ao b2 aa (BQ d i k T l).1:=by
 cases l with
 |aq r=>exact e.cO a g
 |agg o=>obtain⟨B,p,j⟩:=g;exact⟨B,p,e.gq a j⟩
def l_.c9(l:l_ n b d i k T ao b2)(a:c b.m=c n)(j:fh n b ao b2){aa}{I}(g:U (BP d i k T I).2)(e:bx n b aa I):bx ao b2 aa (BP d i k T I).1:=by
 cases I with
 |q p=>exact l.q g e
 |Q o=>exact e.mono j a
 |any=>trivial
def l_.b6(r:l_ n b d i k T ao b2)(g:c b.m=c n)(p:fh n b ao b2):∀{F:bH}{o:Nat}{l:Z},U (uR d i k T F).2->bx n b l (look F o)->bx ao b2 l (look (uR d i k T F).1 o)
 |[],_,_,_,_=>trivial
 |(s,t)::u,o,l,j,a=>by
  simp only[uR]at j⊢;rw[U.Y]at j;simp[look]at a⊢;cases e:af s o with
  |true=>rw[e]at a;exact r.c9 g p j.1 a
  |false=>rw[e]at a;exact r.b6 g p j.2 a
theorem BN:∀{n:p an}{e w:Nat},(iF d i k T e n).1[w]?=match n[w]? with
  |none=>q
  |some a=>h (match af (e+w) d with|true=>.x|false=>match a with|.cells j b=>.cells j (o5 d i k T b).1|a=>a)
 |[],e,w=>by simp[iF]
 |a::g,e,0=>by simp[iF,j9,m4];grind
 |a::g,e,w+1=>by have l:=BN (n:=g) (e:=e+1) (w:=w);have o:e+1+w=e+(w+1):=y;rw[o]at l;simp[iF,nY];grind
def HD:∀{n:p an}{e w:Nat}{g:av}{a:p O},U (iF d i k T e n).2->n[w]?=h (.cells g a)->e+w≠d->U (o5 d i k T a).2
 |[],e,w,_,_,_,b,_=>by grind
 |o::l,e,0,g,a,j,b,r=>by simp at b;subst b;simp[iF]at j;grind[Nat.eq_of_beq_eq_true,U.Y]
 |o::l,e,w+1,g,a,j,b,r=>by simp at b;refine HD (n:=l) (e:=e+1) (w:=w) ?_ b y;simp[iF]at j;grind[U.Y]
theorem BO:∀{n:p an}{e:Nat},(iF d i k T e n).1.length=c n
 |[],_=>rfl
 |g::a,e=>by simp[iF];have b:=BO (n:=a) (e:=e+1);grind
def bb.bw(s:bb n b)(aE:n[d]?=h (.h W i k T))(aq:U (iF d i k T 0 n).2):
  ∃p:a5,p.a=b.a/\bb (iF d i k T 0 n).1 p/\cN n b (iF d i k T 0 n).1 p/\l_ n b d i k T (iF d i k T 0 n).1 p:=by
 have z:d<c n:=(cO.1 aE).1;have ae:b.m[d]?=h (b.m[d]'(by rw[s.len];exact z)):=bI _;generalize b.m[d]'M=L at ae;have aZ:=s.box _ _ L aE ae;obtain⟨cd,av,aw,ax,az⟩:∃cd:Mem,(∀l e r,b.u l e=h r->cd l e=h r)/\(∀l,l∉L.al->∀e,cd l e=b.u l e)/\(∀l e r,cd l e=h r->b.a.cell? ⟨l,e,q⟩=h r) /\
   (∀r o e I,cw n b r (.R d (.S k o e I))->o=i->e+I<=k->Rd cd r (.S m i I (hv e T))):=by
  rcases aZ with⟨rfl,rfl⟩|⟨l,ak,B,a8,rfl,hw,aU,aV,aT,aK,a4⟩
  .refine⟨b.u,λ_ _ _ S=>S,λ_ _ _=>rfl,s.mem,λr o e I J t aG=>?_⟩;obtain⟨au,⟨aP,aj,Z,ak,X,u,w,G,aI,aM⟩,_,aL⟩:=J;grind[Rd.dH]
  let cd:Mem:=λA e=>if A=l then B[e]? else b.u A e;have aO:∀A e r,b.u A e=h r->cd A e=h r:=λA e r X=>by grind
  refine⟨cd,aO,λA aS e=>M,λA e r X=>?_,λr o e I J t aG=>?_⟩
  .by_cases t:A=l
   .subst t;simp[cd,dH]at X;simp[aN,hw];grind
   simp[cd,t,dh]at X;exact s.mem A e r X
  subst t;obtain⟨au,⟨aP,aj,Z,a3,X,u,w,G,aI,aM⟩,_,aL⟩:=J;obtain⟨cm,D,aH⟩:=(aL _ _ _ _ aE).2 rfl;rw[ae]at D;cases D;rw[aI]at aH;cases aH;rw[X];have ag:∀j,j<I->∀F R,(hv e T j)[F]?=h R->∃aB,B[(e+j)*o+F]?=h aB/\Rd b.u aB R:=λj g F R x=>by rw[yE]at x;exact aK.rd (e+j) y F R x
  refine .S l (e*o) (λj F=>(B[(e+j)*o+F]?).getD K) u y E (λj g=>by rw[yE];exact aK.bJ _ y) (λa6=>M) (λj g F R x=>M) (λj g F R x=>?_);obtain⟨aB,aC,aF⟩:=ag j g F R x;rw[aC];exact aF.mono aO
 obtain⟨N,aA⟩:=s.b9 (cd:=cd) (bh:=b.a) (d':=.x) (cm:=⟨L.v,[]⟩) aE ae v (bC _) (λ_ _ _=>rfl) (λl _ V e=>aw l V e) av ax E rfl rfl rfl v;let p:a5:=⟨b.m.set d ⟨L.v,[]⟩,cd,b.a,b.own⟩
 have ag:∀j Q,n[j]?=h Q->j≠d->(iF d i k T 0 n).1[j]?=h (match Q with|.cells W aa=>.cells W (o5 d i k T aa).1|l=>l):=λj Q g aW=>by grind[BN,Nat.eq_of_beq_eq_true]
 have aJ:(iF d i k T 0 n).1[d]?=h .x:=by
  rw[BN,aE];have:af (0+d) d=f:=by rw[cV];exact sx d
  grind
 have rV:cN (n.set d .x) p (iF d i k T 0 n).1 p:=by
  refine⟨bC _,λ_ _ _=>rfl,λ_ _ _ S=>S,λ_ _ _ _=>rfl,λcm D l V=>.inr ⟨cm,D,V⟩,λj Q cm g D=>?_,a,a,a,a⟩;by_cases t:j=d
  .subst t;rw[ij z]at g;cases g;exact⟨.x,cm,aJ,D,a⟩
  rw[kA (λS=>t S.symm)]at g;refine⟨_,cm,ag j Q g t,D,?_⟩;cases Q<;>first|exact fD.refl _ _|rfl
 have ad:=aA.trans rV;have ab:l_ n b d i k T (iF d i k T 0 n).1 p:=⟨λr aP J=>J.mono ad.ext s.len,λr o e I J t aG=>az r o e I J t aG⟩
 refine⟨p,a,⟨N.mem,by rw[BO,<-s.len];grind,λj Q cm g D=>?_,N.a3,N.lt,N.own⟩,ad,ab⟩;by_cases t:j=d
 .subst t;rw[aJ]at g;cases g;trivial
 have O:j<c n:=by grind[BO]
 have ah:=bI O;have a1:b.m[j]?=h cm:=M;have a2:=s.box j _ cm ah a1;have Y:=N.box j _ cm (by rw[kA (λS=>t S.symm)];exact ah) D;have C:=ag j _ ah t;rw[g]at C;have C:=ut C;generalize aR:n[j]=ai at *;cases ai with
 |cells eH aa=>
  subst C;obtain⟨l,B,u,w,G,aM⟩:=a2;obtain⟨A,aX,H,aQ,_,a0⟩:=Y;rw[u]at H;cases H;exact⟨l,B,u,w,ab.gq (HD aq ah y) G,a0⟩
 |r=>subst C;exact Y
 |J=>subst C;exact Y
 |x=>subst C;trivial
 |loop a_ a9 J=>
  subst C;obtain⟨ar,tmps,fn,an,u,w,G,aM,ao⟩:=Y;exact⟨ar,tmps,fn,an,u,w,G,λa7=>(aM a7).mono rV.ext N.len,ao⟩
 |bn=>subst C;exact Y
 |h=>subst C;exact Y
end
section
variable {r:ai P}{dE:bH}
def g.bw(d){W i k}{a:Nat->p N}{ab dq}(u:c6 d n=h (.h W i k a))(C:uR d i k a F=(dE,ab))(A:iF d i k a 0 n=(ao,dq))(w:U ab)(E:U dq)(v:g r D be (.code s::ar) .normal dE ao):g r D be (.code s::ar) .normal F n:=by refine g.aV (λI x l e=>?_) v;obtain⟨y,t,b,j,z⟩:=e.bw (ei u) M;rw[A]at b j z;refine⟨y,t,⟨l.size,l.defers.imp λ_ B=>B.mono j.ext,λo=>?_⟩,b,j⟩;have:=z.b6 e.len j.ext (F:=F) (o:=o) M (l.aH o);grind
end
def bb.eY{aL}{i}{bN}{ag}(j:bb (aL++[.J (ck W i bN k ag)]) b)(u:eg i k T ag)(I:ki (c aL) aL=f):
  ∃g:a5,bb aL g/\eT b g/\Rd g.u (cX bN k) (.S m i k T)/\∀{e:p an} {l:a5},dc e l (aL++[.J (ck W i bN k ag)]) b->e.length<=c aL->dc e l aL g:=by
 have aE:(aL++[an.J (ck W i bN k ag)])[c aL]?=h (.J (ck W i bN k ag)):=E
 obtain⟨L,cd,B,A,x,y,U,R⟩:=ck.fH aE T (λw n=>⟨u.d' w n,λS Q D V s N=>by
  obtain⟨X,Y,O⟩:=u.b4 w n Q D s
  grind⟩) b j
 obtain⟨z,o⟩:=j.b9 (cd:=cd) (bh:=b.a) (d':=.x) (cm:=⟨L.v,[]⟩) aE B rfl (bC _) (λ_ _ _=>rfl) (λr _ d t=>x r d t) A y E rfl rfl rfl v;have C:(aL++[an.J (ck W i bN k ag)]).set (c aL) .x=aL++[.x]:=E;rw[C]at z o;refine⟨_,z.drop (br:=[.x]) I,⟨a,A,λr d t=>x r (d L (b8 B)) t,y,λr d=>?_⟩,R,λ{e l} K J=>(K.trans (o.tooU j)).drop (br:=[.x]) J⟩;rcases d with d|⟨cm,F,d⟩
 .exact .inl d
 have M:=hc F;grind
def bk.eY{P:aI}{b:Type}{C:ai P}{D}{args}{n}{aL:b->p an}{W i}{k:b->Nat}{d:b->fg}{l:b->p Z}{T:b->Nat->p N}(E:bk C D args n (λa=>cM (cX (d a) (k a))) (λa=>aL a++[.J (ck W i (d a) (k a) (l a))]))(K:∀a,eg i (k a) (T a) (l a))(M:∀a,ki (c (aL a)) (aL a)=f)(J:∀a,c n<=c (aL a)):bk C D args n (λa=>ax (.S m i (k a) (T a))) aL:=by refine⟨E.1,λQ B y w I t v=>E.2 Q B y w I t λa u F R x e j A=>?_⟩;obtain⟨z,o,g,r,s⟩:=j.eY (K a) (M a);have O:F=cX (d a) (k a):=Rd.bj e;exact .aV g (v a u F z (x.mono g.mem) (by rw[O];exact r) o (s A (J a)))
section
variable {r:ai P}
def iy.cI{y}{bg}{res}{br:ι->p an}(o:iy r y bg n res λa=>aL a++br a)(g:∀a,c (aL a)=c n)(I:∀a (k:Nat)(w:an),(aL a)[k]?=h w->z9 (c (aL a)) n k w):iy r y bg n res aL:=by
 intro K B k D e i;obtain⟨fn,tmps,A,x,s,t,E⟩:=o K B k D e i;refine⟨fn,tmps,A,x,s,t,λz C l u=>E z C l λa j b v=>?_⟩;have J:eT j (j.cut (c (aL a))):=⟨rfl,λ_ _ _ o=>o,λ_ _ _=>rfl,b.mem,λx d=>d.imp id λ⟨L,F,d⟩=>⟨L,hc F,d⟩⟩
 exact .aV J (u a _ (e.gX (g a).symm (I a) b) (v.drop (Nat.le_of_eq (g a).symm)))
end
section
variable {r:ai P}
def g.eZ(o d){ah}{gB}(i:look F o=aG d 0)(a:c6 d n=h (.cells W ah))(e:h0 ah=h gB)(b:g r D be (.ae all br::ar) .normal ((o,ax (.O gB))::F) (c_.cq d .x n)):g r D be (.ae all br::ar) .normal F n:=by grind[mL,g.hf,bV.freeze]
def ix.cons{a}{o}{b}(k:look F o=b)(g:ix F a):ix F ((o,b)::a):=by
 intro j l n i d;simp only[look];cases e:af o i with
 |false=>exact g _ _ _ _ d
 |true=>
  exact tZ
end
section
variable {r:ai P}
def RY{j:aK}{i}{x}{br}{X}(I:j.kind≠.early)(w:aC[e]?=h t)(M:aV t (yielded aC x.tmps)=f)(p:bb n b)(Y:∀d,bb n d->(ac x.eval t).run P d.a=.ok (.enter X B.toArray) d.a/\ds d ((ac x.eval t).events P d.a #[]))(aj:bk r X cR dd res aL)(ax:b4 n b B (gq aO cR))(aq:g4 (c aO) cR=f)(C:dv aO n=h dd)(K:eo dd=f)(ab:∀g,eo (aL g)=f)(v:e6 aO=f)(u:∀g,c aO<=c (aL g))(E:∀g A az,bx (c_ aO (aL g) n) az A (e7 (aO++gJ (c n) (c (aL g)-c aO)) (res g))->bb (c_ aO (aL g) n) az->dc n b (c_ aO (aL g) n) az->cb r bq (G (j.M (x.put t.dst A) (.inRegion aC br::i)) ah) az):
  cb r bq (G (j.M x (.inRegion aC (e::br)::i)) ah) b:=by obtain⟨_,O⟩:=aj;refine .next a λd y=>?_;have l:=r.bM y;have k:=p.rely l;obtain⟨z,S⟩:=vP (kJ:=d.m) C k.len;obtain⟨W,o⟩:=k.sub C S K v;have au:=ax.mono l.aR.ext p.len;have aa:b4 dd {d with m:=z,own:=oA d z} B cR:=(au.sub (b:=d) C S aq).mono (n:=dd) (b:={d with m:=z}) (ao:=dd) (az:={d with m:=z,own:=oA d z}) ⟨λ_ _ _ E=>E,λaA Z L aE F=>⟨Z,L,aE,F,.refl _ _⟩⟩ W.len;refine⟨_,d,_,tz w M I (Y d k).1,⟨⟨n,n,k,k,.refl _ _⟩,ds.seen (Y d k).2⟩,.aV o (O _ B aa W bq _ λg ar A av J H Q ai=>?_)⟩;refine uA (ah:=ah) (s:=j.M x (.inRegion aC (e::br)::i)) Q J λaw T=>?_;have V:=Q.rely T;have U:=ai.trans T.aR;obtain⟨R,ag,ad,an,ae,aM,ak,N⟩:=frame k C S v (ab g) V U (u g) (H.mono T.aR.ext Q.len);refine .aV (eT.cS k V U ag aM ak N) ?_;have D:=qk (j:=j) (x:=x) (i:=i) aC e br A;rw[w]at D;simp[n0]at D;rw[D];exact E g A R ad an (l.aR.trans ae)
def eb.cell(aQ:bn P ad){d o C}{W}{aa}{e}(s:c6 d n=h (.J (eb C W aa)))(g:bW ad o=h e)(x:dW aa=f)(w:g' e [.c (.val aa)]=h (.aq (.c (.val aa)))){b}(bO:bb n b):
  (loadVar o ⟨C,0,q⟩).run P b.a=.ok aa b.a/\ds b ((loadVar o ⟨C,0,q⟩).events P b.a #[]):=by
 have aE:=ei s;have A:d<c b.m:=hV;have p:=bI A;generalize b.m[d]=L at p;obtain⟨z,⟨D,r,R⟩,I,J,N⟩:=bO.box d _ L aE p;have u:=I C _ r;have O:=(J C).2 M
 have F:bM n b [aa] [.c (.val aa)]:=⟨Rd.val x,v⟩;obtain⟨K,E,y⟩:=tu (b:=b) (n:=n) (P:=P) (aQ o e g) (j:=C) (off:=0) (B:=[aa]) (ah:=[.c (.val aa)]) (aj:=.aq (.c (.val aa))) (λt S i=>by
  simp[aN,u]
  grind) F w
 have Q:=Rd.bj y;subst Q;refine⟨E,λl a=>?_⟩;obtain⟨t,i,rfl⟩:=o7 (aQ o e g) (k:=1) (λt i=>⟨K,by simp[aN,u];grind⟩) (by have:=r3 w;grind) l a;exact qh (b8 p) O
def aT.eC(aQ:bn P ad){o C}(d){l}{e}(K:oH all F t=f)(u:t.op=.load o l)(N:bF F l=ax (.val (.pointer (h ⟨C,0,q⟩))))(s:c6 d n=h (.J (eb C W aa)))(p:bW ad o=h e)(A:dW aa=f)(M:g' e [.c (.val aa)]=h (.aq (.c (.val aa)))):
  aT r D all t F n (ax (.val aa)) n:=by
 intro U B x k Q S E O T w j v i;refine ri j v (jZ K _ _ _ x) λz y=>?_;have b:=k.rely y;have g:=eJ x l;rw[N]at g;have g:=Rd.bj (b6 g);obtain⟨I,J⟩:=eb.cell aQ s p A M b;have R:ac B.eval t=(do pure (.value (<-loadVar o ⟨C,0,q⟩))):=by simp[ac,u,g,Instr.loadAt,Instr.sureAddr]
 refine⟨.value aa,z,aa,by simp_all,.inl a,⟨⟨n,n,b,b,.refl _ _⟩,?_⟩,i aa z (Rd.val A) b y.aR⟩;simp_all
def M8(o)(a)(b):Builtin.ssaWrapNilChk_ #[o] o #[.pointer (h a),strVal "",strVal b]=pure (.pointer (h a)):=rfl
def nO(P:aI)(g:p an)(b:av)(e:Z)(name:String)(i:a3)(j:Z):Prop:=∀a,bb g a->∀d,(Go.method (d+1) b e name).run P a.a=.ok (i,j) a.a/\ds a ((Go.method (d+1) b e name).events P a.a #[])
def nO.ptr{g}{name}{k}{e}{A}{r}(l:P.info? g=h e)(j:e.methods.find? (·.name==name)=h A)(o:A.path=#[])(p:A.func=h (k,f))(s:P.underlying g=h (.pointer r)):nO P n g aa name k aa:=by
 intro u t v;have i:∀d,(typeInfo g).run P d=.ok e d:=λd=>by simp[typeInfo,l]
 have b:∀d,(underlying g).run P d=.ok (.pointer r) d:=λd=>by simp[underlying,s]
 unfold Go.method;constructor
 .simp only[cI,i,j,o,p,c0,follow,d6,receiverAt,b];rfl
 have:∀a,((do pure (k,<-receiverAt g (.val aa) f (if A.path.isEmpty then h ((name.splitOn ".").getLastD name)else q))):Sem (a3×Z)).events P u.a a=a:=λa=>by simp[receiverAt,b,Place.get]
 simp[aH,cI,i,j,o,p,c0,aJ,follow,d6,Sem.events_pure,receiverAt,b,events_typeInfo,events_underlying,Place.get];exact .nil
def nO.deref(aQ:bn P ad){C}{g}{name}{u}{e}{A}{w}(r:P.info? g=h e)(k:e.methods.find? (·.name==name)=h A)(t:A.path=#[])(v:A.func=h (u,m))(D:P.underlying g=h (.pointer o))(s:c6 d n=h (.J (eb C W aa)))(y:bW ad o=h w)(E:dW aa=f)(B:g' w [.c (.val aa)]=h (.aq (.c (.val aa)))):nO P n g (.pointer (h ⟨C,0,q⟩)) name u aa:=by
 intro J p F;have i:∀b,(typeInfo g).run P b=.ok e b:=λb=>by simp[typeInfo,r]
 have j:∀b,(underlying g).run P b=.ok (.pointer o) b:=λb=>by simp[underlying,D]
 obtain⟨x,z⟩:=eb.cell aQ s y E B p;have I:A.path.isEmpty=f:=M;unfold Go.method;constructor
 .simp only[cI,i,k,t,v,c0,follow,d6,receiverAt,j,Place.get];simp[M8,asAddr,x]
 intro l a;refine z l ?_;simp[aH,cI,i,k,t,v,c0,aJ,follow,d6,Sem.events_pure,receiverAt,j,events_typeInfo,events_underlying,Place.get]at a;simpa[M8,asAddr,x]using a
def Cr{a:aA->Z}{l}{b}{name}(e:t.op=.call {callee:=.invoke l name,args:=b,argTypes:=dn}){j}{d}(n:a l=.iface j d):
  ac a t=callMethod (.iface j d) name (b.toList.map a).toArray:=by
 have g:#[a l]++b.map a=(.iface j d::b.toList.map a).toArray:=M;have i:(Value.iface j d::b.toList.map a).toArray.extract 1 (Value.iface j d::b.toList.map a).toArray.size=(b.toList.map a).toArray:=M;have k:ac a t=invoke (.fn (.method name) #[]) (#[a l]++b.map a):=by simp[ac,e];rfl
 rw[k,g];show callMethod (.iface j d) name ((Value.iface j d::b.toList.map a).toArray.extract 1 (Value.iface j d::b.toList.map a).toArray.size)=_;rw[i]
def g.dm{an}{name}{au}{aA z}(aj:bk r au cR dd res aL)(aO)(V:nO P n an aA name au z)(H:oH all F t=f){l}{u}(y:t.op=.call {callee:=.invoke l name,args:=u,argTypes:=dn})(aa:bF F l=ax (.cg an (.val aA)))(Y:dW z=f)(aQ:k5 (ax (.val z)::u.toList.map (bF F))=gq aO cR)(aE:g4 (c aO) cR=f)(aM:dv aO n=h dd)(X:eo dd=f)(aB:∀i,eo (aL i)=f)(W:e6 aO=f)(aF:∀i,ay (c aO) (c (aL i))=f)(R:fa D t.dst=f)(aN:∀i,g r D be (.ae all br::ar) .normal (fS t.dst (e7 (aO++gJ (c n) (c (aL i)-c aO)) (res i)) F) (c_ aO (aL i) n)):g r D be (.ae all (t::br)::ar) .normal F n:=by
 intro b E N k aH ab v aG idx w d S;cases idx with
 |nil=>exact d.elim
 |cons aX idx=>
 have O:=eJ N l;rw[aa]at O;have O:=b6 O;generalize aq:E.eval l=aU at O;cases O with
 |@cg _ aT _ K aK=>
  have Z:=Rd.bj K;subst Z;obtain⟨fn,G,a,aW⟩:=aj.1;have aw:fn.name≠ "runtime.NumGoroutine":=M;have av:fn.body≠q:=M;obtain⟨ae,ak⟩:∃ae,P.types.size+Made.depth=ae+1:=⟨P.types.size+Made.depth-1,by exact cQ⟩
  have az:∀s,(program:Sem aI).run P s=.ok P s:=λs=>by simp
  have aV:∀s j,(program:Sem aI).events P s j=j:=λs j=>by simp
  have aP:b4 n b (z::u.toList.map E.eval) (gq aO cR):=by rw[<-aQ];exact uL (n:=n) (b:=b) ⟨Rd.val Y,m2 (eJ N) u.toList⟩
  refine RY (aO:=aO) w d.1 (jZ H _ _ _ N) k (B:=z::u.toList.map E.eval) (λah aC=>?_) aj aP aE aM X aB W (λi=>e' (aF i)) λi aU ag o x p=>?_
  .obtain⟨ao,ad⟩:=V ah aC ae;constructor
   .rw[Cr y aq];simp[callMethod,az,ak,ao,callFunc,G,aw,av]
   intro J e;refine ad J ?_;rw[Cr y aq]at e;simpa[callMethod,az,aV,ak,ao,callFunc,G,aw,av]using e
  refine aN i ag _ ?_ x aH ab v aG idx w d.2 λL C ai I aR aJ Q A=>S L C ai I aR aJ Q (p.trans A);cases T:t.dst with
  |none=>exact N.mono p k.len
  |some aS=>exact(N.mono p k.len).put (k9 R aS T) o
def a0.dQ{l}(g:t.op=.nilCheck l){i}(j:η l=ax (.val (.pointer (h i)))):a0 P t η n (ax (.val (.pointer (h i)))) n:=by refine .aZ λo d k b=>?_;have a:=b l;rw[j]at a;have e:=Rd.bj (b6 a);exact⟨d l,by simp[ac,g,e],a,by simp[ac,g,e]⟩
def a0.e7(aQ:bn P ad){l}(u:t.op=.load o l){cap ae i}{ag}{z}{aj}(F:η l=ax (.val (.pointer (h ⟨j,off,q⟩))))(az:off=e*i+ae)(D:n[d]?=h (.J (ck W i (.row j cap) k ag)))(ah:eg i k T ag)(y:bW ad o=h z)(Q:g' z ((fQ ae (T e)).map O.c)=h aj)(ab:e<k):a0 P t η n (.q aj) n:=by
 refine .du λb I bO E=>?_;have G:=E l;rw[F]at G;have G:=Rd.bj (b6 G);have ao:d<c b.m:=hV;have B:=bI ao;generalize b.m[d]=L at B;obtain⟨ai,a,an,H,S⟩:=bO.box d _ L D B;obtain⟨av,aA,X,aw⟩:=ck.lookup a;have aa:=(H j).2 M;have au:=an j _ X;let C:Nat->Z:=λg=>ag.getD (e*i+g) K;have J:∀g s,(fQ ae (T e))[g]?=h s->ag[e*i+(ae+g)]?=h (C (ae+g))/\Rd b.u (C (ae+g)) s:=by intro g s p;rw[ru,pY]at p;obtain⟨v,aq,ar⟩:=ah.b4 e ab (ae+g) s p;grind
 have aM:=DH (n:=n) (b:=b) (C:=C) (bg:=fQ ae (T e)) (A:=ae) (λg s p=>(J g s p).2);have R:∀g v,((aD (c (fQ ae (T e)))).map λg=>C (ae+g))[g]?=h v->b.a.cell? ⟨j,off+g,q⟩=h v:=by
  intro g v p;simp[m7]at p;by_cases U:g<c (fQ ae (T e))
  .simp[U]at p;subst p;have ak:=(J g _ (bI U)).1;simp[aN,au];grind
  grind
 obtain⟨v,V,Y⟩:=tu (b:=b) (n:=n) (P:=P) (aQ o z y) (j:=j) (off:=off) (aj:=aj) R aM Q;have w:ac I t=(do pure (.value (<-loadVar o ⟨j,off,q⟩))):=Q3;refine⟨v,by rw[w];simp[V],Y,λx r=>?_⟩;rw[w]at r;have N:x∈(loadVar o ⟨j,off,q⟩).events P b.a #[]:=by simpa[V]using r
 obtain⟨g,p,rfl⟩:=o7 (aQ o z y) (k:=c (fQ ae (T e))) (λg p=>⟨_,R g (C (ae+g)) M⟩) (by have:=r3 Q;grind) x N;exact qh (b8 B) aa
def a0.jX(aQ:bn P ad){l}(y:t.op=.slice o l q (h X) q){e}(D:bW ad o=h e)(I:e.desc=.slice W)(J:bW ad W=h a4){cap}{kd}{A}(N:η l=ax (.val (.slice (h ⟨j,0,q⟩) k cap)))(K:η X=ax (.int kd A))(z:k<=cap)(O:0<=A)(v:A<=k):a0 P t η n (ax (.val (.slice (h ⟨j,0,q⟩) A.toNat cap))) n:=by
 refine .aZ λb s C d=>?_;have i:=d l;rw[N]at i;have i:=Rd.bj (b6 i);have p:kE η q=h q:=rfl;have B:kE η (h X)=h (h A):=by simp[kE,K]
 have r:U (jc k q (h A)):=⟨O,v⟩;obtain⟨w,R,M⟩:=vM (P:=P) (kj:=f) z (j' d p) (j' d B) r b.a;have u:=(aQ o e D).run_underlying (Q:=b.a);rw[I]at u;have x:(aX f k cap q (h (s X)) q).run P b.a=.ok (0,A.toNat,cap) b.a:=w;have F:=uX (P:=P) (kj:=f) z (j' d p) (j' d B) r b.a;have E:∀g,(aX f k cap q (h (s X)) q).events P b.a g=g:=F;refine⟨_,?_,Rd.val a,?_⟩
 .simp[ac,y,i,Instr.sliceAt,u,Instr.slice,x,(aQ W a4 J).bf,gM]
 simp[ac,y,i,Instr.sliceAt,u,Instr.slice,x,E]
def Lq{b}:∀{B:p Z}{d:p N},c B=c d->∀g:Nat->Z,(∀a,a<c B->B[a]?=h (g a))->(∀a(e:N),d[a]?=h e->Rd b.u (g a) e)->bM n b B (d.map O.c)
 |[],[],_,_,_,_=>trivial
 |[],_::_,i,_,_,_=>by grind
 |_::_,[],i,_,_,_=>by grind
 |r::B,e::d,i,g,k,j=>⟨by have:=k 0 E;cases this;exact j 0 e rfl,Lq M (λa=>g (a+1)) (λa l=>by grind) λa o l=>j (a+1) o M⟩
def a0.ga(aQ:bn P ad){l}{i}(u:t.op=.typeAssert l i o m){e}(j:bW ad o=h e)(v:ve e.desc=m){ah}(F:η l=ax (.cD o ah)):a0 P t η n (.q (.agg (ah.map O.c))) n:=by
 refine .aZ λd r C p=>?_;have b:=p l;rw[F]at b;replace b:=b6 b;generalize s:r l=J at b;have x:=(aQ o e j).run_underlying (Q:=d.a);have K:∀w,e.desc≠.interface w:=by intro w y;rw[y]at v;cases v
 cases b with
 |@cD I B ah k z E D=>
  have g:(Instr.typeAssert (.iface o (.agg B.toArray)) i o m).run P d.a=.ok (.agg B.toArray) d.a/\(Instr.typeAssert (.iface o (.agg B.toArray)) i o m).events P d.a #[]=#[]:=by
   constructor
   .unfold Instr.typeAssert;simp only[cI,x,c0];cases A:e.desc<;>first|simp|simp
   unfold Instr.typeAssert;simp only[x,aH,aJ,events_underlying];cases A:e.desc<;>first|simp|simp
  exact⟨.agg B.toArray,by simp[ac,u,s,cI,g.1,c0,d6],⟨B,a,Lq k z E D⟩,by simp[ac,u,s,aH,g.1,g.2,aJ,Sem.events_pure]⟩
def g.h1(aQ:bn P ad)(d){o C}{l}{b}{e}(ao:t.op=.store o l X)(x:bW ad o=h e)(T:e.size=1)(I:bF F l=ax (.val (.pointer (h ⟨C,0,q⟩))))(J:bF F X=ax (.val b))(U:b.cells=#[b])(V:dW b=f)(p:c6 d n=h (.J (eb C W aa)))(ai:t.guard=q)(B:fa D t.dst=f)(R:g r D be (.ae all br::ar) .normal (fS t.dst .any F) (n.set d (.J (eb C W b)))):g r D be (.ae all (t::br)::ar) .normal F n:=by
 refine g.cF (ι:=Unit) (λ_=>.any) (λ_=>n.set d (.J (eb C W b))) ai B (λk ak aM bO=>?_) λ_=>R;have H:=eJ aM l;rw[I]at H;have H:=Rd.bj (b6 H);have y:=eJ aM X;rw[J]at y;have y:=Rd.bj (b6 y);have p:=ei p;have Z:d<c k.m:=hV;have G:=bI Z;generalize k.m[d]=L at G;obtain⟨an,⟨z,A,aq⟩,aw,ab,ag⟩:=bO.box d _ L p G;have O:=(ab C).2 M;have Q:=aw C _ A;have N:∀S∈[b],S.oneCell'=f:=λS av=>by have:dW S=f:=M;exact this
 have ae:=run_storeCells_at P C 0 W [b] 0 #[aa] k.a Q E N;have aA:∀i,i≠C->(k.a.setRow C #[b]).heap[i]?=k.a.heap[i]?:=λi s=>setRow_other k.a C i _ s;have aB:=setRow_heap k.a C #[aa] #[b] W (0,0) Q;obtain⟨aj,ah⟩:=bO.b_ (d:=d) (j2:=eb C W b) (cm:=L) (bh:=k.a.setRow C #[b]) p G rfl E
  (λi s au=>aA i M) (λi s=>.inl s)
  ⟨λi=>if i=C then h (.cells #[b] W (0,0))else q,⟨z,by simp,λi s=>by grind⟩,λi t s=>by grind,λi=>by grind⟩ a a a
 have u:ac ak.eval t=(do storeVar o ⟨C,0,q⟩ b;pure .skip):=by simp[ac,ao,H,y,Instr.storeAt,Instr.sureAddr]
 have Y:=ae;refine⟨(),.skip,_,K,?_,.inr ⟨a,a⟩,v,aj,ah,?_⟩
 .rw[u];simp[storeVar,(aQ o e x).bf,U,T,Y]
 intro w j;rw[u]at j;have az:w∈(storeCells ⟨C,0,q⟩ [b] 0).events P k.a #[]:=by simp[storeVar,aH,(aQ o e x).bf,T,U,aJ,events_sizeOf,d8,hn,dh,cI,c0,Sem.events_pure]at j;simpa[Y]using j
 rcases nc [b] 0 #[aa] k.a #[] Q E N w az with aC|⟨aE,_,_,rfl⟩
 .grind
 exact ob (b8 G) O (ag C O _)
def g.jF(o d)(C i){I}(H:look F o=aG d 0)(l:c6 d n=h (.cells W [.c (.S f I 0 T)]))(z:∀j b,g r D be (.code s::ar) .normal ((o,cM (.pointer (h ⟨j,0,q⟩)))::F) (n.set d (.J (eb j W (cX (.nil b) 0)))++[.J (ck C i (.nil b) 0 [])])):g r D be (.code s::ar) .normal F n:=by
 refine bY.e1 (ι:=Nat×Option Addr) (dE:=λt=>(o,cM (.pointer (h ⟨t.1,0,q⟩)))::F) (ao:=λt=>n.set d (.J (eb t.1 W (cX (.nil t.2) 0)))++[an.J (ck C i (.nil t.2) 0 [])]) (λu ai x bO=>?_) λt=>z t.1 t.2;have l:=ei l;have X:d<c u.m:=hV;have w:=bI X;generalize u.m[d]=L at w;obtain⟨j,B,rfl,ae,N,ad⟩:=bO.box d _ L l w
 match B,N with
 |[aa],⟨S,_⟩=>
  obtain⟨b,J,aM,rfl,_,_,ab,_,_⟩:=(show Rd u.u aa (.S f I 0 T)from S).b3;have U:=ab a;subst U;obtain⟨G,A⟩:=bO.b9 (cd:=u.u) (bh:=u.a) (d':=.J (eb j W (cX (.nil b) 0))) (cm:=⟨.pointer (h ⟨j,0,q⟩),[j]⟩) l w rfl (bC _) (λ_ _ _=>rfl) (λ_ _ _ _=>rfl) (λ_ _ _ V=>V) bO.mem (λp e=>⟨.inl e,bO.lt _ (b8 w) p e⟩) rfl rfl rfl
   ⟨λp=>if p=j then h (.cells #[.slice b 0 0] W (0,0))else q,⟨rfl,by simp[cX],λp e=>by grind⟩,λp Y e=>by grind,λp=>by by_cases y:p=j<;>simp[y],λp e Y=>by grind⟩
  obtain⟨R,Q⟩:=G.b0 (bU:=.J (ck C i (.nil b) 0 [])) (L:=⟨.nilFunc,[]⟩) (.refl _ _) rfl G ⟨λ_=>q,⟨rfl,by simp,by simp,rfl,rfl⟩,by simp,by simp,by simp⟩ E;have v:=A.trans Q;refine⟨(j,b),{u with m:=u.m.set d ⟨.pointer (h ⟨j,0,q⟩),[j]⟩++[⟨.nilFunc,[]⟩]},rfl,⟨x.size,x.defers.imp λ_ k=>k.mono v.ext,λM=>?_⟩,R,v⟩;simp only[look];cases e:af o M with
  |false=>exact(x.aH M).mono v.ext bO.len
  |true=>
   have y:=di e;subst y;have k:=x.aH o;rw[H]at k;obtain⟨_,ah,ag,K,O,Z⟩:=(k:cw n u _ (.ptr d 0));rw[w]at K;cases K;cases O;rw[Z];exact Rd.val a
theorem aT.fa{k:Type}{l}{ao}(u:t.guard=q)(w:ev P D t F n (λ_:k=>l) λ_=>ao):aT r D all t F n l ao:=λy p v g s j b o x a e i d=>dx.fa u w y p v g s j b o x a e i λ_=>d
section
variable {l:Nat->z}{b2:Bool->Bool->p an}{cL I:Nat}
abbrev o_(a:Bool->Bool->p an)(d b:Nat):(Nat->Bool)->p an:=λz=>a (z d) (z b)
def cn.jI(cS:af cL e=m)(dp:af I e=m)(i:∀a b,aT r D all t (dy all F l e) (b2 a b) (l e) (b2 a b)):cn r D all F l (o_ b2 cL I) e t:=by intro z _ _;have d:dk e z cL=z cL:=EG;have g:dk e z I=z I:=EF;grind
def cn.ds(aQ:bn P ad)(iL:a8 r CT)(u:∀x j,hx ad CT [] all (dy all F l e) (b2 x j) t=h (l e,q,cf):=by intro x j;cases x<;>cases j<;>rfl)(cS:af cL e=m:=by rfl)(dp:af I e=m:=by rfl)(cv:U cf:=by simp only[U,a9];omega):cn r D all F l (o_ b2 cL I) e t:=.jI cS dp λx j=>aT.eval aQ iL (u x j) cv
def cn.bI(aQ:bn P ad:=by exact bd)(iL:a8 r CT:=by first|assumption|exact a8.nil)(u:∀x j,hx ad CT [] all (dy all F l e) (b2 x j) t=h (l e,q,[]):=by intro x j;cases x<;>cases j<;>rfl)(cS:af cL e=m:=by rfl)(dp:af I e=m:=by rfl):cn r D all F l (o_ b2 cL I) e t:=.ds (cf:=[]) aQ iL u cS dp v
def cn.hd(cS:af cL e=m)(dp:af I e=m)(i:eh all cL e=f)(g:eh all I e=f)(j:aT r D all t (dy all F l e) (b2 m m) (l e) (b2 m m)):cn r D all F l (o_ b2 cL I) e t:=by intro z _ d;have a:dk e z cL=z cL:=EG;have b:dk e z I=z I:=EF;grind
def cn.gA(dp:af I cL=m)(d:eh all I cL=f)(g:aT r D all t (dy all F l cL) (b2 m m) (l cL) (b2 f m)):cn r D all F l (o_ b2 cL I) cL t:=by intro z _ e;have a:dk cL z cL=f:=zU;have b:dk cL z I=z I:=EF;grind
def cn.gB(cS:af cL I=m)(e:eh all I cL=f)(g:aT r D all t (dy all F l I) (b2 f m) (l I) (b2 f f)):cn r D all F l (o_ b2 cL I) I t:=by intro z aQ d;have a:dk I z cL=z cL:=EG;have b:dk I z I=f:=zU;grind
end
end
inductive dG where
 |nil
 |ax (d:dG) (x j:Int) (a':dG)
def et(k:av):dG->Z->(Nat->Option Obj)->Prop
 |.nil,l,a=>l=.pointer q/\∀j,a j=q
 |.ax r n j s,l,a=>∃i p o e b,l=.pointer (h ⟨i,0,q⟩)/\(a7 .i64 n/\a7 .i64 j)/\et k r p e/\et k s o b/\a i=h (.cells #[.int .i64 n,.int .i64 j,p,o] k (0,0))/\e i=q/\b i=q /\
   (∀d g,e d=h g->b d=q/\a d=h g)/\(∀d g,b d=h g->a d=h g)/\∀d g,a d=h g->d=i∨e d=h g∨b d=h g
def et.cell{o}(a:et W o aa k6):dW aa=f:=by
 cases o with
 |nil=>rw[a.1];rfl
 |ax=>obtain⟨_,_,_,_,_,rfl,_⟩:=a;rfl
section
def bb.hR{ad:Nat->Prop}(o:bb n b)(C:az.a=b.a)(M:az.u=b.u)(F:az.own=b.own)(S:c az.m=c ao)(X:c n<=c ao)(z:∀a,a<c n->¬ad a->ao[a]?=n[a]?/\az.m[a]?=b.m[a]?)(T:∀a d,(ad a∨c n<=a)->az.m[a]?=h d->∀e∈d.al,∃x L,ad x/\b.m[x]?=h L/\e∈L.al)(J:∀a i L d,(ad a∨c n<=a)->(ad i∨c n<=i)->az.m[a]?=h L->az.m[i]?=h d->∀e∈L.al,e∈d.al->a=i)(box:∀a t L,ad a->n[a]?=h t->b.m[a]?=h L->∃u d,ao[a]?=h u/\az.m[a]?=h d/\fD t L u d)(ok:fh n b ao az->∀a t L,(ad a∨c n<=a)->ao[a]?=h t->az.m[a]?=h L->ep ao az t L):bb ao az/\cN n b ao az:=by
 have K:=o.len;have Q:∀(a:Nat) t (L:Loc),n[a]?=h t->b.m[a]?=h L->∃u d,ao[a]?=h u/\az.m[a]?=h d/\fD t L u d:=λa t L aE j=>by
  by_cases y:ad a
  .grind
  obtain⟨k,p⟩:=z a (cO.1 aE).1 y;exact⟨t,L,k.trans aE,p.trans j,.refl _ _⟩
 have D:fh n b ao az:=⟨λe N R y=>M▸y,Q⟩
 have v:∀(a:Nat) (d:Loc),az.m[a]?=h d->(ad a∨c n<=a)∨(a<c n/\¬ad a/\b.m[a]?=h d):=λa d y=>by grind
 have I:∀(a:Nat) (d:Loc),az.m[a]?=h d->∀e∈d.al,∃(x:Nat) (L:Loc),b.m[x]?=h L/\e∈L.al:=λa d y e g=>by grind
 have Y:∀(a i:Nat) (L d:Loc),(ad a∨c n<=a)->¬ad i->az.m[a]?=h L->b.m[i]?=h d->∀e∈L.al,e∈d.al->False:=λa i L d k p j l e g w=>by obtain⟨x,A,B,r,O⟩:=T a L k j e g;exact p (o.a3 x i A d r l e O w▸B)
 refine⟨⟨λe N R y=>?_,S,λa t L aE j=>?_,λa i L d j l e g w=>?_,λL j e g=>?_,λe g=>?_⟩,⟨?_,?_,D.mem,?_,λd l e g=>?_,Q,?_,?_,?_,F⟩⟩
 .rw[M]at y;rw[C];exact o.mem e N R y
 .rcases v a L j with k|⟨k,p,W⟩
  .grind
  rw[(z a k p).1]at aE;exact(o.box a t L aE W).cd D K λe _=>⟨by rw[C],λN=>by rw[M]⟩
 .rcases v a L j with k|⟨_,k,p⟩<;>rcases v i d l with V|⟨_,V,U⟩
  .grind
  .grind
  .grind
  exact o.a3 a i L d p U e g w
 .obtain⟨a,s,rfl⟩:=hD j;obtain⟨x,A,B,r⟩:=I a _ (bI s) e g;rw[C];exact o.lt A (b8 B) e r
 .rw[F]at g;refine⟨C▸(o.own e g).1,λL j E=>?_⟩;obtain⟨a,s,rfl⟩:=hD j;obtain⟨x,A,B,r⟩:=I a _ (bI s) e E;exact(o.own e g).2 A (b8 B) r
 .grind
 .grind
 .grind
 .obtain⟨a,s,rfl⟩:=hD l;obtain⟨x,A,B,r⟩:=I a _ (bI s) e g;grind
 all_goals rw[C]
def bb.j7(t:bb n b){A i}{L e}{bE}{p}(aE:n[d]?=h A)(ae:b.m[d]?=h L)(aa:fD A L i e)(Y:c p=bE.length)(sub:∀w∈e::p,∀x∈w.al,x∈L.al)(U:(e::p).Pairwise λw F=>∀x∈w.al,x∉F.al)(ok:∀l:a5,l.a=b.a->l.u=b.u->l.m=b.m.set d e++p->ep (n.set d i++bE) l i e/\∀(D:Nat) v B,bE[D]?=h v->p[D]?=h B->ep (n.set d i++bE) l v B):
  bb (n.set d i++bE) {b with m:=b.m.set d e++p}/\cN n b (n.set d i++bE) {b with m:=b.m.set d e++p}:=by
 have T:=t.len;have X:d<c n:=(cO.1 aE).1;have Z:=iA.1 U;have r:∀g o,(g=d∨c n<=g)->(b.m.set d e++p)[g]?=h o->(g=d/\o=e)∨(c n<=g/\p[g-c n]?=h o):=λg o j k=>by grind
 refine bb.hR (ad:=λg=>g=d) t a a a M E (λg j C=>M) (λg o j k W S=>M) (λg z o V j u k s W S ab=>?_) (λg v o j y k=>?_) (λQ g v o j y k=>?_)
 .rcases r g o j k with⟨cS,rfl⟩|⟨cS,dp⟩<;>rcases r z V u s with⟨R,rfl⟩|⟨R,O⟩
  .omega
  .grind
  .grind
  obtain⟨I,J⟩:=cO.1 dp;obtain⟨K,N⟩:=cO.1 O;exact E7
 .grind
 grind
def ip:dG->Nat->O
 |.nil,_=>.c .bc
 |.ax ..,a=>.aQ a
def hg(a:av):dG->p an
 |.nil=>[]
 |.ax e b d g=>[.J (et a (.ax e b d g))]
def mn(a:p Nat):dG->Z->(Nat->Option Obj)->p Loc
 |.nil,_,_=>[]
 |.ax ..,d,b=>[⟨d,a.filter λe=>(b e).isSome⟩]
def je:dG->Nat->p an->p an
 |.nil,_,a=>a
 |.ax ..,b,a=>a.set b .x
def bb.gx(bO:bb n b){lt cq}{p r:Int}(aE:n[d]?=h (.J (et W (.ax lt p r cq)))):
  ∃g,g.a=b.a/\(∃j L,b.m[d]?=h L/\L.v=.pointer (h ⟨j,0,q⟩)/\g.m[d]?=h ⟨L.v,[j]⟩)/\bb (n.set d (.cells W [.c (.int .i64 p),.c (.int .i64 r),ip lt (c n),ip cq (c n+c (hg W lt))])++(hg W lt++hg W cq)) g /\
   cN n b (n.set d (.cells W [.c (.int .i64 p),.c (.int .i64 r),ip lt (c n),ip cq (c n+c (hg W lt))])++(hg W lt++hg W cq)) g:=by
 have ar:d<c n:=(cO.1 aE).1;have Y:d<c b.m:=hV;have E:=bI Y;generalize b.m[d]=L at E;obtain⟨I,⟨j,D,C,i,y,A,⟨Z,z⟩,t,u,aj,ae,aM,U,ag,ah⟩,aa,J,ad⟩:=bO.box d _ L aE E;have aq:=bO.len;have O:j∈L.al:=(J j).2 M;refine⟨{b with m:=b.m.set d ⟨.pointer (h ⟨j,0,q⟩),[j]⟩++(mn L.al lt D i++mn L.al cq C y)},rfl,⟨j,L,E,A,M⟩,bO.j7 aE E (show _=_ from A.symm) ?_ ?_ ?_ λg V e l=>?_⟩
 .cases lt<;>cases cq<;>rfl
 .intro bB e X B;rcases fl.1 e with rfl|e
  .grind
  rcases gk.1 e with e|e
  .cases lt with
   |nil=>cases e
   |ax=>rw[mn,gW]at e;grind
  cases cq with
  |nil=>cases e
  |ax=>rw[mn,gW]at e;grind
 .refine iA.2 ⟨λbB e X B au=>?_,?_⟩
  .rw[gW]at B;subst B;rcases gk.1 e with e|e
   .cases lt with
    |nil=>cases e
    |ax=>rw[mn,gW]at e;grind
   cases cq with
   |nil=>cases e
   |ax=>rw[mn,gW]at e;grind
  cases lt<;>cases cq<;>simp[mn,p1,hY,us,iA,List.Pairwise.nil,gW,forall_eq,sq,false_implies,implies_true,a9]
  exact EJ
 have H:∀X o,i X=h o->I X=h o:=λX o k=>(U X o k).2;have ab:ep (n.set d (.cells W [.c (.int .i64 p),.c (.int .i64 r),ip lt (c n),ip cq (c n+c (hg W lt))])++(hg W lt++hg W cq)) g (.J (et W lt)) ⟨D,L.al.filter λX=>(i X).isSome⟩:=
  ⟨i,t,λX o k=>by grind,λX=>⟨λk=>(kB.1 k).2,λk=>kB.2 ⟨(J X).2 EJ,k⟩⟩,λX B o=>by rw[e];grind⟩
 have ai:ep (n.set d (.cells W [.c (.int .i64 p),.c (.int .i64 r),ip lt (c n),ip cq (c n+c (hg W lt))])++(hg W lt++hg W cq)) g (.J (et W cq)) ⟨C,L.al.filter λX=>(y X).isSome⟩:=
  ⟨y,u,λX o k=>by grind,λX=>⟨λk=>(kB.1 k).2,λk=>kB.2 ⟨(J X).2 EJ,k⟩⟩,λX B o=>by rw[e];grind⟩
 have F:=t.cell;have x:=u.cell;have K:g.a.heap[j]?=h (.cells (List.toArray [.int .i64 p,.int .i64 r,D,C]) W (0,0)):=M;have Q:∀o,g.u j o=q:=λo=>by rw[e];grind
 have R:∀w,(b.m.set d ⟨.pointer (h ⟨j,0,q⟩),[j]⟩++(mn L.al lt D i++mn L.al cq C y))[c n+w]?=(mn L.al lt D i++mn L.al cq C y)[w]?:=λw=>by grind
 have s:∀w,(n.set d (.cells W [.c (.int .i64 p),.c (.int .i64 r),ip lt (c n),ip cq (c n+c (hg W lt))])++(hg W lt++hg W cq))[c n+w]?=(hg W lt++hg W cq)[w]?:=λw=>by grind
 refine⟨⟨j,_,a,K,⟨Rd.int Z,Rd.int z,?_,?_,v⟩,Q⟩,?_⟩
 .cases lt with
  |nil=>rw[t.1];exact Rd.bc
  |ax=>exact⟨λS aE=>by have G:=(s 0).symm.trans aE;cases G;rfl,_,by rw[l];exact R 0,rfl,F⟩
 .cases cq with
  |nil=>rw[u.1];exact Rd.bc
  |ax=>
   cases lt with
   |nil=>exact⟨λS aE=>by rw[s]at aE;cases aE;rfl,_,by rw[l];exact R 0,rfl,x⟩
   |ax=>exact⟨λS aE=>by rw[s]at aE;cases aE;rfl,_,by rw[l];exact R 1,rfl,x⟩
 intro ao ak an T N;cases lt<;>cases cq<;>simp only[hg,mn,p1,hY,us,List.getElem?_nil]at T N
 .cases T
 .grind
 .grind
 grind
def Hn(t:bb n b){o}(k:cw n b aa (ip o e))(l:o≠.nil->n[e]?=h (.J (et W o))):
  ∃i d,et W o aa i/\(∀g j,i g=h j->b.a.heap[g]?=h j)/\(∀g,g∈d↔(i g).isSome=f)/\(∀g∈d,∀j,b.u g j=q)/\(match o with|.nil=>d=[]|.ax ..=>b.m[e]?=h ⟨aa,d⟩):=by
 cases o with
 |nil=>
  have k:Rd b.u aa .bc:=k;cases k;exact⟨λ_=>q,[],⟨a,λ_=>rfl⟩,by simp,by simp,by simp,a⟩
 |ax=>
  obtain⟨_,L,r,rfl,_⟩:=k;obtain⟨i,s,u,p,v⟩:=t.box e _ L (l nofun) r;exact⟨i,L.al,s,u,p,v,r⟩
def rI:dG->Nat->Z->p Loc->p Loc
 |.nil,_,_,a=>a
 |.ax ..,b,d,a=>a.set b ⟨d,[]⟩
def bb.cW(t:bb n b){lt cq}{F j}(aE:n[d]?=h (.cells W [.c (.int .i64 F),.c (.int .i64 j),ip lt e,ip cq w]))(I:lt≠.nil->n[e]?=h (.J (et W lt)))(J:cq≠.nil->n[w]?=h (.J (et W cq)))(G:lt≠.nil->cq≠.nil->e≠w):
  ∃r,r.a=b.a/\(∃L,b.m[d]?=h L/\∃U,r.m[d]?=h U/\U.v=L.v)/\bb (je cq w (je lt e (n.set d (.J (et W (.ax lt F j cq)))))) r/\cN n b (je cq w (je lt e (n.set d (.J (et W (.ax lt F j cq)))))) r:=by
 have aV:d<c n:=(cO.1 aE).1;have aU:=t.len;have N:d<c b.m:=y;have ab:=bI N;generalize b.m[d]=L at ab;obtain⟨p,B,rfl,aK,u,aL⟩:=t.box d _ L aE ab
 match B,u with
 |[aC,aB,Q,R],⟨ae,ag,aM,az,_⟩=>
 obtain⟨s,A,ai,aF,aG,aH,X⟩:=Hn t aM I;obtain⟨T,C,d1,d2,d3,d4,e2⟩:=Hn t az J;have ae:Rd b.u aC (.int .i64 F):=ae;have ag:Rd b.u aB (.int .i64 j):=ag;cases ae with|int an=>
 cases ag with|int ao=>
 have aS:p∉A:=λl=>by
  cases lt with
  |nil=>grind
  |ax=>have:=t.a3 d e _ _ ab X p E l;grind
 have aT:p∉C:=λl=>by
  cases cq with
  |nil=>grind
  |ax=>have:=t.a3 d w _ _ ab e2 p E l;grind
 have aP:∀i∈A,i∉C:=λi l aA=>by
  cases lt with
  |nil=>grind
  |ax=>
   cases cq with
   |nil=>grind
   |ax=>exact G nofun nofun (t.a3 e w _ _ X e2 i l aA)
 have z:s p=q:=by cases l:s p with|none=>rfl|some x=>grind
 have aR:T p=q:=by cases l:T p with|none=>rfl|some x=>grind
 have aw:∀i x,s i=h x->T i=q:=λi x l=>by
  cases u:T i with
  |none=>rfl
  |some K=>grind
 have ok:∀V r,r.a=b.a->r.u=b.u->ep V r (.J (et W (.ax lt F j cq))) ⟨.pointer (h ⟨p,0,q⟩),p::(A++C)⟩:=λV r ak aj=>by
  refine⟨λi=>if i=p then h (.cells #[.int .i64 F,.int .i64 j,Q,R] W (0,0))else(s i).or (T i),⟨p,Q,R,s,T,a,⟨an,ao⟩,ai,d1,bs a,z,aR,λi x l=>⟨aw i x l,M⟩,λi x l=>?_,λi x l=>?_⟩,λi x l=>?_,λi=>?_,λi D x=>?_⟩
  .have:i≠p:=M;dsimp only;rw[bm this,l];cases u:s i with
   |none=>rfl
   |some K=>grind
  .by_cases Z:i=p
   .grind
   dsimp only at l;rw[bm Z]at l;cases u:s i with
   |none=>grind
   |some K=>grind
  .rw[ak];by_cases Z:i=p
   .grind
   dsimp only at l;rw[bm Z]at l;cases u:s i with
   |none=>grind
   |some K=>grind
  .grind
  rw[aj];grind
 refine⟨{b with m:=rI cq w R (rI lt e Q (b.m.set d ⟨.pointer (h ⟨p,0,q⟩),p::(A++C)⟩))},rfl,?_⟩
 classical
 have aX:lt≠.nil->e<c n/\e≠d:=λl=>⟨(cO.1 (I l)).1,λZ=>by grind⟩
 have aN:cq≠.nil->w<c n/\w≠d:=λl=>⟨(cO.1 (J l)).1,λZ=>by grind⟩
 have ar:b.m[d]?=h ⟨.pointer (h ⟨p,0,q⟩),[p]⟩:=ab;let ad:Nat->Prop:=λo=>o=d∨(lt≠.nil/\o=e)∨(cq≠.nil/\o=w);have O:∀o,(je cq w (je lt e (n.set d (.J (et W (.ax lt F j cq))))))[o]?=if o=d then h (.J (et W (.ax lt F j cq)))else if(lt≠.nil/\o=e)∨(cq≠.nil/\o=w)then h .x else n[o]?:=λo=>by cases lt<;>cases cq<;>simp[je,re,sh]<;>grind
 have Y:∀o,(rI cq w R (rI lt e Q (b.m.set d ⟨.pointer (h ⟨p,0,q⟩),p::(A++C)⟩)))[o]?=if o=d then h ⟨.pointer (h ⟨p,0,q⟩),p::(A++C)⟩else if cq≠.nil/\o=w then h ⟨R,[]⟩else if lt≠.nil/\o=e then h ⟨Q,[]⟩else b.m[o]?:=λo=>by cases lt<;>cases cq<;>simp[rI,re,sh]<;>grind
 have Z_:∀S e d,c (je S e d)=c d:=λS e d=>by cases S<;>simp[je]
 have Z':∀S e au d,c (rI S e au d)=c d:=λS e au d=>by cases S<;>simp[rI]
 have aI:∀i∈A,lt≠.nil/\b.m[e]?=h ⟨Q,A⟩:=λi D=>by grind
 have aJ:∀i∈C,cq≠.nil/\b.m[w]?=h ⟨R,C⟩:=λi D=>by grind
 refine⟨⟨_,ar,_,(Y d).trans (bs a),a⟩,bb.hR (ad:=ad) t a a a M M (λo v aQ=>M) (λo ah v k i D=>?_) (λo aO ah ax v aq k aa i D aW=>?_) (λo av ah v g k=>?_) (λ_ o av ah v g k=>?_)⟩
 .rw[Y]at k;split at k
  .cases k;rcases fl.1 D with rfl|D
   .grind
   rcases gk.1 D with D|D
   .grind
   grind
  have:o<c b.m∨c b.m<=o:=dY _ _;grind
 .rw[Y]at k aa;grind
 .rw[O,Y];rcases v with rfl|⟨l,rfl⟩|⟨l,rfl⟩
  .rw[ar]at k;cases k;rw[aE]at g;cases g;exact⟨_,_,bs a,bs a,a⟩
  .have H:b.m[o]?=h ⟨Q,A⟩:=M;rw[I l]at g;rw[H]at k;cases g;cases k;grind[fD]
  have H:b.m[o]?=h ⟨R,C⟩:=M;rw[J l]at g;rw[H]at k;cases g;cases k;grind[fD]
 rw[O]at g;rw[Y]at k;split at g
 .grind
 split at g
 .cases g;trivial
 grind
def eG:dG->N
 |.nil=>.bc
 |.ax d a b e=>.O [.int .i64 a,.int .i64 b,eG d,eG e]
def et.rd{W}{bB}:∀{p:dG}{s:Z}{e:Nat->Option Obj},et W p s e->(∀d B b j,e d=h (.cells B b j)->∀o r,B[o]?=h r->bB d o=h r)->Rd bB s (eG p)
 |.nil,_,_,g,_=>by rw[g.1];exact .bc
 |.ax J u v N,_,e,⟨t,F,E,x,R,y,⟨C,A⟩,l,n,I,_,_,z,D,_⟩,k=>by
  subst y;have Q:=l.rd (bB:=bB) λd B b j g=>k d B b j (z d _ g).2;have M:=n.rd (bB:=bB) λd B b j g=>k d B b j (D d _ g);have O:=k t _ _ _ I;refine Rd.O t 0 (λi=>[Value.int .i64 u,.int .i64 v,F,E].getD i K) (λi w a=>?_) (λi w a=>?_)
  .match i,a with
   |0,_|1,_|2,_|3,_=>grind
  .match i,a with
   |0,a=>cases a;exact Rd.int C
   |1,a=>cases a;exact Rd.int A
   |2,a=>grind
   |3,a=>grind
def bb.gi(i:bb n b){o}(aE:n[d]?=h (.J (et W o))):
  ∃k,k.a=b.a/\k.m=b.m/\(∀L,b.m[d]?=h L->Rd k.u L.v (eG o))/\bb (n.set d .x) k/\cN n b (n.set d .x) k:=by
 have N:d<c n:=(cO.1 aE).1;have M:=i.len;have x:=bI (show d<c b.m by omega);generalize b.m[d]=L at x;obtain⟨w,T,E,K,O⟩:=i.box d _ L aE x;let j:Mem:=λe g=>match w e with|some (.cells B _ _)=>B[g]?|_=>b.u e g
 have D:∀e,e∉L.al->∀g,j e g=b.u e g:=λe u g=>by grind
 have Q:∀e g v,b.u e g=h v->j e g=h v:=λe g v s=>by grind
 have z:cN n b (n.set d .x) {b with u:=j}:=by
  refine⟨bC _,λ_ _ _=>rfl,Q,λe _ F g=>D e (F L (b8 x)) g,λp l e u=>.inr ⟨p,l,u⟩,λy A p r l=>?_,a,a,a,a⟩;by_cases t:d=y
  .subst t;rw[aE]at r;cases r;exact⟨.x,p,by grind,l,a⟩
  exact⟨A,p,by grind,l,.refl _ _⟩
 refine⟨{b with u:=j},rfl,rfl,λp l=>?_,⟨λe g v s=>?_,by grind,λy A p r l=>?_,i.a3,i.lt,i.own⟩,z⟩
 .rw[x]at l;cases l;exact T.rd λe B C U u g V X=>by grind
 .by_cases u:e∈L.al
  .have s:j e g=h v:=s;cases I:w e with
   |none=>grind
   |some S=>
    have R:=E e S I;simp[j,I]at s;split at s
    .rename_i B C U t;cases t;show b.a.cell? _=_;simp[aN,R,s]
    grind
  exact i.mem e g v ((D e u g).symm.trans s)
 by_cases t:d=y
 .subst t;rw[ij N]at r;cases r;trivial
 rw[kA t]at r;exact(i.box y A p r l).cd z.ext M λe u=>⟨a,λg=>D e (λJ=>t (i.a3 d y L p x l e J u)) g⟩
end
section
variable {r:ai P}
def bV.gw{d}{o}{j}(e:bV D n b F d)(i:c b.m=c n)(a:cN n b ao az)(p:bx ao az (d.tmps.getD o K) j):bV D ao az ((o,j)::F) d:=
 ⟨e.size,e.defers.imp λ_ g=>g.mono a.ext,λk=>by
  simp only[look];cases l:af o k with
  |false=>exact(e.aH k).mono a.ext i
  |true=>grind[Nat.eq_of_beq_eq_true]⟩
def g.gx(o d){W}{lt cq}{p j}(B:look F o=.q (.aq (.aQ d)))(e:c6 d n=h (.J (et W (.ax lt p j cq))))(k:g r D be (.code s::ar) .normal ((o,aG d 0)::F) (n.set d (.cells W [.c (.int .i64 p),.c (.int .i64 j),ip lt (c n),ip cq (c n+c (hg W lt))])++(hg W lt++hg W cq))):g r D be (.code s::ar) .normal F n:=by refine g.aV (λN K t b=>?_) k;have w:=t.aH o;rw[B]at w;obtain⟨_,L,C,y,_⟩:=w;obtain⟨l,i,⟨E,J,a,v,z⟩,A,u⟩:=b.gx (ei e);rw[C]at a;cases a;have x:d<c n:=(cO.1 (ei e)).1;refine⟨l,i,t.gw b.len u ⟨λI aE=>?_,_,E,z,v,y.trans v⟩,A,u⟩;rw[ky M,ij x]at aE;cases aE;rfl
def g.cW(o d e w){W}{lt cq}{a j}(S:look F o=aG d 0)(p:c6 d n=h (.cells W [.c (.int .i64 a),.c (.int .i64 j),ip lt e,ip cq w]))(y:lt≠.nil->c6 e n=h (.J (et W lt)))(A:cq≠.nil->c6 w n=h (.J (et W cq)))(Q:lt≠.nil->cq≠.nil->e≠w)(C:g r D be (.code s::ar) .normal ((o,.q (.aq (.aQ d)))::F) (je cq w (je lt e (n.set d (.J (et W (.ax lt a j cq))))))):g r D be (.code s::ar) .normal F n:=by
 refine g.aV (λaa Z I l=>?_) C;have K:=I.aH o;rw[S]at K;obtain⟨_,L,ad,V,O,ae⟩:=K;obtain⟨E,x,⟨N,k,v,T,z⟩,R,J⟩:=l.cW (ei p) (λi=>ei (y i)) (λi=>ei (A i)) Q;rw[V]at k;cases k;have M:d<c n:=(cO.1 (ei p)).1;have t:(je cq w (je lt e (n.set d (.J (et W (.ax lt a j cq))))))[d]?=h (.J (et W (.ax lt a j cq)))∨(je cq w (je lt e (n.set d (.J (et W (.ax lt a j cq))))))[d]?=h .x:=by
  have ab:(n.set d (.J (et W (.ax lt a j cq))))[d]?=h (.J (et W (.ax lt a j cq))):=ij M;have Y:∀u B b,b[d]?=h (.J (et W (.ax lt a j cq)))∨b[d]?=h .x->(je u B b)[d]?=h (.J (et W (.ax lt a j cq)))∨(je u B b)[d]?=h .x:=λu B b i=>by
   cases u with
   |nil=>exact i
   |ax=>simp[je,re];grind
  grind
 refine⟨E,x,I.gw l.len J ⟨λX aE=>?_,v,T,?_,?_⟩,R,J⟩
 .rcases t with t|t<;>(rw[t]at aE;cases aE;rfl)
 .grind
 exact hp
def g.gi(o d){W}{t}(w:look F o=.q (.aq (.aQ d)))(i:c6 d n=h (.J (et W t)))(b:g r D be (.code s::ar) .normal ((o,ax (eG t))::F) (c_.cq d .x n)):g r D be (.code s::ar) .normal F n:=by rw[mL]at b;refine g.aV (λA z k a=>?_) b;have p:=k.aH o;rw[w]at p;obtain⟨_,L,y,u,_⟩:=p;obtain⟨j,e,_,x,v,l⟩:=a.gi (ei i);exact⟨j,e,k.gw a.len l (show Rd _ _ _ from u▸x L y),v,l⟩
end
section
variable {r:ai P}{aM:fq}{aj:Exit}
def nQ(i:Nat)(aM:fq):fq:=λl k g=>∃d a,(∀e j,bV i g e k j->bb g e->∃b:a5,b.a=e.a/\bV i a b d j/\bb a b/\cN g e a b)/\aM l d a
theorem nQ.of(d:aM aj F n):nQ D aM aj F n:=⟨F,n,λe g b a=>⟨e,rfl,b,a,.refl _ _⟩,d⟩
def nQ.step{d}(v:∀b e,bV D n b F e->bb n b->∃a:a5,a.a=b.a/\bV D ao a d e/\bb ao a/\cN n b ao a)(y:nQ D aM aj d ao):nQ D aM aj F n:=by obtain⟨r,g,l,B⟩:=y;refine⟨r,g,λb e t o=>?_,B⟩;obtain⟨z,i,w,k,p⟩:=v b e t o;obtain⟨u,j,x,A,s⟩:=l z e w k;exact⟨u,j.trans i,x,A,p.trans s⟩
theorem nQ.freeze(o d){W}{ah}{gB}(j:look F o=aG d 0)(b:c6 d n=h (.cells W ah))(g:h0 ah=h gB)(e:nQ D aM aj ((o,ax (.O gB))::F) (c_.cq d .x n)):nQ D aM aj F n:=by rw[mL]at e;exact .step (λl k i a=>bV.freeze o d j b g i a) e
def db.iX(K:db r D s (nQ D aM) F n):db r D s aM F n:=by
 intro T I R u J N o E t d p;refine K T I R u J N o E t d λA U C g b x O a i=>?_;obtain⟨k,l,S,x⟩:=x;obtain⟨e,Q,M,z,y⟩:=S g b O a;have B:=y.tooU a;have j:=p A k l e b x M z (i.trans B);have w:eT g e:=.of a z Q B;cases A<;>first
  |exact j.elim
  |exact .aV w j
  |exactλpre=>.aV w (j pre)
  |exactλpre v=>.aV w (j pre v)
def db.ba(d)(ao){dq}(p:iO F d=h ab)(J:U ab)(b:jk n ao=h dq)(w:U dq)(M:db r D s aM d ao):db r D s aM F n:=by intro y x K a j v l B u e t;have o:=jN b w;have A:=(o y a).2.1;exact M y x ((K.le (eC p J)).al o a) (o y a).1 j v l B u e λC E i z k N I b g=>t C E i z k N I b ((A.tooU a).trans g)
def db.jO{l}{ab}{assign body}{g}{o3}{d:ι->p an}(o:∀e i,bV D n e F i->bb n e->∃j:p Z,i.eval l=.func (.func g) #[] j.toArray/\b4 n e j o3)(s:bk r g (.q (.aq (.aQ (c n)))::o3) (n++[.loop D F {state:=.ready,pending:=q,fn:=0,tmps:=#[],params:=ab,assign:=assign,body:=body,defers:=0}]) res d)(a:∀b,∃fT,(d b)[c n]?=h (.loop D F fT)/\fT.state≠.busy/\∃k,yM fT.pending=h k/\aM k F ((d b).set (c n) .x++[.bn])):db r D (.rangeFunc l ab assign body) aM F n:=
 db.rangeFunc (fT:=λb=>(a b).choose) o s (λb=>⟨(a b).choose_spec.1,(a b).choose_spec.2.1⟩) λb=>(a b).choose_spec.2.2
def bk.jc{d}{fn}{args}{ao:ι->p an}(B:P.funcs[d]?=h fn)(x:(fn.name== "runtime.NumGoroutine")=m)(i:fn.body=h s)(v:ay args.length fn.ntmps=f)(y:db r fn.ntmps s (nQ fn.ntmps λw l b=>∃k,kZ P fn n.length (res k) (ao k) w l b) (hZ 0 args) n):bk r d args n res ao:=
 bk.gv B x i (e' v) λC t d z u A e o j a g=>db.iX y C t d z u A e o j a g
def kZ.cells(aQ:bn P ad){fn}{d}{res}(aO)(e:ts ad fn.results.toList aO F res=h ab)(l:U ab)(k:dv aO n=h ao)(j:l2 ao=f)(i:e6 aO=f)(g:∀b,b<d->aO[b]?=h b):kZ P fn d res ao .ret F n:=by refine⟨.inl a,aO,?_⟩;unfold ts at e;grind[oO.e']
end
def x2:O->Option Z
 |.c (.val a)=>h a
 |_=>q
def uZ:p O->Option (p Z)
 |[]=>h []
 |a::d=>match x2 a with
  |some e=>match uZ d with
   |some b=>h (e::b)
   |none=>q
  |none=>q
def x3:z->Option Z
 |.q (.aq b)=>x2 b
 |.q (.agg a)=>match uZ a with
  |some d=>h (.agg d.toArray)
  |none=>q
 |_=>q
def sT:p z->Option (p Z)
 |[]=>h []
 |a::d=>match x3 a with
  |some e=>match sT d with
   |some b=>h (e::b)
   |none=>q
  |none=>q
section
variable {r:ai P}
def I1{d}:∀{a:O},cw n b aa a->x2 a=h d->aa=d
 |.c (.val i),g,e=>by cases e;exact Rd.bj g
theorem I2:∀{e:p O}{B a:p Z},bM n b B e->uZ e=h a->B=a
 |[],[],a,_,g=>by cases g;rfl
 |[],_::_,_,d,_=>d.elim
 |_::_,[],_,d,_=>d.elim
 |k::l,r::B,a,d,g=>by
  simp[uZ]at g;cases i:x2 k with
  |none=>grind
  |some s=>
   cases j:uZ l with
   |none=>grind
   |some o=>
    simp[i,j]at g;subst g;rw[I1 d.1 i,I2 d.2 j]
def XJ{g}:∀{d:z},bx n b aa d->x3 d=h g->aa=g
 |.q (.aq j),e,a=>I1 e a
 |.q (.agg i),⟨B,k,e⟩,a=>by simp[x3]at a;grind[I2]
def Cp:∀{e:p z}{B a:p Z},b4 n b B e->sT e=h a->B=a
 |[],[],a,_,g=>by cases g;rfl
 |[],_::_,_,d,_=>d.elim
 |_::_,[],_,d,_=>d.elim
 |k::l,r::B,a,d,g=>by
  simp[sT]at g;cases i:x3 k with
  |none=>grind
  |some s=>
   cases j:sT l with
   |none=>grind
   |some o=>
    simp[i,j]at g;subst g;rw[XJ d.1 i,Cp d.2 j]
def hX(P:aI)(i:Nat)(e:ap)(g:bH)(j:p an)(d:a3)(args:p Z):Prop:=∀k b,bV i j k g b->∀a,(ac b.eval e).run P a=(callFunc d args.toArray).run P a/\(ac b.eval e).events P a #[]=(callFunc d args.toArray).events P a #[]
def hX.d_{a}{args}(e:t.op=.call {callee:=.value (.func a),args:=ag,argTypes:=dn})(j:sT (ag.toList.map (bF F))=h args):hX P D t F n a args:=by
 intro o b i p;have k:=Cp (m2 (eJ i) ag.toList) j;have d:ag.map b.eval=args.toArray:=M;have g:b.eval (.func a)=.func (.func a) #[] #[]:=rfl;have l:ac b.eval t=callFunc a args.toArray:=by simp[ac,e,resolve,g,Deferred.ofValue,invoke,d]
 grind
def hX.invoke{r}{i}{name}{e}{o u}{args}(k:t.op=.call {callee:=.invoke l name,args:=i,argTypes:=dn})(x:bF F l=ax (.val (.iface e o)))(w:sT (i.toList.map (bF F))=h args)(d:∀a,(Go.method (P.types.size+Made.depth) e o name).run P a=.ok (r,u) a/\∀b,(Go.method (P.types.size+Made.depth) e o name).events P a b=b):hX P D t F n r (u::args):=by
 intro z y s a;have g:=eJ s l;rw[x]at g;have g:=Rd.bj (b6 g);have j:=Cp (m2 (eJ s) i.toList) w;have p:∀a,(program:Sem aI).run P a=.ok P a:=λa=>by simp
 have v:∀a b,(program:Sem aI).events P a b=b:=λa b=>by simp
 rw[Cr k g,j];constructor
 .simp[callMethod,p,(d a).1]
 simp[callMethod,p,v,(d a).1,(d a).2]
structure ju(P:aI)(ae:a3)(aj:Array Z->Sem Z):Prop where
 fn:∃fn,P.funcs[ae]?=h fn/\(fn.name== "runtime.NumGoroutine")=m/\fn.body.isNone=f/\Extern.findNext fn=q/\Extern.find fn=h aj
def ju.run{d}{g:Array Z->Sem Z}(r:ju P d g){args}{e}(o:(g args).run P e=.ok aa bh):(callFunc d args).run P e=.ok (.value aa) bh/\∀a,(callFunc d args).events P e a=(g args).events P e (a.push ⟨.mark (.extern d),m,f⟩):=by
 obtain⟨fn,n,p,k,b,l⟩:=r.fn;have i:fn.name≠ "runtime.NumGoroutine":=M;have j:fn.body=q:=dA;constructor
 .rw[run_callFunc_extern n p k b l,o];rfl
 intro a;simp[callFunc,n,i,j,b,l,o]
def ev.ext{B:ι->z}{d:ι->p an}{s}{r:Array Z->Sem Z}{args}(N:hX P D t F n s args)(J:ju P s r)(l:∀g,bb n g->∃j b o,(r args.toArray).run P g.a=.ok o b.a/\bx (d j) b o (B j)/\bb (d j) b/\cN n g (d j) b/\∀k,∀e∈(r args.toArray).events P g.a k,e∈k∨h1 g e):ev P D t F n B d:=by
 intro g C I w;obtain⟨u,v⟩:=N g C I g.a;obtain⟨j,b,o,M,x,y,A,O⟩:=l g w;obtain⟨K,E⟩:=J.run M;refine⟨j,.value o,b,o,u.trans K,.inl a,x,y,A,λe i=>?_⟩;rw[v,E]at i;rcases O _ e i with l|l
 .simp at l;subst l;exact .inr ⟨s,a⟩
 grind
def ev.ec{i}{e:Array Z->Sem Z}{args}{l}(o:hX P D t F n i args)(j:ju P i e)(k:∀d,(e args.toArray).run P d=.ok aa d)(s:∀d a,(e args.toArray).events P d a=a)(p:∀b,bx n b aa l):ev P D t F n (λ_:Unit=>l) λ_=>n:=
 .ext o j λb g=>⟨(),b,aa,k b.a,p b,g,.refl _ _,λa r u=>.inl M⟩
def ev.g4{v}{i:Array Z->Sem Z}{args}{aa:Nat->Z}{l:Nat->z}{bz}(J:hX P D t F n v args)(A:ju P v i)(I:∀p,(i args.toArray).run P p=.ok (aa p.heap.size) (p.alloc (.cells #[bz] W)))(Q:∀p j,(i args.toArray).events P p j=j)(K:∀r n d,bx n d (aa r) (l r)):
  ev P D t F n l λr=>n++[.J (eb r W bz)]:=
 .ext J A λd g=>by
  have u:cN n d n {d with a:=d.a.alloc (.cells #[bz] W)}:=⟨by simp,λe b _=>iM _ _ b,λ_ _ _ w=>w,λ_ _ _ _=>rfl,λL C e b=>.inr ⟨L,C,b⟩,λN bU L k s=>⟨bU,L,k,s,.refl _ _⟩,rfl,rfl,rfl,rfl⟩
  have O:∀t,d.u d.a.heap.size t=q:=λt=>by
   cases o:d.u d.a.heap.size t with
   |none=>rfl
   |some aa=>exact absurd (g.block o) (wS _)
  have k:=(g.cY (bh:=d.a.alloc (.cells #[bz] W)) (cd:=d.u) E (λe b=>iM d.a _ b) (λe b t=>rfl) (λe b t aa o=>by have:=g.block o;omega) a a a).1;obtain⟨y,x⟩:=k.b0 (bU:=.J (eb d.a.heap.size W bz)) (L:=⟨.pointer (h ⟨d.a.heap.size,0,q⟩),[d.a.heap.size]⟩) u rfl g
   ⟨λe=>if e=d.a.heap.size then h (.cells #[bz] W (0,0))else q,⟨rfl,by simp,λe b=>by grind⟩,λe t b=>by
    by_cases i:e=d.a.heap.size
    .subst i;simp[dH]at b;grind[lT]
    grind,λe=>by by_cases i:e=d.a.heap.size<;>simp[i],λe b t=>by grind⟩
   (λe b=>by simp_all)
  exact⟨d.a.heap.size,_,_,I d.a,K _ _ _,y,x,λj B w=>.inl M⟩
def eb.own{C}(j:c6 d n=h (.J (eb C W aa)))(bO:bb n b):b.a.heap[C]?=h (.cells #[aa] W (0,0))/\b.a.cell? ⟨C,0,q⟩=h aa/\(∀a,h1 b ⟨.cell ⟨C,a,q⟩,m,m⟩)/\∀a,h1 b ⟨.cell ⟨C,a,q⟩,f,m⟩:=by have aE:=ei j;have l:d<c b.m:=hV;have e:=bI l;generalize b.m[d]=L at e;obtain⟨o,⟨t,i,u⟩,r,s,p⟩:=bO.box d _ L aE e;have k:=r C _ i;have g:=(s C).2 M;exact⟨k,by simp[aN,k],λa=>qh (b8 e) g,λa=>ob (b8 e) g (p C g _)⟩
def eb.b_{d C}{W}{aa bz}(g:c6 d n=h (.J (eb C W aa)))(bO:bb n b):bb (n.set d (.J (eb C W bz))) {b with a:=b.a.setRow C #[bz]}/\cN n b (n.set d (.J (eb C W bz))) {b with a:=b.a.setRow C #[bz]}:=by
 have g:=ei g;have s:d<c b.m:=hV;have l:=bI s;generalize b.m[d]=L at l;obtain⟨p,⟨j,k,B⟩,o,u,y⟩:=bO.box d _ L g l;have z:=(u C).2 M;have r:=o C _ k;have t:∀e,e≠C->(b.a.setRow C #[bz]).heap[e]?=b.a.heap[e]?:=λe i=>setRow_other b.a C e _ i;have x:=setRow_heap b.a C #[aa] #[bz] W (0,0) r;have w:b.m.set d L=b.m:=mV;have D:=bO.b_ (d:=d) (j2:=eb C W bz) (cm:=L) (bh:=b.a.setRow C #[bz]) g l a E
  (λe i v=>t e M) (λe i=>.inl i)
  ⟨λe=>if e=C then h (.cells #[bz] W (0,0))else q,⟨j,by simp,λe i=>by grind⟩,λe A i=>by grind,λe=>by grind⟩ a a a
 grind
def ev.g6{o}{j:Array Z->Sem Z}{args}{bz}{l}(d){C}(k:c6 d n=h (.J (eb C W bz)))(x:hX P D t F n o args)(r:ju P o j)(w:∀i,i.cell? ⟨C,0,q⟩=h bz->(j args.toArray).run P i=.ok aa i/\∀a,∀b∈(j args.toArray).events P i a,b∈a∨b=⟨.cell ⟨C,0,q⟩,m,m⟩)(y:∀g,bx n g aa l):ev P D t F n (λ_:Unit=>l) λ_=>n:=
 .ext x r λg e=>by obtain⟨_,u,z,_⟩:=eb.own k e;obtain⟨s,p⟩:=w g.a u;exact⟨(),g,aa,s,y g,e,.refl _ _,λa b v=>(p a b v).imp id λA=>by grind⟩
def ev.iN{s}{p:Array Z->Sem Z}{args}{bz Ex}{l}(d i){C o}{k}(g:c6 d n=h (.J (eb C W Ex)))(u:c6 i n=h (.J (eb o k bz)))(I:hX P D t F n s args)(y:ju P s p)(A:∀j,j.heap[C]?=h (.cells #[Ex] W (0,0))->j.cell? ⟨o,0,q⟩=h bz->(p args.toArray).run P j=.ok aa (j.setRow C #[bz])/\∀b,∀a∈(p args.toArray).events P j b,a∈b∨a=⟨.cell ⟨o,0,q⟩,m,m⟩∨a=⟨.cell ⟨C,0,q⟩,f,m⟩)(K:∀n r,bx n r aa l):ev P D t F n (λ_:Unit=>l) λ_=>n.set d (.J (eb C W bz)):=
 .ext I y λr e=>by obtain⟨v,_,_,E⟩:=eb.own g e;obtain⟨_,B,J,_⟩:=eb.own u e;obtain⟨z,N⟩:=A r.a v B;obtain⟨x,w⟩:=eb.b_ (bz:=bz) g e;refine⟨(),_,aa,z,K _ _,x,w,λb a M=>?_⟩;grind
def g.c8{M:ι->z}{b:ι->p an}(T:oH all F t=f)(N:fa D t.dst=f)(U:ev P D t F n M b)(V:∀k,g r D be (.ae all br::ar) .normal (fS t.dst (M k) F) (b k)):g r D be (.ae all (t::br)::ar) .normal F n:=by
 intro ai R I j S A u Q idx i a y;cases idx with
 |nil=>exact a.elim
 |cons ah idx=>
 refine ri i a.1 (jZ T _ _ _ I) λag v=>?_;have e:=j.rely v;have B:=I.rely v j;obtain⟨k,ae,l,ab,x,d,O,J,K,ad⟩:=U ag R B e;have w:=K.tooU e;refine⟨ae,l,ab,x,d,⟨⟨n,b k,e,J,K⟩,ad⟩,?_⟩;refine V k l _ ?_ J S A u Q idx i a.2 λW o C s X Y d E=>y W o C s X Y d ((v.aR.trans w).trans E);cases aa:t.dst with
 |none=>exact B.mono w e.len
 |some Z=>exact(B.mono w e.len).put (k9 N Z aa) O
def g.iL(o){ad}{ah}(y:look F o=ax (.cg ad (.O ah)))(l:∀p:Addr,g r D be (.code s::ar) .normal ((o,cM (.iface ad (.pointer (h p))))::F) n):g r D be (.code s::ar) .normal F n:=by
 refine bY.e1 (ι:=Addr) (dE:=λp=>(o,cM (.iface ad (.pointer (h p))))::F) (ao:=λ_=>n) (λC u e k=>?_) l;have b:=e.aH o;rw[y]at b;have b:=b6 b;generalize x:u.tmps.getD o K=I at b;cases b with
 |@cg _ t _ i z=>
  cases i with
  |O v d E A B=>
   refine⟨⟨v,d,q⟩,C,a,⟨e.size,e.defers,λt=>?_⟩,k,.refl _ _⟩;simp only[look];cases j:af o t with
   |false=>exact e.aH t
   |true=>
    have w:=di j;subst w;rw[x];exact Rd.val a
def g.g5(o){ad}{l}(k:look F o=ax (.cg ad (.val l)))(j:g r D be (.ae all br::ar) .normal ((o,cM (.iface ad l))::F) n):g r D be (.ae all br::ar) .normal F n:=by
 refine e9.le j λn v w t b=>?_;simp[look];cases i:af o t with
 |false=>exact b
 |true=>
  have p:=di i;subst p;rw[k]at b;have d:=b;cases d with
  |@cg _ u _ e s=>
   obtain rfl:=Rd.bj e;exact Rd.val a
def g.hM(o d)(N:look F o=aG d 0)(j:c6 d n=h (.cells W [.c .bc]))(w:∀b,g r D be (.code s::ar) .normal ((o,cM (.pointer (h ⟨b,0,q⟩)))::F) (n.set d (.J (eb b W (.pointer q))))):g r D be (.code s::ar) .normal F n:=by
 refine bY.e1 (ι:=Nat) (dE:=λb=>(o,cM (.pointer (h ⟨b,0,q⟩)))::F) (ao:=λb=>n.set d (.J (eb b W (.pointer q)))) (λp Q u bO=>?_) w;have j:=ei j;have C:d<c p.m:=hV;have t:=bI C;generalize p.m[d]=L at t;obtain⟨b,B,rfl,S,K,U⟩:=bO.box d _ L j t
 match B,K with
 |[R],⟨x,_⟩=>
  have x:=x;cases x;obtain⟨M,l⟩:=bO.b9 (cd:=p.u) (bh:=p.a) (d':=.J (eb b W (.pointer q))) (cm:=⟨.pointer (h ⟨b,0,q⟩),[b]⟩) j t rfl (bC _) (λ_ _ _=>rfl) (λ_ _ _ _=>rfl) (λ_ _ _ A=>A) bO.mem (λk e=>⟨.inl e,bO.lt _ (b8 t) k e⟩) rfl rfl rfl
   ⟨λk=>if k=b then h (.cells #[.pointer q] W (0,0))else q,⟨rfl,by simp,λk e=>by grind⟩,λk J e=>by grind,λk=>by by_cases v:k=b<;>simp[v],λk e J=>by grind⟩
  refine⟨b,{p with m:=p.m.set d ⟨.pointer (h ⟨b,0,q⟩),[b]⟩},rfl,⟨u.size,u.defers.imp λ_ i=>i.mono l.ext,λz=>?_⟩,M,l⟩;simp only[look];cases e:af o z with
  |false=>exact(u.aH z).mono l.ext bO.len
  |true=>
   have v:=di e;subst v;have i:=u.aH o;rw[N]at i;obtain⟨_,T,O,y,I,E⟩:=(i:cw n p _ (.ptr d 0));rw[t]at y;cases y;cases I;rw[E];exact Rd.val a
end
section
variable {r:ai P}
def vq:p O->Option (p Z)
 |[]=>h []
 |.c (.int a b)::e=>match vq e with
  |some d=>h (.int a b::d)
  |none=>q
 |_=>q
def Ki:∀{e:p O}{B b:p Z}{r:a5},bM n r B e->vq e=h b->B=b/\∀d i,bM d i b e
 |[],[],b,_,_,g=>by cases g;exact⟨a,λ_ _=>trivial⟩
 |[],_::_,_,_,j,_=>j.elim
 |_::_,[],_,_,j,_=>j.elim
 |.c (.int u v)::w,x::B,b,r,j,g=>by
  simp only[vq]at g;cases l:vq w with
  |none=>rw[l]at g;cases g
  |some y=>
   rw[l]at g;cases g;obtain⟨k,s⟩:=j;obtain⟨rfl,t⟩:=Ki s l;have k:Rd r.u x (.int u v):=k;cases k with
   |int o=>exact⟨rfl,λd i=>⟨Rd.int o,t d i⟩⟩
def ev.hr{b}{ah}{j}(p:t.op=.makeFunc (.func b) #[l] #[])(w:bF F l=.q (.agg ah))(i:vq ah=h j):
  ev P D t F n (λ_:{_u:Unit // ∀a k,bM a k j ah}=>ax (.val (.func (.func b) #[.agg j.toArray] #[]))) λ_=>n:=by
 intro r s u g;have o:=eJ u l;rw[w]at o;obtain⟨B,v,d⟩:=o;obtain⟨rfl,e⟩:=Ki d i;refine⟨⟨(),e⟩,.value (.func (.func b) #[.agg B.toArray] #[]),r,_,?_,.inl rfl,Rd.val rfl,g,.refl _ _,?_⟩
 .simp only[ac,p,Instr.makeFunc];simp[v]
 have:(ac s.eval t).events P r.a #[]=#[]:=by simp only[ac,p,Instr.makeFunc];rfl
 rw[this];exact .nil
def LB(cv:t.op=.call {callee:=.value cP,args:=#[l],argTypes:=dn}){b}{fn}(I:P.funcs[b]?=h fn)(i:(fn.name== "runtime.NumGoroutine")=m)(g:fn.body.isNone=m){a:Act}{e}(C:a.eval cP=.func (.func b) #[e] #[])(d):
  (ac a.eval t).run P d=.ok (.enter b [e,a.eval l].toArray) d/\(ac a.eval t).events P d #[]=#[]:=by
 have s:fn.name≠ "runtime.NumGoroutine":=M;have j:fn.body≠q:=M;constructor
 .exact Oa
 exact Oa
def aT.gU(R:∀n B j,bV D n B F j->aV t (yielded all.toArray j.tmps)=f)(d:t.op=.call {callee:=.value cP,args:=#[l],argTypes:=dn}){I}{ah}{k}{X res}(V:bF F cP=ax (.val (.func (.func I) #[.agg k.toArray] #[])))(Z:∀o b,bM o b k ah)(W:BB (bF F l)=X)(N:Y r I [.q (.agg ah),X] [] res [])(s:g4 0 [.q (.agg ah),X]=f)(u:gq [] [.q (.agg ah),X]=[.q (.agg ah),X])(ab:e7 [] res=res):aT r D all t F n res n:=by
 intro B j p y ae U ag ad ai A x z w;have M:=eJ p cP;rw[V]at M;have O:=Rd.bj (b6 M);obtain⟨fn,K,J,E⟩:=N.1;have Q:=Hk (eJ p l);rw[W]at Q;have T:b4 n B [.agg k.toArray,j.eval l] (gq [] [.q (.agg ah),X]):=by rw[u];exact⟨⟨k,a,Z _ _⟩,Q,v⟩
 refine Gb (aO:=[]) (dd:=[]) (aL:=[]) x z (R _ _ _ p) y (λC=>(LB d K J E O C).1) (λC=>(LB d K J E O C).2) N T s a a a a (bC _) ?_;intro aa b e g i;have S:c_ [] [] n=n:=by simp[c_]
 rw[S]at e g i;refine w aa b ?_ g i;simpa[ab,gJ]using e
def dx.cJ(ai:∀n i b,bV D n i F b->aV t (yielded all.toArray b.tmps)=f)(e:t.op=.call {callee:=.value cP,args:=ag,argTypes:=dn}){I}(g:gN (bF F cP)=h (I,cap))(O:bk r I cR n res aL)(W:lX (ag.toList.map (bF F)++e0 cap) cR=h ab)(ae:U ab):dx r D all t F n res aL:=by
 intro i b y s ak Z S aj an A p u o;have N:=eJ y cP;unfold gN at g;split at g
 case h_2=>cases g
 case h_1 u0 uM he=>
  cases g;rw[he]at N;have J:=b6 N;generalize Q:b.eval cP=V at J;cases J with
  |fn k a w d T j X l ad z=>
   have ah:k=[]:=jy w;subst ah;have Y:b4 n i a (e0 cap):=qa (λx R v=>⟨j x,l x M,z x R v⟩) d;have aa:b4 n i (ag.toList.map b.eval++a) cR:=s' W ae ((m2 (eJ y) ag.toList).append Y);obtain⟨fn,K,E,C⟩:=O.1;exact Gc p u (ai _ _ _ y) s (λB=>(mK e K E C Q B).1) (λB=>(mK e K E C Q B).2) O aa o
def g.hi(d){p}(aE:n[d]?=h p)(B:∀L,fD p L .x L)(o:g r D be (.code s::ar) .normal F (n.set d .x)):g r D be (.code s::ar) .normal F n:=by
 refine g.aV (λb E l bO=>?_) o;have t:d<c b.m:=hV;have j:=bI t;generalize b.m[d]=L at j;have y:b.m.set d L=b.m:=by
  apply p4;intro A;by_cases u:d=A
  .subst u;rw[ij t,j]
  rw[kA u]
 obtain⟨w,i⟩:=bO.b9 (cd:=b.u) (bh:=b.a) aE j (B L) (bC _) (λ_ _ _=>rfl) (λ_ _ _ _=>rfl) (λ_ _ _ z=>z) bO.mem (λx e=>⟨.inl e,bO.lt L (b8 j) x e⟩) rfl rfl rfl v;rw[y]at w i;exact⟨b,a,⟨l.size,l.defers.imp λ_ k=>k.mono i.ext,λC=>(l.aH C).mono i.ext bO.len⟩,w,i⟩
def g.cK(d){b}(aE:c6 d n=h b)(e:∀L,fD b L .x L)(a:g r D be (.code s::ar) .normal F (n.set d .x)):g r D be (.code s::ar) .normal F n:=.hi d (ei aE) e a
def g.eI{s}:∀d{b:p an},g r D be (.code s::ar) .normal F (b++aY d .x)->g r D be (.code s::ar) .normal F b
 |0,b,a=>by simpa using a
 |d+1,b,a=>by refine g.fe 0 1 (g.hi (c b) (wL) bl (g.eI d ?_));rw[List.set_append_right _ _ (bC _)];simpa[List.replicate_succ]using a
end
section
variable {r:ai P}{s:Type}{l:s->Nat->z}{bq:s->(Nat->Bool)->p an}{e_:s->(Nat->Bool)->Prop}
def ew(s:ai P)(r:Nat)(a:p ap)(o:bH){i:Type}(j:i->Nat->z)(l:i->(Nat->Bool)->p an)(d:i->(Nat->Bool)->Prop)(e:Nat)(t:ap):Prop:=
 ∀g (z:Nat->Bool),d g z->(∀b,eh a e b=f->z b=f)->(∀b,(b=e∨eh a b e=f)->z b=m)->dx s r a t (dy a o (j g) e) (l g z) (λk:{n:i // (∀b,z b=f->j n b=j g b)/\d n (dk e z)}=>j k.1 e) (λk=>l k.1 (dk e z))
def t_{P}(j:ai P)(g:Nat)(b:p ap)(e:bH){d:Type}(l:d->Nat->z)(i:d->(Nat->Bool)->p an)(a:d->(Nat->Bool)->Prop):p ap->Nat->Prop
 |[],_=>True
 |n::o,k=>ew j g b e l i a k n/\t_ j g b e l i a o (k+1)
theorem t_.get{all}:∀{i:p ap}{g:Nat},t_ r D all F l bq e_ i g->∀d b,i[d]?=h b->ew r D all F l bq e_ (g+d) b
 |[],_,_,d,b,e=>by grind
 |j::k,g,e,0,b,a=>by simp at a;subst a;exact e.1
 |j::k,g,e,d+1,b,a=>by have:=t_.get e.2 d b M;grind
def g.g_{id}(J:P.follows Departure.mixedOrders=f)(u:s->Nat->z)(l:s->(Nat->Bool)->p an)(a:s->(Nat->Bool)->Prop)(o:s)(I:a o λ_=>m)(K:l o (λ_=>m)=n)(x:kM aC.toList=f)(y:n1 aC.toList 0=f)(A:n' D aC.toList=f)(k:t_ r D aC.toList F u l a aC.toList 0)(C:∀d z,a d z->(∀i,i<c aC.toList->z i=f)->g r D be ar .normal (ng aC.toList F (u d)) (l d z)):g r D be (.code (.region id aC f)::ar) .normal F n:=by
 have:=bY.reg (r:=r) (D:=D) (F:=F) (n:=n) J (all:=aC.toList) (c aC.toList) u l a o I K x y A (bC _)
  (λi b e=>absurd e (nX.2 b)) (λd z _ _ i b e=>absurd e (nX.2 b))
  (λd z i w t j _ E B v=>by have b:=k.get i w j;rw[cV]at b;exact b d z t (AU v i w j B) (F1 v E))
  (aM:=g r D be ar) (λd z t M=>by rw[ss];exact .nil (C d z t M)) id
 exact tR
theorem ew.of(J:∀a (z:Nat->Bool),e_ a z->(∀d,eh all e d=f->z d=f)->(∀d,(d=e∨eh all d e=f)->z d=m)->e_ a (dk e z)/\aT r D all t (dy all F (l a) e) (bq a z) (l a e) (bq a (dk e z))):ew r D all F l bq e_ e t:=by intro a z I j k M A E p B K i g idx b o s n;obtain⟨C,u⟩:=J a z I j k;exact u M A E p B K i g idx b o s λN y v w x=>n ⟨a,λ_ _=>rfl,C⟩ N y v w x
def ew.hH(S:∀k (z:Nat->Bool),e_ k z->(∀a,eh all e a=f->z a=f)->(∀a,(a=e∨eh all a e=f)->z a=m) ->
  ∃(i:Type) (M:i->Go.AM.z) (b:i->p an),dx r D all t (dy all F (l k) e) (bq k z) M b/\∀a,∃j,((∀I,z I=f->l j I=l k I)/\e_ j (dk e z))/\M a=l j e/\b a=bq j (dk e z)):ew r D all F l bq e_ e t:=by intro k z U v w W N Q A O T u s idx g y B x;obtain⟨i,M,b,V,J⟩:=S k z U v w;refine V W N Q A O T u s idx g y B λa X K d n o=>?_;obtain⟨j,R,C,E⟩:=J a;rw[C]at d;rw[E]at d n o;exact x ⟨j,R⟩ X K d n o
end
section
variable {r:ai P}{l:Option ι->Nat->z}{b:Option ι->Bool->Bool->Bool->p an}{aj ae I:Nat}
abbrev mf(g:Option ι->Bool->Bool->Bool->p an)(d e b:Nat):Option ι->(Nat->Bool)->p an:=λa z=>g a (z d) (z e) (z b)
abbrev ma(a:Type)(d:Nat):Option a->(Nat->Bool)->Prop:=λb z=>b.isSome=z d
def ew.aZ(n:af A e=m)(j:af aj e=m)(k:af ae e=m)(p:af I e=m)(o:∀a d g i,aT r D all t (dy all F (l a) e) (b a d g i) (l a e) (b a d g i)):
  ew r D all F l (mf b aj ae I) (ma ι A) e t:=by grind[ew.of,nE]
def ew.jM(p:af A e=m)(g:af aj e=m)(i:af ae e=m)(u:af I e=m)(s:eh all e A=f)(o:∀a j k n,aT r D all t (dy all F (l (h a)) e) (b (h a) j k n) (l (h a) e) (b (h a) j k n)):
  ew r D all F l (mf b aj ae I) (ma ι A) e t:=by
 refine ew.of λd z w aQ _=>⟨?_,?_⟩
 .grind [nE]
 show aT r D all t _ (b d (z aj) (z ae) (z I)) _ (b d (dk e z aj) (dk e z ae) (dk e z I));rw[nE g,nE i,nE u];have v:=aQ A s;cases d with
 |none=>grind
 |some a=>exact o _ _ _ _
def ew.jL(aQ:bn P ad)(iL:a8 r CT)(cv:U cf)(u:∀C x j s,hx ad CT [] all (dy all F (l C) e) (b C x j s) t=h (l C e,q,cf):=by intro C x j s;cases C<;>cases x<;>cases j<;>cases s<;>rfl)(pc:af A e=m:=by rfl)(cS:af aj e=m:=by rfl)(dp:af ae e=m:=by rfl)(w:af I e=m:=by rfl):ew r D all F l (mf b aj ae I) (ma ι A) e t:=.aZ pc cS dp w λC x j s=>aT.eval aQ iL (u C x j s) cv
def ew.fO(aQ:bn P ad:=by exact bd)(iL:a8 r CT:=by first|assumption|exact a8.nil)(u:∀C x j s,hx ad CT [] all (dy all F (l C) e) (b C x j s) t=h (l C e,q,[]):=by intro C x j s;cases C<;>cases x<;>cases j<;>cases s<;>rfl)(pc:af A e=m:=by rfl)(cS:af aj e=m:=by rfl)(dp:af ae e=m:=by rfl)(w:af I e=m:=by rfl):ew r D all F l (mf b aj ae I) (ma ι A) e t:=.jL (cf:=[]) aQ iL v u pc cS dp w
def ew.dT(aQ:bn P ad:=by exact bd)(iL:a8 r CT:=by first|assumption|exact a8.nil)(u:∀w x j s,hx ad CT [] all (dy all F (l (h w)) e) (b (h w) x j s) t=h (l (h w) e,q,[]):=by intro w x j s;cases x<;>cases j<;>cases s<;>rfl)(pc:af A e=m:=by rfl)(cS:af aj e=m:=by rfl)(dp:af ae e=m:=by rfl)(i:af I e=m:=by rfl)(C:eh all e A=f:=by rfl):ew r D all F l (mf b aj ae I) (ma ι A) e t:=.jM pc cS dp i C λw x j s=>aT.y aQ iL (u w x j s)
def ew.iM(n:af aj A=m)(o:af ae A=m)(C:af I A=m)(k:eh all aj A=f)(p:eh all I A=f)(x:∀e g,g=A∨eh all g A=f∨l (h e) g=l q g)(u:∀j,dx r D all t (dy all F (l q) A) (b q m j m) (λe=>l (h e) A) (λe=>b (h e) m j m)):ew r D all F l (mf b aj ae I) (ma ι A) A t:=by
 refine ew.hH λi z B aQ d=>?_;have s:=d A (.inl a);have v:=d aj (.inr k);have w:=d I (.inr p);have y:i=q:=by
  cases i with
  |none=>rfl
  |some e=>grind
 grind[v9,nE]
def ew.gZ(k:af A aj=m)(i:af ae aj=m)(s:af I aj=m)(e:eh all aj A=f)(u:eh all I aj=f)(o:∀a d,aT r D all t (dy all F (l (h a)) aj) (b (h a) m d m) (l (h a) aj) (b (h a) f d m)):ew r D all F l (mf b aj ae I) (ma ι A) aj t:=by
 refine ew.of λg z p aQ j=>?_;have n:=aQ A e;cases g with
 |none=>grind
 |some a=>
  grind[nE,v9]
def ew.g1(g:af A ae=m)(e:af aj ae=m)(j:af I ae=m)(i:eh all I ae=f)(k:∀a d,aT r D all t (dy all F (l a) ae) (b a d m m) (l a ae) (b a d f m)):ew r D all F l (mf b aj ae I) (ma ι A) ae t:=by grind[ew.of,nE,v9]
def ew.g2(k:af A I=m)(g:af aj I=m)(i:af ae I=m)(d:eh all I A=f)(s:eh all I aj=f)(u:eh all I ae=f)(p:∀a,aT r D all t (dy all F (l (h a)) I) (b (h a) f f m) (l (h a) I) (b (h a) f f f)):ew r D all F l (mf b aj ae I) (ma ι A) I t:=by
 refine ew.of λe z o aQ j=>?_;have n:=aQ A d;cases e with
 |none=>grind
 |some a=>
  grind[nE,v9]
end
def Rd.jN{o}{i}(y:Rd bB aa (.S o i k T)):∃n a p b,aa=.slice n k a/\k<=a/\a<=9223372036854775807/\(0<k->n=h ⟨p,b,q⟩)/\(∀d,d<k->c (T d)=i)/\∀d,d<k->∀l e,(T d)[l]?=h e->∃w,bB p (b+d*i+l)=h w/\Rd bB w e:=by
 cases y with
 |@S n _ a _ _ _ p b A x s z t r u v=>exact⟨n,a,p,b,rfl,x,s,r,t,λd g l e j=>⟨_,u d g l e j,v d g l e j⟩⟩
def Rd.hS{o}{cap i}(e:k<=cap)(g:cap<=9223372036854775807)(s:0<k->o=h ⟨j,off,q⟩)(r:∀a,a<k->c (T a)=i)(u:∀a,a<k->∀b d,(T a)[b]?=h d->∃p,bB j (off+a*i+b)=h p/\Rd bB p d):Rd bB (.slice o k cap) (.S m i k T):=by refine .S j off (λa b=>(bB j (off+a*i+b)).getD K) e g (λt=>by cases t) r s (λa l b d n=>M) λa l b d n=>?_;grind
section
variable {r:ai P}{I:p ig}
end
section
variable {r:ai P}{l:Option ι->Nat->z}{b:Option ι->Bool->Bool->Bool->p an}{s x I:Nat}
def ew.iO(n:af s A=m)(o:af x A=m)(J:af I A=m)(E:eh all s A=f)(K:eh all I A=f)(ok:Bool->ι->Prop)(B:∀j d,ok j d->∀g,g=A∨eh all g A=f∨(g=x/\j=m)∨l (h d) g=l q g)(w:∀j,dx r D all t (dy all F (l q) A) (b q m j m) (λd:{d // ok j d}=>l (h d.1) A) (λd=>b (h d.1) m j m)):ew r D all F l (mf b s x I) (ma ι A) A t:=by
 refine ew.hH λv z M aQ e=>?_;have y:=e A (.inl a);have p:=e s (.inr E);have u:=e I (.inr K);have C:v=q:=by
  cases v with
  |none=>rfl
  |some d=>grind
 subst C;have key:=w (z x);refine⟨{d // ok (z x) d},λd=>l (h d.1) A,λd=>b (h d.1) m (z x) m,?_,λd=>⟨h d.1,⟨λg k=>?_,?_⟩,a,?_⟩⟩
 .show dx r D all t _ (b q (z s) (z x) (z I)) _ _;rw[p,u];exact key
 .rcases B _ d.1 d.2 g with i|i|⟨i,eF⟩|i
  .subst i;rw[y]at k;cases k
  .have:=e g (.inr i);rw[this]at k;cases k
  .subst i;rw[eF]at k;cases k
  exact i
 .show (h d.1).isSome=dk A z A;rw[zt];rfl
 show b (h d.1) m (z x) m=b (h d.1) (dk A z s) (dk A z x) (dk A z I);rw[mR n,mR o,mR J,p,u]
end
section
open Go.Conc
def gi(d:a5):Prop:=∀a b e,d.u a b=h e->d.a.cell? ⟨a,b,q⟩=h e
def jv(a:Nat->Prop):Go.Loc->Prop
  |.cell b=>a b.block
  |.obj d=>a d
  |_=>False
structure gL(s:Nat->Prop)(b:a5):Prop where
  own:∀j,s j->¬b.own j
  m:∀j,s j->∀L∈b.m,j∉L.al
  u:∀j,s j->∀t,b.u j t=q
  lt:∀j,s j->j<b.a.heap.size
section
variable {s:Nat->Prop}
def gL.step(g:gL s b)(e:cN n b ao az):gL s az:=by
  refine⟨λd a=>by rw[e.own];exact g.own d a,λd a L k j=>?_,λd a p=>by rw[e.bF d (g.lt d a) (g.m d a)];exact g.u d a p,λd a=>ey (g.lt d a) e.size⟩;rcases e.bV L k d j with i|⟨o,l,i⟩
  · exact absurd (g.lt d a) (nX.2 i)
  · exact g.m d a o l i
theorem gL.aV(g:gL s b)(k:eT b az):gL s az:=by
  have i:∀d,s d->¬(az.own d∨∃L∈az.m,d∈L.al):=λd a e=>by
    rcases k.blk d e with e|⟨L,j,e⟩
    · exact g.own d a e
    · exact g.m d a L j e
  exact⟨λd a e=>i d a (.inl e),λd a L j e=>i d a (.inr ⟨L,j,e⟩),λd a l=>by rw[k.bF d (g.m d a)];exact g.u d a l,λd a=>by rw[k.a];exact g.lt d a⟩
def gL.b1(e:gL s b)(g:nP b az):gL s az:=by
  refine⟨λd a=>by rw[g.own];exact e.own d a,λd a=>by rw[g.m];exact e.m d a,λd a i=>?_,λd a=>by rw[g.a];exact e.lt d a⟩;cases j:az.u d i with
  |none=>rfl
  |some k=>rw[<-g.e5 d i k j,e.u d a i]
def gL.at(a:gL s b)(d):gL s {b with a:=b.a.at d}:=⟨a.own,a.m,a.u,a.lt⟩
def gi.at(d:gi b)(a):gi {b with a:=b.a.at a}:=d
theorem gi.aV(a:eT b az):gi az:=λe g i d=>by rw[a.a];exact a.cell e g i d
def gi.b1(j:gi b)(d:nP b az):gi az:=λa e g i=>by rw[d.a];exact j a e g (d.e5 a e g i)
def gi.lt(e:gi b){t}(d:b.u j t=h aa):j<b.a.heap.size:=by
  have:=e j t aa d;rcases dY j b.a.heap.size with a|a
  · exact a
  · simp[aN,Au a]at this
def cU.at(d:gi b)(a):cU b {b with a:=b.a.at a}:=⟨rfl,rfl,rfl,bC _,λ_ _=>rfl,d,rfl,rfl,rfl⟩
def Tc{o}(p:bb n b)(r:gL s b)(g:h1 b o){t}(aE:b.a.heap.size<=t):EvL (jv s) t o:=by
  obtain⟨u,wr,y⟩:=o;cases u with
  |cell l=>
    obtain⟨j,k,a⟩:=g;simp only at j k a;subst j;have key:¬s l.block/\l.block<b.a.heap.size:=by
      rcases a with a|⟨⟨L,i,a⟩,_⟩|⟨_,A,a⟩
      · exact a.elim
      · exact⟨λe=>r.m _ e L i a,p.lt L i _ a⟩
      · refine⟨λe=>?_,gi.lt p.mem a⟩
        rw[r.u _ e]at a;cases a
    exact evL_cell l wr key.1 (ey key.2 aE)
  |obj z=>
    obtain⟨j,k⟩:=g;simp only at j k;subst j;obtain⟨L,i,a⟩:=k.resolve_left id;refine⟨λe d v=>?_,by simp,by simp,?_⟩
    · simp[aP,MemAct.touch?]at d
      subst d;exact absurd a (r.m _ v L i)
    · simp[aP,MemAct.low,Loc.low]
      exact ey (p.lt L i _ a) aE
  |mark x=>
    simp[h1]at g;rcases g with rfl|⟨w,rfl⟩
    · exact⟨λe d=>by simp[aP,MemAct.touch?]at d,by simp,by simp,by simp[aP,MemAct.low]⟩
    · exact⟨λe d=>by simp[aP,MemAct.touch?]at d,by simp,by simp,by simp[aP,MemAct.low]⟩
  |_=>exact g.elim
end
def m1(b:Trace):Prop:=∀a,NoRelease a b
def m1.app{o}(e:m1 o){C}{fn}{pos}{T}(j:∀d∈T,∀a,d.loc≠.mark (.release a)):m1 (o++MemOp.ofEvents C fn pos T):=
  λa=>(e a).app λi b g=>by grind[Go.Conc.mem_ofEvents,Go.ConcR.loc_of_ofEvent]
def Td{a}(i:h1 b a)(g):a.loc≠.mark (.release g):=by intro d;obtain⟨loc,wr,k⟩:=a;simp only at d;subst d;rcases i with e|⟨j,e⟩<;>cases e
def Kh{a:aU}(e:a.mute=f)(d):a.loc≠.mark (.release d):=by intro b;obtain⟨loc,wr,g⟩:=a;simp only at b;subst b;simp[Event.mute]at e
def kU(P:aI)(s:ak)(g:a5)(o:ak->a5->Prop):Prop:=
  ∀(l:Nat->Prop) b dD i (t:Nat->Nat),gi g->b[0]?=h s->Leavers P i b t->Past (jv l) g.a.heap.size i->gL l g->m1 i ->
    ∃(n:Nat) (k:Nat->Prop) (j:Array ak) (d:ak) (a:a5) (p:Option (Nat×Nat)) (e:Trace) (r:Nat->Nat),
      runNT P n (crowd b g.a dD) i=(.next (crowd j a.a p),e)/\gi a/\j[0]?=h d/\Leavers P e j r/\Past (jv k) a.a.heap.size e/\gL k a/\m1 e/\o d a
def ai.aT(P):ai P:={b7:=f,rely:=λb a=>cU b a/\∃d,a={b with a:=b.a.at d},de:=kU P,bM:=λe=>e.1,dP:=True}
instance (P:aI):(ai.aT P).b':=⟨v⟩
theorem DM{P}:∀b a {e i:Machine} {j g:Trace},runNT P b e j=(.next i,g)->runNT P (b+a) e j=runNT P a i g
  |0,a,e,i,j,g,d=>by simp[runNT]at d;grind
  |b+1,a,e,i,j,g,d=>by
    rw[show b+1+a=(b+a)+1 by omega];simp[runNT]at d⊢;cases l:stepT P e with
    |mk o k=>
      rw[l]at d;cases o with
      |next n=>exact DM b a d
      |ended p r=>grind
def kU.trans{s:ak->a5->Prop}(B:kU P C b s)(I:∀a d,s a d->kU P a d bq):kU P C b bq:=by intro x e dD S Q n g j k l o;obtain⟨u,F,w,a,d,z,R,W,D,i,V,O,U,J,E,T⟩:=B x e dD S Q n g j k l o;obtain⟨t,v,y,K,r,A,M,p,k1,N⟩:=I a d T F w z R W i V O U J E;exact⟨u+t,v,y,K,r,A,M,p,by grind[DM],N⟩
def kU.j0{ad:ak->a5->Prop}(aA:C.status=.running)(S:∀(r:Nat->Prop) d B dD g (j:Nat->Nat),gi b->d[0]?=h C->Leavers P g d j->Past (jv r) b.a.heap.size g->gL r b->m1 g ->
      ∃F G x e,runT P (crowd d (b.a.at B) dD) 0=(.next (crowd F x.a dD),e)/\gi x/\F[0]?=h G/\Leavers P (g++e) F j/\Past (jv r) x.a.heap.size (g++e)/\gL r x/\m1 (g++e)/\ad G x):kU P C b ad:=by
  intro r d dD g j;have key:∀X d B dD g (j:Nat->Nat),Go.ConcN.sumTo d.size j<=X->gi b->d[0]?=h C->Leavers P g d j->Past (jv r) b.a.heap.size g->gL r b->m1 g ->
      ∃(Z:Nat) (W:Nat->Prop) (I:Array ak) (k:ak) (n:a5) (A:Option (Nat×Nat)) (O:Trace) (Y:Nat->Nat),
        runNT P Z (crowd d (b.a.at B) dD) g=(.next (crowd I n.a A),O)/\gi n/\I[0]?=h k/\Leavers P O I Y/\Past (jv W) n.a.heap.size O/\gL W n/\m1 O/\ad k n:=by
    intro X;induction X with
    |zero=>?_
    |succ X aq=>?_
    all_goals
      intro d B dD g j aG v s l t u o;have ar:∀C∈d,awake C:=by
        intro w aB;obtain⟨i,p,rfl⟩:=Array.mem_iff_getElem.1 aB;rcases nZ i with rfl|ae
        · grind[awake_of]
        · exact awake_of ((l.old i _ ae (iz p)).status.elim .inl λw=>.inr (.inr w))
      obtain⟨i,w,d2,A,p,aM,ah⟩:=crowd_pick (P:=P) (w:=b.a.at B) (sl:=dD) ar ⟨0,C,s,aA⟩;rw[show(b.a.at B).at d2=b.a.at d2 from a]at ah;rcases nZ i with rfl|ae
      · obtain⟨F,G,x,e,k1,L,aw,ab,ax⟩:=S r d d2 A g j v s l t u o
        exact⟨1,r,F,G,x,A,g++e,j,by simp[runNT,ah,k1],L,aw,ab,ax⟩
      · have U:=l.old i w ae p
        have au:(i==0)=m:=M;have H:i<d.size:=(i_.1 p).1;cases aj:j i with
        |zero=>rw[aj]at U;rw[U.1]at aM;cases aM
        |succ D=>
          rw[aj]at U;rcases U with⟨aF,_⟩|⟨_,k,T,z,ao,aL⟩
          · grind
          have aJ:Go.ConcN.sumTo d.size (Go.ConcN.upd j i D)+(D+1)=Go.ConcN.sumTo d.size j+D:=by have:=Go.ConcN.sumTo_upd j D id H;simpa[aj]using this
          first
          | (exfalso;omega)
          | (have aH:=runT_crowd_go (P:=P) (sl:=A) (i:=i) p (by rw[au];exact ao (b.a.at d2))
             have aK:((d.map (woken P w k (b.a.at d2))).setIfInBounds i k).size=d.size:=E;obtain⟨Z,W,I,av,n,N,O,Y,k1,L⟩:=aq ((d.map (woken P w k (b.a.at d2))).setIfInBounds i k) d2 A (g++MemOp.ofEvents i w.frame.fn w.frame.place T) (Go.ConcN.upd j i D) M v
              (by grind[woken_run])
              ⟨λV aN J R=>by
                by_cases ai:i=V
                · grind[Go.ConcN.upd_same,Deaf_own]
                · rw[sy ai,Array.getElem?_map]at R
                  obtain⟨aI,az,rfl⟩:=ra.1 R;have an:=l.old V aI J az;rw[woken_quitsD an,Go.ConcN.upd_ne j D (p3 ai),Deaf_other g ai _ (λag K=>by grind[Go.Conc.mem_ofEvents])];exact an,λV J=>by
                rw[Deaf_other g (g':=i) M _ (λag K=>by grind[Go.Conc.mem_ofEvents])]
                exact l.above V M⟩
              (t.mute y z) u (o.app λaE aa aC=>Kh (z aE aa) aC)
             exact⟨Z+1,W,I,av,n,N,O,Y,by simp[runNT,ah,aH];exact k1,L⟩)
  intro v s l t u o;have:=key _ d b.a.drawn dD g j (bC _) v s l t u o
  rwa [show b.a.at b.a.drawn=b.a from a]at this
def _root_.Go.Conc.Leavers.own{d}{s}{o}{n:Nat->Nat}(l:Leavers P o gs n){aC}(g:∀b∈aC,b.g=0)(u:0<gs.size):Leavers P (o++aC) ((gs.map (woken P C d s)).setIfInBounds 0 d) n:=
  ⟨λj v e i=>by
    have p:0≠j:=y;rw[sy p,Array.getElem?_map]at i;obtain⟨t,r,rfl⟩:=ra.1 i;have k:=l.old j t e r;rw[woken_quitsD k,Deaf_other o y _ (λb a=>g b a)];exact k,λj e=>by
    rw[Deaf_other o (g':=0) M _ (λb a=>g b a)]
    exact l.above j M⟩
def cb.aT{P:aI}{O:ak->a5->Prop}{C}{b}(E:cb (ai.aT P) O C b):kU P C b O:=by
  induction E with
  |stop E=>intro p l dD v u n g i j k o;exact⟨0,p,l,_,_,dD,v,u,a,n,g,i,j,k,o,E⟩
  |aV d _ s=>
    intro p l dD v u n g i j k o;have:=s p l dD v u (.aV d) g i (by rw[d.a];exact j) (k.aV d) o
    rwa [d.a]at this
  |b1 _ d _ s=>
    intro p l dD v u n g i j k o;have:=s p l dD v u (n.b1 d) g i (by rw[d.a];exact j) (k.b1 d) o
    rwa [d.a]at this
  |de K _ s=>exact kU.trans K s
  |@step C b ab z W M F I _ s=>
    refine kU.trans (kU.j0 (ad:=λw A=>∃y,(ai.aT P).rely b y/\w=ab y/\A=z y) M λp l r dD v u n g i j k x=>?_) λw A ⟨y,k1,Z,aa⟩=>by subst Z aa;exact s y k1
    have B:(ai.aT P).rely b {b with a:=b.a.at r}:=⟨cU.at n r,r,rfl⟩;obtain⟨⟨ae,T,J,X,t⟩,S⟩:=I _ B;have V:=(i_.1 g).1;have R:gL p {b with a:=b.a.at r}:=k.at r;exact⟨_,_,z {b with a:=b.a.at r},_,runT_crowd_go (P:=P) (sl:=dD) (i:=0) g (show aq P (0==0) C (b.a.at r)=_ from F _ B),X.mem,by grind,
      i.own (λY Q=>by grind[Go.Conc.mem_ofEvents]) V,((j.mono t.size).own λD N=>Tc J R (S D N) t.size),R.step t,x.app λD N U=>Td (S D N) U,_,B,rfl,rfl⟩
inductive cj where
 |leaf
 |node (ae:a5->cj)
def cj.lt:cj->cj->Prop
 |_,.leaf=>False
 |d,.node a=>∃b,d=a b∨cj.lt d (a b)
def cj.fr:∀g:cj,Acc cj.lt g
 |.leaf=>⟨_,λ_ b=>b.elim⟩
 |.node d=>⟨_,λ_ ⟨e,a⟩=>a.elim (λa=>a▸cj.fr (d e)) λb=>(cj.fr (d e)).inv b⟩
def cj.dG:Nat->cj
 |0=>.leaf
 |a+1=>.node λ_=>cj.dG a
def cj.gu(k)(b:a5):cj.lt (cj.dG k) (cj.dG (k+1)):=⟨b,.inl a⟩
def wH(e:Nat)(d z:Nat->cj):Prop:=∃a,a<e/\cj.lt (d a) (z a)/\∀b,b≠a->d b=z b
def M2:∀b,WellFounded (wH b)
 |0=>⟨λ_=>⟨_,λ_ ⟨e,g,_⟩=>absurd g (iC e)⟩⟩
 |b+1=>by
  have n:=M2 b;have key:∀d:cj,∀z:Nat->cj,z b=d->Acc (wH (b+1)) z:=by
   intro d;induction cj.fr d with
   |intro d _ r=>
    intro z;induction n.apply z with
    |intro z _ l=>
     intro s;refine⟨_,λp g=>?_⟩;obtain⟨e,o,k,i⟩:=g;rcases dY e b with j|j
     .exact l p ⟨e,j,k,i⟩ M
     grind
  exact⟨λz=>key _ z a⟩
section
def gy(g:ai P)(l:a5->a5->Array aU->Prop)(k:ak->a5->Prop):cj->ak->a5->Prop
 |.leaf,e,d=>k e d
 |.node n,e,d=>k e d∨(∃a,(eT d a∨(g.dP/\nP d a))/\gy g l k (n d) e a) ∨
   (e.status=.running/\∀i,g.rely d i->∃j a b,aq P g.b7 e i.a=.go j a.a b/\(kx i a b∨l i a b)/\gy g l k (n i) j a)
variable {r:ai P}{W:a5->a5->Array aU->Prop}{s:ak->a5->Prop}
def dr(d:ai P)(a:a5->a5->Array aU->Prop)(b:ak->a5->Prop)(e:ak)(i:a5):Prop:=∃g,gy d a b g e i
theorem dr.aV(d:eT b az)(a:dr r W bq C az):dr r W bq C b:=by obtain⟨e,a⟩:=a;exact⟨.node λ_=>e,.inr (.inl ⟨az,.inl d,a⟩)⟩
def dr.b1(a:r.dP)(e:nP b az)(d:dr r W bq C az):dr r W bq C b:=by obtain⟨g,d⟩:=d;exact⟨.node λ_=>g,.inr (.inl ⟨az,.inr ⟨a,e⟩,d⟩)⟩
def dr.step(o:C.status=.running)(k:∀e,r.rely b e->∃g a d,aq P r.b7 C e.a=.go g a.a d/\(kx e a d∨W e a d)/\dr r W bq g a):dr r W bq C b:=by
 classical
 have i:∀e,∃l:cj,r.rely b e->∃g a d,aq P r.b7 C e.a=.go g a.a d/\(kx e a d∨W e a d)/\gy r W bq l g a:=by
  intro e;by_cases j:r.rely b e
  .obtain⟨g,a,d,cS,dp,l,n⟩:=k e j;exact⟨l,λ_=>⟨g,a,d,cS,dp,n⟩⟩
  exact⟨.leaf,λk=>absurd k j⟩
 exact⟨.node λe=>Classical.choose (i e),.inr (.inr ⟨o,λe j=>Classical.choose_spec (i e) j⟩)⟩
def dr.bind(d:dr r W bq C b)(j:∀C b,bq C b->dr r W s C b):dr r W s C b:=by
 obtain⟨k,d⟩:=d;induction k generalizing C b with
 |leaf=>exact j C b d
 |node p g=>
  rcases d with d|⟨l,a,e⟩|⟨i,d⟩
  .grind
  .rcases a with a|⟨gD,a⟩
   .exact .aV a (g _ e)
   exact .b1 gD a (g _ e)
  exact .step i λo n=>by grind
def cb.toW(s:∀C b p,¬r.de C b p)(i:cb r bq C b):dr r W bq C b:=by
 induction i with
 |stop i=>exact⟨.leaf,i⟩
 |step u v t n j k _ d=>exact .step n λg e=>⟨_,_,_,j g e,.inl (k g e),d g e⟩
 |aV a _ d=>exact .aV a d
 |b1 l a _ d=>exact .b1 l a d
 |de o _ _=>grind
def gy.ba(n:a5->Prop)(C:∀g b,eT g b->n g->n b)(A:r.dP->∀g b,nP g b->n g->n b):∀{D:cj}{s:ak}{g:a5},gy r W bq D s g->n g ->
  (∃b,n b/\bq s b)∨(s.status=.running/\∃b,n b/\∀l,r.rely b l->∃i j d o,aq P r.b7 s l.a=.go i j.a d/\(kx l j d∨W l j d)/\gy r W bq o i j/\cj.lt o D)
 |.leaf,_,g,p,k=>.inl ⟨g,k,p⟩
 |.node E,s,g,p,k=>by
  rcases p with p|⟨b,x,y⟩|⟨I,p⟩
  .grind
  .have e:n b:=x.elim (λt=>C g b t k) λt=>A t.1 g b t.2 k;rcases gy.ba n C A y e with B|⟨B,j,F,J⟩
   .grind
   refine .inr ⟨B,j,F,λl z=>?_⟩;obtain⟨i,v,d,o,k1,u,w,K⟩:=J l z;exact⟨i,v,d,o,k1,u,w,g,.inr K⟩
  refine .inr ⟨I,g,k,λl z=>?_⟩;obtain⟨i,v,d,k1,u,w⟩:=p l z;exact⟨i,v,d,E l,k1,u,w,l,.inl a⟩
def dr.goes{de:au->au->Prop}{z:au->au->Array aU->Prop}{Stop:ak->au->Prop}(l:a5->Prop)(v:∀b d,l b->r.rely b d->l d)(p:∀b d,l b->r.rely b d->de b.a d.a)(A:∀b e,l b->∀k,z b.a k e->k=b.a/\(kx b b e∨W b b e))(w:∀b,l b->r.rely b b)(x:∀i b,l b->Stop i b.a->dr r W bq i b):
  ∀s i b,l b->Goes P r.b7 de z Stop s i b.a->dr r W bq i b
 |0,i,b,g,n=>x i b g (n b.a (p b b g (w b g)))
 |s+1,i,b,g,n=>by
  rcases n with n|⟨D,n⟩
  .grind
  refine .step D λd y=>?_;have j:=n d.a (p b d g y);have t:=v b d g y;cases u:aq P r.b7 i d.a with
  |go o k e=>
   rw[u,goes_go]at j;obtain⟨C,E⟩:=j;obtain⟨rfl,B⟩:=A d e t k C;exact⟨o,d,e,a,B,dr.goes l v p A w x s o d t E⟩
  |_=>rw[u]at j;exact j.elim
end
theorem cU.aV{n}(i:cU b {b with a:=n})(g:eT b az):cU az {az with a:=n}:=by
 refine⟨a,a,a,by rw[g.a];exact i.size,λd e=>by rw[g.a];exact i.a6 d (g.blk d e),λd j k l=>?_,by rw[g.a];exact i.os,by rw[g.a];exact i.tape,by rw[g.a];exact i.output⟩;have p:=g.cell d j k l;by_cases e:∃L∈b.m,d∈L.al
 .have:=i.a6 d (.inr e);simp only[aN]at p⊢;grind
 have:b.u d j=h k:=by rw[<-g.bF d (λL r o=>e ⟨L,r,o⟩)];exact l
 exact i.mem d j k this
def cU.b1{k}(d:cU b {b with a:=k})(a:nP b az):cU az {az with a:=k}:=
 ⟨rfl,rfl,rfl,by rw[a.a];exact d.size,λe g=>by rw[a.a];exact d.a6 e (by rw[<-a.own,<-a.m];exact g),λe i j l=>d.mem e i j (a.e5 e i j l),by rw[a.a];exact d.os,by rw[a.a];exact d.tape,by rw[a.a];exact d.output⟩
def cU.en(a:gi b):cU b b:=⟨rfl,rfl,rfl,bC _,λ_ _=>rfl,a,rfl,rfl,rfl⟩
def cU.fU{a}(d:cU b {b with a:=a}):cU {b with a:=a} {b with a:=a}:=cU.en d.mem
def cU.trans{b i b2}(a:cU b i)(d:cU i b2):cU b b2:=
 ⟨d.m.trans a.m,d.u.trans a.u,d.own.trans a.own,fF a.size d.size,λg e=>by rw[d.a6 g (by rw[a.own,a.m];exact e),a.a6 g e],λg k l j=>d.mem g k l (by rw[a.u];exact j),d.os.trans a.os,d.tape.trans a.tape,d.output.trans a.output⟩
end
section
open Go.Conc
open Go.ConcN (fork_knows RelBy)
open Go.ConcR (stA smA)
def hN:Go.Loc->Option Nat
 |.cell a=>h a.block
 |.obj b=>h b
 |_=>q
def J3{d}(b:d.isMemory=f):∃a,hN d=h a:=by cases d<;>simp[Go.Loc.isMemory]at b<;>exact⟨_,rfl⟩
def aej{d:MemAct}{e}{bU}(b:d.touch?=h e)(g:d.low bU)(a:hN e.loc=h j):j<bU:=by
 cases d with
 |access i=>
  simp[MemAct.touch?]at b;subst b;simp only at a;obtain⟨loc,wr,l⟩:=i;cases loc<;>simp[hN]at a<;>subst a<;>exact g
 |mark k=>
  cases k<;>simp[MemAct.touch?]at b<;>subst b<;>simp[hN]at a<;>subst a<;>exact g
 |_=>exact cQ
structure hA where
 bD:Nat->Prop
 bN:Nat
 f:Nat
 ai:Nat
 base:Nat
 aJ:Nat
def oT(d:hA)(g:Nat->Nat)(e:Touch):Prop:=
 (∃a,e.loc=.cell a/\a.block=d.f/\e.kind≠.plain)∨(∃b,hN e.loc=h b/\g b=0/\b≠d.f/\b≠d.ai/\¬d.bD b/\e.kind=.plain)
def nW(b:hA)(j:Nat->Nat)(k:Mem)(i:Nat)(a:Touch):Prop:=
 (∃e,a.loc=.cell e/\e.block=b.f/\a.kind=.atomic) ∨
 (a.kind=.plain/\((∃g,hN a.loc=h g/\j g=b.base+i)∨(∃d,a.loc=.cell ⟨b.ai,d,q⟩/\b.aJ*i<=d/\d<b.aJ*i+b.aJ)∨(a.write=m/\∃g d l,a.loc=.cell ⟨g,d,q⟩/\k g d=h l)))
structure fy(J:hA)(I:Nat->Nat)(ae:Nat->Mem)(o:Trace)(w bU:Nat):Prop where
 base:1<=J.base
 cH:I J.f=0
 c_:I J.ai=0
 b2:J.ai≠J.f
 dV:¬J.bD J.f
 er:¬J.bD J.ai
 ep:∀j,J.bD j->I j=0
 bG:∀l,l<w->∀j t aa,ae l j t=h aa->I j=0/\j≠J.ai/\j≠J.f/\¬J.bD j
 bN:J.bN<=o.size
 ei:∀said,¬Race said o
 seen:∀op∈o,op.act.low bU
 old:∀e x,e<J.bN->touchAt o e=h x->x.loc.isMemory=f->Knows o 0 e∨(jv J.bD x.loc/\x.kind=.atomic)
 ea:∀l,l<w->∀e x,e<J.bN->touchAt o e=h x->x.loc.isMemory=f->Knows o (J.base+l) e∨(jv J.bD x.loc/\x.kind=.atomic)
 eH:∀e x j,e<J.bN->touchAt o e=h x->hN x.loc=h j->I j=0
 new:∀e x,J.bN<=e->touchAt o e=h x->x.loc.isMemory=f->(o.g? e=h 0/\oT J I x)∨(∃l,l<w/\o.g? e=h (J.base+l)/\nW J I (ae l) l x)
 eg:∀l,l<w->∀e x,J.bN<=e->touchAt o e=h x->o.g? e=h 0->x.write=f->∀j t aa,x.loc=.cell ⟨j,t,q⟩->ae l j t=h aa->Knows o (J.base+l) e
 over:∀e C,e<J.bN->o.g? e=h C->C≠0->o.counts e->∃i,o.g? i=h 0/\HappensBefore o e i
section
variable {J:hA}{I ej:Nat->Nat}{ae:Nat->Mem}{o bz:Trace}{bU d':Nat}
theorem zm{a}{C}(g:touchAt o e=h a)(b:o.g? e=h C):Knows o C e:=by
 obtain⟨i,d,_⟩:=touch_of g;have:i.g=C:=by simpa[Trace.g?,d]using b
 grind[knows_own]
def fy.low(k:fy J I ae o w bU){b}(g:touchAt o e=h b)(a:hN b.loc=h j):j<bU:=by obtain⟨l,i,d⟩:=touch_of g;exact aej d (k.seen l (wO i)) a
def fy.eK(d:fy J I ae o w bU)(e:∀b,b<bU->ej b=I b)(aE:bU<=d')(B:J.f<bU)(u:J.ai<bU)(C:∀b,J.bD b->b<bU)(D:∀i,i<w->∀b s t,ae i b s=h t->b<bU):fy J ej ae o w d':=by
 have F:∀l g,touchAt o l=h g->oT J I g->oT J ej g:=λl g n a=>by
  rcases a with a|⟨b,a,j,z⟩
  .exact .inl a
  exact .inr ⟨b,a,by rw[e b (d.low n a)];exact j,z⟩
 have E:∀i l g,touchAt o l=h g->nW J I (ae i) i g->nW J ej (ae i) i g:=λi l g n a=>by
  rcases a with a|⟨y,⟨b,a,j⟩|a⟩
  .exact .inl a
  .exact .inr ⟨y,.inl ⟨b,a,by rw[e b (d.low n a)];exact j⟩⟩
  exact .inr ⟨y,.inr a⟩
 refine⟨d.base,by rw[e _ B];exact d.cH,by rw[e _ u];exact d.c_,d.b2,d.dV,d.er,λb k=>by rw[e b (C b k)];exact d.ep b k,λi A b s t x=>by rw[e b (D i A b s t x)];exact d.bG i A b s t x,
  d.bN,d.ei,λv r=>MemAct.low_mono aE (d.seen v r),d.old,d.ea,λl g b p n k=>by rw[e b (d.low n k)];exact d.eH l g b p n k,λl g p n I=>?_,d.eg,d.over⟩
 rcases d.new l g p n I with⟨a,j⟩|⟨i,a,j,z⟩
 .grind
 grind
def fy.fB(a:fy J I ae o w bU):J.bN<=(o++bz).size:=fF a.bN E
theorem oe(a:e<o.size):(o++bz).g? e=o.g? e:=by simp[Trace.g?,getElem?_append_old a]
def fy.fM(p:fy J I ae o w bU)(bz):∀a i,a<J.bN->(o++bz).g? a=h i->i≠0->(o++bz).counts a->∃g,(o++bz).g? g=h 0/\HappensBefore (o++bz) a g:=by
 intro a i d b e k;have n:=ey d p.bN;rw[oe n]at b;obtain⟨g,l,j⟩:=p.over a i d b e ((counts_old n).1 k);have r:g<o.size:=by unfold Trace.g? at l;grind
 exact⟨g,by grind[oe],hb_app bz j⟩
def LX{a:Nat->Prop}{d}(e:jv a d)(b:hN d=h j):a j:=by cases d<;>simp[hN]at b<;>subst b<;>exact e
def fy.ew(b:fy J I ae o w bU){l}(u:l<w){a j}{said}(aQ:oT J I j)(p:nW J I (ae l) l a)(gD:a.loc=j.loc)(n:a.kind=.plain∨j.kind=.plain∨(said=f/\a.kind=.said/\j.kind=.said))(A:j.kind=.plain->j.write=f->∀d t aa,j.loc=.cell ⟨d,t,q⟩->ae l d t≠h aa)(y:a.write=f∨j.write=f):False:=by
 have x:=b.base;rcases p with⟨g,dK,eF,jK⟩|⟨X,⟨s,dK,eF⟩|⟨t,dK,_⟩|⟨dK,d,t,aa,eF,jK⟩⟩
 .rcases aQ with⟨e,aj,C,i⟩|⟨s,aj,C,i,_⟩
  .grind
  exact Oo
 .rcases aQ with⟨e,aj,C,i⟩|⟨k,aj,C,i,_⟩
  .rw[gD,aj]at dK;simp[hN,eR]at dK;rw[<-dK,C,b.cH]at eF;omega
  grind
 .rcases aQ with⟨e,aj,C,i⟩|⟨k,aj,C,i,r,_⟩
  .rw[<-gD,dK]at aj;cases aj;exact b.b2 C
  exact Oo
 obtain⟨v,B,O,z⟩:=b.bG l u d t aa jK;rcases aQ with⟨e,aj,C,i⟩|⟨k,aj,C,i,r,_,N⟩
 .grind
 grind
def fy.app0(u:fy J I ae o w bU)(C:∀a∈bz,a.g=0)(B:∀a∈bz,a.act.low bU)(z:∀a∈bz,∀b,a.act.touch?=h b->b.loc.isMemory=f->oT J I b)(T:∀a∈bz,∀b,a.act.touch?=h b->b.kind=.plain->b.write=f->∀k,k<w->∀l t v,b.loc=.cell ⟨l,t,q⟩->ae k l t≠h v):fy J I ae (o++bz) w bU:=by
 have F:∀{d:Nat} {b:Touch},touchAt (o++bz) d=h b->(d<o.size/\touchAt o d=h b)∨(o.size<=d/\(o++bz).g? d=h 0/\∃a∈bz,a.act.touch?=h b):=by
  intro d b i;obtain⟨k,p,W⟩:=touch_of i;rcases getElem?_append_cases p with⟨bp,G⟩|⟨bp,Q⟩
  .grind [touchAt_of]
  exact .inr ⟨bp,by simp[Trace.g?,p,C k Q],k,Q,W⟩
 refine⟨u.base,u.cH,u.c_,u.b2,u.dV,u.er,u.ep,u.bG,u.fB,λsaid=>?_,seen_app u.seen B,λd b bp i I=>?_,λk p d b bp i I=>?_,λd b l bp i r=>?_,λd b bp i I=>?_,λk p d b bp i x N l t v K E=>?_,u.fM bz⟩
 .refine noRace_append (u.ei said) C λd b i a g l r e=>?_;have V:l.loc.isMemory=f:=by rw[<-e.1];exact e.2.1
  have aQ:=z a g l r V;rcases dY d J.bN with bp|bp
  .rcases u.old d b bp i e.2.1 with b1|⟨ar,L⟩
   .exact b1
   exfalso;obtain⟨X,s⟩:=J3 e.2.1;have R:=LX ar s;rcases aQ with⟨y,dK,eF,jK⟩|⟨H,dK,eF,jK,D,bB,S⟩
   .rw[e.1,dK]at s;simp[hN,eR]at s;rw[<-s,eF]at R;exact u.dV R
   rw[e.1,dK]at s;grind
  rcases u.new d b bp i e.2.1 with⟨x,_⟩|⟨k,p,x,O⟩
  .grind [zm]
  exact(u.ew p aQ O e.1 e.2.2.2 (λn j=>T a g l r n j k p) e.2.2.1).elim
 .have A:touchAt o d=h b:=Fl;exact(u.old d b bp A I).imp (·.app bz) id
 .have A:touchAt o d=h b:=Fl;exact(u.ea k p d b bp A I).imp (·.app bz) id
 .have A:touchAt o d=h b:=Fl;exact u.eH d b l bp A r
 .rcases F i with⟨n,j⟩|⟨_,j,a,g,M⟩
  .rw[oe n];exact u.new d b bp j I
  grind
 rcases F i with⟨n,j⟩|⟨_,j,a,g,M⟩
 .rw[oe n]at x;exact(u.eg k p d b bp j x N l t v K E).app bz
 exfalso;rcases z a g b M hp with⟨y,dK,eF,jK⟩|⟨H,_,_,_,_,_,S⟩
 .rw[K]at dK;cases dK;exact(u.bG k p l t v E).2.2.1 eF
 grind
def fy.h9(u:fy J I ae o w bU){l}(N:l<w)(V:∀n∈bz,n.g=J.base+l)(S:∀n∈bz,n.act.low bU)(ao:∀n∈bz,∀e,n.act.touch?=h e->e.loc.isMemory=f->nW J I (ae l) l e):fy J I ae (o++bz) w bU:=by
 have Y:=u.base;have ab:∀{g:Nat} {e:Touch},touchAt (o++bz) g=h e->(g<o.size/\touchAt o g=h e)∨(o.size<=g/\(o++bz).g? g=h (J.base+l)/\∃n∈bz,n.act.touch?=h e):=by
  intro g e bc;obtain⟨x,y,P⟩:=touch_of bc;rcases getElem?_append_cases y with⟨bp,aa⟩|⟨bp,U⟩
  .grind [touchAt_of]
  exact .inr ⟨bp,by simp[Trace.g?,y,V x U],x,U,P⟩
 refine⟨u.base,u.cH,u.c_,u.b2,u.dV,u.er,u.ep,u.bG,u.fB,λsaid=>?_,seen_app u.seen S,λg e bp bc I=>?_,λx y g e bp bc I=>?_,λg e Q bp bc K=>?_,λg e bp bc I=>?_,λx y g e bp bc z H Q k p ag aM=>?_,u.fM bz⟩
 .refine noRace_append (u.ei said) V λg e bc n C Q K j=>?_;have ah:Q.loc.isMemory=f:=by rw[<-j.1];exact j.2.1
  have aQ:=ao n C Q K ah;obtain⟨ax,v⟩:=J3 j.2.1;rcases dY g J.bN with bp|bp
  .rcases u.ea l N g e bp bc j.2.1 with M|⟨T,Z⟩
   .exact M
   exfalso;have E:=LX T v;rw[j.1]at v;rcases aQ with⟨R,dK,eF,jK⟩|⟨an,⟨ar,dK,eF⟩|⟨k,dK,_⟩|⟨dK,s,k,p,eF,jK⟩⟩
   .rw[dK]at v;simp[hN,eR]at v;rw[<-v,eF]at E;exact u.dV E
   .rw[dK]at v;simp[eR]at v;rw[<-v]at E;rw[u.ep _ E]at eF;omega
   .rw[dK]at v;simp[hN,eR]at v;rw[<-v]at E;exact u.er E
   rw[eF]at v;simp[hN,eR]at v;rw[<-v]at E;exact(u.bG l N s k p jK).2.2.2 E
  rcases u.new g e bp bc j.2.1 with⟨z,F⟩|⟨x,y,z,aj⟩
  ·
   by_cases G:e.write=f/\∃s k p,e.loc=.cell ⟨s,k,q⟩/\ae l s k=h p
   .obtain⟨i,s,k,p,r,W⟩:=G;exact u.eg l N g e bp bc z i s k p r W
   exfalso;refine u.ew (said:=said) N F aQ j.1.symm ?_ (λ_ ai s k p t aM=>G ⟨ai,s,k,p,t,aM⟩) j.2.2.1.symm;rcases j.2.2.2 with M|M|⟨i,r,W⟩
   .grind
   .grind
   grind
  by_cases L:x=l
  .grind [zm]
  exfalso;obtain⟨t,_,H,av⟩:=j;rcases aj with⟨R,dK,eF,jK⟩|⟨an,⟨gZ,dK,eF⟩|⟨k,dK,X,aw⟩|⟨dK,s,k,p,eF,jK⟩⟩
  .rcases aQ with⟨O,d,A,B⟩|⟨b3,⟨iE,d,A⟩|⟨k,d,_⟩|⟨d,s,k,p,A,B⟩⟩
   .grind
   .rw[<-t,dK]at d;simp[hN,eR]at d;rw[<-d,eF,u.cH]at A;omega
   .rw[<-t,dK]at d;cases d;exact u.b2 eF
   rw[<-t,dK]at A;cases A;exact(u.bG l N s k p B).2.2.1 eF
  .rcases aQ with⟨O,d,A,B⟩|⟨b3,⟨iE,d,A⟩|⟨k,d,_⟩|⟨d,s,k,p,A,B⟩⟩
   .rw[t,d]at dK;simp[hN,eR]at dK;rw[<-dK,A,u.cH]at eF;omega
   .grind
   .rw[t,d]at dK;simp[hN,eR]at dK;rw[<-dK,u.c_]at eF;omega
   rw[t,A]at dK;simp[hN,eR]at dK;rw[<-dK,(u.bG l N s k p B).1]at eF;omega
  .rcases aQ with⟨O,d,A,B⟩|⟨b3,⟨iE,d,A⟩|⟨D,d,bq,ak⟩|⟨d,s,D,p,A,B⟩⟩
   .rw[<-t,dK]at d;cases d;exact u.b2 A
   .rw[<-t,dK]at d;simp[hN,eR]at d;rw[<-d,u.c_]at A;omega
   .rw[<-t,dK]at d;cases d;rcases Nat.lt_or_gt_of_ne L with i|i
    .have:=wP J.aJ (show x+1<=l from i);grind
    have:=wP J.aJ (show l+1<=x from i);grind
   rw[<-t,dK]at A;cases A;exact(u.bG l N _ _ p B).2.1 a
  rcases aQ with⟨O,d,A,B⟩|⟨b3,⟨iE,d,A⟩|⟨D,d,bq,ak⟩|⟨d,aq,D,au,A,B⟩⟩
  .rw[<-t,eF]at d;cases d;exact(u.bG x y s k p jK).2.2.1 A
  .rw[<-t,eF]at d;simp[hN,eR]at d;rw[<-d,(u.bG x y s k p jK).1]at A;omega
  .rw[<-t,eF]at d;cases d;exact(u.bG x y _ _ p jK).2.1 a
  grind
 .have b:touchAt o g=h e:=Fk;exact(u.old g e bp b I).imp (·.app bz) id
 .have b:touchAt o g=h e:=Fk;exact(u.ea x y g e bp b I).imp (·.app bz) id
 .have b:touchAt o g=h e:=Fk;exact u.eH g e Q bp b K
 .rcases ab bc with⟨i,r⟩|⟨_,r,n,C,ad⟩
  .rw[oe i];exact u.new g e bp r I
  grind
 rcases ab bc with⟨i,r⟩|⟨_,r,_⟩
 .rw[oe i]at z;exact(u.eg x y g e bp r z H Q k p ag aM).app bz
 grind
def fy.mute(b:fy J I ae o w bU){C}(z:∀i∈bz,i.g=C)(l:∀i∈bz,i.act.low bU)(u:∀i∈bz,i.act.touch?=q):fy J I ae (o++bz) w bU:=by
 have old:∀{d:Nat} {e:Touch},touchAt (o++bz) d=h e->d<o.size/\touchAt o d=h e:=by intro d e g;obtain⟨E,D,B⟩:=touch_of g;grind[touchAt_of]
 refine⟨b.base,b.cH,b.c_,b.b2,b.dV,b.er,b.ep,b.bG,b.fB,λsaid=>noRace_append (b.ei said) z λd e _ i r k j _=>M,seen_app b.seen l,λd e a g I=>(b.old d e a (old g).2 I).imp (·.app bz) id,
  λp n d e a g I=>(b.ea p n d e a (old g).2 I).imp (·.app bz) id,λd e k a g j=>b.eH d e k a (old g).2 j,λd e a g I=>?_,λp n d e a g s v k x A t y=>?_,b.fM bz⟩
 .rw[oe (old g).1];exact b.new d e a (old g).2 I
 rw[oe (old g).1]at s;exact(b.eg p n d e a (old g).2 s v k x A t y).app bz
def fy.gj(i:fy J I ae o w bU){l X}(O:l.g=0/\l.act=.go (J.base+w))(D:X.g=J.base+w/\X.act=.start)(E:Deaf o 0=0)(v:Deaf o (J.base+w)=0)(T:∀e t u,ae w e t=h u->I e=0/\e≠J.ai/\e≠J.f/\¬J.bD e):fy J I ae (o++#[l,X]) (w+1) bU:=by
 have z:∀g∈#[l,X],g.act.touch?=q:=by
  intro g a;simp[List.mem_toArray,fl,sq,or_false]at a;rcases a with rfl|rfl
  .exact hp
  exact hp
 have N:∀g∈#[l,X],g.act.low bU:=by
  intro g a;simp[List.mem_toArray,fl,sq,or_false]at a;rcases a with rfl|rfl
  .exact hp
  exact hp
 have old:∀{j:Nat} {n:Touch},touchAt (o++#[l,X]) j=h n->j<o.size/\touchAt o j=h n:=by intro j n p;obtain⟨r,B,S⟩:=touch_of p;grind[touchAt_of]
 have k:∀r,r<w+1->∀e t u,ae r e t=h u->I e=0/\e≠J.ai/\e≠J.f/\¬J.bD e:=λr B e t u x=>by
  rcases dY r w with b|b
  .exact i.bG r b e t u x
  grind
 refine⟨i.base,i.cH,i.c_,i.b2,i.dV,i.er,i.ep,k,i.fB,λsaid=>?_,seen_app i.seen N,λj n d p I=>(i.old j n d (old p).2 I).imp (·.app _) id,
  λr B j n d p I=>?_,λj n e d p s=>i.eH j n e d (old p).2 s,λj n d p I=>?_,λr B j n d p A R e t u Q x=>?_,i.fM _⟩
 .have F:o++#[l,X]=(o++#[l])++#[X]:=M;rw[F];refine noRace_append (g:=J.base+w) (noRace_append (g:=0) (i.ei said) (λg a=>by grind) (λj n _ g a e s _=>M)) (λg a=>by grind) (λj n _ g a e s _=>?_);grind
 .rcases dY r w with b|b
  .exact(i.ea r b j n d (old p).2 I).imp (·.app _) id
  obtain rfl:r=w:=y;exact(i.old j n d (old p).2 I).imp (fork_knows O D E v) id
 .rw[oe (old p).1];rcases i.new j n d (old p).2 I with b|⟨r,b,K⟩
  .grind
  grind
 rw[oe (old p).1]at A;rcases dY r w with b|b
 .exact(i.eg r b j n d (old p).2 A R e t u Q x).app _
 obtain rfl:r=w:=y;exact fork_knows O D E v (zm (old p).2 A)
def fy.jH(i:fy J I ae o w bU)(H:Deaf o 0=0)(y:NoRelease (stA J.f) o){bc}(F:o.act? bc=h (.mark (.acquire (stA J.f))))(C:o.g? bc=h 0)(E:o.heard bc)(Q:∀d,d<w->∃k,RelBy (stA J.f) o (J.base+d) k/\k<bc):Past (jv λp=>J.bD p∨p=J.f) bU o:=by
 have B:∀d,d<w->∀a,o.g? a=h (J.base+d)->o.counts a->HappensBefore o a bc:=by
  intro d s a j n;obtain⟨k,t,O⟩:=Q d s;have S:HappensBefore o k bc:=.single (.inr ⟨.marked O (.inr t.act) F (λU _ _=>y U),t.heard,E⟩);have L:a<=k:=Nat.le_of_not_lt λA=>t.after a A j n;rcases dY a k with A|G
  .exact .trans (.single (.inl ⟨A,_,j,t.g⟩)) S
  grind
 have V:∀{u:Go.Loc},jv J.bD u->jv (λp=>J.bD p∨p=J.f) u:=λ{u} r=>by cases u<;>first|exact .inl r|exact r
 refine⟨i.ei,λa g l I=>?_,λa T j N n=>?_,H,i.seen⟩
 .rcases dY a J.bN with b|b
  .exact(i.old a g b l I).imp id λ⟨e,v⟩=>⟨V e,v⟩
  rcases i.new a g b l I with⟨e,_⟩|⟨d,s,j,aQ⟩
  .grind [zm]
  rcases aQ with⟨R,dK,eF,jK⟩|⟨bB,_⟩
  .exact .inr ⟨by rw[dK];exact .inr eF,jK⟩
  left;have n:o.counts a:=⟨g,l,I,.inl M⟩
  obtain⟨W,K,D⟩:=ra.1 C;exact⟨bc,W,K,D,.inr (B d s a j n)⟩
 rcases dY a J.bN with b|b
 .exact i.over a T b j N n
 obtain⟨g,l,I,x⟩:=n;rcases i.new a g b l I with⟨e,_⟩|⟨d,s,z,aQ⟩
 .grind
 exact⟨bc,C,B d s a z ⟨g,l,I,x⟩⟩
def fy.start{J}{o}{bU}{n:Nat->Mem}(d:Past (jv J.bD) bU o)(aQ:J.bN=o.size)(i:1<=J.base)(g:J.ai≠J.f)(t:¬J.bD J.f)(r:¬J.bD J.ai):fy J (λ_=>0) n o 0 bU:=
 ⟨i,rfl,rfl,g,t,r,λ_ _=>rfl,λb a=>absurd a (iC b),by omega,d.clean,d.seen,λe k _ j l=>d.known e k j l,λb a=>absurd a (iC b),λ_ _ _ _ _ _=>rfl,
  λe k s j _=>by
   obtain⟨b,a,_⟩:=touch_of j
   grind,λb a=>absurd a (iC b),λe p _ u g v=>d.over e p u g v⟩
end
end
section
open Go.Conc
open Go.ConcN (WD CTag Mode Vc Ssum pend phi cnt WgLive PayAt Has RW DWs WSit RelBy sumTo upd upd_same upd_ne AtR0 get_map_set get_map_set_same norel_of Deaf_still)
open Go.ConcR (KK WgAt stA smA rd wr mk Payload g_of_ofEvents)
def ai.c6(P):ai P:={b7:=m,rely:=cU,de:=λ_ _ _=>False,bM:=id,dP:=True}
def ai.aG(P)(d:av)(a:Nat):ai P:={b7:=f,rely:=λe b=>cU e b/\(WgLive d a e.a->WgLive d a b.a),de:=λ_ _ _=>False,bM:=λg=>g.1,dP:=False}
instance (P:aI):(ai.c6 P).b':=⟨v⟩
def eH:a5->a5->Array aU->Prop:=λ_ _ _=>False
def dS(b:Nat):a5->a5->Array aU->Prop:=λg e a=>e=g/\∃d:Addr,d.block=b/\(a=#[mk (.read d)]∨a=#[mk (.write d)])
def pP:Nat->Go.Loc->Prop:=λ_ _=>False
variable [Payload]
structure Ry(N D eV i:Nat)(B:Nat->Z)(Q bh:au):Prop where
 tape:bh.tape=Q.tape
 os:bh.os=Q.os
 output:bh.output=Q.output
 size:bh.heap.size=Q.heap.size
 block:∀j,j≠N->bh.heap[j]?=Q.heap[j]?
 bT:PayAt N D bh
 hE:∀t,(t<eV∨eV+i<=t)->bh.cell? ⟨N,t,q⟩=Q.cell? ⟨N,t,q⟩
 new:∀e,e<i->bh.cell? ⟨N,eV+e,q⟩=h (B e)
section
variable (P:aI)(ty:av)(J:hA)(D:Nat)(val:Nat->Nat->Z)
def ua(a:Nat)(g:ak)(i:a5):Prop:=
 g.status=.running/\∀w1,cU i {i with a:=w1}->PayAt J.ai D w1->WgLive ty J.f w1 ->
  ∃d w2 b,aq P m g w1=.go d w2 b/\Ry J.ai D (J.aJ*a) J.aJ (val a) w1 w2/\(∀j∈b,∃e,j=⟨.cell ⟨J.ai,e,q⟩,f,m⟩/\J.aJ*a<=e/\e<J.aJ*a+J.aJ) /\
   ∃k,Goes P m (RW ty J.f J.ai D 0 (J.aJ*a)) Go.ConcR.DC0 (AtR0 P ty J.f J.ai D 0 (J.aJ*a+1) (val a 0)) k d w2
end
structure hj(ae:Nat->Nat)(a':Mem)(C:Nat)(b:a5):Prop where
 blk:∀j,(b.own j∨∃L∈b.m,j∈L.al)->ae j=C/\j<b.a.heap.size
 u:∀j t aa,b.u j t=h aa->(ae j=C∨a' j t=h aa)/\j<b.a.heap.size
structure gh(J:hA)(ae:Nat->Nat)(O:Nat->Mem)(w:Nat)(b:a5):Prop where
 blk:∀j,(b.own j∨∃L∈b.m,j∈L.al)->ae j=0/\j≠J.ai/\j≠J.f/\¬J.bD j/\j<b.a.heap.size
 u:∀j t aa,b.u j t=h aa->ae j=0/\j≠J.ai/\j≠J.f/\¬J.bD j/\j<b.a.heap.size
 bG:∀l,l<w->∀j t aa,O l j t=h aa->b.u j t=h aa
structure lz(J:hA)(ae:Nat->Nat)(a':Mem)(X:Nat)(Q bh:au):Prop where
 size:Q.heap.size<=bh.heap.size
 blk:∀j,j<Q.heap.size->ae j=J.base+X->bh.heap[j]?=Q.heap[j]?
 cell:∀j t aa,a' j t=h aa->Q.cell? ⟨j,t,q⟩=h aa->bh.cell? ⟨j,t,q⟩=h aa
 bT:∀t,J.aJ*X<=t->t<J.aJ*X+J.aJ->bh.cell? ⟨J.ai,t,q⟩=Q.cell? ⟨J.ai,t,q⟩
 os:bh.os=Q.os
 tape:bh.tape=Q.tape
 output:bh.output=Q.output
omit [Payload]in
def lz.refl(J)(a:Nat->Nat)(d)(X)(Q):lz J a d X Q Q:=⟨bC _,λ_ _ _=>rfl,λ_ _ _ _ b=>b,λ_ _ _=>rfl,rfl,rfl,rfl⟩
omit [Payload]in
def lz.at(J)(b:Nat->Nat)(e)(X)(Q)(a):lz J b e X Q (Q.at a):=⟨bC _,λ_ _ _=>rfl,λ_ _ _ _ d=>d,λ_ _ _=>rfl,rfl,rfl,rfl⟩
structure q_(J:hA)(ae:Nat->Nat)(Q bh:au):Prop where
 size:Q.heap.size<=bh.heap.size
 blk:∀j,j<Q.heap.size->ae j=0->j≠J.ai->j≠J.f->bh.heap[j]?=Q.heap[j]?
 os:bh.os=Q.os
 tape:bh.tape=Q.tape
 output:bh.output=Q.output
omit [Payload]in
def m'{a:au}(b:bh.heap[j]?=a.heap[j]?)(t):bh.cell? ⟨j,t,q⟩=a.cell? ⟨j,t,q⟩:=by simp[aN,b]
omit [Payload]in
def cU.eD{Q}(e:cU b {b with a:=Q})(p:Q.heap.size<=bh.heap.size)(l:∀d,(b.own d∨∃L∈b.m,d∈L.al)->bh.heap[d]?=Q.heap[d]?)(a:∀d g i,b.u d g=h i->Q.cell? ⟨d,g,q⟩=h i->bh.cell? ⟨d,g,q⟩=h i)(n:bh.os=Q.os)(o:bh.tape=Q.tape)(r:bh.output=Q.output):cU b {b with a:=bh}:=
 ⟨rfl,rfl,rfl,fF e.size p,λd j=>by show bh.heap[d]?=_;rw[l d j];exact e.a6 d j,λd g i k=>a d g i k (e.mem d g i k),n.trans e.os,o.trans e.tape,r.trans e.output⟩
section
variable {J:hA}{ae ej:Nat->Nat}{O:Nat->Mem}{X:Nat}{Q:au}
omit [Payload]in
def hj.dh(l:hj ae (O X) (J.base+X) b)(k:cU b {b with a:=Q})(a:lz J ae (O X) X Q bh):cU b {b with a:=bh}:=by
 have n:=k.size;refine k.eD a.size (λe p=>?_) (λe g o r j=>?_) a.os a.tape a.output
 .obtain⟨d,i⟩:=l.blk e p;exact a.blk e (ey i n) d
 obtain⟨d,i⟩:=l.u e g o r;rcases d with d|d
 .rw[m' (a.blk e (ey i n) d) g];exact j
 exact a.cell e g o d j
omit [Payload]in
def hj.eK{i}{C}(g:hj ae i C b)(p:b.a.heap.size<=Q.heap.size)(o:∀a,a<Q.heap.size->ej a=ae a):hj ej i C b:=
 ⟨λa j=>let ⟨d,e⟩:=g.blk a j;⟨by grind,e⟩,λa k n l=>let ⟨d,e⟩:=g.u a k n l;⟨by grind,e⟩⟩
omit [Payload]in
def gh.dh(k:gh J ae O w b)(j:cU b {b with a:=Q})(a:q_ J ae Q bh):cU b {b with a:=bh}:=by
 have n:=j.size;refine j.eD a.size (λe p=>?_) (λe l s r o=>?_) a.os a.tape a.output
 .obtain⟨d,g,i,H,z⟩:=k.blk e p;exact a.blk e (ey z n) d g i
 obtain⟨d,g,i,H,z⟩:=k.u e l s r;rw[m' (a.blk e (ey z n) d g i) l];exact o
omit [Payload]in
def gh.eK(e:gh J ae O w b)(p:b.a.heap.size<=Q.heap.size)(o:∀a,a<Q.heap.size->ej a=ae a):gh J ej O w b:=
 ⟨λa j=>let ⟨d,g,i,H,z⟩:=e.blk a j;⟨by grind,g,i,H,z⟩,
  λa k n l=>let ⟨d,g,i,H,z⟩:=e.u a k n l;⟨by grind,g,i,H,z⟩,e.bG⟩
omit [Payload]in
def hj.rely{j}{C}(i:hj ae j C b)(g:b.a.heap.size<=Q.heap.size):hj ae j C {b with a:=Q}:=
 ⟨λa k=>let ⟨d,e⟩:=i.blk a k;⟨d,ey e g⟩,λa l o n=>let ⟨d,e⟩:=i.u a l o n;⟨d,ey e g⟩⟩
omit [Payload]in
def gh.rely(e:gh J ae O w b)(j:b.a.heap.size<=Q.heap.size):gh J ae O w {b with a:=Q}:=
 ⟨λa k=>let ⟨d,g,i,H,z⟩:=e.blk a k;⟨d,g,i,H,ey z j⟩,λa l o n=>let ⟨d,g,i,H,z⟩:=e.u a l o n;⟨d,g,i,H,ey z j⟩,e.bG⟩
omit [Payload]in
theorem hj.aV{e}{C}(a:hj ae e C b)(i:eT b az):hj ae e C az:=by
 refine⟨λj s=>by rw[i.a];exact a.blk j (i.blk j s),λj g k bc=>?_⟩;rw[i.a];by_cases s:∃L∈b.m,j∈L.al
 .obtain⟨d,l⟩:=a.blk j (.inr s);grind
 exact a.u j g k Q6
omit [Payload]in
def hj.b1{i}{C}(e:hj ae i C b)(a:nP b az):hj ae i C az:=
 ⟨λd k=>by rw[a.a];exact e.blk d (by rw[<-a.own,<-a.m];exact k),λd g j l=>by rw[a.a];exact e.u d g j (a.e5 d g j l)⟩
omit [Payload]in
theorem gh.aV(a:gh J ae O w b)(i:eT b az):gh J ae O w az:=by
 refine⟨λj s=>by rw[i.a];exact a.blk j (i.blk j s),λj d e bc=>?_,λk g j d e bc=>i.mem _ _ _ (a.bG k g j d e bc)⟩;rw[i.a];by_cases s:∃L∈b.m,j∈L.al
 .exact a.blk j (.inr s)
 exact a.u j d e Q6
def lU(d:Nat->Nat)(b e:Nat):Nat->Nat:=λa=>if a<b then d a else e
omit [Payload]in
theorem lf{b:Nat->Nat}{a C}(d:j<a):lU b a C j=b j:=by simp[lU,d]
omit [Payload]in
theorem CP{b:Nat->Nat}{a C}(d:a<=j):lU b a C j=C:=by simp[lU,nX.2 d]
omit [Payload]in
def hj.step{l}{C}(i:hj ae l C b)(G:bb ao az)(e:cN n b ao az):hj (lU ae b.a.heap.size C) l C az:=by
 refine⟨λa d=>?_,λa r t k=>?_⟩
 .rcases d with d|⟨L,W,d⟩
  .rw[e.own]at d;obtain⟨g,s⟩:=i.blk a (.inl d);exact⟨by grind[lf],ey s e.size⟩
  have j:=G.lt L W a d;rcases e.bV L W a d with g|⟨p,o,g⟩
  .grind [CP]
  obtain⟨k1,aM⟩:=i.blk a (.inr ⟨p,o,g⟩);grind[lf]
 have j:=gi.lt G.mem k;rcases dY a b.a.heap.size with g|g
 .rw[lf g];by_cases d:∃L∈b.m,a∈L.al
  .exact⟨.inl (i.blk a (.inr d)).1,j⟩
  rw[e.bF a g (λL W u=>d ⟨L,W,u⟩)]at k;exact⟨(i.u a r t k).1,j⟩
 grind[CP]
omit [Payload]in
def gh.step(i:gh J ae O w b)(G:bb ao az)(d:cN n b ao az)(B:J.f<b.a.heap.size)(y:J.ai<b.a.heap.size)(A:∀a,J.bD a->a<b.a.heap.size):gh J (lU ae b.a.heap.size 0) O w az:=by
 have F:∀a,b.a.heap.size<=a->a<az.a.heap.size->lU ae b.a.heap.size 0 a=0/\a≠J.ai/\a≠J.f/\¬J.bD a/\a<az.a.heap.size:=λa g l=>
  ⟨CP g,by omega,by omega,λI=>by grind,l⟩
 refine⟨λa e=>?_,λa k o j=>?_,λD v a k o j=>d.mem _ _ _ (i.bG D v a k o j)⟩
 .rcases e with e|⟨L,W,e⟩
  .rw[d.own]at e;obtain⟨g,l,C,H,z⟩:=i.blk a (.inl e);exact⟨by grind[lf],l,C,H,ey z d.size⟩
  have t:=G.lt L W a e;rcases d.bV L W a e with g|⟨x,u,g⟩
  .grind
  obtain⟨k1,aM,p,s,r⟩:=i.blk a (.inr ⟨x,u,g⟩);grind[lf]
 have t:=gi.lt G.mem j;rcases dY a b.a.heap.size with g|g
 .by_cases e:∃L∈b.m,a∈L.al
  .obtain⟨k1,aM,p,s,r⟩:=i.blk a (.inr e);grind[lf]
  rw[d.bF a g (λL W E=>e ⟨L,W,E⟩)]at j;obtain⟨k1,aM,p,s,r⟩:=i.u a k o j;grind[lf]
 grind
end
end
section
open Go.Conc
open Go.ConcN (WD CTag Mode Vc Ssum pend phi cnt WgLive PayAt Has RW DWs WSit RelBy sumTo upd upd_same upd_ne AtR0 get_map_set get_map_set_same norel_of Deaf_still)
open Go.ConcR (KK WgAt stA smA rd wr mk Payload g_of_ofEvents)
variable [Payload]
section
variable (P:aI)(ty:av)(J:hA)(D:Nat)(val:Nat->Nat->Z)(d:Nat->Nat)(s:Nat->Mem)
inductive hB (l:Nat):Nat->Nat->cj->Nat->ak->au->Prop
 |c7 {a':cj} {C:ak} {b:a5} {Q:au}:gy (ai.c6 P) eH (ua P ty J D val l) a' C b->cU b {b with a:=Q}->hj d (s l) (J.base+l) b->hB l 1 7 a' 0 C Q
 |rel {A:Nat} {C:ak} {Q:au}:Goes P m (RW ty J.f J.ai D 0 (J.aJ*l)) Go.ConcR.DC0 (AtR0 P ty J.f J.ai D 0 (J.aJ*l+1) (val l 0)) A C Q->hB l 0 7 (cj.dG A) 0 C Q
 |tail {b7 A I:Nat} {C:ak} {Q:au}:b7<=6->WSit P ty J.f J.ai D pP pP 0 (J.aJ*l+1) (val l 0) b7 A I C Q->hB l 0 b7 (cj.dG A) I C Q
structure ic(w:Nat)(gs:Array ak)(Q:au)(o:Trace)(z:Nat->WD)(O:Nat->Nat)(ar:Nat->cj)(k:Nat):Prop where
 size:gs.size=J.base+w
 dr:∀e C,0<e->e<J.base->gs[e]?=h C->∃A,ar e=cj.dG A/\QuitsD P A (Deaf o e) C
 above:∀e,J.base+w<=e->Deaf o e=0
 c5:∀l,l<w->∃C,gs[J.base+l]?=h C/\hB P ty J D val d s l (O l) (z l).stage (ar (J.base+l)) (z l).deaf C Q
 bu:fy J d s o w Q.heap.size
 dR:m1 o
 dz:Deaf o 0=k
 dA:∀l,l<w->Deaf o (J.base+l)=(z l).deaf
 rel:∀l,l<w->(z l).stage<=6->∃a',RelBy (stA J.f) o (J.base+l) a'
 dk:∀l,l<w->O l=0->∀e,1<=e->e<J.aJ->Q.cell? ⟨J.ai,J.aJ*l+e,q⟩=h (val l e)
 dM:∀l,l<w->(z l).stage<=6->Has J.ai (J.aJ*l) (val l 0) Q
 bT:PayAt J.ai D Q
 cV:WgLive ty J.f Q
 ck:J.f<Q.heap.size
 cw:J.ai<Q.heap.size
 dq:∀j,J.bD j->j<Q.heap.size
 aJ:0<J.aJ
 dE:∀X,X<w->∀j t aa,s X j t=h aa->j<Q.heap.size
end
section
variable {P:aI}{ty:av}{J:hA}{D:Nat}{val:Nat->Nat->Z}{d ej:Nat->Nat}{s:Nat->Mem}{l:Nat}{Q:au}{o:Trace}{z:Nat->WD}{O:Nat->Nat}{ar:Nat->cj}{k:Nat}
def RW.dh(j:lz J d (s l) l Q bh)(b:WgLive ty J.f bh)(e:PayAt J.ai D bh)(i:0<J.aJ):RW ty J.f J.ai D 0 (J.aJ*l+1-1) Q bh:=
 ⟨λg a=>absurd a (iC g),λ_=>b,λ_=>e,j.bT _ (bC _) M⟩
def hB.dh{p b7 r}{u}{C}(v:hB P ty J D val d s l p b7 u r C Q)(o:lz J d (s l) l Q bh)(i:WgLive ty J.f bh)(t:PayAt J.ai D bh)(g:0<J.aJ)(n:∀j,j<Q.heap.size->ej j=d j):
  hB P ty J D val ej s l p b7 u r C bh:=by
 cases v with
 |c7 a b e=>exact .c7 a (e.dh b o) (e.eK b.size n)
 |rel a=>exact .rel (Goes.rely (λ_ _ _ a b=>a.trans b) a (RW.dh o i t g))
 |tail k a=>exact .tail k (a.rely (RW.dh o i t g))
omit [Payload]in
def gy.run{j:ai P}{i:a5->a5->Array aU->Prop}{e:ak->a5->Prop}(g:∀b d,e b d->b.status=.running):∀{a':cj}{b:ak}{d:a5},gy j i e a' b d->b.status=.running
 |.leaf,_,_,a=>g _ _ a
 |.node k,b,d,a=>by
  rcases a with a|⟨l,_,a⟩|⟨a,_⟩
  .grind
  .exact gy.run g (a':=k d) a
  grind
def hB.status{e b7 g}{i}{C}(b:hB P ty J D val d s l e b7 i g C Q):C.status=.running∨C.status=.finished:=by
 cases b with
 |c7 a _ _=>exact .inl (a.run λC j b=>b.1)
 |rel a=>exact .inl (Goes.running (λ_ _ l=>l.1) Q (Go.ConcN.RW.refl Q) a)
 |tail _ a=>exact a.status
def hB.woken{a b7 b}{i}{C}(g:hB P ty J D val d s l a b7 i b C Q)(j e)(bh):woken P j e bh C=C:=by
 unfold Go.Conc.woken;split
 .exact again_running _ g.status
 simp
def ic.at(a:ic P ty J D val d s w gs Q o z O ar k)(e):ic P ty J D val d s w gs (Q.at e) o z O ar k:=
 ⟨a.size,a.dr,a.above,λg b=>let ⟨C,cS,dp⟩:=a.c5 g b;⟨C,cS,dp.dh (.at ..) a.cV a.bT a.aJ λ_ _=>rfl⟩,a.bu,a.dR,a.dz,a.dA,a.rel,a.dk,a.dM,a.bT,a.cV,a.ck,a.cw,a.dq,a.aJ,a.dE⟩
def ic.aR(u:ic P ty J D val d s w gs Q o z O ar k)(W:l<w){r}{fn}{pos}{T}{x p A}{N}(K:∀t,t<Q.heap.size->ej t=d t)(F:Q.heap.size<=bh.heap.size)(Z:∀b,b<w->b≠l->lz J d (s b) b Q bh)(aB:hB P ty J D val ej s l x p N A r bh)(az:∀g∈T,(aP g).low bh.heap.size)(a:∀g∈T,∀E,(aP g).touch?=h E->E.loc.isMemory=f->nW J ej (s l) l E)(ak:∀g∈T,∀E,g.loc≠.mark (.release E))(ax:deafBehind (z l).deaf T=A)(aA:p<=6->∃aa,RelBy (stA J.f) (o++MemOp.ofEvents (J.base+l) fn pos T) (J.base+l) aa)(aq:x=0->∀e,1<=e->e<J.aJ->bh.cell? ⟨J.ai,J.aJ*l+e,q⟩=h (val l e))(ao:p<=6->Has J.ai (J.aJ*l) (val l 0) bh)(H:PayAt J.ai D bh)(aj:WgLive ty J.f bh):
  ic P ty J D val ej s w ((gs.map (woken P C r bh)).setIfInBounds (J.base+l) r) bh (o++MemOp.ofEvents (J.base+l) fn pos T) (upd z l ⟨p,0,A⟩) (upd O l x) (upd ar (J.base+l) N) k:=by
 have I:=u.bu.base;have R:∀b,b≠l->J.base+l≠J.base+b:=λb j g=>j y;have an:∀e G,0<e->e<J.base->((gs.map (Go.Conc.woken P C r bh)).setIfInBounds (J.base+l) r)[e]?=h G->gs[e]?=h G:=by intro e G bp n i;rw[get_map_set _ _ _ _ y]at i;obtain⟨aw,X,rfl⟩:=ra.1 i;obtain⟨ai,_,av⟩:=u.dr e aw bp n X;grind[woken_quitsD]
 refine⟨by simp[u.size],λe G bp n i=>?_,λe bp=>?_,λb j=>?_,?_,u.dR.app ak,by rw[Deaf_other o y _ g_of_ofEvents,u.dz],λb j=>?_,λb j B=>?_,λb j S e L aM=>?_,λb j B=>?_,H,aj,ey u.ck F,ey u.cw F,λt I=>ey (u.dq t I) F,u.aJ,λb j t Y ab U=>ey (u.dE b j t Y ab U) F⟩
 .obtain⟨ai,ae,ag⟩:=u.dr e G bp n (an e G bp n i);refine⟨ai,by rw[upd_ne ar _ y];omega,?_⟩;rw[Deaf_other o y _ g_of_ofEvents];omega
 .exact N1
 .by_cases g:b=l
  .subst g;exact⟨r,get_map_set_same _ _ _ (by rw[u.size];omega),by rw[upd_same,upd_same,upd_same];omega⟩
  obtain⟨G,i,ad⟩:=u.c5 b j;refine⟨G,by rw[get_map_set _ _ _ _ (R b g),i,lC,ad.woken],?_⟩;rw[upd_ne O _ g,upd_ne z _ g,upd_ne ar _ (R b g).symm];exact ad.dh (Z b j g) aj H u.aJ K
 .refine(u.bu.eK K F u.ck u.cw u.dq λb j t Y ab U=>?_).h9 W (λM v=>by grind[Go.Conc.mem_ofEvents]) (λM v=>?_) (λM v E S ah=>?_)
  .exact u.dE b j t Y ab U
  .exact EX
  grind[Go.Conc.mem_ofEvents]
 .by_cases g:b=l
  .subst g;rw[Deaf_own,u.dA b j,upd_same];omega
  rw[Deaf_other o (R b g) _ g_of_ofEvents,u.dA b j,upd_ne z _ g]
 .by_cases g:b=l
  .subst g;rw[upd_same]at B;grind
  rw[upd_ne z _ g]at B;obtain⟨aa,V⟩:=u.rel b j B;exact⟨aa,V.appOther g_of_ofEvents (R b g)⟩
 .by_cases g:b=l
  .subst g;rw[upd_same]at S;grind
  rw[upd_ne O _ g]at S;rw[(Z b j g).bT _ y y];exact u.dk b j S e L aM
 by_cases g:b=l
 .subst g;rw[upd_same]at B;grind
 rw[upd_ne z _ g]at B;have:=u.dM b j B;have au:=u.aJ;simp only[Has]at this⊢;rw[(Z b j g).bT _ y y];omega
def ic.hZ(u:ic P ty J D val d s w gs Q o z O ar k){hi}{fn}{pos}{T}(v:∀n,n<Q.heap.size->ej n=d n)(A:Q.heap.size<=bh.heap.size)(I:∀b,b<w->lz J d (s b) b Q bh)(aM:∀p∈T,(aP p).low bh.heap.size)(R:∀p∈T,∀j,(aP p).touch?=h j->j.loc.isMemory=f->oT J ej j)(ag:∀p∈T,∀j,(aP p).touch?=h j->j.kind=.plain->j.write=f->∀U,U<w->∀n B K,j.loc=.cell ⟨n,B,q⟩->s U n B≠h K)(V:∀p∈T,∀j,p.loc≠.mark (.release j))(M:PayAt J.ai D bh)(S:WgLive ty J.f bh):
  ic P ty J D val ej s w ((gs.map (woken P C hi bh)).setIfInBounds 0 hi) bh (o++MemOp.ofEvents 0 fn pos T) z O ar (deafBehind k T):=by
 have t:=u.bu.base;have aa:=u.aJ;refine⟨by simp[u.size],λe N bp x i=>?_,λe bp=>?_,λb g=>?_,?_,u.dR.app V,by rw[Deaf_own,u.dz],λb g=>by rw[Deaf_other o y _ g_of_ofEvents,u.dA b g],λb g E=>?_,λb g F e H W=>?_,λb g E=>?_,M,S,ey u.ck A,ey u.cw A,λn t=>ey (u.dq n t) A,u.aJ,λb g n B K a=>ey (u.dE b g n B K a) A⟩
 .rw[get_map_set _ _ _ _ y]at i;obtain⟨ae,Y,rfl⟩:=ra.1 i;obtain⟨ab,L,X⟩:=u.dr e ae bp x Y;exact⟨ab,L,by rw[woken_quitsD X,Deaf_other o y _ g_of_ofEvents];omega⟩
 .exact N1
 .obtain⟨N,i,G⟩:=u.c5 b g;exact⟨N,by rw[get_map_set _ _ _ _ y,i,lC,G.woken],G.dh (I b g) S M u.aJ v⟩
 .refine(u.bu.eK v A u.ck u.cw u.dq u.dE).app0 (λr l=>by grind[Go.Conc.mem_ofEvents]) (λr l=>EX) (λr l j F ah=>EX) (λr l j F=>?_);grind[Go.Conc.mem_ofEvents]
 .obtain⟨ad,Z⟩:=u.rel b g E;exact⟨ad,Z.appOther g_of_ofEvents y⟩
 .rw[(I b g).bT _ y y];exact u.dk b g F e H W
 have:=u.dM b g E;simp only[Has]at this⊢;rw[(I b g).bT _ y y];omega
def ic.bt(b:ic P ty J D val d s w gs Q o z O ar k)(R:0<e)(Y:e<J.base){j}{fn}{pos}{T}(V:∀g∈T,g.mute=f)(L:QuitsD P A (deafBehind (Deaf o e) T) j):
  ic P ty J D val d s w ((gs.map (woken P C j Q)).setIfInBounds e j) Q (o++MemOp.ofEvents e fn pos T) z O (upd ar e (cj.dG A)) k:=by
 have K:=b.bu.base;have S:∀g∈T,∀x,g.loc≠.mark (.release x):=λg N x=>Kh (V g N) x;refine⟨by simp[b.size],λv B l p a=>?_,λv l=>?_,λu n=>?_,?_,b.dR.app S,by rw[Deaf_other o y _ g_of_ofEvents,b.dz],λu n=>by rw[Deaf_other o y _ g_of_ofEvents,b.dA u n],λu n I=>?_,b.dk,b.dM,b.bT,b.cV,b.ck,b.cw,b.dq,b.aJ,b.dE⟩
 .by_cases g:v=e
  .subst g;rw[get_map_set_same _ _ _ M]at a;cases a;exact⟨A,by rw[upd_same],by grind[Deaf_own]⟩
  rw[get_map_set _ _ _ _ (p3 g)]at a;obtain⟨X,F,rfl⟩:=ra.1 a;obtain⟨E,H,W⟩:=b.dr v X l p F;exact⟨E,by rw[upd_ne ar _ g];omega,by rw[woken_quitsD W,Deaf_other o (p3 g) _ g_of_ofEvents];omega⟩
 .rw[Deaf_other o y _ g_of_ofEvents];exact b.above v l
 .obtain⟨B,a,t⟩:=b.c5 u n;exact⟨B,by rw[get_map_set _ _ _ _ y,a,lC,t.woken],by rw[upd_ne ar _ y];omega⟩
 .exact b.bu.mute (C:=e) (λr i=>by grind[Go.Conc.mem_ofEvents]) (λr i=>by grind[Go.Conc.mem_ofEvents,low_mute]) (λr i=>by grind[Go.Conc.mem_ofEvents,touch_mute])
 obtain⟨U,G⟩:=b.rel u n I;exact⟨U,G.appOther g_of_ofEvents y⟩
def ic.spawn(e:ic P ty J D val d s w gs Q o z O ar 0){fE ro}{l X}{K}(Y:l.g=0/\l.act=.go (J.base+w))(H:X.g=J.base+w/\X.act=.start)(L:∀j B E,s w j B=h E->d j=0/\j≠J.ai/\j≠J.f/\¬J.bD j/\j<Q.heap.size)(aM:gy (ai.c6 P) eH (ua P ty J D val w) K ro b)(R:cU b {b with a:=Q})(G:hj d (s w) (J.base+w) b):
  ic P ty J D val d s (w+1) ((gs.setIfInBounds 0 fE).push ro) Q (o++#[l,X]) (upd z w ⟨7,0,0⟩) (upd O w 1) (upd ar (J.base+w) K) 0:=by
 have Z:=e.bu.base;have ad:∀i∈#[l,X],i=l∨i=X:=M;have I:∀i∈#[l,X],i.act≠.mark .disable/\i.act≠.mark .enable:=M;have aa:∀k,0<k->k<J.base+w->((gs.setIfInBounds 0 fE).push ro)[k]?=gs[k]?:=λk n a=>by rw[Array.getElem?_push_lt (by simp[e.size];omega),<-iz,sy y]
 refine⟨by simp[e.size];omega,λk T n x u=>?_,λk n=>?_,λg C=>?_,e.bu.gj Y H e.dz (e.above _ (bC _)) λj B E U=>let ⟨r,t,W,V,_⟩:=L j B E U;⟨r,t,W,V⟩,λS=>(e.dR S).app λi A=>?_,by rw[Deaf_still o 0 _ I,e.dz],λg C=>?_,λg C p=>?_,λg C N=>?_,λg C p=>?_,e.bT,e.cV,e.ck,e.cw,e.dq,e.aJ,λg C j B E U=>?_⟩
 .rw[aa k n y]at u;obtain⟨ab,r,t⟩:=e.dr k T n x u;exact⟨ab,by rw[upd_ne ar _ y];exact r,by rw[Deaf_still o _ _ I];exact t⟩
 .rw[Deaf_still o _ _ I];exact e.above k y
 .rcases dY g w with a|v
  .obtain⟨T,u,F⟩:=e.c5 g a;exact⟨T,by grind,by rw[upd_ne z _ y,upd_ne O _ y,upd_ne ar _ y];omega⟩
  obtain rfl:g=w:=y;refine⟨ro,?_,by rw[upd_same,upd_same,upd_same];exact .c7 aM R G⟩;rw[show J.base+g=(gs.setIfInBounds 0 fE).size by simp[e.size],Array.getElem?_push_size]
 .grind
 .rw[Deaf_still o _ _ I];rcases dY g w with a|v
  .rw[e.dA g a,upd_ne z _ y]
  obtain rfl:g=w:=y;rw[upd_same];exact e.above _ (bC _)
 .rcases dY g w with a|v
  .rw[upd_ne z _ y]at p;obtain⟨K,R⟩:=e.rel g a p;refine⟨K,R.appNot λi A=>?_⟩;grind
  obtain rfl:g=w:=y;rw[upd_same]at p;grind
 .rcases dY g w with a|v
  .rw[upd_ne O _ y]at N;exact e.dk g a N
  obtain rfl:g=w:=y;rw[upd_same]at N;grind
 .rcases dY g w with a|v
  .rw[upd_ne z _ y]at p;exact e.dM g a p
  obtain rfl:g=w:=y;rw[upd_same]at p;grind
 rcases dY g w with a|v
 .exact e.dE g a j B E U
 grind
end
end
section
open Go.Conc
open Go.ConcN (WD CTag Mode Vc Ssum pend phi cnt WgLive PayAt Has RW DWs WSit RelBy sumTo upd upd_same upd_ne AtR0)
open Go.ConcR (KK WgAt stA smA rd wr mk Payload g_of_ofEvents again_blocked)
variable [Payload]
section
variable (P:aI)(ty:av)(J:hA)(D:Nat)(val:Nat->Nat->Z)(k:Nat)(ad d:ak->a5->Prop)
def z3(d:ak)(g:a5):Prop:=d.status=.running/\∃a,(∀e,aq P f d e=.go a e #[mk (.acquire (stA J.f))])/\∀b,(ai.aG P ty J.f).rely g b->ad a b
def wB(d:ak)(g:a5):Prop:=d.status=.running/\∃a,(∀e,aq P f d e=.go a e #[mk .enable])/\∀b,(ai.aG P ty J.f).rely g b->(dr (ai.aG P ty J.f) (dS J.f)) (z3 P ty J ad) a b
def z8(d:ak)(e:a5):Prop:=d.status=.running/\∀a,(ai.aG P ty J.f).rely e a->WgAt ty J.f a.a 0 0->∃b,aq P f d a.a=.go b a.a #[rd (stA J.f)]/\(dr (ai.aG P ty J.f) (dS J.f)) (wB P ty J ad) b a
def oN(b:ak)(g:a5):Prop:=b.status=.running/\b.offers=q/\∀a,(ai.aG P ty J.f).rely g a ->
 ((∃e,WgAt ty J.f a.a e 0)->aq P f b a.a=.go {b with status:=.blocked} a.a #[]) /\
 (WgAt ty J.f a.a 0 1->∃d,aq P f b a.a=.go d (a.a.setCell (smA J.f) (.int .u32 0)) (semEvents (smA J.f))/\(dr (ai.aG P ty J.f) (dS J.f)) (z8 P ty J ad) d {a with a:=a.a.setCell (smA J.f) (.int .u32 0)})
def z7(B:Nat)(g:ak)(i:a5):Prop:=g.status=.running/\∀b,(ai.aG P ty J.f).rely i b->∀e:Nat,e<2147483648->WgAt ty J.f b.a (e*KK) 0 ->
 (e=B->∃a,aq P f g b.a=.go a (b.a.setCell (stA J.f) (.int .u64 (e*KK+1))) #[rd (stA J.f),wr (stA J.f)]/\(dr (ai.aG P ty J.f) (dS J.f)) (oN P ty J ad) a {b with a:=b.a.setCell (stA J.f) (.int .u64 (e*KK+1))}) /\
 (e≠B->∃a,aq P f g b.a=.go a b.a #[rd (stA J.f)]/\d a b)
def q3(g:ak)(i:a5):Prop:=g.status=.running/\∀b,(ai.aG P ty J.f).rely i b->∀e:Nat,e<2147483648->WgAt ty J.f b.a (e*KK) 0 ->
 ∃a,aq P f g b.a=.go a b.a #[rd (stA J.f)]/\(e=0->(dr (ai.aG P ty J.f) (dS J.f)) (wB P ty J ad) a b)/\(e≠0->(dr (ai.aG P ty J.f) (dS J.f)) (z7 P ty J ad d e) a b)
def z4(e:ak)(i:a5):Prop:=e.status=.running/\∃a,(∀g,aq P f e g=.go a g #[mk .disable])/\∀b,(ai.aG P ty J.f).rely i b->d a b
def a5.dx(a:a5):a5:={m:=[],u:=a.u,a:=a.a,own:=λ_=>False}
def wA(g:Nat)(Next:ak->a5->Prop)(e:ak)(i:a5):Prop:=e.status=.running/\∀b,(ai.aG P ty J.f).rely i b ->
 ∃d a,aq P f e b.a=.spawn d a b.a #[]/\a.status=.running/\dr (ai.c6 P) eH (ua P ty J D val g) a b.dx/\Next d b
def z6(g:Nat)(Next:ak->a5->Prop)(d:ak)(i:a5):Prop:=d.status=.running/\∃a,(∀e,aq P f d e=.go a e #[mk .enable])/\∀b,(ai.aG P ty J.f).rely i b->(dr (ai.aG P ty J.f) (dS J.f)) (wA P ty J D val g Next) a b
def z2(g:Nat)(Next:ak->a5->Prop)(e:ak)(i:a5):Prop:=e.status=.running/\∀a,(ai.aG P ty J.f).rely i a->∀d:Nat,d<2147483647->WgAt ty J.f a.a (d*KK) 0 ->
 ∃b,aq P f e a.a=.go b (a.a.setCell (stA J.f) (.int .u64 ((d+1)*KK))) #[rd (stA J.f),wr (stA J.f)]/\(dr (ai.aG P ty J.f) (dS J.f)) (z6 P ty J D val g Next) b {a with a:=a.a.setCell (stA J.f) (.int .u64 ((d+1)*KK))}
def z5(g:Nat)(Next:ak->a5->Prop)(d:ak)(i:a5):Prop:=d.status=.running/\∃a,(∀e,aq P f d e=.go a e #[mk .disable])/\∀b,(ai.aG P ty J.f).rely i b->(dr (ai.aG P ty J.f) (dS J.f)) (z2 P ty J D val g Next) a b
def oR:Nat->ak->a5->Prop
 |0,a,b=>(dr (ai.aG P ty J.f) (dS J.f)) (z4 P ty J d) a b
 |e+1,a,b=>(dr (ai.aG P ty J.f) (dS J.f)) (z5 P ty J D val (k-(e+1)) (oR e)) a b
def cj.eb:cj->cj
 |.leaf=>.node λ_=>.leaf
 |.node a=>.node λb=>cj.eb (a b)
omit [Payload]in
def cj.hj:∀{d b:cj},cj.lt d b->cj.lt d.eb b.eb
 |_,.leaf,a=>a.elim
 |_,.node _,⟨g,a⟩=>⟨g,a.elim (λe=>.inl (by rw[e])) λa=>.inr (cj.hj a)⟩
omit [Payload]in
def cj.js(a:a5):∀d:cj,∃e,cj.lt e d.eb
 |.leaf=>⟨.leaf,a,.inl rfl⟩
 |.node b=>⟨(b a).eb,a,.inl rfl⟩
inductive ha:CTag->Nat->cj->Nat->ak->a5->Prop
 |fc {a':Nat} {cZ:cj} {C:ak} {b:a5}:a'<k->(gy (ai.aG P ty J.f) (dS J.f)) (z5 P ty J D val (k-(a'+1)) (oR P ty J D val k d a')) cZ C b->ha (.sp a' 5) (k-(a'+1)) cZ 0 C b
 |fP {a':Nat} {cZ:cj} {C:ak} {b:a5}:a'<k->(gy (ai.aG P ty J.f) (dS J.f)) (z2 P ty J D val (k-(a'+1)) (oR P ty J D val k d a')) cZ C b->ha (.sp a' 4) (k-(a'+1)) cZ 1 C b
 |fR {a':Nat} {cZ:cj} {C:ak} {b:a5}:a'<k->(gy (ai.aG P ty J.f) (dS J.f)) (z6 P ty J D val (k-(a'+1)) (oR P ty J D val k d a')) cZ C b->ha (.sp a' 3) (k-(a'+1)) cZ 1 C b
 |fQ {a':Nat} {cZ:cj} {C:ak} {b:a5}:a'<k->(gy (ai.aG P ty J.f) (dS J.f)) (wA P ty J D val (k-(a'+1)) (oR P ty J D val k d a')) cZ C b->ha (.sp a' 2) (k-(a'+1)) cZ 0 C b
 |kd {cZ:cj} {C:ak} {b:a5}:(gy (ai.aG P ty J.f) (dS J.f)) (z4 P ty J d) cZ C b->ha .kd k cZ 0 C b
 |w1 {cZ:cj} {C:ak} {b:a5}:(gy (ai.aG P ty J.f) (dS J.f)) (q3 P ty J ad d) cZ C b->ha .w1 k cZ 1 C b
 |w2 {B:Nat} {cZ:cj} {C:ak} {b:a5}:(gy (ai.aG P ty J.f) (dS J.f)) (z7 P ty J ad d B) cZ C b->ha (.w2 B) k cZ 1 C b
 |w3 {cZ:cj} {C:ak} {b:a5}:(gy (ai.aG P ty J.f) (dS J.f)) (oN P ty J ad) cZ C b->ha .w3 k cZ.eb 1 C b
 |blk {cZ:cj} {C:ak} {b:a5}:oN P ty J ad C b->ha .blk k cZ 1 {C with status:=.blocked} b
 |w4 {cZ:cj} {C:ak} {b:a5}:(gy (ai.aG P ty J.f) (dS J.f)) (z8 P ty J ad) cZ C b->ha .w4 k cZ 1 C b
 |ke {cZ:cj} {C:ak} {b:a5}:(gy (ai.aG P ty J.f) (dS J.f)) (wB P ty J ad) cZ C b->ha .ke k cZ 1 C b
 |acq {cZ:cj} {C:ak} {b:a5}:(gy (ai.aG P ty J.f) (dS J.f)) (z3 P ty J ad) cZ C b->ha .acq k cZ 0 C b
structure wE(R:Nat->Nat)(t:Nat->Mem)(A:Machine)(o:Trace):Prop where
 hE:∃(gs:Array ak) (Q:au) (dD:Option (Nat×Nat)) (x:ak) (b:a5) (bc:Nat->Nat),A=crowd gs Q dD/\gs[0]?=h x/\gs.size=J.base+k/\ad x {b with a:=Q}/\cU b {b with a:=Q}/\gh J R t k b /\
  Leavers P o gs bc/\Past (jv λj=>J.bD j∨j=J.f) Q.heap.size o/\m1 o/\PayAt J.ai D Q/\(∀l,l<k->∀e,e<J.aJ->Q.cell? ⟨J.ai,J.aJ*l+e,q⟩=h (val l e))/\J.ai<Q.heap.size/\J.f<Q.heap.size/\∀j,J.bD j->j<Q.heap.size
abbrev pN:=Nat×((Nat->cj)×cj)
def kY(a:Nat):pN->pN->Prop:=Prod.Lex (· < ·) (Prod.Lex (wH a) cj.lt)
omit [Payload]in
def aaj(bB):WellFounded (kY bB):=(Prod.lex Nat.lt_wfRel ⟨_,(Prod.lex ⟨wH bB,M2 bB⟩ ⟨cj.lt,⟨cj.fr⟩⟩).wf⟩).wf
structure lx(μ:pN)(gs:Array ak)(Q:au)(o:Trace)(R:Nat->Nat)(t:Nat->Mem)(w:Nat)(z:Nat->WD)(O:Nat->Nat)(ar:Nat->cj)(d0:Nat)(tag:CTag)(cZ:cj)(x:ak)(b:a5)(b7 oF:Int):Prop where
 dv:gs[0]?=h x
 dy:ha P ty J D val k ad d tag w cZ d0 x b
 rely:cU b {b with a:=Q}
 aG:gh J R t w b
 aj:ic P ty J D val R t w gs Q o z O ar d0
 bZ:WgAt ty J.f Q b7 oF
 mode:Go.ConcN.Mode w z tag b7 oF
 eE:μ=(phi k (Vc w z) tag+Ssum w z+sumTo w O,(ar,cZ))
def e_(o:pN)(r:Machine)(v:Trace):Prop:=
 ∃(a:Array ak) (i:au) (dD:Option (Nat×Nat)) (t:Nat->Nat) (s:Nat->Mem) (p:Nat) (z:Nat->WD) (O:Nat->Nat) (j:Nat->cj) (n:Nat) (tag:CTag) (b:cj) (l:ak) (u:a5) (g e:Int),
  r=crowd a i dD/\lx P ty J D val k ad d o a i v t s p z O j n tag b l u g e
end
section
variable {P:aI}{ty:av}{J:hA}{D:Nat}{val:Nat->Nat->Z}{k:Nat}{ad d:ak->a5->Prop}{R ej:Nat->Nat}{t:Nat->Mem}{tag:CTag}{cZ:cj}{I:Nat}{x:ak}{Q:au}
omit [Payload]in
def mC(d:cU b {b with a:=Q})(a:WgLive ty J.f Q):(ai.aG P ty J.f).rely b {b with a:=Q}:=⟨d,λ_=>a⟩
omit [Payload]in
def oN.rely{s}(a:oN P ty J ad C b)(g:(ai.aG P ty J.f).rely b s):oN P ty J ad C s:=
 ⟨a.1,a.2.1,λd e=>a.2.2 d ⟨g.1.trans e.1,λi=>e.2 (g.2 i)⟩⟩
def ha.status(a:ha P ty J D val k ad d tag w cZ I x b):(x.status=.running/\tag≠.blk)∨(x.status=.blocked/\tag=.blk):=by
 cases a with
 |fc _ a=>exact .inl ⟨a.run λ_ _ e=>e.1,by simp⟩
 |fP _ a=>exact .inl ⟨a.run λ_ _ e=>e.1,by simp⟩
 |fR _ a=>exact .inl ⟨a.run λ_ _ e=>e.1,by simp⟩
 |fQ _ a=>exact .inl ⟨a.run λ_ _ e=>e.1,by simp⟩
 |kd a=>exact .inl ⟨a.run λ_ _ e=>e.1,by simp⟩
 |w1 a=>exact .inl ⟨a.run λ_ _ e=>e.1,by simp⟩
 |w2 a=>exact .inl ⟨a.run λ_ _ e=>e.1,by simp⟩
 |w3 a=>exact .inl ⟨a.run λ_ _ e=>e.1,by simp⟩
 |blk a=>grind
 |w4 a=>exact .inl ⟨a.run λ_ _ e=>e.1,by simp⟩
 |ke a=>exact .inl ⟨a.run λ_ _ e=>e.1,by simp⟩
 |acq a=>exact .inl ⟨a.run λ_ _ e=>e.1,by simp⟩
def ha.h5(n:ha P ty J D val k ad d tag w cZ I x b)(C i)(bh):
  ∃a l,ha P ty J D val k ad d a w l I (woken P C i bh x) b/\(a=tag∨(tag=.blk/\a=.w3))/\(mayWake P C=f->i.status=.running->a≠.blk):=by
 unfold Go.Conc.woken;split
 .rcases n.status with⟨e,j⟩|⟨_,rfl⟩
  .grind [again_running]
  cases n with
  |blk g=>exact⟨.w3,cj.eb .leaf,by rw[again_blocked g.1 g.2.1];exact .w3 (show gy _ _ _ .leaf _ _ from g),.inr ⟨rfl,rfl⟩,λ_ _=>by simp⟩
 grind
def wa{W:pN}{dD:Option (Nat×Nat)}{ax:Trace}{z:Nat->WD}{O:Nat->Nat}{X:Nat->cj}{aw av:Int}(p:lx P ty J D val k ad d W gs Q ax R t w z O X I tag cZ x b aw av){g:Nat}(Y:g<w){o:ak}{n:Array aU}{l i j:Nat}{v:cj}{ae G:Int}(ao:gs[J.base+g]?=h C)(E:aq P m C Q=.go o bh n)(F:∀ag,ag<Q.heap.size->ej ag=R ag)(S:Q.heap.size<=bh.heap.size)(aG:∀ab,ab<w->ab≠g->lz J R (t ab) ab Q bh)(aE:q_ J R Q bh)(aK:hB P ty J D val ej t g l i v j o bh)(L:∀A∈n,(aP A).low bh.heap.size)(T:∀A∈n,∀x,(aP A).touch?=h x->x.loc.isMemory=f->nW J ej (t g) g x)(N:∀A∈n,∀x,A.loc≠.mark (.release x))(aF:deafBehind (z g).deaf n=j)(aM:i<=6->∃aS,RelBy (stA J.f) (ax++MemOp.ofEvents (J.base+g) C.frame.fn C.frame.place n) (J.base+g) aS)(an:l=0->∀Z,1<=Z->Z<J.aJ->bh.cell? ⟨J.ai,J.aJ*g+Z,q⟩=h (val g Z))(aj:i<=6->Has J.ai (J.aJ*g) (val g 0) bh)(aI:PayAt J.ai D bh)(az:WgAt ty J.f bh ae G)(H:∀e,(e=tag∨(tag=.blk/\e=.w3))->(mayWake P C=f->o.status=.running->e≠.blk)->Go.ConcN.Mode w (upd z g ⟨i,0,j⟩) e ae G)(a:(i+l<(z g).stage+O g/\cnt ⟨i,0,j⟩<=cnt (z g))∨(i=(z g).stage/\l=O g/\cj.lt v (X (J.base+g))))(aA:J.base+w<=J.base+k):
  ∃aC r u,runT P (crowd gs Q dD) (J.base+g)=(.next aC,r)/\kY (J.base+k) u W/\e_ P ty J D val k ad d u aC (ax++r):=by
 have aR:=p.aj.bu.base;obtain⟨e,s,aJ,aB,V⟩:=p.dy.h5 C o bh;have K:(J.base+g==0)=m:=M;have aH:=runT_crowd_go (P:=P) (sl:=dD) (i:=J.base+g) ao (by rw[K];exact E)
 have aL:=Go.ConcN.sumTo_upd z (⟨i,0,j⟩:WD) cnt Y;have aN:=Go.ConcN.sumTo_upd z (⟨i,0,j⟩:WD) WD.stage Y;have aO:sumTo w (upd O g l)+O g=sumTo w O+l:=Go.ConcN.sumTo_upd O l id Y;refine⟨_,_,(phi k (Vc w (upd z g ⟨i,0,j⟩)) e+Ssum w (upd z g ⟨i,0,j⟩)+sumTo w (upd O g l),(upd X (J.base+g) v,s)),aH,?_,
  _,bh,dD,ej,t,w,_,_,_,I,e,s,woken P C o bh x,b,ae,G,rfl,⟨by rw[Go.ConcN.get_map_set _ _ _ _ y,p.dv];rfl,aJ,p.aG.dh p.rely aE,p.aG.eK p.rely.size F,
   p.aj.aR Y F S aG aK L T N aF aM an aj aI ⟨_,_,az⟩,az,H e aB V,rfl⟩⟩
 rw[p.eE,Go.ConcN.phi_retag k _ aB];simp only[Vc,Ssum]at *;rcases a with⟨au,DC⟩|⟨au,DC,tm⟩
 .refine Prod.Lex.left _ _ ?_;have:=Go.ConcN.phi_mono k (v':=sumTo w λx=>cnt (upd z g ⟨i,0,j⟩ x)) (v:=sumTo w λx=>cnt (z x)) y tag;omega
 have aQ:cnt (⟨i,0,j⟩:WD)=cnt (z g):=hp;have ai:(sumTo w λx=>cnt (upd z g ⟨i,0,j⟩ x))=sumTo w λx=>cnt (z x):=y;have B:(sumTo w λx=>(upd z g ⟨i,0,j⟩ x).stage)=sumTo w λx=>(z x).stage:=y;have ah:sumTo w (upd O g l)=sumTo w O:=y;rw[ai,B,ah];exact Prod.Lex.right _ (Prod.Lex.left _ _ ⟨J.base+g,by omega,by rw[upd_same];exact tm,λaT ar=>upd_ne X _ ar⟩)
end
end
section
open Go.Conc
open Go.ConcN (WD CTag Vc Ssum pend phi cnt WgLive PayAt Has RW DWs WSit RelBy sumTo upd upd_same upd_ne AtR0 isW3 isOpen OpenSt deafBehind_idle bk_cell okW_none Vc_upd Vc_le le_sumTo others_uncounted)
open Go.ConcR (KK WgAt stA smA rd wr mk Payload g_of_ofEvents Bk bk_of_mute ofEvent_loc_mark ofEvent_cell)
variable [Payload]
section
variable {J:hA}{ad G:ak->a5->Prop}{W ej:Nat->Nat}{md:Nat->Mem}{tag:CTag}{cZ:cj}{I:Nat}{x:ak}{Q:au}
omit [Payload]in
def lz.bZ(b:Aside J.f Q bh)(l:W J.f=0)(o:1<=J.base)(g:∀a d i,md w a d=h i->a≠J.f)(e:J.ai≠J.f):lz J W (md w) w Q bh:=
 ⟨by rw[b.size];grind,λa _ j=>b.block a (λn=>by grind),λa d i H k=>by rw[m' (b.block a (g a d i H))];exact k,λd _ _=>m' (b.block _ e) d,b.os,b.tape,b.output⟩
omit [Payload]in
def q_.bZ(a:Aside J.f Q bh):q_ J W Q bh:=⟨by rw[a.size];grind,λb _ _ _ d=>a.block b d,a.os,a.tape,a.output⟩
omit [Payload]in
def q_.refl(Q):q_ J W Q Q:=⟨bC _,λ_ _ _ _ _=>rfl,rfl,rfl,rfl⟩
omit [Payload]in
def Gp{d}{b:Array aU}(j:∀a∈b,Bk J.f a)(k:J.f<d):∀a∈b,(aP a).low d:=by
 intro a i;rcases j a i with g|g|⟨e,wr,rfl,l⟩
 .rw[ofEvent_loc_mark g];trivial
 .rw[ofEvent_loc_mark g];trivial
 rw[ofEvent_cell];show e.block<d;grind
omit [Payload]in
def R6{l}{e:Array aU}(o:∀d∈e,Bk J.f d):∀d∈e,∀g,(aP d).touch?=h g->g.loc.isMemory=f->nW J W (md l) l g:=by
 intro d n p b _;rcases o d n with j|j|⟨i,wr,rfl,k⟩
 .rw[ofEvent_loc_mark j]at b;cases b
 .rw[ofEvent_loc_mark j]at b;cases b
 rw[ofEvent_cell]at b;simp[MemAct.touch?,eR]at b;subst b;exact .inl ⟨i,a,k,a⟩
omit [Payload]in
def Gq{b:Array aU}(i:∀a∈b,Bk J.f a):∀a∈b,∀d,a.loc≠.mark (.release d):=by
 intro a g d j;rcases i a g with k|k|⟨e,wr,rfl,_⟩
 .grind
 .grind
 grind
omit [Payload]in
def aey{l}{b2}{T}(v:hj W (md l) (J.base+l) b)(u:bb n b)(y:ds b T)(r:cN n b ao b2):
  (∀e∈T,(aP e).low b2.a.heap.size)/\(∀e∈T,∀k,(aP e).touch?=h k->k.loc.isMemory=f->nW J (lU W b.a.heap.size (J.base+l)) (md l) l k) /\
  (∀e∈T,e.loc≠.mark .disable/\e.loc≠.mark .enable)/\∀e∈T,∀k,e.loc≠.mark (.release k):=by
 have key:∀e∈T,(aP e).low b2.a.heap.size/\(∀k,(aP e).touch?=h k->k.loc.isMemory=f->nW J (lU W b.a.heap.size (J.base+l)) (md l) l k)/\(e.loc≠.mark .disable/\e.loc≠.mark .enable)/\∀k,e.loc≠.mark (.release k):=by
  intro e A;have o:=y e A;obtain⟨loc,wr,C⟩:=e;cases loc with
  |cell g=>
   obtain⟨p,t,d⟩:=o;simp only at p t d;subst p;have s:g.block<b.a.heap.size:=by
    rcases d with d|⟨⟨L,aM,d⟩,_⟩|⟨_,x,d⟩
    .exact d.elim
    .exact u.lt L aM _ d
    exact gi.lt u.mem d
   refine⟨by rw[ofEvent_cell];exact ey s r.size,λj i _=>?_,⟨by simp,by simp⟩,by simp⟩;rw[ofEvent_cell]at i;simp[MemAct.touch?,eR]at i;subst i;refine .inr ⟨a,?_⟩;rcases d with d|⟨⟨L,aM,d⟩,_⟩|⟨z,x,d⟩
   .exact d.elim
   .exact .inl ⟨g.block,a,by rw[lf s];exact(v.blk _ (.inr ⟨L,aM,d⟩)).1⟩
   rcases(v.u _ _ _ d).1 with w|w
   .exact .inl ⟨g.block,a,by grind[lf]⟩
   refine .inr (.inr ⟨z,g.block,g.off,x,?_,w⟩);obtain⟨j,F,sp⟩:=g;grind
  |obj B=>
   obtain⟨p,t⟩:=o;simp only at p t;subst p;obtain⟨L,aM,d⟩:=t.resolve_left id;have s:=u.lt L aM _ d;refine⟨?_,λj i _=>?_,⟨by simp,by simp⟩,by simp⟩
   .simp[aP,MemAct.low,Loc.low];exact ey s r.size
   simp[aP,MemAct.touch?]at i;subst i;exact .inr ⟨a,.inl ⟨B,a,by rw[lf s];exact(v.blk _ (.inr ⟨L,aM,d⟩)).1⟩⟩
  |mark E=>
   simp[h1]at o;rcases o with rfl|⟨D,rfl⟩
   .exact Qq
   exact Qq
  |_=>exact o.elim
 grind
def acR{a8}{dD}{o}{z:Nat->WD}{O:Nat->Nat}{b5:Nat->cj}{b7 oF}(i:lx P ty J D val k ad G a8 gs Q o W md w z O b5 I tag cZ x b b7 oF)(cv:k<2147483648)(cu:w<=k)(cb:w+pend tag<=k){l}(g3:l<w)(a2:gs[J.base+l]?=h C)(a3:C.status=.running):
  ∃p K R,runT P (crowd gs Q dD) (J.base+l)=(.next p,K)/\kY (J.base+k) R a8/\e_ P ty J D val k ad G R p (o++K):=by
 have bb:=i.aj.bu.base;obtain⟨br,bP,a4⟩:=i.aj.c5 l g3;obtain rfl:C=br:=M;generalize X:(z l).stage=aL at a4;generalize bj:b5 (J.base+l)=b3 at a4;generalize a1:(z l).deaf=aA at a4;generalize aR:O l=cn at a4;have bg:Deaf o (J.base+l)=aA:=by rw[i.aj.dA l g3,a1]
 have b8:=Vc_le w z;have same:∀u r,Go.ConcN.Mode w (upd z l ⟨aL,u,r⟩) tag b7 oF:=λu r=>by have:=i.mode.same (i:=l) u r;grind
 cases a4 with
 |@c7 b3 C aV Q bx aW bQ=>
  rcases bx.ba (λaV=>cU aV {aV with a:=Q}/\hj W (md l) (J.base+l) aV) (λaV v aC aI=>⟨aI.1.aV aC,aI.2.aV aC⟩) (λ_ aV v aC aI=>⟨aI.1.b1 aC,aI.2.b1 aC⟩) ⟨aW,bQ⟩with⟨v,⟨k1,bO⟩,g⟩|⟨_,v,⟨k1,bO⟩,e⟩
  ·
   obtain⟨j,w2,T,d,az,bh,bz,ag⟩:=g.2 Q k1 i.aj.bT i.aj.cV;have b_:=i.aj.aJ;refine wa i g3 a2 d (ej:=W) (λ_ _=>rfl) (by rw[az.size];grind) (λa' aS bn=>⟨by rw[az.size];grind,λY _ aQ=>az.block Y (λaj=>by rw[aj,i.aj.bu.c_]at aQ;omega),λY aT ao H bS=>?_,λaT bl bm=>az.hE aT ?_,az.os,az.tape,az.output⟩)
    ⟨by rw[az.size];grind,λY _ _ aW _=>az.block Y aW,az.os,az.tape,az.output⟩ (.rel ag) (λaj s=>?_) (λaj s Y aQ _=>?_) (λaj s=>?_) ?_ (λt=>absurd t b') (λ_ b2 _ aI=>az.new b2 aI) (λt=>absurd t b') az.bT
    (i.bZ.of_block (az.block _ (p3 i.aj.bu.b2))) (λ_ ai _=>(same _ _).retag ai) (.inl ⟨by omega,by simp[cnt,X]⟩) y
   .rw[m' (az.block Y (i.aj.bu.bG a' aS Y aT ao H).2.1)];exact bS
   .rcases Nat.lt_or_gt_of_ne bn with t|t
    .have:=wP J.aJ (show a'+1<=l from t);grind
    have:=wP J.aJ (show l+1<=a' from t);grind
   .obtain⟨aT,rfl,_⟩:=bh aj s;rw[ofEvent_cell];show J.ai<_;rw[az.size];exact i.aj.cw
   .obtain⟨aT,rfl,bl,bm⟩:=bh aj s;rw[ofEvent_cell]at aQ;simp[MemAct.touch?,eR]at aQ;subst aQ;exact .inr ⟨a,.inr (.inl ⟨aT,a,bl,bm⟩)⟩
   .grind
   rw[a1];exact deafBehind_idle (λaj s=>by grind) 0
  ·
   obtain⟨j,b4,T,cx,d,bF,bL,bR⟩:=e _ k1;obtain⟨⟨cy,ck,cl,bk,A⟩,cg⟩:=bF.resolve_right id;have bw:hj W (md l) (J.base+l) {v with a:=Q}:=bO.rely k1.size;obtain⟨aG,aH,bq,bV⟩:=aey bw cl cg A;have Z:∀Y,Y<Q.heap.size->W Y≠J.base+l->b4.a.heap[Y]?=Q.heap[Y]?:=λY aQ bJ=>A.a6 Y aQ λL aM bD=>bJ (bw.blk Y (.inr ⟨L,aM,bD⟩)).1;refine wa i g3 a2 d (ej:=lU W Q.heap.size (J.base+l)) (λY aQ=>lf aQ) A.size (λa' aS bn=>⟨A.size,λY aQ b9=>Z Y aQ y,λY aT ao H bS=>?_,λaT _ _=>m' (Z _ i.aj.cw (by rw[i.aj.bu.c_];omega)) aT,A.os,A.tape,A.output⟩)
    ⟨A.size,λY aQ cq _ _=>Z Y aQ y,A.os,A.tape,A.output⟩ (.c7 bL (cU.en bk.mem) (bw.step bk A)) aG aH bV (by rw[a1];exact deafBehind_idle bq 0) (λt=>absurd t b') (λt=>absurd t b') (λt=>absurd t b') ?_
    (i.bZ.of_block (Z _ i.aj.ck (by rw[i.aj.bu.cH];omega))) (λ_ ai _=>(same _ _).retag ai) (.inr ⟨X.symm,aR.symm,by grind⟩) y
   .rw[m' (Z Y (i.aj.dE a' aS Y aT ao H) (by rw[(i.aj.bu.bG a' aS Y aT ao H).1];omega))];exact bS
   obtain⟨bp,bT,bU⟩:=i.aj.bT;exact⟨bp,(Z _ i.aj.cw (by rw[i.aj.bu.c_];omega)).trans bT,bU⟩
 |@rel bz C Q t=>
  rcases Goes.cases t with g|⟨u,rfl,e⟩
  ·
   obtain⟨_,bX,j,d,ax,ag⟩:=g Q (Go.ConcN.RW.refl Q);refine wa i g3 a2 d (ej:=W) (λ_ _=>rfl) (bC _) (λa' _ _=>.refl ..) (.refl Q) (.tail b' (.k1 ag)) (λaj s=>?_) (λaj s Y aQ _=>?_) (λaj s=>?_) hp (λ_=>⟨o.size,RelBy.new bg _ _⟩) (λ_=>i.aj.dk l g3 aR) (λ_=>by grind) i.aj.bT i.bZ
    (λ_ ai _=>(i.mode.counted g3 y (.inl a) _ _).retag ai) (.inl ⟨by omega,by simp[cnt,X]⟩) y
   .simp at s;subst s;exact i.aj.ck
   .simp at s;subst s;exact cQ
   simp at s;subst s;simp[mk]
  obtain⟨j,N,T,d,⟨rfl,rfl⟩,F⟩:=e Q (Go.ConcN.RW.refl Q);exact wa i g3 a2 d (ej:=W) (λ_ _=>rfl) (bC _) (λa' _ _=>.refl ..) (.refl N) (.rel F) E E E cQ (λt=>absurd t b') (λ_=>i.aj.dk l g3 aR) (λt=>absurd t b') i.aj.bT i.bZ (λ_ ai _=>(same _ _).retag ai)
   (.inr ⟨X.symm,aR.symm,by rw[bj];exact cj.gu _ b⟩) y
 |@tail aL bz aA C Q bW t=>
  have aN:∀{j:ak} {N:au} {T:Array aU} {v u r:Nat} {av ar:Int},aq P m C Q=.go j N T->Aside J.f Q N->WgAt ty J.f N av ar->(∀aj∈T,Bk J.f aj) ->
    (∀hK aj,T[hK]?=h aj->(aP aj).touch?=q∨0<deafBehind aA (T.extract 0 hK))->v<=6->WSit P ty J.f J.ai D pP pP 0 (J.aJ*l+1) (val l 0) v u r j N->deafBehind aA T=r ->
    (∀S,(S=tag∨(tag=.blk/\S=.w3))->(mayWake P C=f->j.status=.running->S≠.blk)->Go.ConcN.Mode w (upd z l ⟨v,0,r⟩) S av ar)->((v<aL/\cnt ⟨v,0,r⟩<=cnt (z l))∨(v=aL/\u+1=bz)) ->
    ∃p K R,runT P (crowd gs Q dD) (J.base+l)=(.next p,K)/\kY (J.base+k) R a8/\e_ P ty J D val k ad G R p (o++K):=by
   intro j N T v u r av ar d V aK ab bu a5 aE bf ah bR;obtain⟨bp,bs,bt⟩:=i.aj.bT;refine wa i g3 a2 d (ej:=W) (λ_ _=>rfl) (by rw[V.size];grind) (λa' aS _=>.bZ V i.aj.bu.cH bb (λY aT ao H=>(i.aj.bu.bG a' aS Y aT ao H).2.2.1) i.aj.bu.b2) (.bZ V) (.tail a5 aE) (Gp ab (by rw[V.size];exact i.aj.ck)) (R6 ab) (Gq ab) M
    (λ_=>let ⟨b3,bZ⟩:=i.aj.rel l g3 y;⟨b3,bZ.book bg _ _ ab bu⟩) (λ_ b2 bG bH=>(m' (V.block _ i.aj.bu.b2) _).trans (i.aj.dk l g3 aR b2 bG bH)) (λ_=>(m' (V.block _ i.aj.bu.b2) _).trans (i.aj.dM l g3 y)) ⟨bp,(V.block _ i.aj.bu.b2).trans bs,bt⟩ aK ah
    (bR.imp (λt=>⟨by omega,t.2⟩) λt=>⟨by omega,aR.symm,by rw[bj,<-t.2];exact cj.gu _ b⟩) y
  have book:∀{j:ak} {N:au} {T:Array aU} {v u r:Nat} {av ar:Int},aq P m C Q=.go j N T->Aside J.f Q N->WgAt ty J.f N av ar->(∀aj∈T,Bk J.f aj) ->
    (∀hK aj,T[hK]?=h aj->(aP aj).touch?=q∨0<deafBehind aA (T.extract 0 hK))->v<=6->WSit P ty J.f J.ai D pP pP 0 (J.aJ*l+1) (val l 0) v u r j N->deafBehind aA T=r ->
    Go.ConcN.Mode w (upd z l ⟨v,0,r⟩) tag av ar->((v<aL/\cnt ⟨v,0,r⟩<=cnt (z l))∨(v=aL/\u+1=bz)) ->
    ∃p K R,runT P (crowd gs Q dD) (J.base+l)=(.next p,K)/\kY (J.base+k) R a8/\e_ P ty J D val k ad G R p (o++K):=
   λd V aK ab bu a5 aE bf ah bR=>aN d V aK ab bu a5 aE bf (λ_ ai _=>ah.retag ai) bR
  have an:∀{j:ak} {u:Nat},aq P m C Q=.go j Q #[]->WSit P ty J.f J.ai D pP pP 0 (J.aJ*l+1) (val l 0) aL u aA j Q->u+1=bz ->
    ∃p K R,runT P (crowd gs Q dD) (J.base+l)=(.next p,K)/\kY (J.base+k) R a8/\e_ P ty J D val k ad G R p (o++K):=by intro j u d aE W;exact book d (.refl J.f Q) i.bZ E E bW aE a (same _ _) (.inr ⟨a,W⟩)
  cases t with
  |r0 t=>omega
  |k1 t=>
   rcases Goes.cases t with g|⟨u,rfl,e⟩
   .obtain⟨_,j,d,ax,ag⟩:=g Q (Go.ConcN.RW.refl Q);exact book d (.refl J.f Q) i.bZ (by intro aj s;simp at s;subst s;exact .inl a) (by intro hK aj s;exact .inl (by have:=wO s;simp at this;exact hp)) b' (.d1 ag) a (i.mode.counted g3 y (.inr a) _ _) (.inl ⟨by omega,by simp[cnt,X]⟩)
   obtain⟨j,N,T,d,⟨rfl,rfl⟩,F⟩:=e Q (Go.ConcN.RW.refl Q);exact an d (.k1 F) a
  |d1 t=>
   rcases Goes.cases t with g|⟨u,rfl,e⟩
   .obtain⟨_,a0⟩:=g Q (Go.ConcN.RW.refl Q);have n:=i.bZ;have aw:=i.mode;have bE:cnt (z l)=1:=by simp[cnt,X]
    have b6:1<=Vc w z:=by have:=le_sumTo (f:=λl=>cnt (z l)) g3;simp[Vc];omega
    have aX:∀aj∈#[rd (stA J.f),wr (stA J.f)],Bk J.f aj:=by intro aj s;simp at s;rcases s with rfl|rfl<;>exact bk_cell _ _ rfl
    have aZ:∀hK aj,(#[rd (stA J.f),wr (stA J.f)]:Array aU)[hK]?=h aj->(aP aj).touch?=q∨0<deafBehind 1 ((#[rd (stA J.f),wr (stA J.f)]:Array aU).extract 0 hK):=by
     intro hK aj s
     match hK,s with
     |0,_=>exact .inr aeY
     |1,_=>exact .inr (by simp[deafBehind,rd])
     |hK+2,s=>simp at s
    have cc:∀a_,cnt (⟨1,a_,1⟩:WD)=0:=λ_=>rfl;have bo:∀a_,OpenSt w z->OpenSt w (upd z l ⟨1,a_,1⟩):=λa_ t x bd=>by
     by_cases aj:x=l
     .subst aj;exact we
     rw[upd_ne z _ aj];exact t x bd
    generalize b1:b7=cf at aw n;generalize b0:oF=cd at aw n;cases aw with
    |opn bx aW bQ=>
     obtain⟨ao,H⟩:∃ao,Vc w z+pend tag=ao+1:=⟨Vc w z+pend tag-1,by omega⟩
     rw[H]at n;have a6:WgAt ty J.f Q (((ao:Nat)+1)*KK+((0:Nat):Int)) 0:=M;obtain⟨j,d,_,aa⟩:=a0 ao 0 y y a6;obtain⟨a_,aa⟩:=aa y;have bM:Vc w (upd z l ⟨1,0,1⟩)+pend tag=ao:=Nk;refine book d (aside_setCell Q (stA J.f) _) (n.setSt _) aX aZ b' (.quit aa) a ?_ (.inl ⟨by omega,by grind⟩);have aj:((ao:Nat):Int)*KK+((0:Nat):Int)=((Vc w (upd z l ⟨1,0,1⟩)+pend tag:Nat):Int)*KK:=M;rw[aj];exact .opn bx (bo 0 aW) (λB cp=>by grind)
    |reg bx aW bQ=>
     obtain⟨ao,H⟩:∃ao,Vc w z=ao+1:=⟨Vc w z-1,by omega⟩
     rw[H]at n;have cw:pend tag=0:=by cases tag<;>first|rfl|exact bx.elim
     have a6:WgAt ty J.f Q (((ao:Nat)+1)*KK+((1:Nat):Int)) 0:=M;obtain⟨j,d,bY,aa⟩:=a0 ao 1 y y a6;by_cases bN:ao=0
     .subst bN;obtain⟨ax,ag⟩:=bY ⟨rfl,rfl⟩;refine book d (aside_setCell Q (stA J.f) _) (n.setSt _) aX aZ b' (.d2 ag) a ?_ (.inl ⟨by omega,by simp[cnt]⟩);have aJ:∀x,x<w->x≠l->(z x).stage=1:=λx bd aj=>by have bB:=others_uncounted g3 H bE x bd aj;have:=aW x bd;simp only[cnt]at bB;split at bB<;>omega
      have:=Go.ConcN.Mode.last (j:=w) (D:=upd z l ⟨4,0,1⟩) (tag:=tag) l bx g3 we (λx bd aj=>by rw[upd_ne z _ aj];grind);rw[upd_same]at this;grind
     obtain⟨a_,aa⟩:=aa y;have bM:Vc w (upd z l ⟨1,0,1⟩)=ao:=Nk;refine book d (aside_setCell Q (stA J.f) _) (n.setSt _) aX aZ b' (.quit aa) a ?_ (.inl ⟨by omega,by grind⟩);have aj:((ao:Nat):Int)*KK+((1:Nat):Int)=((Vc w (upd z l ⟨1,0,1⟩):Nat):Int)*KK+1:=M;rw[aj];exact .reg bx (bo 0 aW) y
    |last L _ aW bQ cz=>
     grind
    |sema aW=>have:=aW l g3;omega
    |fin _ aW=>have:=aW l g3;omega
   obtain⟨j,N,T,d,⟨rfl,rfl⟩,F⟩:=e Q (Go.ConcN.RW.refl Q);exact an d (.d1 F) a
  |d2 t=>
   rcases Goes.cases t with g|⟨u,rfl,e⟩
   .obtain⟨_,aF⟩:=g Q (Go.ConcN.RW.refl Q);obtain⟨aB,aJ,aG,aH⟩:=i.mode.isLast g3 y;have n:=i.bZ;rw[aG,aH,X]at n;obtain⟨j,d,ax,ag⟩:=aF M;refine book d (.refl J.f Q) n Q4 QU b' (.d3 ag) a ?_ (.inl ⟨by omega,by simp[cnt]⟩);have:=Go.ConcN.Mode.last (j:=w) (D:=upd z l ⟨3,0,1⟩) (tag:=tag) l aB g3 we (λx bd aj=>by rw[upd_ne z _ aj];grind);rw[upd_same]at this;grind
   obtain⟨j,N,T,d,⟨rfl,rfl⟩,F⟩:=e Q (Go.ConcN.RW.refl Q);exact an d (.d2 F) a
  |d3 t=>
   rcases Goes.cases t with g|⟨u,rfl,e⟩
   .obtain⟨_,aF⟩:=g Q (Go.ConcN.RW.refl Q);obtain⟨aB,aJ,aG,aH⟩:=i.mode.isLast g3 y;have n:=i.bZ;rw[aG,aH,X]at n;obtain⟨j,d,ax,ag⟩:=aF M;refine book d (aside_setCell Q (stA J.f) _) (n.setSt 0) Q4 QU b' (.d4 ag) a ?_ (.inl ⟨by omega,by simp[cnt]⟩);have:=Go.ConcN.Mode.last (j:=w) (D:=upd z l ⟨2,0,1⟩) (tag:=tag) l aB g3 we (λx bd aj=>by rw[upd_ne z _ aj];grind);rw[upd_same]at this;grind
   obtain⟨j,N,T,d,⟨rfl,rfl⟩,F⟩:=e Q (Go.ConcN.RW.refl Q);exact an d (.d3 F) a
  |d4 t=>
   rcases Goes.cases t with g|⟨u,rfl,e⟩
   .obtain⟨_,bI,aF⟩:=g Q (Go.ConcN.RW.refl Q);obtain⟨aB,aJ,aG,aH⟩:=i.mode.isLast g3 y;have n:=i.bZ;rw[aG,aH,X]at n;obtain⟨j,d,a_,aa⟩:=aF M;have bc:j.status=.running:=by
     cases a_ with
     |zero=>exact absurd aa.2 b'
     |succ a_=>exact aa.elim (λl=>absurd l.2 b') (λl=>l.1)
    refine aN d (aside_setCell Q (smA J.f) _) (n.setSm 1) (T:=semEvents (smA J.f)) ?_ ?_ b' (.quit aa) cQ ?_ (.inl ⟨by omega,by simp[cnt]⟩)
    .intro aj s;simp[semEvents]at s;rcases s with rfl|rfl|rfl|rfl
     .exact .inl a
     .exact bk_cell _ _ a
     .exact bk_cell _ _ a
     exact .inr (.inl a)
    .intro hK aj s
     match hK,s with
     |0,s=>simp[semEvents]at s;subst s;exact .inl a
     |1,_=>exact .inr NG
     |2,_=>exact .inr NG
     |3,s=>simp[semEvents]at s;subst s;exact .inl a
     |hK+4,s=>simp[semEvents]at s
    intro S ai cm;have ca:=cm bI bc;have bq:S=.w3:=by
     rcases ai with rfl|⟨_,rfl⟩
     .cases S<;>first|rfl|exact aB.elim|grind
     simp
    subst bq;simp only[dH];exact .sema λx bd=>by
     by_cases aj:x=l
     .subst aj;rw[upd_same]
     rw[upd_ne z _ aj];grind
   obtain⟨j,N,T,d,⟨rfl,rfl⟩,F⟩:=e Q (Go.ConcN.RW.refl Q);exact an d (.d4 F) a
  |quit t=>
   cases bz with
   |zero=>rw[t.1]at a3;cases a3
   |succ a_=>
    rcases t with⟨cr,_⟩|⟨_,j,T,aO,e,aa⟩
    .grind
    have ab:∀aj∈T,Bk J.f aj:=λaj s=>bk_of_mute (aO aj s);have bK:∀hK aj,T[hK]?=h aj->(aP aj).touch?=q∨0<deafBehind aA (T.extract 0 hK):=λhK aj s=>.inl (touch_mute (aO aj (wO s)));exact book (e Q) (.refl J.f Q) i.bZ ab bK b' (.quit aa) a (same _ _) (.inr ⟨a,a⟩)
end
end
section
open Go.Conc
open Go.ConcN (WD CTag Vc Ssum pend phi cnt WgLive PayAt Has RW DWs WSit RelBy sumTo upd upd_same upd_ne AtR0 isW3 isOpen OpenSt deafBehind_idle bk_cell okW_none Vc_upd Vc_le le_sumTo others_uncounted sumTo_upd_out bk_dis bk_en bk_rd bk_rw bk_sem allQuit_of exists_counted)
open Go.ConcR (KK WgAt stA smA rd wr mk Payload g_of_ofEvents Bk bk_of_mute ofEvent_loc_mark ofEvent_cell ofEvent_mk)
variable [Payload]
section
variable {J:hA}{ad i:ak->a5->Prop}{d ej:Nat->Nat}{cL G:Nat->Mem}{tag:CTag}{cZ:cj}{I:Nat}{x:ak}{Q:au}{de:pN}{dD:Option (Nat×Nat)}{o:Trace}{z:Nat->WD}{O:Nat->Nat}{ar:Nat->cj}{b7 oF:Int}
omit [Payload]in
def fy.congr{j}(b:fy J d cL o w j)(k:∀i,i<w->G i=cL i):fy J d G o w j:=
 ⟨b.base,b.cH,b.c_,b.b2,b.dV,b.er,b.ep,λe H=>by rw[k e H];exact b.bG e H,b.bN,b.ei,b.seen,b.old,b.ea,b.eH,λn l g a d=>(b.new n l g a d).imp id λ⟨e,H,p,r⟩=>⟨e,H,p,by grind⟩,
  λe H=>by rw[k e H];exact b.eg e H,b.over⟩
def hB.congr{l x b7 I}{e}(i:hB P ty J D val d cL l x b7 e I C Q)(k:G l=cL l):hB P ty J D val d G l x b7 e I C Q:=by
 cases i with
 |c7 a g j=>exact .c7 a g M
 |rel a=>exact .rel a
 |tail b a=>exact .tail b a
def ic.congr{k}(a:ic P ty J D val d cL w gs Q o z O ar k)(e:∀b,b<w->G b=cL b):ic P ty J D val d G w gs Q o z O ar k:=
 ⟨a.size,a.dr,a.above,λi H=>let ⟨C,l,j⟩:=a.c5 i H;⟨C,l,j.congr (e i H)⟩,a.bu.congr e,a.dR,a.dz,a.dA,a.rel,a.dk,a.dM,a.bT,a.cV,a.ck,a.cw,a.dq,a.aJ,λb g=>by rw[e b g];exact a.dE b g⟩
omit [Payload]in
def Z9{b2}{T}(D:gh J d cL w b)(R:bb n b)(aM:ds b T)(A:cN n b ao b2):
  (∀g∈T,(aP g).low b2.a.heap.size)/\(∀g∈T,∀e,(aP g).touch?=h e->e.loc.isMemory=f->oT J (lU d b.a.heap.size 0) e) /\
  (∀g∈T,∀e,(aP g).touch?=h e->e.kind=.plain->e.write=f->∀o,o<w->∀j l u,e.loc=.cell ⟨j,l,q⟩->cL o j l≠h u) /\
  (∀g∈T,g.loc≠.mark .disable/\g.loc≠.mark .enable)/\∀g∈T,∀e,g.loc≠.mark (.release e):=by
 have key:∀g∈T,(aP g).low b2.a.heap.size/\(∀e,(aP g).touch?=h e->e.loc.isMemory=f->oT J (lU d b.a.heap.size 0) e) /\
   (∀e,(aP g).touch?=h e->e.kind=.plain->e.write=f->∀o,o<w->∀j l u,e.loc=.cell ⟨j,l,q⟩->cL o j l≠h u)/\(g.loc≠.mark .disable/\g.loc≠.mark .enable)/\∀e,g.loc≠.mark (.release e):=by
  intro g K;have x:=aM g K;obtain⟨loc,wr,Q⟩:=g;cases loc with
  |cell i=>
   obtain⟨B,C,k⟩:=x;simp only at B C k;subst B;have E:i.block<b.a.heap.size/\d i.block=0/\i.block≠J.ai/\i.block≠J.f/\¬J.bD i.block:=by
    rcases k with k|⟨⟨L,I,k⟩,_⟩|⟨_,u,k⟩
    .exact k.elim
    .obtain⟨k1,p,F,r,t⟩:=D.blk _ (.inr ⟨L,I,k⟩);grind
    obtain⟨k1,p,F,r,t⟩:=D.u _ _ _ k;grind
   refine⟨by rw[ofEvent_cell];exact ey E.1 A.size,λj s _=>?_,λj s _ y o H v l u z M=>?_,⟨by simp,by simp⟩,by simp⟩
   .rw[ofEvent_cell]at s;simp[MemAct.touch?,eR]at s;subst s;exact .inr ⟨i.block,a,by grind[lf],E.2.2.2.1,E.2.2.1,E.2.2.2.2,a⟩
   rw[ofEvent_cell]at s;simp[MemAct.touch?,eR]at s;subst s;simp only at y z;have N:=D.bG o H v l u M;grind
  |obj O=>
   obtain⟨B,C⟩:=x;simp only at B C;subst B;obtain⟨L,I,k⟩:=C.resolve_left id;obtain⟨k1,p,F,r,t⟩:=D.blk _ (.inr ⟨L,I,k⟩);refine⟨?_,λj s _=>?_,λj s _ _ o _ v l u z=>?_,⟨by simp,by simp⟩,by simp⟩
   .simp[aP,MemAct.low,Loc.low];exact ey t A.size
   .simp[aP,MemAct.touch?]at s;subst s;exact .inr ⟨O,a,by grind[lf],F,p,r,a⟩
   simp[aP,MemAct.touch?]at s;grind
  |mark U=>
   simp[h1]at x;rcases x with rfl|⟨S,rfl⟩
   .exact OP
   exact OP
  |_=>exact x.elim
 grind
def C9(cD:lx P ty J D val k ad i de gs Q o d cL w z O ar I tag cZ x b b7 oF){t}{T}{qM}{nA}{l j}(K:aq P f x Q=.go t bh T)(Y:∀F,F<Q.heap.size->ej F=d F)(N:Q.heap.size<=bh.heap.size)(E:∀U,U<w->lz J d (cL U) U Q bh)(A:∀u∈T,(aP u).low bh.heap.size)(R:∀u∈T,∀x,(aP u).touch?=h x->x.loc.isMemory=f->oT J ej x)(S:∀u∈T,∀x,(aP u).touch?=h x->x.kind=.plain->x.write=f->∀W,W<w->∀F V ag,x.loc=.cell ⟨F,V,q⟩->cL W F V≠h ag)(M:∀u∈T,∀x,u.loc≠.mark (.release x))(B:PayAt J.ai D bh)(p:WgAt ty J.f bh l j)(v:ha P ty J D val k ad i qM w nA (deafBehind I T) t az)(n:cU az {az with a:=bh})(Z:gh J ej cL w az)(ab:Go.ConcN.Mode w z qM l j)(aa:phi k (Vc w z) qM<phi k (Vc w z) tag∨(phi k (Vc w z) qM=phi k (Vc w z) tag/\cj.lt nA cZ)):
  ∃g r s,runT P (crowd gs Q dD) 0=(.next g,r)/\kY (J.base+k) s de/\e_ P ty J D val k ad i s g (o++r):=by
 have ah:=cD.aj.bu.base;have C:=runT_crowd_go (P:=P) (sl:=dD) (i:=0) cD.dv (by simpa using K)
 refine⟨_,_,(phi k (Vc w z) qM+Ssum w z+sumTo w O,(ar,nA)),C,?_,_,bh,dD,ej,cL,w,z,O,ar,deafBehind I T,qM,nA,t,az,l,j,a,
  ⟨Go.ConcN.get_map_set_same _ _ _ FC,v,n,Z,cD.aj.hZ Y N E A R S M B ⟨_,_,p⟩,p,ab,rfl⟩⟩
 rw[cD.eE];rcases aa with ai|⟨ae,X⟩
 .exact Prod.Lex.left _ _ y
 rw[ae];exact Prod.Lex.right _ (Prod.Lex.right _ X)
def nx(l:lx P ty J D val k ad i de gs Q o d cL w z O ar I tag cZ x b b7 oF){K}{T}{nA}{s1}(ak:cU s1 {s1 with a:=Q})(aj:gh J d cL w s1)(B:aq P f x Q=.go K az.a T)(S:kx {s1 with a:=Q} az T∨dS J.f {s1 with a:=Q} az T)(s:ha P ty J D val k ad i tag w nA I K az)(aw:cj.lt nA cZ):
  ∃u E F,runT P (crowd gs Q dD) 0=(.next u,E)/\kY (J.base+k) F de/\e_ P ty J D val k ad i F u (o++E):=by
 rcases S with⟨⟨n,ao,aE,t,C⟩,aM⟩|⟨rfl,A,N,au⟩
 .have X:gh J d cL w {s1 with a:=Q}:=aj.rely ak.size;obtain⟨ab,ae,ag,ah,ai⟩:=Z9 X aE aM C;have e:∀g,g<Q.heap.size->(d g≠0∨g=J.ai∨g=J.f)->az.a.heap[g]?=Q.heap[g]?:=λg p av=>C.a6 g p λL aB R=>by obtain⟨aG,aH,aI,_⟩:=X.blk g (.inr ⟨L,aB,R⟩);grind
  have V:=l.aj.bu.base;refine C9 l B (ej:=lU d Q.heap.size 0) (λg p=>lf p) C.size (λaA U=>⟨C.size,λg p an=>e g p (.inl y),λg W ax aC _=>t.mem g W ax (C.mem _ _ _ (aj.bG aA U g W ax aC)),λW _ _=>m' (e _ l.aj.cw (.inr (.inl a))) W,C.os,C.tape,C.output⟩) ab ae ag ai ?_
   (l.bZ.of_block (e _ l.aj.ck (.inr (.inr a)))) (az:=az) (qM:=tag) (nA:=nA) (by rw[deafBehind_idle ah];exact s) (cU.en t.mem) (X.step t C l.aj.ck l.aj.cw l.aj.dq) l.mode (.inr ⟨rfl,aw⟩)
  obtain⟨aa,Y,Z⟩:=l.aj.bT;exact⟨aa,(e _ l.aj.cw (.inr (.inl a))).trans Y,Z⟩
 have j:∀r∈T,r=mk (.read A)∨r=mk (.write A):=M;refine C9 l B (ej:=d) (λg p=>rfl) (bC _) (λaA U=>.refl ..) (λr v=>?_) (λr v g p _=>?_) (λr v g p aF=>?_) (λr v=>?_) l.aj.bT l.bZ (az:={s1 with a:=Q}) (qM:=tag) (nA:=nA) ?_ (ak.fU ) (aj.rely ak.size) l.mode (.inr ⟨rfl,aw⟩)
 .have hW:=l.aj.ck;rcases j r v with rfl|rfl<;>(rw[ofEvent_mk];show A.block<_;grind)
 .rcases j r v with rfl|rfl<;>(rw[ofEvent_mk]at p;simp[MemAct.touch?]at p;subst p;exact .inl ⟨A,rfl,N,by simp⟩)
 .rcases j r v with rfl|rfl<;>(rw[ofEvent_mk]at p;simp[MemAct.touch?]at p;grind)
 .rcases j r v with rfl|rfl<;>simp[mk]
 rw[deafBehind_idle (λr v=>by rcases j r v with rfl|rfl<;>simp[mk])];exact s
def lZ(p:lx P ty J D val k ad i de gs Q o d cL w z O ar I tag cZ x b b7 oF){C}{T}{e}{t}{v u}{s1}(ag:cU s1 {s1 with a:=Q})(j:gh J d cL w s1)(R:aq P f x Q=.go C bh T)(K:Aside J.f Q bh)(B:WgAt ty J.f bh v u)(g:∀F∈T,Bk J.f F)(A:ha P ty J D val k ad i e w t (deafBehind I T) C {s1 with a:=bh})(l:Go.ConcN.Mode w z e v u)(ae:phi k (Vc w z) e<phi k (Vc w z) tag∨(phi k (Vc w z) e=phi k (Vc w z) tag/\cj.lt t cZ)):
  ∃n r y,runT P (crowd gs Q dD) 0=(.next n,r)/\kY (J.base+k) y de/\e_ P ty J D val k ad i y n (o++r):=by
 obtain⟨V,M,N⟩:=p.aj.bT;have X:cU s1 {s1 with a:=bh}:=j.dh ag (q_.bZ K);refine C9 p R (ej:=d) (λS s=>rfl) (by rw[K.size];grind) (λai W=>.bZ K p.aj.bu.cH p.aj.bu.base (λS ab ah Z=>(p.aj.bu.bG ai W S ab ah Z).2.2.1) p.aj.bu.b2) (Gp g (by rw[K.size];exact p.aj.ck)) (λF U S s d=>?_) (λF U S s aa=>?_) (Gq g)
  ⟨V,(K.block _ p.aj.bu.b2).trans M,N⟩ B A X.fU (j.rely X.size) l ae
 .rcases g F U with bc|bc|⟨E,wr,rfl,Y⟩
  .exact zC
  .exact zC
  rw[ofEvent_cell]at s;simp[MemAct.touch?,eR]at s;subst s;exact .inl ⟨E,a,Y,by simp⟩
 rcases g F U with bc|bc|⟨E,wr,rfl,Y⟩
 .exact zC
 .exact zC
 rw[ofEvent_cell]at s;simp[MemAct.touch?,eR]at s;grind
end
section
variable {J:hA}{ad ae:ak->a5->Prop}{R ej:Nat->Nat}{bz i:Nat->Mem}{tag:CTag}{cZ:cj}{I:Nat}{x:ak}{Q:au}{bU:pN}{dD:Option (Nat×Nat)}{o:Trace}{z:Nat->WD}{O:Nat->Nat}{ar:Nat->cj}{b7 W:Int}
def ha.gd(a:ha P ty J D val k ad ae tag w cZ I x b):w+pend tag<=k:=by cases a<;>simp[pend]<;>(try simp)<;>omega
omit [Payload]in
def nt(p:gy (ai.aG P ty J.f) (dS J.f) bq cZ x b)(r:cU b {b with a:=Q})(o:gh J R bz w b)(i:WgLive ty J.f Q):
  (∃a,cU a {a with a:=Q}/\gh J R bz w a/\bq x a)∨∃a,cU a {a with a:=Q}/\gh J R bz w a/\∃j e g l,aq P f x Q=.go j e.a g/\(kx {a with a:=Q} e g∨dS J.f {a with a:=Q} e g)/\gy (ai.aG P ty J.f) (dS J.f) bq l j e/\cj.lt l cZ:=by
 rcases p.ba (λd=>cU d {d with a:=Q}/\gh J R bz w d) (λd a N k=>⟨k.1.aV N,k.2.aV N⟩) (λG=>False.elim G) ⟨r,o⟩with⟨a,⟨k1,s⟩,n⟩|⟨_,a,⟨k1,s⟩,n⟩
 .grind
 exact .inr ⟨a,k1,s,n _ ⟨k1,λ_=>i⟩⟩
def hB.quits{l x b7 I}{e}{C}(b:hB P ty J D val R bz l x b7 e I C Q)(a:b7=1):∃d,QuitsD P d I C:=by
 cases b with
 |c7 _ _ _=>cases a
 |rel _=>cases a
 |tail _ b=>exact⟨_,b.quits a⟩
def hB.j3{l x b7 I}{d}(a:hB P ty J D val R bz l x b7 d I C Q)(b:b7=1):x=0:=by
 cases a with
 |c7 _ _ _=>cases b
 |rel _=>rfl
 |tail _ a=>rfl
def acN(cD:lx P ty J D val k ad ae bU gs Q o R bz w z O ar I tag cZ x b b7 W)(bO:k<2147483648)(a1:∀C b,ae C b->dr (ai.aG P ty J.f) (dS J.f) (q3 P ty J ad ae) C b)(bb:x.status=.running):
  ∃aB j,runT P (crowd gs Q dD) 0=(.next aB,j)/\((∃ej aT,wE P J D val k ad ej aT aB (o++j))∨∃n,kY (J.base+k) n bU/\e_ P ty J D val k ad ae n aB (o++j)):=by
 have bH:=Vc_le w z;have bx:=cD.aj.bu.base;have e:=cD.aj.cV;have fin:∀{r:Prop},(∃aB j n,runT P (crowd gs Q dD) 0=(.next aB,j)/\kY (J.base+k) n bU/\e_ P ty J D val k ad ae n aB (o++j)) ->
   ∃aB j,runT P (crowd gs Q dD) 0=(.next aB,j)/\((∃ej aT,wE P J D val k ad ej aT aB (o++j))∨∃n,kY (J.base+k) n bU/\e_ P ty J D val k ad ae n aB (o++j)):=
  λ{_} ⟨aB,j,n,aE,an,aI⟩=>⟨aB,j,aE,.inr ⟨n,an,aI⟩⟩
 have bl:=cD.dy.gd;have bB:=cD.dy;have A:=cD.bZ;have ak:=cD.mode;cases bB with
 |@fc g cZ C b F Y=>
  rcases nt Y cD.rely cD.aG e with⟨az,k1,s,_,hi,H,d⟩|⟨az,k1,s,hi,b2,T,i,H,aa,d,aM⟩
  .obtain⟨ab,d⟩:=d {az with a:=Q} (mC k1 e);exact fin (r:=True) (lZ cD k1 s (H Q) (.refl J.f Q) A bk_dis (.fP F d) (ak.reopen v v a E) (.inl l8))
  exact fin (r:=True) (nx cD k1 s H aa (.fc F d) aM)
 |@fP g cZ C b F Y=>
  rcases nt Y cD.rely cD.aG e with⟨az,k1,s,_,aC⟩|⟨az,k1,s,hi,b2,T,i,H,aa,d,aM⟩
  .obtain⟨aq,K,S,_⟩:=ak.open_inv v;rw[K,S]at A;obtain⟨fE,H,ab,d⟩:=aC {az with a:=Q} (mC k1 e) (Vc (k-(g+1)) z) y (by simpa[pend]using A);refine fin (r:=True) (lZ cD k1 s H (aside_setCell Q (stA J.f) _) (A.setSt _) bk_rw (.fR F d) ?_ (.inl l8));have aj:(((Vc (k-(g+1)) z:Nat):Int)+1)*KK=((Vc (k-(g+1)) z+pend (.sp g 3):Nat):Int)*KK:=by simp[pend]
   rw[aj];exact .opn v aq E
  exact fin (r:=True) (nx cD k1 s H aa (.fP F d) aM)
 |@fR g cZ C b F Y=>
  rcases nt Y cD.rely cD.aG e with⟨az,k1,s,_,hi,H,d⟩|⟨az,k1,s,hi,b2,T,i,H,aa,d,aM⟩
  .obtain⟨ab,d⟩:=d {az with a:=Q} (mC k1 e);exact fin (r:=True) (lZ cD k1 s (H Q) (.refl J.f Q) A bk_en (.fQ F d) (ak.reopen v v a E) (.inl l8))
  exact fin (r:=True) (nx cD k1 s H aa (.fR F d) aM)
 |@fQ g cZ C b F Y=>
  rcases nt Y cD.rely cD.aG e with⟨az,k1,s,_,aC⟩|⟨az,k1,s,hi,b2,T,i,H,aa,d,aM⟩
  .obtain⟨fE,ro,bo,_,⟨rc,bq⟩,aw⟩:=aC {az with a:=Q} (mC k1 e);obtain⟨aq,K,S,_⟩:=ak.open_inv v;rw[K,S]at A;have t:=runT_crowd_spawn (P:=P) (sl:=dD) (i:=0) cD.dv (by simpa using bo);rw[cD.aj.size]at t;have bu:=s.rely k1.size;let aT:=upd bz (k-(g+1)) az.u;have a2:∀X,X<k-(g+1)->aT X=bz X:=λX bd=>upd_ne bz _ y;have aJ:aT (k-(g+1))=az.u:=upd_same bz _ _;have aL:cU (a5.dx {az with a:=Q}) {a5.dx {az with a:=Q}with a:=Q}:=cU.en k1.mem;have aZ:hj R (aT (k-(g+1))) (J.base+(k-(g+1))) (a5.dx {az with a:=Q}):=by
    refine⟨λa0 aA=>?_,λa0 bs bt u=>⟨.inr (by rw[aJ];exact u),(bu.u a0 bs bt u).2.2.2.2⟩⟩;rcases aA with aA|⟨L,bG,_⟩
    .exact aA.elim
    simp[a5.dx]at bG
   have V:=(cD.aj.congr a2).spawn (fE:=fE) (l:={g:=0,fn:=x.frame.fn,pos:=x.frame.place,act:=.go (J.base+(k-(g+1)))}) (X:={g:=J.base+(k-(g+1)),fn:=ro.frame.fn,pos:=x.frame.place,act:=.start}) ⟨rfl,rfl⟩ ⟨rfl,rfl⟩
    (λa0 bs bt u=>by rw[aJ]at u;exact bu.u a0 bs bt u) bq aL aZ
   have bj:Vc (k-(g+1)+1) (upd z (k-(g+1)) ⟨7,0,0⟩)=Vc (k-(g+1)) z+1:=by simp[Vc,sumTo,upd_same];rw[sumTo_upd_out z _ cnt (bC _)];rfl
   have bg:Ssum (k-(g+1)+1) (upd z (k-(g+1)) ⟨7,0,0⟩)=Ssum (k-(g+1)) z+7:=by simp[Ssum,sumTo,upd_same];rw[sumTo_upd_out z _ WD.stage (bC _)]
   have bf:sumTo (k-(g+1)+1) (upd O (k-(g+1)) 1)=sumTo (k-(g+1)) O+1:=by have:sumTo (k-(g+1)) (upd O (k-(g+1)) 1)=sumTo (k-(g+1)) O:=sumTo_upd_out O 1 id (i:=k-(g+1)) (j:=k-(g+1)) (bC _);show sumTo (k-(g+1)) (upd O (k-(g+1)) 1)+upd O (k-(g+1)) 1 (k-(g+1))=_;rw[upd_same];grind
   have ax:OpenSt (k-(g+1)+1) (upd z (k-(g+1)) ⟨7,0,0⟩):=λZ ao=>by
    by_cases aj:Z=k-(g+1)
    .subst aj;exact we
    rw[upd_ne z _ aj];exact aq Z y
   have a3:((gs.setIfInBounds 0 fE).push ro)[0]?=h fE:=by have bk:0<gs.size:=FC;grind
   have bw:gh J R aT (k-(g+1)+1) {az with a:=Q}:=⟨bu.blk,bu.u,λX bd a0 bs bt u=>by
    rcases dY X (k-(g+1))with aE|aE
    .rw[a2 X aE]at u;exact bu.bG X aE a0 bs bt u
    .obtain rfl:X=k-(g+1):=y
     rw[aJ]at u;exact u⟩
   have bD:k-(g+1)+1=k-g:=y;rw[bD]at V bj bg bf ax bw;have aH:∀av,pend av=0->((Vc (k-(g+1)) z+pend (.sp g 2):Nat):Int)*KK=((Vc (k-g) (upd z (k-(g+1)) ⟨7,0,0⟩)+pend av:Nat):Int)*KK:=λav bP=>by exact hp
   cases g with
   |zero=>
    obtain⟨aS,d⟩:=aw;simp only[so]at V bj bg bf ax aH bw;refine⟨_,_,t,.inr ⟨(phi k (Vc k (upd z (k-(0+1)) ⟨7,0,0⟩)) .kd+Ssum k (upd z (k-(0+1)) ⟨7,0,0⟩)+sumTo k (upd O (k-(0+1)) 1),(upd ar (J.base+(k-(0+1))) rc,aS)),by rw[cD.eE];exact Prod.Lex.left _ _ l8,
     _,Q,dD,R,aT,k,_,_,_,0,.kd,aS,fE,{az with a:=Q},_,_,rfl,⟨a3,.kd d,k1.fU,bw,V,A,?_,rfl⟩⟩⟩
    rw[aH .kd a];exact .opn v ax E
   |succ i=>
    obtain⟨aS,d⟩:=aw;refine⟨_,_,t,.inr ⟨(phi k (Vc (k-(i+1)) (upd z (k-(i+1+1)) ⟨7,0,0⟩)) (.sp i 5)+Ssum (k-(i+1)) (upd z (k-(i+1+1)) ⟨7,0,0⟩)+sumTo (k-(i+1)) (upd O (k-(i+1+1)) 1),(upd ar (J.base+(k-(i+1+1))) rc,aS)),by rw[cD.eE];exact Prod.Lex.left _ _ l8,
     _,Q,dD,R,aT,k-(i+1),_,_,_,0,.sp i 5,aS,fE,{az with a:=Q},_,_,rfl,⟨a3,.fc y d,k1.fU,bw,V,A,?_,rfl⟩⟩⟩
    rw[aH (.sp i 5) a];exact .opn v ax E
  exact fin (r:=True) (nx cD k1 s H aa (.fQ F d) aM)
 |kd Y=>
  rcases nt Y cD.rely cD.aG e with⟨az,k1,s,_,hi,H,d⟩|⟨az,k1,s,hi,b2,T,i,H,aa,d,aM⟩
  .obtain⟨ab,d⟩:=a1 _ _ (d {az with a:=Q} (mC k1 e));exact fin (r:=True) (lZ cD k1 s (H Q) (.refl J.f Q) A bk_dis (.w1 d) (ak.reopen v v a E) (.inl l8))
  exact fin (r:=True) (nx cD k1 s H aa (.kd d) aM)
 |w1 Y=>
  rcases nt Y cD.rely cD.aG e with⟨az,k1,s,_,aC⟩|⟨az,k1,s,hi,b2,T,i,H,aa,d,aM⟩
  .obtain⟨aq,K,S,_⟩:=ak.open_inv v;rw[K,S]at A;have bN:=Vc_le k z;obtain⟨fE,H,bk,bn⟩:=aC {az with a:=Q} (mC k1 e) (Vc k z) y M;by_cases u:Vc k z=0
   .obtain⟨ab,d⟩:=bk u;refine fin (r:=True) (lZ cD k1 s H (.refl J.f Q) A bk_rd (.ke d) ?_ (.inl l8));have aj:((Vc k z+pend .w1:Nat):Int)*KK=0:=M;rw[aj];exact .fin v (allQuit_of aq u)
   obtain⟨ab,d⟩:=bn u;refine fin (r:=True) (lZ cD k1 s H (.refl J.f Q) A bk_rd (.w2 d) ?_ (.inl l8));have:=ak.reopen (tag':=.w2 (Vc k z)) v v a (λB aj=>by grind);grind
  exact fin (r:=True) (nx cD k1 s H aa (.w1 d) aM)
 |@w2 B cZ C b Y=>
  rcases nt Y cD.rely cD.aG e with⟨az,k1,s,_,aC⟩|⟨az,k1,s,hi,b2,T,i,H,aa,d,aM⟩
  .obtain⟨aq,K,S,bp⟩:=ak.open_inv v;rw[K,S]at A;obtain⟨bK,aE⟩:=bp B rfl;obtain⟨a_,aU⟩:=aC {az with a:=Q} (mC k1 e) (Vc k z) y M;by_cases aj:Vc k z=B
   .obtain⟨fE,H,ab,d⟩:=a_ aj;exact fin (r:=True) (lZ cD k1 s H (aside_setCell Q (stA J.f) _) (A.setSt _) bk_rw (.w3 d) (.reg v aq y) (.inl l8))
   obtain⟨fE,H,d⟩:=aU aj;obtain⟨ab,d⟩:=a1 _ _ d;refine fin (r:=True) (lZ cD k1 s H (.refl J.f Q) A bk_rd (.w1 d) ?_ (.inl l8));have:=ak.reopen (tag':=.w1) v v a E;grind
  exact fin (r:=True) (nx cD k1 s H aa (.w2 d) aM)
 |@w3 cZ C b Y=>
  rcases nt Y cD.rely cD.aG e with⟨az,k1,s,aW⟩|⟨az,k1,s,hi,b2,T,i,H,aa,d,aM⟩
  .obtain⟨_,a',aC⟩:=aW;obtain⟨aK,aX⟩:=aC {az with a:=Q} (mC k1 e);obtain⟨l,p⟩:=cj.js b cZ;have aR:=oN.rely ⟨bb,a',aC⟩ (mC k1 e);generalize b7=bM at ak A;generalize W=bL at ak A;cases ak with
   |opn aE _ _=>exact aE.elim
   |reg aE an aI=>exact fin (r:=True) (lZ cD k1 s (aK ⟨_,A⟩) (.refl J.f Q) A E (.blk (cZ:=l) aR) (.reg v an aI) (.inr ⟨rfl,p⟩))
   |last L aE an aI bF=>exact fin (r:=True) (lZ cD k1 s (aK ⟨_,A⟩) (.refl J.f Q) A E (.blk (cZ:=l) aR) (.last L v an aI bF) (.inr ⟨rfl,p⟩))
   |sema an=>
    obtain⟨fE,H,ab,d⟩:=aX A;exact fin (r:=True) (lZ cD k1 s H (aside_setCell Q (smA J.f) _) (A.setSm 0) bk_sem (.w4 d) (.fin v an) (.inl l8))
   |fin aE _=>exact aE.elim
  exact fin (r:=True) (nx cD k1 s H aa (.w3 d) (cj.hj aM))
 |blk Y=>grind
 |w4 Y=>
  rcases nt Y cD.rely cD.aG e with⟨az,k1,s,_,aC⟩|⟨az,k1,s,hi,b2,T,i,H,aa,d,aM⟩
  .obtain⟨ah,K,S⟩:=ak.fin_inv v;rw[K,S]at A;obtain⟨fE,H,ab,d⟩:=aC {az with a:=Q} (mC k1 e) A;exact fin (r:=True) (lZ cD k1 s H (.refl J.f Q) A bk_rd (.ke d) (.fin v ah) (.inl l8))
  exact fin (r:=True) (nx cD k1 s H aa (.w4 d) aM)
 |ke Y=>
  rcases nt Y cD.rely cD.aG e with⟨az,k1,s,_,hi,H,d⟩|⟨az,k1,s,hi,b2,T,i,H,aa,d,aM⟩
  .obtain⟨ab,d⟩:=d {az with a:=Q} (mC k1 e);obtain⟨ah,K,S⟩:=ak.fin_inv v;rw[K,S]at A;exact fin (r:=True) (lZ cD k1 s (H Q) (.refl J.f Q) A bk_en (.acq d) (.fin v ah) (.inl l8))
  exact fin (r:=True) (nx cD k1 s H aa (.ke d) aM)
 |acq Y=>
  rcases nt Y cD.rely cD.aG e with⟨az,k1,s,_,fE,H,d⟩|⟨az,k1,s,hi,b2,T,i,H,aa,d,aM⟩
  .obtain⟨ah,K,S⟩:=ak.fin_inv v;have t:=runT_crowd_go (P:=P) (sl:=dD) (i:=0) cD.dv (by simpa using H Q);have a8:MemOp.ofEvents 0 x.frame.fn x.frame.place #[mk (.acquire (stA J.f))]=#[{g:=0,fn:=x.frame.fn,pos:=x.frame.place,act:=.mark (.acquire (stA J.f))}]:=by rw[ofEvents_eq];simp[ofEvent_mk]
   have aF:=cD.aj.hZ (C:=x) (hi:=fE) (fn:=x.frame.fn) (pos:=x.frame.place) (T:=#[mk (.acquire (stA J.f))]) (ej:=R) (bh:=Q) (λ_ _=>rfl) (bC _) (λX _=>.refl ..) (by simp;exact cD.aj.ck) (by intro aj ag a0 aA;simp at ag;subst ag;exact cQ) (by intro aj ag a0 aA;simp at ag;subst ag;simp[mk,aP,MemAct.touch?]at aA) (by intro aj ag;simp at ag;subst ag;simp[mk]) cD.aj.bT e;have bI:deafBehind 0 #[mk (.acquire (stA J.f))]=0:=rfl;have bd:(o++#[({g:=0,fn:=x.frame.fn,pos:=x.frame.place,act:=.mark (.acquire (stA J.f))}:MemOp)])[o.size]?=h {g:=0,fn:=x.frame.fn,pos:=x.frame.place,act:=.mark (.acquire (stA J.f))}:=E
   have aV:=aF.bu.jH (by rw[aF.dz];rfl) (aF.dR _) (bc:=o.size) (by rw[a8,act?_of bd]) (by rw[a8];simp[Trace.g?]) (by rw[a8];exact⟨0,by simp[Trace.g?],by rw[deaf_old (bC _)];exact cD.aj.dz⟩) (λl p=>by
    obtain⟨g,F⟩:=cD.aj.rel l p (by rw[ah l p];omega)
    exact⟨g,F.appOther g_of_ofEvents y,lt_of_act? F.act⟩)
   have aO:∃bc,Leavers P (o++MemOp.ofEvents 0 x.frame.fn x.frame.place #[mk (.acquire (stA J.f))]) ((gs.map (woken P x fE Q)).setIfInBounds 0 fE) bc:=by
    have aG:∀Z,∃br,∀C,0<Z->((gs.map (woken P x fE Q)).setIfInBounds 0 fE)[Z]?=h C->QuitsD P br (Deaf (o++MemOp.ofEvents 0 x.frame.fn x.frame.place #[mk (.acquire (stA J.f))]) Z) C:=by
     intro Z;cases aN:((gs.map (woken P x fE Q)).setIfInBounds 0 fE)[Z]? with
     |none=>simp
     |some C=>
      rcases nZ Z with aj|au
      .exact⟨0,λhi Y=>by omega⟩
      rcases dY Z J.base with aM|bJ
      .obtain⟨br,_,bm⟩:=aF.dr Z C au aM aN;exact⟨br,λhi _ a4=>by grind⟩
      obtain⟨l,rfl⟩:∃l,Z=J.base+l:=⟨Z-J.base,by omega⟩
      have p:l<k:=by have:=(i_.1 aN).1;rw[aF.size]at this;omega
      obtain⟨bE,a6,aQ⟩:=aF.c5 l p;rw[aN]at a6;cases a6;obtain⟨br,bm⟩:=aQ.quits (ah l p);refine⟨br,λhi _ a4=>?_⟩;cases a4;rw[aF.dA l p];omega
    exact⟨λZ=>Classical.choose (aG Z),λZ C ao N=>Classical.choose_spec (aG Z) C ao N,λZ ao=>aF.above Z (by rw[aF.size]at ao;exact ao)⟩
   obtain⟨bc,aO⟩:=aO;refine⟨_,_,t,.inl ⟨R,bz,⟨_,Q,dD,fE,az,bc,rfl,Go.ConcN.get_map_set_same _ _ _ FC,aF.size,d {az with a:=Q} (mC k1 e),k1,s,aO,aV,aF.dR,cD.aj.bT,λl p Z ao=>?_,cD.aj.cw,cD.aj.ck,cD.aj.dq⟩⟩⟩;obtain⟨bE,_,aQ⟩:=cD.aj.c5 l p;rcases nZ Z with aj|au
   .subst aj;exact cD.aj.dM l p (by rw[ah l p];omega)
   exact cD.aj.dk l p (aQ.j3 (ah l p)) Z au ao
  exact fin (r:=True) (nx cD k1 s H aa (.acq d) aM)
end
end
section
open Go.Conc
open Go.ConcN (WD CTag Vc Ssum pend phi cnt WgLive PayAt Has WSit RelBy sumTo upd upd_same upd_ne exists_counted)
open Go.ConcR (KK WgAt stA smA Payload)
variable [Payload]
section
variable {J:hA}{ad s:ak->a5->Prop}{d:Nat->Nat}{bz:Nat->Mem}{tag:CTag}{cZ:cj}{I:Nat}{x:ak}{Q:au}{ae:pN}{dD:Option (Nat×Nat)}{o:Trace}{z:Nat->WD}{O:Nat->Nat}{ar:Nat->cj}{b7 R:Int}
def hB.running_of{l x b7 I}{g}{C}(e:hB P ty J D val d bz l x b7 g I C Q)(b:b7≠1):C.status=.running:=by
 cases e with
 |c7 a _ _=>exact a.run λ_ _ l=>l.1
 |rel a=>exact Goes.running (λ_ _ l=>l.1) Q (Go.ConcN.RW.refl Q) a
 |tail _ a=>exact a.running_of b
def acy(g:lx P ty J D val k ad s ae gs Q o d bz w z O ar I tag cZ x b b7 R):∃(n:Nat)(e:ak),gs[n]?=h e/\e.status=.running:=by
 rcases g.dy.status with⟨i,_⟩|⟨_,rfl⟩
 .exact⟨0,x,g.dv,i⟩
 have r:=g.mode;cases r with
 |opn a _ _=>exact a.elim
 |reg _ _ p=>
  obtain⟨n,l,u⟩:=exists_counted p;obtain⟨e,j,i⟩:=g.aj.c5 n l;exact⟨_,e,j,i.running_of y⟩
 |last L _ t p _=>
  obtain⟨e,j,i⟩:=g.aj.c5 L t;exact⟨_,e,j,i.running_of y⟩
 |fin a _=>exact a.elim
def RJ(e:lx P ty J D val k ad s ae gs Q o d bz w z O ar I tag cZ x b b7 R):∀n∈gs,awake n:=by
 intro n y E;obtain⟨j,a⟩:=Array.mem_iff_getElem?.1 y;rcases nZ j with rfl|r
 .rw[e.dv]at a;cases a;rcases e.dy.status with⟨i,_⟩|⟨i,_⟩<;>rw[i]<;>simp
 rcases dY j J.base with u|C
 .obtain⟨A,_,v⟩:=e.aj.dr j n r u a;rcases v.status with g|g<;>rw[g]<;>simp
 obtain⟨l,rfl⟩:∃l,j=J.base+l:=⟨j-J.base,by omega⟩
 have B:l<w:=by have:=(i_.1 a).1;rw[e.aj.size]at this;omega
 obtain⟨t,p,i⟩:=e.aj.c5 l B;rw[a]at p;cases p;rcases i.status with g|g<;>rw[g]<;>simp
def lx.at(e:lx P ty J D val k ad s ae gs Q o d bz w z O ar I tag cZ x b b7 R)(H6):lx P ty J D val k ad s ae gs (Q.at H6) o d bz w z O ar I tag cZ x b b7 R:=
 ⟨e.dv,e.dy,e.rely.eD (bC _) (λ_ _=>rfl) (λ_ _ _ _ g=>g) a a a,e.aG,e.aj.at H6,e.bZ,e.mode,e.eE⟩
def acM(i:lx P ty J D val k ad s ae gs Q o d bz w z O ar I tag cZ x b b7 R)(r:0<e)(F:e<J.base)(v:gs[e]?=h C)(A:C.status=.running):
  ∃E j n,runT P (crowd gs Q dD) e=(.next E,j)/\kY (J.base+k) n ae/\e_ P ty J D val k ad s n E (o++j):=by
 obtain⟨u,G,N⟩:=i.aj.dr e C r F v;cases u with
 |zero=>rw[N.1]at A;cases A
 |succ u=>
  rcases N with⟨H,_⟩|⟨_,p,T,X,V,K⟩
  .grind
  .have Y:(e==0)=m:=M;have U:=runT_crowd_go (P:=P) (sl:=dD) (i:=e) v (by rw[Y];exact V Q)
   obtain⟨g,l,W,B,Z⟩:=i.dy.h5 C p Q;have S:Go.ConcN.Mode w z g b7 R:=i.mode.retag B;refine⟨_,_,(phi k (Vc w z) g+Ssum w z+sumTo w O,(upd ar e (cj.dG u),l)),U,?_,_,Q,dD,d,bz,w,z,O,_,I,g,l,woken P C p Q x,b,b7,R,a,
    ⟨by rw[Go.ConcN.get_map_set _ _ _ _ y,i.dv];rfl,W,i.rely,i.aG,i.aj.bt r F X K,i.bZ,S,rfl⟩⟩
   rw[i.eE,Go.ConcN.phi_retag k _ B];exact Prod.Lex.right _ (Prod.Lex.left _ _ ⟨e,by omega,by rw[upd_same,G];exact cj.gu _ b,λaa t=>upd_ne ar _ t⟩)
def X7(N:k<2147483648)(y:∀r u,s r u->dr (ai.aG P ty J.f) (dS J.f) (q3 P ty J ad s) r u){A}(C:e_ P ty J D val k ad s ae A o):
  ∃e a,stepT P A=(.next e,a)/\((∃g d,wE P J D val k ad g d e (o++a))∨∃i,kY (J.base+k) i ae/\e_ P ty J D val k ad s i e (o++a)):=by
 obtain⟨B,O,dD,X,Z,x,S,R,U,V,tag,K,W,u,M,Y,rfl,b⟩:=C;obtain⟨l,r,n,t,j,p,E⟩:=crowd_pick (P:=P) (w:=O) (sl:=dD) (RJ b) (acy b);rw[E];have w:=b.at n;have z:x<=k:=by have:=b.dy.gd;omega
 rcases nZ l with rfl|I
 .rw[b.dv]at j;cases j;exact acN (dD:=t) w N y p
 rcases dY l J.base with Q|T
 .obtain⟨e,a,i,H,G,F⟩:=acM (dD:=t) w I Q j p;grind
 obtain⟨v,rfl⟩:∃v,l=J.base+v:=⟨l-J.base,by omega⟩
 have L:v<x:=by have:=(i_.1 j).1;rw[b.aj.size]at this;omega
 obtain⟨e,a,i,H,G,F⟩:=acR (dD:=t) w N z b.dy.gd L j p;grind
def X8(B:k<2147483648)(y:∀u w,s u w->dr (ai.aG P ty J.f) (dS J.f) (q3 P ty J ad s) u w):∀j(r:Machine)g,e_ P ty J D val k ad s j r g ->
  ∃p o n b a,runNT P p r g=(.next o,n)/\wE P J D val k ad b a o n:=by
 intro j;induction(aaj (J.base+k)).apply j with
 |intro j _ A=>
  intro r g x;obtain⟨t,d,v,e⟩:=X7 B y x;rcases e with⟨b,a,e⟩|⟨i,e,l⟩
  .exact⟨1,t,g++d,b,a,by simp[runNT,v],e⟩
  obtain⟨p,o,n,b,a,k1,z⟩:=A i e t (g++d) l;exact⟨p+1,o,n,b,a,by simp only[runNT,v];exact k1,z⟩
def kU.gj{cE}{Y:ak->a5->Prop}(vf)(an:0<vf)(bo N)(aI:k<2147483648)(au:N≠bo)(Z:eT b cE)(aL:C.status=.running)(ad:∃L∈b.m,N∈L.al)(ag:∃L∈b.m,bo∈L.al)(aB:∀d,(b.own d∨∃L∈b.m,d∈L.al)->d<b.a.heap.size)(bd:∀d,(d=N∨d=bo)->¬cE.own d/\(∀L∈cE.m,d∉L.al)/\∀o,cE.u d o=q)(aE:WgAt ty bo b.a 0 0)(Q:PayAt N D b.a)(bc:∀l:hA,l.f=bo->l.ai=N->l.aJ=vf->∃X U,(∀C b,U C b->dr (ai.aG P ty l.f) (dS l.f) (q3 P ty l X U) C b)/\oR P ty l D val k U k C cE /\
   ∀aa j,X aa j->gi j->PayAt N D j.a->(∀g,g<k->∀s,s<vf->j.a.cell? ⟨N,vf*g+s,q⟩=h (val g s))->N<j.a.heap.size->(∀d,(d=N∨d=bo)->¬j.own d/\(∀L∈j.m,d∉L.al)/\∀o,j.u d o=q) ->
    ∃x,Y aa x/\x.a=j.a/\gi x/\∀i:Nat->Prop,gL i j->¬i N->gL i x):kU P C b Y:=by
 intro i p T aO a7 bk K G ae y av;have ba:¬i N:=λS=>let ⟨L,G,e⟩:=ad;y.m N S L G e
 have bb:¬i bo:=λS=>let ⟨L,G,e⟩:=ag;y.m bo S L G e
 have O:=aB N (.inr ad);have a_:=aB bo (.inr ag);have R:1<=p.size:=(i_.1 K).1;let l:hA:={bD:=i,bN:=aO.size,f:=bo,ai:=N,base:=p.size,aJ:=vf}
 obtain⟨X,U,ab,V,a'⟩:=bc l rfl rfl rfl;have aM:=y.aV Z;have I:gi cE:=.aV Z;have aR:gh l (λ_=>0) (λ_ _ _=>q) 0 cE:=by
  refine⟨λd e=>⟨a,λn=>M,λn=>M,λn=>?_,by rw[Z.a];exact aB d (Z.blk d e)⟩,λd o aA u=>⟨a,λn=>?_,λn=>?_,λn=>?_,gi.lt I u⟩,λg r=>absurd r (iC g)⟩
  .rcases e with e|⟨L,G,e⟩
   .exact aM.own d n e
   exact aM.m d n L G e
  .grind
  .grind
  rw[aM.u d n o]at u;cases u
 have aT:ic P ty l D val (λ_=>0) (λ_ _ _=>q) 0 p b.a aO (λ_=>⟨0,0,0⟩) (λ_=>0) (λs=>cj.dG (a7 s)) 0:=
  ⟨rfl,λs C t _ aj=>⟨a7 s,rfl,G.old s C t aj⟩,G.above,λg r=>absurd r (iC g),fy.start ae a R au bb ba,av,ae.hears,λg r=>absurd r (iC g),λg r=>absurd r (iC g),λg r=>absurd r (iC g),λg r=>absurd r (iC g),
   Q,⟨_,_,aE⟩,a_,O,y.lt,an,λg r=>absurd r (iC g)⟩
 have aU:cU cE {cE with a:=b.a}:=by have:=cU.en I;rw[<-Z.a];exact this
 have aP:∃aG,e_ P ty l D val k X U aG (crowd p b.a T) aO:=by
  cases k with
  |zero=>
   obtain⟨az,V⟩:=V;exact⟨_,p,b.a,T,_,_,0,_,_,_,0,.kd,az,C,cE,_,_,a,⟨K,.kd V,aU,aR,aT,aE,by have:=Go.ConcN.Mode.opn (j:=0) (D:=λ_=>(⟨0,0,0⟩:WD)) (tag:=.kd) v (λs t=>absurd t (iC s)) E;simpa[Vc,sumTo,pend]using this,a⟩⟩
  |succ k=>
   obtain⟨az,V⟩:=V;have B:ha P ty l D val (k+1) X U (.sp k 5) (k+1-(k+1)) az 0 C cE:=.fc (Nat.lt_succ_self k) V;rw[uu]at B;exact⟨_,p,b.a,T,_,_,0,_,_,_,0,.sp k 5,az,C,cE,_,_,a,⟨K,B,aU,aR,aT,aE,by have:=Go.ConcN.Mode.opn (j:=0) (D:=λ_=>(⟨0,0,0⟩:WD)) (tag:=.sp k 5) v (λs t=>absurd t (iC s)) E;simpa[Vc,sumTo,pend]using this,a⟩⟩
 obtain⟨aG,aP⟩:=aP;obtain⟨bj,bf,bh,F,W,ax,⟨aV,A,a8,aF,H,bg,rfl,a0,_,aQ,J,ao,aW,aX,aJ,aw,a9,aq,a3,ar⟩⟩:=X8 aI ab aG _ _ aP;have aC:gh l F W k {H with a:=A}:=ao.rely J.size;have aS:∀d,(d=N∨d=bo∨i d)->¬H.own d/\(∀L∈H.m,d∉L.al)/\∀o,H.u d o=q:=by
  intro d e;have key:∀g,(F g=0/\g≠l.ai/\g≠l.f/\¬l.bD g/\g<A.heap.size)->g≠d:=M;refine⟨λaK=>key d (aC.blk d (.inl aK)) a,λL G ah=>key d (aC.blk d (.inr ⟨L,G,ah⟩)) a,λo=>?_⟩;cases aH:H.u d o with
  |none=>rfl
  |some aA=>exact absurd rfl (key d (aC.u d o aA aH))
 obtain⟨x,aZ,a6,a4,a1⟩:=a' aF {H with a:=A} aQ (λd o aA u=>J.mem d o aA u) aw a9 aq (λd e=>aS d (e.elim .inl λn=>.inr (.inl n)));have a2:gL (λd=>i d∨d=bo) {H with a:=A}:=by have aN:∀d,(i d∨d=bo)->¬H.own d/\(∀L∈H.m,d∉L.al)/\∀o,H.u d o=q:=λd e=>aS d (e.elim (λn=>.inr (.inr n)) λn=>.inr (.inl n));exact⟨λd e=>(aN d e).1,λd e=>(aN d e).2.1,λd e=>(aN d e).2.2,λd e=>e.elim (ar d) λn=>by grind⟩
 grind
end
end
section
open Go.Conc Go.RowKit Go.Conc.Lib Go.ConcR.Gen
open Go.ConcN (WgLive)
open Go.ConcR (KK WgAt stA smA rd wr mk DC0)
variable {L:WgLink}
section
variable (P:aI)(de:au->au->Prop)(L:WgLink)(bo:Nat)(hs:ak)
def Ac(b:ak)(_:au):Prop:=b.status=.running/\∃a,(∀d,aq P f b d=.go a d #[mk .enable])/\∀w1,WgLive L.tWg bo w1->∃e,Goes P f de DC0 (λb _=>b=hs) e a w1
def Rl(d:ak)(_:au):Prop:=d.status=.running/\∃b a,a.block=bo/\(∀e,aq P f d e=.go b e #[mk (.read a)])/\∀w1,WgLive L.tWg bo w1->∃g,Goes P f de DC0 (Ac P de L bo hs) g b w1
def FH(b:ak)(a:au):Prop:=b.status=.running/\∀e:Nat,e<2147483647->WgAt L.tWg bo a (e*KK) 0 ->
 ∃d,aq P f b a=.go d (a.setCell (stA bo) (.int .u64 ((e+1)*KK))) #[rd (stA bo),wr (stA bo)]/\∃g,Goes P f de DC0 (λb a=>Rl P de L bo hs b a∨Ac P de L bo hs b a) g d (a.setCell (stA bo) (.int .u64 ((e+1)*KK)))
def Rk(b:ak)(_:au):Prop:=b.status=.running/\∃a,(∀d,aq P f b d=.go a d #[mk .disable])/\∀w1,WgLive L.tWg bo w1->∃e,Goes P f de DC0 (FH P de L bo hs) e a w1
end
set_option maxRecDepth 100000 in
def RH{P}(H:WgLib P L){de:au->au->Prop}{bo}(d:∀{g w1},WgLive L.tWg bo g->de g w1->WgLive L.tWg bo w1){hF:aK}{hE}{f':Array ap}{hJ:Nat}{hP:p Nat}{hL:p Item}(g:au)(b:WgLive L.tWg bo g):
  Goes P f de DC0 (Rk P de L bo (G (hF.at (hE.put ((f'[hJ]?).bind (·.dst)) (.tuple #[])) (.inRegion f' hP::hL)) ah)) 12
   (G ((base L.add).at ⟨#[.pointer (h ⟨bo,0,q⟩),.int .i64 1,K,K,K,K,K,K,K,K,K,K,K,K,K,K,K,K,K,K,K,K,K,K,K,K,K,K,K,K,K,K,K,K,K,K,K,K,K,K,K,K,K,K,K,K,K,K,K,K,K,K,K,K,K,K,K,K,K,K,K,K,K,K,K,K,K,K,K,K,K,K,K,K,K,K,K,K,K,K,K,K,K,K,K,K,K,K,K,K,K,K,K,K,K,K,K,K,K,K,K,K,K,K,K,K,K,K,K,K,K,K,K,K,K,K,K],[]⟩ [.code (body_add L)]) (hF.at hE (.inRegion f' (hJ::hP)::hL)::ah)) g:=by
 lib_facts
 simp only[body_add,addFn,im]
 repeat (u_c aw d b)
 u_cond f d b
 repeat (u_c aw d b)
 u_reg d b
 u_op d b
 u_op d b
 u_c aF d b
 repeat (u_c aw d b)
 u_cond m d b
 u_c stepG_skip d b
 repeat (u_c aw d b)
 u_reg d b
 refine Goes.stop (λu l=>?_);refine⟨a,_,λg=>stepG_mark0 .disable E a a (by k_ne) a H.f_disable (x_disable_n L) (x_disable_b L) (x_disable_x L) (x_disable_f L),λg b=>?_⟩;clear l;refine⟨40,?_⟩
 walk_nrm
 u_c aF d b
 repeat (u_c aw d b)
 u_reg d b
 u_defer d b
 u_c aF d b
 repeat (u_c aw d b)
 u_reg d b
 u_op d b
 u_c aF d b
 repeat (u_c aw d b)
 u_reg d b
 u_bub d b
 u_c aF d b
 repeat (u_c aw d b)
 u_cond m d b
 u_c stepG_skip d b
 repeat (u_c aw d b)
 u_reg d b
 u_op d b
 u_op d b
 u_op d b
 u_op d b
 u_op d b
 u_op d b
 u_call H.f_uAdd (nm_uAdd L) uAddFn d b
 repeat (u_c aw d b)
 u_reg d b
 u_op d b
 u_c aF d b
 repeat (u_c aw d b)
 u_reg d b
 u_op d b
 u_op d b
 u_op d b
 u_op d b
 refine Goes.stop (λo k=>?_);replace b:=d b k;clear k;refine⟨a,λe D i=>?_⟩;have s:KK=4294967296:=rfl;have t:IntKind.u64.wrap ((e:Int)*KK+4294967296)=((e:Int)+1)*KK:=by rw[IntKind.wrap_u64];simp only[s];omega
 refine⟨_,(stepG_add_atomic a a (by k_ne) a H.f_addU64 (x_addU64_n L) (x_addU64_b L) (x_addU64_x L) .u64 (x_addU64_f L) a a i.cellSt (i.thaw 0)).trans (by rw[t];rfl),110,?_⟩;replace b:WgLive L.tWg bo (o.setCell (stA bo) (.int .u64 (((e:Int)+1)*KK))):=⟨_,_,i.setSt _⟩
 clear i
 walk_nrm
 u_op d b
 u_c aF d b
 u_c stepG_ret' d b
 u_leave1 H.f_uAdd d b
 u_op d b
 u_c aF d b
 have z:bits .and .u64 (((e:Int)+1)*4294967296) 2147483648=0:=by have:=Go.ConcN.st_flag (e+1) 0 y y;grind
 have C:bits .and .u64 (((e:Int)+1)*4294967296) 2147483647=0:=by have:=Go.ConcN.st_waiters (e+1) 0 y y;grind
 have F:((e:Int)+1+2147483648) % 4294967296-2147483648=(e:Int)+1:=y;have A:¬((e:Int)+1<0):=y;have B:(0:Int)<(e:Int)+1:=y
 repeat (u_c aw d b)
 u_reg d b
 u_op d b
 u_op d b
 u_op d b
 u_op d b
 u_skip d b
 u_skip d b
 u_op d b
 u_c aF d b
 repeat (u_c aw d b)
 u_cond m d b
 u_c stepG_skip d b
 repeat (u_c aw d b)
 u_reg d b
 u_op d b
 u_op d b
 u_op d b
 u_op d b
 u_c aF d b
 repeat (u_c aw d b)
 u_reg d b
 u_op d b
 u_op d b
 u_op d b
 u_op d b
 u_c aF d b
 by_cases w:(e:Int)+1=1
 .repeat (u_c aw d b)
  u_reg d b
  u_op d b
  u_op d b
  u_op d b
  u_op d b
  u_op d b
  u_op d b
  u_op d b
  u_op d b
  u_op d b
  u_op d b
  u_c aF d b
  repeat (u_c aw d b)
  u_cond f d b
  repeat (u_c aw d b)
  u_reg d b
  u_op d b
  u_op d b
  u_op d b
  u_conv H.underlying_tPU32 H.room_tU32 (Go.ConcN.Gen.WgLive.cell1 b).choose_spec d b
  refine Goes.stop (λv n=>.inl ?_);clear n;refine⟨a,_,⟨bo,1,q⟩,a,λg=>stepG_markAt .read E a a (by k_ne) a H.f_raceRead (x_raceRead_n L) (x_raceRead_b L) (x_raceRead_x L) (x_raceRead_f L) (ad:=⟨bo,1,q⟩) (by simp[Act.eval]),λg b=>⟨50,?_⟩⟩
  walk_nrm
  u_c aF d b
  repeat (u_c aw d b)
  u_reg d b
  u_op d b
  u_op d b
  u_c aF d b
  repeat (u_c aw d b)
  u_cond m d b
  u_c stepG_skip d b
  repeat (u_c aw d b)
  u_reg d b
  u_op d b
  u_op d b
  u_op d b
  u_skip d b
  u_skip d b
  u_op d b
  u_op d b
  u_skip d b
  u_skip d b
  u_skip d b
  u_skip d b
  u_op d b
  u_c aF d b
  repeat (u_c aw d b)
  u_cond m d b
  u_c stepG_skip d b
  repeat (u_c aw d b)
  u_reg d b
  u_op d b
  u_op d b
  u_op d b
  u_skip d b
  u_skip d b
  u_op d b
  u_c aF d b
  repeat (u_c aw d b)
  u_cond f d b
  u_c stepG_ret' d b
  refine Goes.stop (λr j=>?_);clear j;refine⟨a,_,λg=>stepG_unwind_entry (v:=.tuple #[]) (evs:=#[mk .enable]) a H.f_enable (x_enable_n L) (x_enable_b L) (x_enable_x L) (x_enable_f L) (by simp[Extern.Race.none_]) wd wd,λg b=>⟨1,?_⟩⟩
  u_leave0 H.f_add d b
  grind[Goes.stop]
 have x:((e:Int)+1==1)=m:=M
 repeat (u_c aw d b)
 u_reg d b
 u_op d b
 u_op d b
 u_op d b
 u_op d b
 u_op d b
 u_op d b
 u_op d b
 u_op d b
 u_op d b
 u_op d b
 u_c aF d b
 repeat (u_c aw d b)
 u_cond m d b
 u_c stepG_skip d b
 repeat (u_c aw d b)
 u_reg d b
 u_op d b
 u_op d b
 u_c aF d b
 repeat (u_c aw d b)
 u_cond m d b
 u_c stepG_skip d b
 repeat (u_c aw d b)
 u_reg d b
 u_op d b
 u_op d b
 u_op d b
 u_skip d b
 u_skip d b
 u_op d b
 u_op d b
 u_skip d b
 u_skip d b
 u_skip d b
 u_skip d b
 u_op d b
 u_c aF d b
 repeat (u_c aw d b)
 u_cond m d b
 u_c stepG_skip d b
 repeat (u_c aw d b)
 u_reg d b
 u_op d b
 u_op d b
 u_op d b
 u_skip d b
 u_skip d b
 u_op d b
 u_c aF d b
 repeat (u_c aw d b)
 u_cond f d b
 u_c stepG_ret' d b
 refine Goes.stop (λr j=>.inr ?_);clear j;refine⟨a,_,λg=>stepG_unwind_entry (v:=.tuple #[]) (evs:=#[mk .enable]) a H.f_enable (x_enable_n L) (x_enable_b L) (x_enable_x L) (x_enable_f L) (by simp[Extern.Race.none_]) wd wd,λg b=>⟨1,?_⟩⟩
 u_leave0 H.f_add d b
 grind[Goes.stop]
end
section
open Go.Conc Go.RowKit Go.Conc.Lib Go.ConcR.Gen
open Go.ConcN (WgLive)
open Go.ConcR (KK WgAt stA smA rd wr mk DC0)
section
variable (P:aI)(de:au->au->Prop)(L:WgLink)(bo:Nat)(hs:ak)(x:ak->Prop)
def FI(b:ak)(_:au):Prop:=b.status=.running/\∃a,(∀d,aq P f b d=.go a d #[mk (.acquire (stA bo))])/\∀w1,WgLive L.tWg bo w1->∃e,Goes P f de DC0 (λb _=>b=hs) e a w1
def Ad(b:ak)(_:au):Prop:=b.status=.running/\∃a,(∀d,aq P f b d=.go a d #[mk .enable])/\∀w1,WgLive L.tWg bo w1->∃e,Goes P f de DC0 (FI P de L bo hs) e a w1
def FL(d:ak)(b:au):Prop:=d.status=.running/\(WgAt L.tWg bo b 0 0->∃a,aq P f d b=.go a b #[rd (stA bo)]/\∃e,Goes P f de DC0 (Ad P de L bo hs) e a b)
def FK(b:ak)(a:au):Prop:=b.status=.running/\b.offers=q/\((∃e,WgAt L.tWg bo a e 0)->aq P f b a=.go {b with status:=.blocked} a #[]) /\
 (WgAt L.tWg bo a 0 1->∃d,aq P f b a=.go d (a.setCell (smA bo) (.int .u32 0)) (semEvents (smA bo))/\∃g,Goes P f de DC0 (FL P de L bo hs) g d (a.setCell (smA bo) (.int .u32 0)))
def FM(d:ak)(_:au):Prop:=d.status=.running/\∃b a,a.block=bo/\(∀e,aq P f d e=.go b e #[mk (.write a)])/\∀w1,WgLive L.tWg bo w1->∃g,Goes P f de DC0 (FK P de L bo hs) g b w1
def FJ(B:Nat)(e:ak)(b:au):Prop:=e.status=.running/\∀d:Nat,d<2147483648->WgAt L.tWg bo b (d*KK) 0 ->
 (d=B->∃a,aq P f e b=.go a (b.setCell (stA bo) (.int .u64 (d*KK+1))) #[rd (stA bo),wr (stA bo)]/\∃g,Goes P f de DC0 (FM P de L bo hs) g a (b.setCell (stA bo) (.int .u64 (d*KK+1)))) /\
 (d≠B->∃a,aq P f e b=.go a b #[rd (stA bo)]/\∃g,Goes P f de DC0 (λe _=>x e) g a b)
def Rn(g:ak)(d:au):Prop:=g.status=.running/\∀b:Nat,b<2147483648->WgAt L.tWg bo d (b*KK) 0 ->
 ∃a,aq P f g d=.go a d #[rd (stA bo)]/\(b=0->∃e,Goes P f de DC0 (Ad P de L bo hs) e a d)/\(b≠0->∃e,Goes P f de DC0 (FJ P de L bo hs x b) e a d)
def Rm(b:ak)(_:au):Prop:=b.status=.running/\∃a,(∀d,aq P f b d=.go a d #[mk .disable])/\∀w1,WgLive L.tWg bo w1->∃e,Goes P f de DC0 (λb _=>x b) e a w1
end
def q2(L:WgLink)(b:Nat)(e:aK)(d:p aK)(g:ak):Prop:=
 ∃a:Array Z,g=G ((base L.wait).at ⟨a,[]⟩ [.code (L7 L),.inLoop (L7 L),.inBlock 0]) (e::d)/\a.size=84/\a[0]?=h (.pointer (h ⟨b,0,q⟩))
set_option maxRecDepth 100000 in
def aeu{L}(H:WgLib P L){de:au->au->Prop}{bo}(d:∀{e w1},WgLive L.tWg bo e->de e w1->WgLive L.tWg bo w1){s}(e)(b:WgLive L.tWg bo e):
  Goes P f de DC0 (Rm P de L bo (q2 L bo s ah)) 6 (G ((base L.wait).at ⟨#[.pointer (h ⟨bo,0,q⟩),K,K,K,K,K,K,K,K,K,K,K,K,K,K,K,K,K,K,K,K,K,K,K,K,K,K,K,K,K,K,K,K,K,K,K,K,K,K,K,K,K,K,K,K,K,K,K,K,K,K,K,K,K,K,K,K,K,K,K,K,K,K,K,K,K,K,K,K,K,K,K,K,K,K,K,K,K,K,K,K,K,K,K],[]⟩ [.code (body_wait L)]) (s::ah)) e:=by
 lib_facts
 unfold q2;simp only[L7,body_wait,waitFn,im]
 repeat (u_c aw d b)
 u_cond f d b
 repeat (u_c aw d b)
 u_reg d b
 refine Goes.stop (λi g=>?_);clear g;refine⟨a,_,λe=>stepG_mark0 .disable E a a (by k_ne) a H.f_disable (x_disable_n L) (x_disable_b L) (x_disable_x L) (x_disable_f L),λe b=>⟨6,?_⟩⟩
 walk_nrm
 u_c aF d b
 repeat (u_c aw d b)
 u_c stepG_block d b
 u_c stepG_loop d b
 exact Goes.stop λ_ _=>⟨_,a,a,a⟩
end
section
open Go.Conc Go.RowKit Go.Conc.Lib Go.ConcR.Gen
open Go.ConcN (WgLive)
open Go.ConcN.Gen
open Go.ConcR (KK WgAt stA smA rd wr mk DC0)
set_option maxRecDepth 100000 in
def aet{L:WgLink}(H:WgLib P L){de:au->au->Prop}{bo:Nat}(e:∀{i w1},WgLive L.tWg bo i->de i w1->WgLive L.tWg bo w1){hF:aK}{hE:Act}{f':Array ap}{hJ:Nat}{hP:p Nat}{hL:p Item}(v:ak)(a5:q2 L bo (hF.at hE (.inRegion f' (hJ::hP)::hL)) ah v)(i:au)(b:WgLive L.tWg bo i):
  ∃ba,Goes P f de DC0 (Rn P de L bo (G (hF.at (hE.put ((f'[hJ]?).bind (·.dst)) (.tuple #[])) (.inRegion f' hP::hL)) ah) (q2 L bo (hF.at hE (.inRegion f' (hJ::hP)::hL)) ah)) ba v i:=by
 lib_facts
 obtain⟨a4,rfl,bb,D⟩:=a5;obtain⟨bl,bm,bn,bp,bq,br,bs,bt,bu,bw,F,I,J,bO,K,O,bB,Q,R,S,T,bP,U,V,bA,W,X,bK,Y,Z,aa,ab,bN,ae,bI,bD,ag,ai,aj,aM,bF,bG,an,ao,aq,bE,bx,ar,av,ax,az,aA,aB,aC,N,aE,aG,aH,bL,aI,bJ,aJ,aL,aN,aO,bQ,bz,bC,aP,aQ,aR,aS,aT,aU,aV,aW,aX,aZ,z,a0,a1,a2,a3,bH,rfl⟩:=array84 a4 bb;simp only[j4,m4,eR]at D;subst D;refine⟨30,?_⟩;unfold q2;simp only[L7,body_wait,waitFn,im]
 u_c stepG_block e b
 repeat (u_c aw e b)
 u_reg e b
 u_op e b
 u_op e b
 u_op e b
 u_call H.f_uLoad (nm_uLoad L) uLoadFn e b
 repeat (u_c aw e b)
 u_reg e b
 u_op e b
 u_c aF e b
 repeat (u_c aw e b)
 u_reg e b
 u_op e b
 u_op e b
 u_op e b
 refine Goes.stop (λbc B=>?_);replace b:=e b B;clear B;refine⟨a,λn a' g=>?_⟩;rcases nZ n with rfl|x
 .replace g:WgAt L.tWg bo bc 0 0:=M;refine⟨_,stepG_load_atomic (v:=0) a a (by k_ne) a H.f_loadU64 (x_loadU64_n L) (x_loadU64_b L) (x_loadU64_x L) .u64 (x_loadU64_f L) a g.cellSt,λ_=>⟨80,?_⟩,λa_=>absurd a a_⟩;clear g
  walk_nrm
  u_op e b
  u_c aF e b
  u_c stepG_ret' e b
  u_leave1 H.f_uLoad e b
  u_op e b
  u_c aF e b
  repeat (u_c aw e b)
  u_reg e b
  u_op e b
  u_op e b
  u_op e b
  u_op e b
  u_c aF e b
  repeat (u_c aw e b)
  u_reg e b
  u_op e b
  u_op e b
  u_op e b
  u_op e b
  u_c aF e b
  repeat (u_c aw e b)
  u_reg e b
  u_op e b
  u_op e b
  u_c aF e b
  repeat (u_c aw e b)
  u_cond f e b
  repeat (u_c aw e b)
  u_cond f e b
  repeat (u_c aw e b)
  u_reg e b
  refine Goes.stop (λo l=>?_);clear l;refine⟨a,_,λi=>stepG_mark0 .enable E a a (by k_ne) a H.f_enable (x_enable_n L) (x_enable_b L) (x_enable_x L) (x_enable_f L),λi b=>⟨20,?_⟩⟩
  walk_nrm
  u_c aF e b
  repeat (u_c aw e b)
  u_reg e b
  u_op e b
  u_conv H.underlying_tWgP H.room_tWg (Go.ConcN.Gen.WgLive.cell0 b).choose_spec e b
  refine Goes.stop (λo l=>?_);clear l;refine⟨a,_,λi=>stepG_markAt .acquire E a a (by k_ne) a H.f_acquire (x_acquire_n L) (x_acquire_b L) (x_acquire_x L) (x_acquire_f L) EE,λi b=>⟨40,?_⟩⟩
  walk_nrm
  u_c aF e b
  repeat (u_c aw e b)
  u_reg e b
  u_op e b
  u_op e b
  u_op e b
  u_op e b
  u_op e b
  u_op e b
  u_op e b
  u_op e b
  u_skip e b
  u_skip e b
  u_op e b
  u_c aF e b
  repeat (u_c aw e b)
  u_cond m e b
  u_c stepG_skip e b
  u_c stepG_ret' e b
  u_leave0 H.f_wait e b
  grind[Goes.stop]
 obtain⟨j,d⟩:∃j:Int,(n:Int)*KK=j:=⟨_,rfl⟩;have a6:j / 4294967296=(n:Int):=ND
 have a7:bits .and .u64 j 2147483648=0:=by rw[<-d];have:=Go.ConcN.st_flag n 0 y y;simpa[KK]using this
 have a8:bits .and .u64 j 2147483647=0:=by rw[<-d];have:=Go.ConcN.st_waiters n 0 y y;simpa[KK]using this
 have a9:IntKind.i32.wrap (n:Int)=(n:Int):=by grind[IntKind.wrap_i32]
 have w1:IntKind.u64.wrap (j+1)=j+1:=by rw[IntKind.wrap_u64,<-d];simp only[KK];omega
 have bf:decide ((n:Int)<0)=m:=lB y;have bg:decide (0<(n:Int))=f:=fk y;have bh:((n:Int)==0)=m:=M;have bj:decide ((n:Int)=0)=m:=lB y;rw[d]at g;refine⟨_,stepG_load_atomic (v:=j) a a (by k_ne) a H.f_loadU64 (x_loadU64_n L) (x_loadU64_b L) (x_loadU64_x L) .u64 (x_loadU64_f L) a g.cellSt,λs=>absurd s y,λ_=>⟨80,?_⟩⟩;clear g
 walk_nrm
 u_op e b
 u_c aF e b
 u_c stepG_ret' e b
 u_leave1 H.f_uLoad e b
 u_op e b
 u_c aF e b
 repeat (u_c aw e b)
 u_reg e b
 u_op e b
 u_op e b
 u_op e b
 u_op e b
 u_c aF e b
 repeat (u_c aw e b)
 u_reg e b
 u_op e b
 u_op e b
 u_op e b
 u_op e b
 u_c aF e b
 repeat (u_c aw e b)
 u_reg e b
 u_op e b
 u_op e b
 u_c aF e b
 repeat (u_c aw e b)
 u_cnd m e b
 u_c stepG_skip e b
 repeat (u_c aw e b)
 u_reg e b
 u_op e b
 u_op e b
 u_op e b
 u_op e b
 u_op e b
 u_op e b
 u_call H.f_uCas (nm_uCas L) uCasFn e b
 repeat (u_c aw e b)
 u_reg e b
 u_op e b
 u_c aF e b
 repeat (u_c aw e b)
 u_reg e b
 u_op e b
 u_op e b
 u_op e b
 u_op e b
 u_op e b
 refine Goes.stop (λo l=>?_);replace b:=e b l;clear l;refine⟨a,λt w g=>⟨λu=>?_,λu=>?_⟩⟩
 .subst u;rw[d]at g⊢;refine⟨_,(stepG_cas_hit (v:=j) (n:=j+1) a a (by k_ne) a H.f_casU64 (x_casU64_n L) (x_casU64_b L) (x_casU64_x L) .u64 (x_casU64_f L) a a a g.cellSt (g.thaw 0)).trans oL,90,?_⟩;replace b:WgLive L.tWg bo (o.setCell (stA bo) (.int .u64 (j+1))):=⟨_,_,g.setSt _⟩
  clear g
  walk_nrm
  u_op e b
  u_c aF e b
  u_c stepG_ret' e b
  u_leave1 H.f_uCas e b
  u_c aF e b
  repeat (u_c aw e b)
  u_cond f e b
  repeat (u_c aw e b)
  u_reg e b
  u_op e b
  u_op e b
  u_op e b
  u_op e b
  u_c aF e b
  repeat (u_c aw e b)
  u_cond f e b
  repeat (u_c aw e b)
  u_reg e b
  u_op e b
  u_op e b
  u_op e b
  u_conv H.underlying_tPU32 H.room_tU32 (Go.ConcN.Gen.WgLive.cell1 b).choose_spec e b
  refine Goes.stop (λo l=>?_);clear l;refine⟨a,_,⟨bo,1,q⟩,a,λi=>stepG_markAt .write E a a (by k_ne) a H.f_raceWrite (x_raceWrite_n L) (x_raceWrite_b L) (x_raceWrite_x L) (x_raceWrite_f L) (ad:=⟨bo,1,q⟩) (by simp[Act.eval]),λi b=>⟨60,?_⟩⟩
  walk_nrm
  u_c aF e b
  repeat (u_c aw e b)
  u_reg e b
  u_op e b
  u_c aF e b
  repeat (u_c aw e b)
  u_reg e b
  u_op e b
  u_op e b
  u_op e b
  u_op e b
  u_skip e b
  u_op e b
  u_c aF e b
  repeat (u_c aw e b)
  u_cond m e b
  u_c stepG_skip e b
  repeat (u_c aw e b)
  u_reg e b
  u_op e b
  u_op e b
  u_op e b
  u_op e b
  refine Goes.stop (λbd C=>?_);replace b:=e b C;clear C;refine⟨a,a,λ⟨bk,g⟩=>stepG_semacquire_wait a a a H.f_semacquire (x_semacquire_n L) (x_semacquire_b L) (x_semacquire_x L) (x_semacquire_f L) (by simp[Act.eval,smA]) g.cellSm,λr=>?_⟩;refine⟨_,(stepG_semacquire (n:=1) a a (by k_ne) a H.f_semacquire (x_semacquire_n L) (x_semacquire_b L) (x_semacquire_x L) (x_semacquire_f L) (by simp[Act.eval,smA]) r.cellSm (by k_ne) (r.thaw 1)).trans oL,40,?_⟩;replace b:WgLive L.tWg bo (bd.setCell (smA bo) (.int .u32 0)):=⟨_,_,r.setSm 0⟩
  clear r
  walk_nrm
  u_c aF e b
  repeat (u_c aw e b)
  u_reg e b
  u_op e b
  u_op e b
  u_op e b
  u_call H.f_uLoad (nm_uLoad L) uLoadFn e b
  repeat (u_c aw e b)
  u_reg e b
  u_op e b
  u_c aF e b
  repeat (u_c aw e b)
  u_reg e b
  u_op e b
  u_op e b
  u_op e b
  refine Goes.stop (λbM A=>?_);replace b:=e b A;clear A;refine⟨a,λg=>⟨_,stepG_load_atomic (v:=0) a a (by k_ne) a H.f_loadU64 (x_loadU64_n L) (x_loadU64_b L) (x_loadU64_x L) .u64 (x_loadU64_f L) a g.cellSt,40,?_⟩⟩;clear g
  walk_nrm
  u_op e b
  u_c aF e b
  u_c stepG_ret' e b
  u_leave1 H.f_uLoad e b
  u_op e b
  u_op e b
  u_c aF e b
  repeat (u_c aw e b)
  u_cond f e b
  repeat (u_c aw e b)
  u_reg e b
  refine Goes.stop (λo l=>?_);clear l;refine⟨a,_,λi=>stepG_mark0 .enable E a a (by k_ne) a H.f_enable (x_enable_n L) (x_enable_b L) (x_enable_x L) (x_enable_f L),λi b=>⟨20,?_⟩⟩
  walk_nrm
  u_c aF e b
  repeat (u_c aw e b)
  u_reg e b
  u_op e b
  u_conv H.underlying_tWgP H.room_tWg (Go.ConcN.Gen.WgLive.cell0 b).choose_spec e b
  refine Goes.stop (λo l=>?_);clear l;refine⟨a,_,λi=>stepG_markAt .acquire E a a (by k_ne) a H.f_acquire (x_acquire_n L) (x_acquire_b L) (x_acquire_x L) (x_acquire_f L) EE,λi b=>⟨40,?_⟩⟩
  walk_nrm
  u_c aF e b
  repeat (u_c aw e b)
  u_reg e b
  u_op e b
  u_c aF e b
  repeat (u_c aw e b)
  u_cond m e b
  u_c stepG_skip e b
  u_c stepG_ret' e b
  u_leave0 H.f_wait e b
  grind[Goes.stop]
 refine⟨_,stepG_cas_miss (v:=(t:Int)*KK) (old:=j) (n:=j+1) a a (by k_ne) a H.f_casU64 (x_casU64_n L) (x_casU64_b L) (x_casU64_x L) .u64 (x_casU64_f L) a a a g.cellSt (g.thaw 0) ND,30,?_⟩;clear g
 walk_nrm
 u_op e b
 u_c aF e b
 u_c stepG_ret' e b
 u_leave1 H.f_uCas e b
 u_c aF e b
 repeat (u_c aw e b)
 u_cond m e b
 u_c stepG_skip e b
 u_c stepG_inBlock e b
 u_c stepG_inLoop e b
 exact Goes.stop λ_ _=>⟨_,a,by simp,by simp⟩
end
section
open Go.Conc Go.Conc.Lib
open Go.ConcN (WgLive)
open Go.ConcR (KK WgAt stA smA rd wr mk DC0 Payload)
def fx(b:av)(a:Nat)(d w1:au):Prop:=WgLive b a d->WgLive b a w1
def fx.refl{ty}{bo}(a):fx ty bo a a:=id
def fx.trans{ty}{bo}{a j s}(b:fx ty bo a j)(d:fx ty bo j s):fx ty bo a s:=λe=>d (b e)
def nL(b:au->au->Prop)(a:ak->au->Prop)(d:ak)(e:au):Prop:=∀w1,b e w1->a d w1
def Goes.gI{P}{eN}{e:au->au->Prop}{z:au->au->Array aU->Prop}{a:ak->au->Prop}(aQ:∀l n o,e l n->e n o->e l o):
  ∀{k:Nat} {g:ak} {j:au},Goes P eN e z a k g j->Goes P eN e z (nL e a) k g j
 |0,g,j,d=>λw1 i w2 b=>d w2 (aQ _ _ _ i b)
 |k+1,g,j,d=>by
  rcases d with d|⟨r,d⟩
  .exact .inl λw1 i w2 b=>d w2 (aQ _ _ _ i b)
  refine .inr ⟨r,λw1 i=>?_⟩;have b:=d w1 i;cases p:aq P eN g w1 with
  |go t u s=>
   rw[p,goes_go]at b;rw[goes_go];exact⟨b.1,Goes.gI aQ b.2⟩
  |_=>rw[p]at b;exact b.elim
structure kT(bo:Nat)(ea:a5->Prop):Prop where
 rely:∀b az,ea b->cU b az->ea az
 heap:∀b,ea b->∃n,bb n b
 iW:∀b,ea b->¬b.own bo/\(∀L∈b.m,bo∉L.al)/\∀t,b.u bo t=q
section
variable {P:aI}{L:WgLink}{bo:Nat}{ea:a5->Prop}
def ii(b:av)(a:Nat)(e:a5->Prop)(d:a5):Prop:=e d/\WgLive b a d.a
def kT.hy(O:kT bo ea){b}(a:ea b):gi b:=(O.heap b a).choose_spec.mem
def kT.set(O:kT bo ea){b}(j:ea b)(e)(p:e.block=bo)(aa):cU b {b with a:=b.a.setCell e aa}:=by
 obtain⟨r,s,t⟩:=O.iW b j;have g:∀d,d≠bo->(b.a.setCell e aa).heap[d]?=b.a.heap[d]?:=λd i=>by have:=(aside_setCell b.a e aa).block d M;omega
 refine⟨a,a,a,Nat.le_of_eq (aside_setCell b.a e aa).size.symm,λd i=>g d M,λd k o n=>?_,(aside_setCell b.a e aa).os,(aside_setCell b.a e aa).tape,(aside_setCell b.a e aa).output⟩;have l:d≠bo:=M;show(b.a.setCell e aa).cell? _=_;rw[m' (g d l) k];exact O.hy j d k o n
def kT.next(O:kT bo ea){ty}{b e}(a:ii ty bo ea b)(a':(ai.aG P ty bo).rely b e):ii ty bo ea e:=⟨O.rely b e a.1 a'.1,a'.2 a.2⟩
def kT.jb(O:kT bo ea){ty}{b}(a:ii ty bo ea b):(ai.aG P ty bo).rely b b:=⟨cU.en (O.hy a.1),id⟩
def kT.goes(O:kT bo ea){ty}{g:ak->a5->Prop}{Stop:ak->au->Prop}(o:∀C b,ii ty bo ea b->nL (fx ty bo) Stop C b.a->dr (ai.aG P ty bo) (dS bo) g C b){k}{C}{b}(i:ii ty bo ea b)(l:Goes P f (fx ty bo) DC0 Stop k C b.a):dr (ai.aG P ty bo) (dS bo) g C b:=by refine dr.goes (r:=ai.aG P ty bo) (de:=fx ty bo) (z:=DC0) (Stop:=nL (fx ty bo) Stop) (ii ty bo ea) (λb n d e=>O.next d e) (λb n _ e=>e.2) ?_ (λb d=>O.jb d) o k C b i (Goes.gI (λ_ _ _ p s=>p.trans s) l);rintro b j d t ⟨rfl,rfl⟩;exact⟨a,.inl (.aZ (O.heap b d.1).choose_spec)⟩
end
set_option maxRecDepth 100000 in
def S_{P}{L}(H:WgLib P L){bo}:Frame.enter P L.add #[.pointer (h ⟨bo,0,q⟩),.int .i64 1] .normal=(base L.add).at ⟨#[.pointer (h ⟨bo,0,q⟩),.int .i64 1,K,K,K,K,K,K,K,K,K,K,K,K,K,K,K,K,K,K,K,K,K,K,K,K,K,K,K,K,K,K,K,K,K,K,K,K,K,K,K,K,K,K,K,K,K,K,K,K,K,K,K,K,K,K,K,K,K,K,K,K,K,K,K,K,K,K,K,K,K,K,K,K,K,K,K,K,K,K,K,K,K,K,K,K,K,K,K,K,K,K,K,K,K,K,K,K,K,K,K,K,K,K,K,K,K,K,K,K,K,K,K,K,K,K,K],[]⟩ [.code (Go.ConcR.Gen.body_add L)]:=
 (enter_at (c:=Go.ConcR.Gen.body_add L) _ H.f_add b0).trans b0
set_option maxRecDepth 100000 in
def S'{P}{L}(H:WgLib P L){bo}:Frame.enter P L.wait #[.pointer (h ⟨bo,0,q⟩)] .normal=(base L.wait).at ⟨#[.pointer (h ⟨bo,0,q⟩),K,K,K,K,K,K,K,K,K,K,K,K,K,K,K,K,K,K,K,K,K,K,K,K,K,K,K,K,K,K,K,K,K,K,K,K,K,K,K,K,K,K,K,K,K,K,K,K,K,K,K,K,K,K,K,K,K,K,K,K,K,K,K,K,K,K,K,K,K,K,K,K,K,K,K,K,K,K,K,K,K,K,K],[]⟩ [.code (Go.ConcR.Gen.body_wait L)]:=
 (enter_at (c:=Go.ConcR.Gen.body_wait L) _ H.f_wait b0).trans b0
section
variable [Payload]{P:aI}{L:WgLink}{J:hA}{ea:a5->Prop}{D k:Nat}{val:Nat->Nat->Z}
def RG(H:WgLib P L)(O:kT J.f ea){w}{Next:ak->a5->Prop}{hF:aK}{hE}{f'}{hJ}{hP}{hL}{ah}(E:∀b,ii L.tWg J.f ea b->dr (ai.aG P L.tWg J.f) (dS J.f) (wA P L.tWg J D val w Next) (G (hF.at (hE.put ((f'[hJ]?).bind (·.dst)) (.tuple #[])) (.inRegion f' hP::hL)) ah) b){b}(g:ii L.tWg J.f ea b):
  dr (ai.aG P L.tWg J.f) (dS J.f) (z5 P L.tWg J D val w Next) (G (Frame.enter P L.add #[.pointer (h ⟨J.f,0,q⟩),.int .i64 1] .normal) (hF.at hE (.inRegion f' (hJ::hP)::hL)::ah)) b:=by
 have C:∀i b,ii L.tWg J.f ea b->Ac P (fx L.tWg J.f) L J.f (G (hF.at (hE.put ((f'[hJ]?).bind (·.dst)) (.tuple #[])) (.inRegion f' hP::hL)) ah) i b.a->dr (ai.aG P L.tWg J.f) (dS J.f) (z6 P L.tWg J D val w Next) i b:=by rintro i b g ⟨n,d,p,r⟩;refine⟨.leaf,n,d,p,λk l=>?_⟩;have j:=O.next g l;obtain⟨v,o⟩:=r k.a j.2;exact O.goes (λi b g e=>by obtain rfl:=e b.a (.refl _);grind) j o
 have z:∀i b,ii L.tWg J.f ea b->nL (fx L.tWg J.f) (FH P (fx L.tWg J.f) L J.f (G (hF.at (hE.put ((f'[hJ]?).bind (·.dst)) (.tuple #[])) (.inRegion f' hP::hL)) ah)) i b.a->dr (ai.aG P L.tWg J.f) (dS J.f) (z2 P L.tWg J D val w Next) i b:=by
  rintro i b g e;refine⟨.leaf,(e b.a (.refl _)).1,λk l x y s=>?_⟩;have j:=O.next g l;obtain⟨d,n,v,o⟩:=(e k.a l.2).2 x y s;have A:ii L.tWg J.f ea {k with a:=k.a.setCell (stA J.f) (.int .u64 ((x+1)*KK))}:=⟨O.rely _ _ j.1 (O.set j.1 _ rfl _),⟨_,_,s.setSt _⟩⟩;refine⟨d,n,O.goes (λi b g e=>?_) A o⟩
  rcases e b.a (.refl _)with e|e
  .obtain⟨n,d,t,p,r,u⟩:=e;refine .step n λk l=>⟨d,k,_,r k.a,.inr ⟨a,t,p,.inl a⟩,?_⟩
   have j:=O.next g l;obtain⟨v,o⟩:=u k.a j.2;exact O.goes (λi b g e=>C i b g (e b.a (.refl _))) j o
  grind
 have s:=RH (P:=P) (L:=L) H (de:=fx L.tWg J.f) (bo:=J.f) (λe B=>B e) (hF:=hF) (hE:=hE) (f':=f') (hJ:=hJ) (hP:=hP) (hL:=hL) (ah:=ah) b.a g.2;rw[S_ H];refine O.goes (λi b g e=>?_) g s;obtain⟨n,d,p,r⟩:=e b.a (.refl _);refine⟨.leaf,n,d,p,λk l=>?_⟩;have j:=O.next g l;obtain⟨v,o⟩:=r k.a j.2;exact O.goes z j o
section
variable (P L J ea)
def fi(b a:ak)(d:a5):Prop:=ii L.tWg J.f ea d/\∃e,Goes P f (fx L.tWg J.f) DC0 (λa _=>a=b) e a d.a
def wz(e:aK)(a:p aK)(b:ak)(d:a5):Prop:=ii L.tWg J.f ea d/\∃g,Goes P f (fx L.tWg J.f) DC0 (λb _=>q2 L J.f e a b) g b d.a
end
variable {hF:aK}{hE:Act}{f':Array ap}{hJ:Nat}{hP:p Nat}{hL:p Item}{ah:p aK}
omit [Payload]in
def RO(H:WgLib P L)(O:kT J.f ea){s x:ak->a5->Prop}(E:∀C b,fi P L J ea (G (hF.at (hE.put ((f'[hJ]?).bind (·.dst)) (.tuple #[])) (.inRegion f' hP::hL)) ah) C b->s C b)(N:∀C b,wz P L J ea (hF.at hE (.inRegion f' (hJ::hP)::hL)) ah C b->x C b){C}{b}(g:wz P L J ea (hF.at hE (.inRegion f' (hJ::hP)::hL)) ah C b):
  dr (ai.aG P L.tWg J.f) (dS J.f) (q3 P L.tWg J s x) C b:=by
 generalize v:hF.at hE (.inRegion f' (hJ::hP)::hL)=T at *;generalize aM:G (hF.at (hE.put ((f'[hJ]?).bind (·.dst)) (.tuple #[])) (.inRegion f' hP::hL)) ah=n at E;have K:∀C b,ii L.tWg J.f ea b->nL (fx L.tWg J.f) (FI P (fx L.tWg J.f) L J.f n) C b.a->dr (ai.aG P L.tWg J.f) (dS J.f) (z3 P L.tWg J s) C b:=by intro C b i g;obtain⟨l,d,t,u⟩:=g b.a (.refl _);exact⟨.leaf,l,d,t,λj e=>E _ _ ⟨O.next i e,u j.a (O.next i e).2⟩⟩
 have F:∀C b,ii L.tWg J.f ea b->nL (fx L.tWg J.f) (Ad P (fx L.tWg J.f) L J.f n) C b.a->dr (ai.aG P L.tWg J.f) (dS J.f) (wB P L.tWg J s) C b:=by intro C b i g;obtain⟨l,d,t,u⟩:=g b.a (.refl _);refine⟨.leaf,l,d,t,λj e=>?_⟩;obtain⟨p,k⟩:=u j.a (O.next i e).2;exact O.goes K (O.next i e) k
 have Q:∀C b,ii L.tWg J.f ea b->nL (fx L.tWg J.f) (FL P (fx L.tWg J.f) L J.f n) C b.a->dr (ai.aG P L.tWg J.f) (dS J.f) (z8 P L.tWg J s) C b:=by intro C b i g;refine⟨.leaf,(g b.a (.refl _)).1,λj e o=>?_⟩;obtain⟨d,l,p,k⟩:=(g j.a e.2).2 o;exact⟨d,l,O.goes F (O.next i e) k⟩
 have M:∀C b,ii L.tWg J.f ea b->nL (fx L.tWg J.f) (FK P (fx L.tWg J.f) L J.f n) C b.a->dr (ai.aG P L.tWg J.f) (dS J.f) (oN P L.tWg J s) C b:=by intro C b i g;refine⟨.leaf,(g b.a (.refl _)).1,(g b.a (.refl _)).2.1,λj e=>⟨(g j.a e.2).2.2.1,λo=>?_⟩⟩;obtain⟨d,l,p,k⟩:=(g j.a e.2).2.2.2 o;exact⟨d,l,O.goes Q (b:={j with a:=j.a.setCell (smA J.f) (.int .u32 0)}) ⟨O.rely _ _ (O.next i e).1 (O.set (O.next i e).1 _ rfl _),⟨_,_,o.setSm 0⟩⟩ k⟩
 have S:∀C b,ii L.tWg J.f ea b->nL (fx L.tWg J.f) (FM P (fx L.tWg J.f) L J.f n) C b.a->dr (ai.aG P L.tWg J.f) (dS J.f) (oN P L.tWg J s) C b:=by
  intro C b i g;obtain⟨l,d,y,t,u,D⟩:=g b.a (.refl _);refine .step l λj e=>⟨d,j,_,u j.a,.inr ⟨a,y,t,.inr a⟩,?_⟩
  obtain⟨p,k⟩:=D j.a (O.next i e).2;exact O.goes M (O.next i e) k
 have R:∀r C b,ii L.tWg J.f ea b->nL (fx L.tWg J.f) (FJ P (fx L.tWg J.f) L J.f n (q2 L J.f T ah) r) C b.a->dr (ai.aG P L.tWg J.f) (dS J.f) (z7 P L.tWg J s x r) C b:=by
  intro B C b i g;refine⟨.leaf,(g b.a (.refl _)).1,λj e r w o=>⟨λz=>?_,λz=>?_⟩⟩
  .obtain⟨d,l,p,k⟩:=((g j.a e.2).2 r w o).1 z;exact⟨d,l,O.goes S (b:={j with a:=j.a.setCell (stA J.f) (.int .u64 (r*KK+1))}) ⟨O.rely _ _ (O.next i e).1 (O.set (O.next i e).1 _ rfl _),⟨_,_,o.setSt _⟩⟩ k⟩
  obtain⟨d,l,p,k⟩:=((g j.a e.2).2 r w o).2 z;exact⟨d,l,N _ _ ⟨O.next i e,p,k⟩⟩
 obtain⟨i,p,k⟩:=g;refine O.goes (λC b i g=>?_) i k;obtain⟨p,o⟩:=aet (P:=P) (L:=L) H (de:=fx L.tWg J.f) (bo:=J.f) (λg U=>U g) (hF:=hF) (hE:=hE) (f':=f') (hJ:=hJ) (hP:=hP) (hL:=hL) (ah:=ah) C (by rw[v];exact g b.a (.refl _)) b.a i.2;rw[v,aM]at o;refine O.goes (λC b i g=>?_) i o;refine⟨.leaf,(g b.a (.refl _)).1,λj e r w o=>?_⟩;obtain⟨d,l,t,u⟩:=(g j.a e.2).2 r w o;refine⟨d,l,λA=>?_,λI=>?_⟩
 .obtain⟨p,k⟩:=t A;exact O.goes F (O.next i e) k
 obtain⟨p,k⟩:=u I;exact O.goes (R r) (O.next i e) k
omit [Payload]in
def aes(H:WgLib P L)(O:kT J.f ea){s}{i:ak->a5->Prop}(N:∀d b,wz P L J ea s ah d b->i d b){b}(a:ii L.tWg J.f ea b):
  dr (ai.aG P L.tWg J.f) (dS J.f) (z4 P L.tWg J i) (G (Frame.enter P L.wait #[.pointer (h ⟨J.f,0,q⟩)] .normal) (s::ah)) b:=by have p:=aeu (P:=P) (L:=L) H (de:=fx L.tWg J.f) (bo:=J.f) (λg o=>o g) (s:=s) (ah:=ah) b.a a.2;rw[S' H];refine O.goes (λd b a g=>?_) a p;obtain⟨l,e,n,r⟩:=g b.a (.refl _);exact⟨.leaf,l,e,n,λk j=>N _ _ ⟨O.next a j,r k.a (O.next a j).2⟩⟩
end
end
section
open Go.Conc Go.RowKit Go.Conc.Lib Go.ConcR.Gen
open Go.ConcN (WgLive Has RW DWs AtR0 EvW)
open Go.ConcN.Gen
open Go.ConcR (KK WgAt stA smA rd wr mk DC0 Payload)
section
variable {de:au->au->Prop}{z:au->au->Array aU->Prop}{Stop O:ak->au->Prop}
def Goes.hz(l:∀a,de a a)(v:∀b a,Stop b a->∃i t,aq P m b a=.go i a #[t])(s:∀g b a,O b a->¬Goes P m de z Stop g b a):
  ∀p g b a,Goes P m de DC0 O p b a->¬Goes P m de z Stop g b a
 |0,g,b,a,k,j=>s g b a (k a (l a)) j
 |p+1,g,b,a,k,j=>by
  rcases k with k|⟨_,k⟩
  .grind
  have e:=k a (l a);cases n:aq P m b a with
  |go i d u=>
   rw[n,goes_go]at e;obtain⟨⟨rfl,rfl⟩,o⟩:=e;have r:¬Stop b d:=λw=>by grind
   cases g with
   |zero=>exact r (j d (l d))
   |succ g=>
    rcases j with j|⟨_,j⟩
    .grind
    have k1:=j d (l d);rw[n,goes_go]at k1;exact Goes.hz l v s p g i d o k1.2
  |_=>rw[n]at e;exact e.elim
def Goes.hx(r:∀b,de b b)(y:∀d b,Stop d b->∃k w,aq P m d b=.go k b #[w])(s:∀e d b,O d b->Goes P m de z Stop e d b->∀w1,de b w1->Stop d w1):
  ∀o e d b,Goes P m de DC0 O o d b->Goes P m de z Stop e d b->Goes P m de DC0 Stop o d b
 |0,e,d,b,l,j=>s e d b (l b (r b)) j
 |o+1,e,d,b,l,j=>by
  rcases l with l|⟨v,l⟩
  .exact .inl (s e d b (l b (r b)) j)
  refine .inr ⟨v,λw1 n=>?_⟩;have g:=l w1 n;cases p:aq P m d w1 with
  |go k i x=>
   rw[p,goes_go]at g;rw[goes_go];obtain⟨⟨rfl,rfl⟩,t⟩:=g;have u:¬Stop d i:=λv=>by grind
   refine⟨⟨a,a⟩,?_⟩;cases e with
   |zero=>exact absurd (j i n) u
   |succ e=>
    rcases j with j|⟨_,j⟩
    .grind
    have k1:=j i n;rw[p,goes_go]at k1;exact Goes.hx r y s o e k i t k1.2
  |_=>rw[p]at g;exact g.elim
end
variable [Payload]{L:WgLink}{bo N m0 l:Nat}{val:Z}{s:aK}
def Rv(P:aI)(d:ak)(_:au):Prop:=∃b,∀a,aq P m d a=.go b a #[mk .disable]
def Rw(P:aI)(L:WgLink)(a g n e i:Nat)(d:Z)(k:ak)(b:au):Prop:=
 (WgLive L.tWg a b/\Has g (i-1) d b)/\∃j,(∀b,aq P m k b=.go j b #[mk (.releaseMerge (stA a))])/\∀b,WgLive L.tWg a b/\Has g (i-1) d b->∃l,Goes P m (RW L.tWg a g n e (i-1)) DC0 (Rv P) l j b
set_option maxRecDepth 100000 in
def SS(H:WgLib P L)(d)(b:WgLive L.tWg bo d/\Has N (l-1) val d):
  Goes P m (RW L.tWg bo N k m0 (l-1)) DC0 (Rw P L bo N k m0 l val) 23 (G ((baseD L.done).at ⟨#[.pointer (h ⟨bo,0,q⟩),K,K,K],[]⟩ [.code (body_done L)]) (s::ah)) d:=by
 lib_facts
 simp only[body_done,body_add,doneFn,addFn,im]
 u_reg kn_rely b
 u_op kn_rely b
 u_in kn_rely b
 refine goes_call a a (by k_ne) a H.f_add (nm_add L) a ⟨by u_nil,?_⟩
 walk_nrmf addFn
 repeat (u_c aw kn_rely b)
 u_cond f kn_rely b
 repeat (u_c aw kn_rely b)
 u_reg kn_rely b
 u_op kn_rely b
 u_op kn_rely b
 u_c aF kn_rely b
 repeat (u_c aw kn_rely b)
 u_cond f kn_rely b
 u_reg kn_rely b
 u_op kn_rely b
 u_conv H.underlying_tWgP H.room_tWg (Go.ConcN.Gen.WgLive.cell0 b.1).choose_spec kn_rely b
 refine Goes.stop (λg e=>?_);replace b:=kn_rely b e;clear e;refine⟨b,_,λd=>stepG_markAt .releaseMerge E a a (by k_ne) a H.f_relMerge (x_relMerge_n L) (x_relMerge_b L) (x_relMerge_x L) (x_relMerge_f L) EE,λd b=>⟨10,?_⟩⟩
 walk_nrm
 u_c aF kn_rely b
 repeat (u_c aw kn_rely b)
 u_reg kn_rely b
 exact Goes.stop λg e=>⟨_,λd=>stepG_mark0 .disable E a a (by k_ne) a H.f_disable (x_disable_n L) (x_disable_b L) (x_disable_x L) (x_disable_f L)⟩
def SR(H:WgLib P L){o}(x:s.mode=.returning)(aQ:QuitsD P o 0 (G s ah))(b)(p:WgLive L.tWg bo b/\Has N (l-1) val b):
  Goes P m (RW L.tWg bo N k m0 (l-1)) DC0 (AtR0 P L.tWg bo N k m0 l val) 23 (G ((baseD L.done).at ⟨#[.pointer (h ⟨bo,0,q⟩),K,K,K],[]⟩ [.code (body_done L)]) (s::ah)) b:=by
 have I:=doneN (Own:=λ_ _=>False) (Rd:=λ_ _=>False) (Low:=m0) (n:=k) H x aQ b p;have u:∀i b,AtR0 P L.tWg bo N k m0 l val i b->∃j y,aq P m i b=.go j b #[y]:=λi b g=>by obtain⟨_,_,j,B,_⟩:=g;grind
 have R:(mk (.releaseMerge (stA bo)):aU)≠mk .disable:=wd;refine Goes.hx (λb=>.refl b) u ?_ _ _ _ _ (SS H b p) I;intro r i b g d w1 n;obtain⟨p,A,B,z⟩:=g;have w:AtR0 P L.tWg bo N k m0 l val i w1∨∃v,Goes P m (RW L.tWg bo N k m0 (l-1)) (DWs bo (λ_ _=>False) (λ_ _=>False) N k l) (AtR0 P L.tWg bo N k m0 l val) v A w1:=by
  cases r with
  |zero=>exact .inl (d w1 n)
  |succ r=>
   rcases d with d|⟨_,d⟩
   .grind
   grind[goes_go]
 rcases w with g|⟨v,g⟩
 .exact g
 exfalso;obtain⟨Q,F⟩:=z w1 (kn_rely p n);refine Goes.hz (λb=>.refl b) u ?_ _ _ _ _ F g;rintro t D w4 ⟨O,C⟩ d;have e:∀b,¬AtR0 P L.tWg bo N k m0 l val D b:=λb E=>by obtain⟨_,_,J,M,_⟩:=E;grind
 cases t with
 |zero=>exact e w4 (d w4 (.refl w4))
 |succ t=>
  rcases d with d|⟨_,d⟩
  .exact e w4 (d w4 (.refl w4))
  have k1:=d w4 (.refl w4);rw[C w4,goes_go]at k1;have:=(k1.1.2 _ (Array.mem_singleton.2 a)).2.1;exact this a
end
section
open Go.RowKit
open Go.Conc (G solo crowd AtRel Past EvL Leavers)
def a5.bA(b:au):a5:={m:=[],u:=λa d=>b.cell? ⟨a,d,q⟩,a:=b,own:=λa=>a<b.heap.size}
def bb.bA(d):bb [] (a5.bA d):=⟨λ_ _ _ b=>b,rfl,by simp,by simp[a5.bA],by simp[a5.bA],λe a=>⟨a,by simp[a5.bA]⟩⟩
def ace{n}{s}(e:mb P n s aa b)(l:P.inits.idxOf? n=q)(i)(r:∀a g j,b.u a g=h j->i.cell? ⟨a,g,q⟩=h j):∃d,aq P f (G s []) i=.ended (.done aa) i d/\∀k∈d,∃a g j,k=⟨.cell ⟨a,g,q⟩,m,m⟩/\b.u a g=h j:=by
 obtain⟨fn,t,o⟩:=e.fn;obtain⟨w,v⟩:=o i r;refine⟨seen P s.fn ((results fn s.tmps).events P i #[]),?_,λk u=>v k (Go.Conc.mem_seen u)⟩;have p:P.inits.idxOf? s.fn=q:=by rw[e.jg];exact l
 simp[G,aq,unwind,doReturn,e.mode,e.defers,e.kind,t,w,p,GStep.after]
abbrev uc:=Nat×av×Z
abbrev my(a:p uc):p an:=a.map λb=>.J (eb b.1 b.2.1 b.2.2)
def a5.cQ(a:p uc)(d:au):a5:={m:=a.map λe=>⟨.pointer (h ⟨e.1,0,q⟩),[e.1]⟩,u:=λb g=>if b∈a.map (·.1)then q else d.cell? ⟨b,g,q⟩,a:=d,own:=λb=>b<d.heap.size/\b∉a.map (·.1)}
def bb.cQ{gs}{u}(C:(gs.map (·.1)).Nodup)(y:∀d∈gs,u.heap[d.1]?=h (.cells #[d.2.2] d.2.1 (0,0))):bb (my gs) (a5.cQ gs u):=by
 have D:∀d∈gs,d.1<u.heap.size:=λd t=>(i_.1 (y d t)).1;have l:∀(e:Nat) L,(a5.cQ gs u).m[e]?=h L->∃d,gs[e]?=h d/\L=⟨.pointer (h ⟨d.1,0,q⟩),[d.1]⟩:=λe L n=>by simp[a5.cQ,m7,ra]at n;grind
 refine⟨λi z J s=>?_,by simp[a5.cQ],λe F L aE g=>?_,λe o L v j w i b k=>?_,λL n i b=>?_,λi b=>⟨b.1,λL n x=>?_⟩⟩
 .simp only[a5.cQ]at s;split at s
  .cases s
  exact s
 .obtain⟨d,j,rfl⟩:=l e L g;simp[my,m7,j,lC,eR]at aE;subst aE;have t:=b8 j;refine⟨λi=>if i=d.1 then h (.cells #[d.2.2] d.2.1 (0,0))else q,⟨a,bs a,λi b=>bm b⟩,λi z b=>?_,λi=>?_,λi b z=>?_⟩
  .simp only at b;split at b
   .rename_i r;cases b;rw[r];exact y d t
   grind
  .by_cases r:i=d.1<;>simp[r]
  rw[gW]at b;subst b;exact bs (k2.2 ⟨d,t,a⟩)
 .obtain⟨d,p,rfl⟩:=l e L j;obtain⟨E,I,rfl⟩:=l o v w;rw[gW]at b k;have r:d.1=E.1:=b.symm.trans k;have A:(gs.map (·.1))[e]?=h d.1:=M;have B:(gs.map (·.1))[o]?=h d.1:=M;grind[List.getElem?_inj]
 .obtain⟨e,g⟩:=Ay n;obtain⟨d,p,rfl⟩:=l e L g;rw[gW]at b;subst b;exact D d (b8 p)
 obtain⟨e,g⟩:=Ay n;obtain⟨d,p,rfl⟩:=l e L g;rw[gW]at x;subst x;exact b.2 (k2.2 ⟨d,b8 p,a⟩)
def bb.iY{gs}(d:bb (my gs) b){l}(g:l∈gs):b.a.heap[l.1]?=h (.cells #[l.2.2] l.2.1 (0,0)):=by
 obtain⟨a,k⟩:=Ay g;have aE:(my gs)[a]?=h (.J (eb l.1 l.2.1 l.2.2)):=M;have e:a<c b.m:=by rw[d.len];grind
 obtain⟨i,⟨_,j,_⟩,n,_⟩:=d.box a _ _ aE (bI e);grind
def bk.i_{p}{args}{gs}(j:bk (ai.aT P) p args (my gs) res (λ_=>my gs))(x:P.inits.idxOf? p=q){g}(Q:(gs.map (·.1)).Nodup)(W:∀l∈gs,g.heap[l.1]?=h (.cells #[l.2.2] l.2.1 (0,0)))(L:b4 (my gs) (a5.cQ gs g) B args){fq:Z->au->Prop}(aM:∀u o b,bx (my gs) b o (res u)->Below g.heap.size g b.a->∀D,fq o (b.a.at D)):
  ∃S last t n y,runNT P (S+1) (solo (G (Frame.enter P p B.toArray .normal) []) g) #[]=(.ended t n,y)/\runN P S (solo (G (Frame.enter P p B.toArray .normal) []) g)=.next last /\
   step P last=.ended t n/\Go.Conc.Good P fq last t n y:=by
 have T:=bb.cQ Q W;have key:=j.2 (a5.cQ gs g) B L T (λao b=>∃u o i,ao=G i []/\mb P p i o b/\bx (my gs) b o (res u)/\Below g.heap.size g b.a) []
  (λu i o b r s w e=>.stop ⟨u,o,i,rfl,r,s,⟨e.os,e.tape,e.output,e.size,λU M=>by
   by_cases A:U∈gs.map (·.1)
   .obtain⟨l,X,rfl⟩:=k2.1 A;rw[w.iY X,W l X]
   .exact e.a6 U ⟨M,A⟩⟩⟩)
 have aj:AM.jv (λ_=>False)=λ_=>False:=by funext d;cases d<;>rfl
 obtain⟨v,ar,av,aq,b,V,y,az,r,s,w,e,ab,ae,ax,⟨u,o,i,rfl,k1,ag,ak⟩⟩:=key.aT (λ_=>False) #[G (Frame.enter P p B.toArray .normal) []] q #[] (λ_=>0) T.mem rfl (Go.Conc.leavers_one P _)
  (by rw[aj];exact Go.Conc.past_nil.mono (gX _)) ⟨λ_ j=>j.elim,λ_ j=>j.elim,λ_ j=>j.elim,λ_ j=>j.elim⟩ (λaB=>by intro u x;simp[Trace.act?]at x)
 have an:=Go.Conc.beside_ends (P:=P) (Shun:=AM.jv ar) (B:=b.a.heap.size) (D:=λ_ _ _=>False) (Post:=fq) (λ_ _ _ j=>j.elim) (sl:=V) (n:=0) w e ab (Go.Conc.Goes.stop λw1 C=>by
  obtain⟨D,rfl⟩:=C;obtain⟨K,I,J⟩:=ace k1 x (b.a.at D) (λF t Y R=>s F t Y R);refine⟨a,o,K,I,λA ah=>?_,aM u o b ag ak D⟩;obtain⟨F,t,Y,rfl,R⟩:=J A ah;refine Go.Conc.evL_cell _ _ (λad=>?_) (gi.lt s R);have:=ae.u F ad t
  grind)
 obtain⟨E,last,t,n,aw,N,aA,O,aa⟩:=an;refine⟨v+E,last,t,n,aw,?_,?_,O,aa⟩
 .rw[show v+E+1=v+(E+1) by omega];exact(DM v (E+1) r).trans N
 have A:=runNT_fst P v (crowd #[G (Frame.enter P p B.toArray .normal) []] g q) #[];have H:(runNT P v (crowd #[G (Frame.enter P p B.toArray .normal) []] g q) #[]).1=.next (crowd av b.a V):=by have:runNT P v (crowd #[G (Frame.enter P p B.toArray .normal) []] g q) #[]=_:=r;grind
 grind[Go.Conc.solo_eq_crowd,runN_add]
def Rd.cQ{gs}{n}(R:∀a∈gs,n.heap[a.1]?=h (.cells #[a.2.2] a.2.1 (0,0)))(v:∀a∈gs,∃A z,a.2.2=.iface A z){aa}{o}{i k}{b:Nat->p N}(F:∀(g j:Nat)d,(b g)[j]?=h d->∃kd x,d=N.int kd x)(J:Rd (a5.bA n).u aa (.S o i k b)):Rd (a5.cQ gs n).u aa (.S m i k b):=by
 obtain⟨T,C,B,l,rfl,s,t,Q,K,M⟩:=J.jN;refine .hS s t Q K λg I j d e=>?_;obtain⟨z,r,y⟩:=M g I j d e;obtain⟨kd,x,rfl⟩:=F g j d e;cases y with
 |int w=>
  refine⟨_,?_,.int w⟩;have r:n.cell? ⟨B,l+g*i+j,q⟩=h (.int kd x):=r;show(if B∈gs.map (·.1)then q else n.cell? _)=_;rw[bm,r];intro u;obtain⟨a,D,rfl⟩:=k2.1 u;obtain⟨A,z,E⟩:=v a D;simp[aN,R a D,E]at r;grind
end
section
open Go.ChangeShapes Go.WideShapes Go.ChangeAt Go.RowKit
def abP{H:Type}{a:av×Z->H}{x}{N}{os}{s}{fn}{b}{i:p PathCond}{rh Ji handsOn again}{r:au->Array Z->Prop}(aa:∀d g args,d.heap=g.heap->r d args->r g args)(own:ownKnob N.prog.godebug=q)(I:os.Started)(W:N.prog.funcs[s]?=h fn)(K:∃(d:au) (j:Tape) (e:Input),d.os=os/\(d.forCall j e).Shaped N.prog/\e.vars=[]/\Input.okWide N.prog (d.forCall j e) .any d.heap.size s e /\
   ((b.pre a N.prog fn i rh (d.forCall j e).memory e.args/\r (d.forCall j e).memory e.args)/\sizedMet a N.prog fn (OpenSpec.ofChange b) rh (d.forCall j e).memory e.args)/\x.holds N.prog (lone (Frame.enter N.prog s e.args .normal) [] (d.forCall j e)))(M:∀(l:au) (base:Nat) (args:Array Z) (n o:p (DataW H)) (w:p MemPlace),
   (∀(y:Nat) A u,fn.params[y]?=h A->args[y]?=h u->Value.okWide N.prog l .any base A u) ->
   DataW.Whole a N.prog fn.params.toList b.vars rh l args.toList n o w->l.ShapedOpen N.prog->r l args ->
   ∃v last t g k,runNT N.prog (v+1) (Conc.solo (Conc.G (Frame.enter N.prog s args .normal) []) l) #[]=(.ended t g,k)/\runN N.prog v (Conc.solo (Conc.G (Frame.enter N.prog s args .normal) []) l)=.next last /\
    step N.prog last=.ended t g/\Conc.Good N.prog (λu O=>b.post a N.prog fn rh Ji handsOn again l args u O) last t g k):
  ReturnsInLeavingWide x N os s .any (λd args=>(b.pre a N.prog fn i rh d args/\r d args)/\sizedMet a N.prog fn (OpenSpec.ofChange b) rh d args) (b.post a N.prog fn rh Ji handsOn again):=by refine returnsInLeavingWide_of_good own I K ?_;intro d j e _ V _ U S ad;obtain⟨_,_,_,X,R,_,_,_,_,Q⟩:=U;have J:X=fn:=ut (R.symm.trans W);subst J;obtain⟨⟨⟨n,o,w,C,L⟩,F⟩,ab⟩:=S;have T:=DataW.Whole.of_heap (w':=d.forCall j e) oL C;obtain⟨v,last,t,g,k,z,Y,E,B⟩:=M (d.forCall j e) d.heap.size e.args n o w Q T V (aa (d.forCall j e).memory (d.forCall j e) e.args rfl F);exact⟨v,last,t,g,k,z,Y,E,B.mono λu D=>ChangeSpec.post_blind D⟩
def aef(i){a}{b}{s}(d)(kinds)(e)(j)(iu)(D:s.holds a b)(A:∀z∈d,(s.withDomain z).holds a b)(B:s.wfByText b=f)(x:∀z∈d,(s.withDomain z).wfByText b=f)(v:s.laidByTextAt i a kinds e)(g:s.start=.entering)(l:s.noBlocks=m/\s.again=m)(n:a.checked.prog.mainIs=h (j.1,j.2.toList))(E:(!j.1&&j.2.isEmpty&&!iu)=m)(p:∀k fn,a.checked.prog.funcNamed s.func=h k->a.checked.prog.funcs[k]?=h fn->iu=a.checked.prog.looks []/\∀(y:Nat) t,fn.params[y]?=h t->a.checked.prog.wantsStandIn t=m)(C:f=s.goesBy a.checked.prog):
  Claim7.holds a (.plain b) {stood:={row:=s,standIns:=[],harness:=j,looks:=iu},kinds:=[],alts:=d,goes:=f,laidByText:=f,laidKinds:=kinds,laidTests:=e,laidLooks:=i}:=by
 have o:∀r:OpenClaim,Claim7.isSixth {stood:={row:=r,standIns:=[],harness:=j,looks:=iu},kinds:=[]}=m:=λr=>by exact cQ
 refine⟨Claim7.tied_new_at i kinds e (Claim7.new_of_sixth D j iu g l n (o s) p) B,λz u=>?_,v,(λw=>by cases w),C⟩;exact Claim7.tied_new_at i kinds e (Claim7.new_of_sixth (A z u) j iu g l n (o _) p) (x z u)
end
namespace R1
def xQ(b:bE)(a:Nat):Int:=(dj b a-97) % 256
def pF(b:bE)(a:Nat):Bool:=(xQ b (a-1)+2*xQ b (a-2)+3*xQ b (a-3)) % 5==0
def lK(b:bE)(a:Nat):Nat->Nat
 |0=>min (a+8) (c b)
 |d+1=>if c b<=a+(7-d)then c b else if pF b (a+(7-d))then a+(7-d)else lK b a d
def eA(b:bE)(a:Nat):Nat:=lK b a 5
def HT(o)(a)(d:a<c o):∀b,b<=5->a<lK o a b/\lK o a b<=c o/\lK o a b<=a+8
 |0,_=>by simp only[lK];omega
 |b+1,e=>by
  simp only[lK];split
  .omega
  split
  .omega
  exact HT o a d b y
theorem sL(o)(a)(b:a<c o):a<eA o a/\eA o a<=c o/\eA o a<=a+8:=HT o a b 5 y
def k_(a:bE):Nat->Nat->p Nat
 |0,_=>[]
 |d+1,b=>if b<c a then eA a b::k_ a d (eA a b)else[]
def SE(a:bE):p Nat:=k_ a (c a) 0
def jR(b:bE):Nat->Nat->p bE
 |0,_=>[]
 |d+1,a=>if a<c b then(b.drop a).take (eA b a-a)::jR b d (eA b a)else[]
def cx(a:bE):p bE:=jR a (c a) 0
def jH(a:p bE):Option bE:=if fC a.flatten&&(cx a.flatten==a)then h a.flatten else q
def cC(a:bE):Bool:=decide (1<=c a)&&decide (c a<=8)&&dZ a
def fZ(d:bE):Int:=d.foldl (λb a=>27*b+((a.toNat:Int)-97) % 256+1) 0
def cK(a:Int):Bool:=decide (1<=a)&&decide (a<=99)
def e5(a:Int)(b:bE):Int:=(fZ b*(2*a+1)+a*7919) % 999999999989
def e1(a:Nat):Nat:=if a<1∨8<a then 0 else if a<=2 then 2 else if a<=4 then 4 else 8
def fA(a:bE):bE:=if cC a then a++aY (e1 (c a)-c a) 46 else[]
def ff(a:bE):bE:=(a.reverse.dropWhile (·==46)).reverse
def h8(a:bE):Option bE:=if cC (ff a)&&(fA (ff a)==a)then h (ff a)else q
abbrev cW:=Int×bE
abbrev ca:=Int×p cW
def right(b:Int)(a:cW):Bool:=match h8 a.2 with|some d=>e5 b d==a.1|none=>m
def D1(b:p Int):Bool:=(aD (c b)).all λa=>a==0||decide (b.getD (a-1) 0<b.getD a 0)
def h7(b:Int)(a:ca):Bool:=
 decide (1<=a.1)&&decide (a.1<=99)&&cK b&&decide (1<=c a.2)&&decide (c a.2<=4)&&a.2.all (right b)&&D1 (a.2.map (·.1))
def jG(a:Int)(d:cW):Option bE:=match h8 d.2 with|some b=>if cK a&&(e5 a b==d.1)then h b else q|none=>q
def gp(b:Int)(e:ca)(d:Int):Option bE:=match e.2.find? (λa=>a.1==d)with|some a=>jG b a|none=>q
def hy(b:ca)(a:p Int):ca:=(b.1,b.2.filter λd=>a.contains d.1)
def fB(e:p cW)(a:cW):p cW:=match e with
 |[]=>[a]
 |b::d=>if a.1<b.1 then a::b::d else b::fB d a
def kN(a e:Int)(b:p bE):ca:=(a,b.foldl (λg d=>fB g (e5 e d,fA d)) [])
abbrev fr:=Int×Int
def gv(a:fr):Bool:=decide (0<=a.1)&&decide (a.1<999999999989)&&decide (1<=a.2)&&decide (a.2<=99)
def eu(e:p fr)(a:fr):p fr:=match e with
 |[]=>[a]
 |b::d=>if b.1<a.1 then b::eu d a else a::(b::d).filter (λg=>!(g.1==a.1))
def lc(b:p fr)(d:Int):Int:=match b.find? (λa=>a.1==d)with|some a=>a.2|none=>0
def dP(b:p ca):p fr:=b.flatMap λa=>a.2.map λd=>(d.1,a.1)
def e3(a:p ca):p fr:=if(dP a).all gv then(dP a).foldl eu []else[]
abbrev mZ:=bE×p Int
abbrev eE:=Int×p mZ
def oq(b:Int)(a:c'):mZ:=(a.1,(cx a.2).map (e5 b))
def gQ(a b:Int)(d:p c'):eE:=(a,d.map (oq b))
def fb(d:Int)(e:p fr)(a:p bE)(b:bE):p bE:=if lc e (e5 d b)==0&&!a.contains b then a++[b]else a
def gu(b:Int)(e:p c')(d:p fr):p bE:=(e.flatMap λa=>cx a.2).foldl (fb b d) []
def dL(b:Int)(a:p ca)(d:Int):Option bE:=a.findSome? λe=>gp b e d
def qy{b}(e:dZ b=f):∀a∈b,97<=a.toNat/\a.toNat<=122:=by intro a d;have:=List.all_eq_true.1 e a d;simpa[jl]using this
def BI:∀(e:bE) (a d:Int)(i:Nat),(∀b∈e,97<=b.toNat/\b.toNat<=122)->0<=a->a<d->1<=d ->
  0<=e.foldl (λa b=>27*a+((b.toNat:Int)-97) % 256+1) a/\e.foldl (λa b=>27*a+((b.toNat:Int)-97) % 256+1) a<d*27 ^ c e
 |[],a,d,_,_,k,j,_=>by grind
 |b::e,a,d,i,g,k,j,p=>by obtain⟨o,l⟩:=g b E;have:=BI e (27*a+((b.toNat:Int)-97) % 256+1) (d*27) i (λn r=>g n M) y y y;grind[Int.mul_assoc]
def K':∀{k:Nat},k<=8->(27:Int) ^ k<=282429536481:=by
 intro k a
 match k,a with
 |0,_|1,_|2,_|3,_|4,_|5,_|6,_|7,_|8,_=>decide
def xw{b:bE}(d:cC b=f):0<=fZ b/\fZ b<282429536481:=by simp[cC,cF,bA]at d;obtain⟨e,a⟩:=BI b 0 1 0 (qy d.2) y y y;have:=K' d.1.2;rw[Int.one_mul]at a;exact⟨e,Int.lt_of_lt_of_le a this⟩
def SC:∀a:Fin 200,a.val≠0->Nat.gcd 999999999989 a.val=1:=l9
def aaI{x:Nat}{P s a}(b:P=(x:Int))(g:P ∣ s*a)(j:0<s)(l:s<P)(i:Nat.gcd x a.natAbs=1):False:=by
 subst b;have e:x ∣ s.natAbs*a.natAbs:=by have:=Int.natAbs_dvd_natAbs.2 g;grind[Int.natAbs_mul,Int.natAbs_natCast]
 have d:x ∣ s.natAbs:=Nat.Coprime.dvd_of_dvd_mul_right i e;have k:=Nat.le_of_dvd y d;omega
def S7{a b P:Int}(d:a % P=b % P):P ∣ a-b:=Int.dvd_of_emod_eq_zero (by rw[Int.sub_emod,d,Int.sub_self,Int.zero_emod])
def o4(b:bE):Int:=b.foldr (λa d=>27*d+((a.toNat:Int)-97) % 256+1) 0
def Hx:∀a:bE,0<=o4 a
 |[]=>by simp[o4]
 |b::a=>by have:=Hx a;simp[o4,List.foldr_cons]at *;omega
def Hw:∀{R bc:bE},(∀a∈R,97<=a.toNat/\a.toNat<=122)->(∀a∈bc,97<=a.toNat/\a.toNat<=122)->o4 R=o4 bc->R=bc
 |[],[],_,_,_=>rfl
 |[],s::bc,_,b,d|s::bc,[],b,_,d=>by have:=Hx bc;simp[o4,List.foldr_cons,List.foldr_nil]at *;omega
 |a::R,s::bc,g,b,d=>by have k:=g a E;have l:=b s E;have i:=Hw (R:=R) (bc:=bc) (λe j=>g e M) (λe j=>b e M);simp[o4,List.foldr_cons]at d i;grind[UInt8.toNat_inj]
def Sw{a d}(g:cC a=f)(i:cC d=f)(k:fZ a=fZ d):a=d:=by
 have j:∀a,fZ a=o4 a.reverse:=λa=>by simp[fZ,o4,List.foldr_reverse]
 simp[cC,cF]at g i;rw[j,j]at k;exact List.reverse_inj.1 (Hw (λe b=>qy g.2 e (List.mem_reverse.1 b)) (λe b=>qy i.2 e (List.mem_reverse.1 b)) k)
def aaB(n:cK i=f){j k}(o:cC j=f)(r:cC k=f)(g:e5 i j=e5 i k):j=k:=by
 refine Sw o r ?_;simp[cK,cF,bA]at n;obtain⟨s,l⟩:=xw o;obtain⟨p,d1⟩:=xw r;have key:∀d e:Int,0<=d->0<=e->d<282429536481->d>e->(d*(2*i+1)+i*7919) % 999999999989=(e*(2*i+1)+i*7919) % 999999999989->False:=by intro d e z w v u g;have b:=S7 g;rw[show(d*(2*i+1)+i*7919)-(e*(2*i+1)+i*7919)=(d-e)*(2*i+1) by grind]at b;have t:(2*i+1).natAbs<200:=y;exact aaI (x:=999999999989) a b y y (SC ⟨_,t⟩ M)
 rcases Int.lt_trichotomy (fZ j) (fZ k)with b|b|b
 .exact(key _ _ p s d1 b g.symm).elim
 .exact b
 exact(key _ _ s p l b g).elim
theorem acV{a}(i:dZ a=f)(k):ff (a++aY k 46)=a:=by
 have j:∀k,List.dropWhile (·==46) ((aY k (46:UInt8))++a.reverse)=a.reverse:=by
  intro k;induction k with
  |zero=>
   simp[List.replicate_zero,p1];cases l:a.reverse with
   |nil=>rfl
   |cons b n=>
    have g:b∈a:=List.mem_reverse.1 M;have:=qy i b g;have d:(b==46)=m:=by simp[eU];rintro rfl;grind
    simp[d]
  |succ k e=>simpa[List.replicate_succ]using e
 unfold ff;grind
def aa7{a}(b:cC a=f):h8 (fA a)=h a:=by
 have e:dZ a=f:=by simp[cC,cF]at b;exact b.2
 have g:fA a=a++aY (e1 (c a)-c a) 46:=by simp[fA,b]
 have d:ff (fA a)=a:=by grind[acV]
 simp[h8,d,b]
def jr(a:p cW)(b d:Nat):p cW:=(a.set b (a.getD d (0,[]))).set d (a.getD b (0,[]))
def nv(a:p cW)(b d:Nat):Bool:=decide ((a.getD b (0,[])).1<(a.getD d (0,[])).1)
def iU:Nat->p cW->Nat->p cW
  |0,b,_=>b
  |d+1,b,a=>if(a-1) / 2=a then b else if nv b a ((a-1) / 2)=f then iU d (jr b ((a-1) / 2) a) ((a-1) / 2)else b
def jj(b:p cW)(a d:Nat):Nat:=if 2*a+2<d/\nv b (2*a+2) (2*a+1)=f then 2*a+2 else 2*a+1
def g1:Nat->p cW->Nat->Nat->p cW
  |0,a,_,_=>a
  |e+1,a,b,d=>if d<=2*b+1 then a else if nv a (jj a b d) b=f then g1 e (jr a b (jj a b d)) (jj a b d) d else a
def hz(a:p cW)(b:cW):p cW:=iU (c a+1) (a++[b]) (c a)
def g7(a:p cW):p cW:=g1 (c a) (jr a 0 (c a-1)) 0 (c a-1)
def kP:Nat->p cW->p cW
  |0,_=>[]
  |b+1,a=>if c a=0 then[]else(g7 a).getD (c a-1) (0,[])::kP b ((g7 a).take (c a-1))
def l4(a:p cW):p cW:=kP (c a) (a.foldl hz [])
theorem pC(d)(e w):c (jr d e w)=c d:=by simp[jr]
def MU:∀a b d,c (iU a b d)=c b
  |0,_,_=>rfl
  |a+1,b,d=>by unfold iU;split;rfl;split;rw[MU a,pC];rfl
def H5:∀a b d e,c (g1 a b d e)=c b
  |0,_,_,_=>rfl
  |a+1,b,d,e=>by unfold g1;split;rfl;split;rw[H5 a,pC];rfl
def Le(d)(l):c (hz d l)=c d+1:=by simp[hz,MU]
theorem K8(d):c (g7 d)=c d:=by simp[g7,H5,pC]
def acZ{d}(b:e<c d)(g:w<c d){l}:l∈jr d e w->l∈d:=by intro a;unfold jr at a;grind
def Dy(l):hz [] l=[l]:=cQ
def Dz(a l):hz [a] l=if l.1<a.1 then[l,a]else[a,l]:=Fw
def Ld(a j l):hz [a,j] l=if l.1<a.1 then[l,j,a]else[a,j,l]:=Fw
def abm(a j s l):hz [a,j,s] l=if l.1<j.1 then(if l.1<a.1 then[l,a,s,j]else[a,l,s,j])else[a,j,s,l]:=Fw
def Dx(a){d a'}{l}(e:c d=k+1)(b:g7 d=a'++[l])(g:c a'=k):kP (a+1) d=l::kP a a':=by rw[kP,bm y,b];grind
def abf(a):kP 1 [a]=[a]:=cQ
def K9(b j):kP 2 [b,j]=[b,j]:=by rw[Dx 1 (a':=[j]) (l:=b) (k:=1) a cQ a,abf]
def K_(b j s):kP 3 [b,j,s]=if j.1<s.1 then[b,j,s]else[b,s,j]:=by rw[Dx 2 (a':=if j.1<s.1 then[j,s]else[s,j]) (l:=b) (k:=2) a (by simp[g7,g1,jr,jj,nv];split<;>rfl) (by split<;>rfl)];split<;>rw[K9]
def abg(d j s b):kP 4 [d,j,s,b]=d::kP 3 (if s.1<j.1 then(if s.1<b.1 then[s,j,b]else[b,j,s])else if j.1<b.1 then[j,b,s]else[b,j,s]):=by rw[Dx 3 (a':=if s.1<j.1 then(if s.1<b.1 then[s,j,b]else[b,j,s])else if j.1<b.1 then[j,b,s]else[b,j,s]) (l:=d) (k:=3) a ?_ (by split<;>split<;>rfl)];by_cases e:s.1<j.1<;>by_cases g:s.1<b.1<;>by_cases i:j.1<b.1<;>simp[g7,g1,jr,jj,nv,e,g,i]
theorem abq(d)(s:c d<=4)(j:d.Pairwise λa b=>a.1≠b.1):l4 d=d.foldl fB []:=by
  match d,s with
  |[],_=>rfl
  |[a],_=>exact cQ
  |[a,b],_=>
    simp at j;simp[l4,List.foldl,Dy,Dz,fB,fj,gz];split<;>simp[K9]
  |[a,b,e],_=>
    simp at j;obtain⟨⟨x,w⟩,y⟩:=j;simp[l4,List.foldl,Dy,Dz,fB,fj,gz];by_cases o:b.1<a.1<;>by_cases i:e.1<a.1<;>by_cases p:e.1<b.1<;>first|omega |
      (have n:(a.1<b.1)=¬(b.1<a.1):=by grind
       have k:(a.1<e.1)=¬(e.1<a.1):=M;have l:(b.1<e.1)=¬(e.1<b.1):=M
       simp[o,i,p,n,k,l,Ld,K_,fB])
  |[a,b,e,g],_=>
    simp at j;obtain⟨⟨x,w,y⟩,⟨C,D⟩,B⟩:=j;simp[l4,List.foldl,Dy,Dz,fB,fj,gz];by_cases o:b.1<a.1<;>by_cases i:e.1<a.1<;>by_cases p:e.1<b.1<;>by_cases r:g.1<a.1<;>by_cases A:g.1<b.1<;>by_cases v:g.1<e.1<;>first|omega |
      (have n:(a.1<b.1)=¬(b.1<a.1):=by grind
       have k:(a.1<e.1)=¬(e.1<a.1):=M;have l:(b.1<e.1)=¬(e.1<b.1):=M;have t:(a.1<g.1)=¬(g.1<a.1):=M;have z:(b.1<g.1)=¬(g.1<b.1):=M;have u:(e.1<g.1)=¬(g.1<e.1):=M
       simp[o,i,p,r,A,v,n,k,l,t,z,u,Ld,abm,abg,K_,fB])
def yA{a:Type}[BEq a][LawfulBEq a]:∀(L b:p a),L.Nodup->(∀d∈L,d∈b)->c L<=c b
 |[],b,_,_=>gX _
 |e::L,b,o,j=>by
  obtain⟨n,l⟩:=List.nodup_cons.1 o;have i:=j e i';have:=yA L (b.erase e) l λd g=>by have:d≠e:=λk=>n (k▸g);exact(List.mem_erase_of_ne this).2 (j d (m6 _ g))
  have k:=List.length_erase_of_mem i;have:=List.length_pos_of_mem i;simp[fj];omega
def AS:∀{k l:p Int},k.Pairwise (· < ·)->l.Pairwise (· < ·)->(∀e,e∈k↔e∈l)->k=l
 |[],[],_,_,_=>rfl
 |[],i::l,_,_,a=>by have:=(a i).2 i';cases this
 |g::k,[],_,_,a=>by have:=(a g).1 i';cases this
 |g::k,i::l,v,w,a=>by
  obtain⟨s,o⟩:=iA.1 v;obtain⟨t,r⟩:=iA.1 w;have d:=(a g).1 i';have b:=(a i).2 i';simp[fl]at d b;have u:g=i:=by
   rcases d with d|d
   .exact d
   rcases b with b|b
   .exact b.symm
   have:=s i b;have:=t g d;omega
  subst u;rw[AS o r λe=>?_];have n:=a e;simp[fl]at n;constructor
  .intro C;have:=s e C;rcases n.1 (.inr C)with j|j
   .omega
   exact j
  intro C;have:=t e C;rcases n.2 (.inr C)with j|j
  .omega
  exact j
section
variable {r:ai V}
def Bb:bK:=λargs a=>match args,a with
 |[.q (.aq (.c (.V b)))],[]=>h (bi (fK b),[],[])
 |_,_=>q
def t56:bL r 56 Bb:=by intro args g b d a e _;unfold Bb at e;grind[Wq]
def xh:bK:=λargs a=>match args,a with
 |[.q (.aq (.c (.V b)))],[]=>h (bi (fC b),[],[])
 |_,_=>q
def Ml:bL r 57 xh:=by intro args g b d a e _;unfold xh at e;grind[Xn]
def Bc:bK:=λargs d=>match args,d with
 |[.q (.aq (.c (.V a))),.q (.aq (.c (.V b)))],[]=>h (bi (k7 a b),[],[a≠[],b≠[]])
 |_,_=>q
def ade:bL r 58 Bc:=by
 intro args i e g d b a;unfold Bc at b;split at b
 .cases b;exact TF _ _ a.1 a.2
 grind
def HO:p (Nat×bK):=(56,Bb)::(57,xh)::(58,Bc)::HE
def lJ:a8 r HO:=a8.cons t56 (a8.cons Ml (a8.cons ade qc))
def cl(b:p c')(a:Nat):bE:=(b.getD a ([],[])).1
def lr(b:p c')(a:Nat):bE:=(b.getD a ([],[])).2
def ko(o)(e):(o.getD e bD.I).1=cl o e:=rfl
def tK(o)(e):(o.getD e bD.I).2=lr o e:=rfl
def iR(b:p c')(a:Nat):Bool:=fK (cl b a)&&fC (lr b a)&&(a==0||aW (cl b (a-1)) (cl b a))&&(aD a).all λd=>!k7 (cl b d) (cl b a)
def dR(a:p c'):Bool:=(aD (c a)).all (iR a)&&decide (c a<=6)
def fY{b:Nat->Bool}:(aD k).all b=f↔∀a,a<k->b a=f:=M
def yL{b}(a:fK b=f):b≠[]:=by rintro rfl;exact cQ
def zp{o}(b:e<c o)(d:iR o e=m):dR o=m:=by
 cases a:dR o with
 |false=>rfl
 |true=>
  simp only[dR,cF]at a;grind
def Xq(o):Y r 31 [bD.S o] [] (bi (dR o)) []:=by
 refine Y.K func31 rfl λz=>?_;have D:=z.S 0 a;refine b_ lJ a v (g.ee (λb=>b<=c o/\∀e,e<b->iR o e=f) (λb:Nat=>[(0,bD.S o),(3,S b)]) (λ_=>[]) (λb=>c o-b) 0 a Fy ⟨by omega,by omega⟩ a ?_);rintro b ⟨w,x⟩;by_cases u:b<c o
 .by_cases j:fK (cl o b)=f
  .by_cases I:fC (lr o b)=f
   .by_cases k:b=0∨aW (cl o (b-1)) (cl o b)=f
    .apply g.cj [(0,bD.S o),(3,S b),(4,S 0)] []
     .intro b1;by_cases l:b=0
      .refine a_ lJ [(8,f),(16,f),(24,f),(29,m)] a ?_ (b1 _ _ a ?_)
       .simp[-al,u,ko,tK,j,I];omega
       simp[bt]
      have C:=k.resolve_left l;have s:a7 .i64 ((b:Int)-1):=cQ;have A:((b:Int)-1).toNat=b-1:=y;refine a_ lJ [(8,f),(16,f),(24,f),(29,f),(42,m)] a Pu (b1 _ _ a ?_);simp[bt]
     ·
      have B:iR o b=(aD b).all (λe=>!k7 (cl o e) (cl o b)):=by
       rcases k with rfl|C
       .simp[iR,j,I]
       simp[iR,j,I,C]
      refine g.ee (λe=>e<=b/\∀n,n<e->k7 (cl o n) (cl o b)=m) (λe:Nat=>[(0,bD.S o),(3,S b),(4,S e)]) (λ_=>[]) (λe=>b-e) 0 a Fy ⟨by omega,by omega⟩ a ?_;rintro e ⟨J,F⟩;by_cases i:e<b
      .have d:fK (cl o e)=f:=by have:=x e i;simp only[iR,cF]at this;exact this.1.1.1
       cases p:k7 (cl o e) (cl o b)with
       |true=>
        refine a_ lJ [(47,f),(60,f)] a ?_ (g.bX (g.dK (bT.zero a ?_)))
        .simp[-al,u,i,ko,p,yL j,yL d];omega
        have:iR o b=m:=M;simp[zp u this]
       |false=>
        refine a_ lJ [(47,f),(60,m)] a ?_ (g.again (e+1) a ?_ ?_ ?_ a)
        .simp[-al,u,i,ko,p,yL j,yL d,a7];omega
        .simp[bt]
        .grind
        omega
      have i:e=b:=y;subst i;refine a_ lJ [(47,m)] a E (g.bt a a ?_);exact b_ lJ a cQ (g.again (e+1) a Fy M y a)
    have l:b≠0:=λt=>k (.inl t);have C:aW (cl o (b-1)) (cl o b)=m:=M;have s:a7 .i64 ((b:Int)-1):=cQ;have A:((b:Int)-1).toNat=b-1:=y;refine a_ lJ [(8,f),(16,f),(24,f),(29,f),(42,f)] a Pu (g.bX (bT.zero a ?_));simp[U,zp u (by simp[iR,l,C])]
   refine a_ lJ [(8,f),(16,f),(24,m)] a ?_ (g.bX (bT.zero a ?_))
   .simp[-al,u,ko,tK,j,I]
   simp[U,zp u (by simp[iR,I])]
  refine a_ lJ [(8,f),(16,m)] a ?_ (g.bX (bT.zero a ?_))
  .simp[-al,u,ko,j]
  simp[U,zp u (by simp[iR,j])]
 refine a_ lJ [(8,m)] a bX (g.bt a a ?_);refine b_ lJ a v (g.aw a ?_);simp only[U,dR];grind
end
section
open Go.Proofs Go.Conc.Lib
def qR:WgLink:={add:=230,done:=232,wait:=234,relMerge:=262,disable:=263,enable:=264,inBubble:=265,associate:=266,fatal:=267,uOr:=268,uAdd:=269,raceRead:=270,uLoad:=271,uStore:=272,disassociate:=273,semrelease:=274,acquire:=276,isAssociated:=277,uCas:=278,raceWrite:=279,semacquire:=280,orU64:=297,addU64:=298,loadU64:=299,storeU64:=300,casU64:=303,tWgP:=326,tUP:=199,tAssoc:=328,tWg:=292,tAU:=290,tU64:=283,tUint:=231,tU32:=281,tPU32:=332,tPAU:=360,tPU64:=362,tNoCopy:=286,tANoCopy:=287,tAlign64:=288}
def v':WgLib V qR where
 f_add:=Tryz.func230.trans (eI h b0)
 f_done:=Tryz.func232.trans (eI h b0)
 f_wait:=Tryz.func234.trans (eI h b0)
 f_relMerge:=Tryz.func262.trans (eI h b0)
 f_disable:=Tryz.func263.trans (eI h b0)
 f_enable:=Tryz.func264.trans (eI h b0)
 f_inBubble:=Tryz.func265.trans (eI h b0)
 f_associate:=Tryz.func266.trans (eI h b0)
 f_fatal:=Tryz.func267.trans (eI h b0)
 f_uOr:=Tryz.func268.trans (eI h b0)
 f_uAdd:=Tryz.func269.trans (eI h b0)
 f_raceRead:=Tryz.func270.trans (eI h b0)
 f_uLoad:=Tryz.func271.trans (eI h b0)
 f_uStore:=Tryz.func272.trans (eI h b0)
 f_disassociate:=Tryz.func273.trans (eI h b0)
 f_semrelease:=Tryz.func274.trans (eI h b0)
 f_acquire:=Tryz.func276.trans (eI h b0)
 f_isAssociated:=Tryz.func277.trans (eI h b0)
 f_uCas:=Tryz.func278.trans (eI h b0)
 f_raceWrite:=Tryz.func279.trans (eI h b0)
 f_semacquire:=Tryz.func280.trans (eI h b0)
 f_orU64:=Tryz.func297.trans (eI h b0)
 f_addU64:=Tryz.func298.trans (eI h b0)
 f_loadU64:=Tryz.func299.trans (eI h b0)
 f_storeU64:=Tryz.func300.trans (eI h b0)
 f_casU64:=Tryz.func303.trans (eI h b0)
 underlying_tWgP:=Tryz.underlying326
 runUnderlying_tWgP:=Tryz.runUnderlying326
 sizeOf_tWgP:=Tryz.sizeOf326
 isAgg_tWgP:=Tryz.isAgg326
 zeroValue_tWgP:=Tryz.zeroValue326
 underlying_tUP:=Tryz.underlying199
 runUnderlying_tUP:=Tryz.runUnderlying199
 sizeOf_tUP:=Tryz.sizeOf199
 isAgg_tUP:=Tryz.isAgg199
 zeroValue_tUP:=Tryz.zeroValue199
 underlying_tI32:=Tryz.underlying328
 runUnderlying_tI32:=Tryz.runUnderlying328
 sizeOf_tI32:=Tryz.sizeOf328
 isAgg_tI32:=Tryz.isAgg328
 zeroValue_tI32:=Tryz.zeroValue328
 underlying_tWg:=Tryz.underlying292
 runUnderlying_tWg:=Tryz.runUnderlying292
 sizeOf_tWg:=Tryz.sizeOf292
 isAgg_tWg:=Tryz.isAgg292
 zeroValue_tWg:=Tryz.zeroValue292
 underlying_tAU:=Tryz.underlying290
 runUnderlying_tAU:=Tryz.runUnderlying290
 sizeOf_tAU:=Tryz.sizeOf290
 isAgg_tAU:=Tryz.isAgg290
 zeroValue_tAU:=Tryz.zeroValue290
 underlying_tU64:=Tryz.underlying283
 runUnderlying_tU64:=Tryz.runUnderlying283
 sizeOf_tU64:=Tryz.sizeOf283
 isAgg_tU64:=Tryz.isAgg283
 zeroValue_tU64:=Tryz.zeroValue283
 underlying_tSh:=Tryz.underlying231
 runUnderlying_tSh:=Tryz.runUnderlying231
 sizeOf_tSh:=Tryz.sizeOf231
 isAgg_tSh:=Tryz.isAgg231
 zeroValue_tSh:=Tryz.zeroValue231
 underlying_tU32:=Tryz.underlying281
 runUnderlying_tU32:=Tryz.runUnderlying281
 sizeOf_tU32:=Tryz.sizeOf281
 isAgg_tU32:=Tryz.isAgg281
 zeroValue_tU32:=Tryz.zeroValue281
 underlying_tPU32:=Tryz.underlying332
 runUnderlying_tPU32:=Tryz.runUnderlying332
 sizeOf_tPU32:=Tryz.sizeOf332
 isAgg_tPU32:=Tryz.isAgg332
 zeroValue_tPU32:=Tryz.zeroValue332
 underlying_tPAU:=Tryz.underlying360
 runUnderlying_tPAU:=Tryz.runUnderlying360
 sizeOf_tPAU:=Tryz.sizeOf360
 isAgg_tPAU:=Tryz.isAgg360
 zeroValue_tPAU:=Tryz.zeroValue360
 underlying_tPU64:=Tryz.underlying362
 runUnderlying_tPU64:=Tryz.runUnderlying362
 sizeOf_tPU64:=Tryz.sizeOf362
 isAgg_tPU64:=Tryz.isAgg362
 zeroValue_tPU64:=Tryz.zeroValue362
 underlying_t0:=Tryz.underlying0
 runUnderlying_t0:=Tryz.runUnderlying0
 sizeOf_t0:=Tryz.sizeOf0
 isAgg_t0:=Tryz.isAgg0
 zeroValue_t0:=Tryz.zeroValue0
 underlying_t3:=Tryz.underlying3
 runUnderlying_t3:=Tryz.runUnderlying3
 sizeOf_t3:=Tryz.sizeOf3
 isAgg_t3:=Tryz.isAgg3
 zeroValue_t3:=Tryz.zeroValue3
 underlying_t4:=Tryz.underlying4
 runUnderlying_t4:=Tryz.runUnderlying4
 sizeOf_t4:=Tryz.sizeOf4
 isAgg_t4:=Tryz.isAgg4
 zeroValue_t4:=Tryz.zeroValue4
 underlying_t9:=Tryz.underlying9
 runUnderlying_t9:=Tryz.runUnderlying9
 sizeOf_t9:=Tryz.sizeOf9
 isAgg_t9:=Tryz.isAgg9
 zeroValue_t9:=Tryz.zeroValue9
 underlying_t20:=Tryz.underlying20
 runUnderlying_t20:=Tryz.runUnderlying20
 sizeOf_t20:=Tryz.sizeOf20
 isAgg_t20:=Tryz.isAgg20
 zeroValue_t20:=Tryz.zeroValue20
 underlying_t21:=Tryz.underlying21
 runUnderlying_t21:=Tryz.runUnderlying21
 sizeOf_t21:=Tryz.sizeOf21
 isAgg_t21:=Tryz.isAgg21
 zeroValue_t21:=Tryz.zeroValue21
 room_tWg:=b0
 room_tU32:=b0
end
end R1
def b4.imp{i g}{bg a}(j:∀e,bx n b e i->bx n b e g)(k:∀B,b4 n b B bg->b4 n b B a):∀B,b4 n b B (i::bg)->b4 n b B (g::a)
 |[],d=>d.elim
 |e::B,d=>⟨j e d.1,k B d.2⟩
abbrev xL(a:c'):z:=.q (.agg [.c (.V a.1),.c (.V a.2)])
abbrev rX(a:p c')(b:Bool):z:=.Q [.aq (.c (.S m 2 (c a) (bD.fn a))),.aq (.c (.bool b))]
namespace R1
variable {r:ai V}
def sG:bK:=λargs d=>match args,d with
 |[e],[]=>match jU 2 e with
  |none=>q
  |some (a,b)=>h (bi (dR (bD.af a b)),[],[bD.bW a b])
 |_,_=>q
def zf:bL r 31 sG:=by
 intro args k e g d a b;unfold sG at a;split at a
 .split at a
  .cases a
  rename_i l n i;cases a;exact(Xq _ ).args (λ_ B=>b4.imp (λ_=>bD.cC i b) (λ_ j=>j) B)
 grind
def HP:p (Nat×bK):=(31,sG)::HO
def Sx:a8 r HP:=a8.cons zf lJ
end R1
def cY.a0(a:cY α)(d)(l):bt (c d+1) (ce (c d) (a.fn d) (λb=>[a.a8 l].getD b [])) (a.fn (d++[l])):=by intro b e;unfold ce cY.fn gr;grind
@[simp] theorem bt.same{a:Nat->p N}:bt k a a:=λ_ _=>rfl
@[simp] theorem bt.nil{a b:Nat->p N}:bt 0 a b:=λe d=>by omega
namespace R1
variable {r:ai V}
def HQ:p (Nat×bK):=HP
def Sy:a8 r HQ:=Sx
end R1
def kw.fY{args}(i:kw args n)(l:Nat){ah}(d:args[l]?=h (.q (.agg ah)))(j:Nat){o}{p}(b:ah[j]?=h (O.c (.S o p k T))):k<=9223372036854775807:=by obtain⟨r,t,g⟩:=i.at d;obtain⟨B,_,a⟩:=g;obtain⟨s,_,e⟩:=bM.get a b;cases e<;>omega
namespace R1
def kC{R:Nat->Bool}(a:e<k)(b:R e=m):(aD k).all R=m:=M
def iD{R:Nat->Bool}(b:∀a,a<e->R a=f)(g:R e=f):∀a,a<e+1->R a=f:=λa d=>by grind
end R1
def dG.put(a b:Int):dG->dG
 |.nil=>.ax .nil a b .nil
 |.ax d l g e=>if a<l then .ax (d.put a b) l g e else if l<a then .ax d l g (e.put a b)else .ax d a b e
def dG.af:dG->p (Int×Int)
 |.nil=>[]
 |.ax a d e b=>a.af++(d,e)::b.af
def dG.find(a:Int):dG->Int
 |.nil=>0
 |.ax d b g e=>if a=b then g else if a<b then d.find a else e.find a
namespace R1
theorem abu{d}{b}(g:∀a∈d,a.1<b.1):eu d b=d++[b]:=by
 induction d with
 |nil=>rfl
 |cons j i e=>
  simp[eu];grind
def Lj{d a}{b}(i:∀e∈d,e.1<b.1):eu (d++a) b=d++eu a b:=by
 induction d with
 |nil=>rfl
 |cons j d g=>
  simp[us,eu];grind
def abw{d a'}{b}(g:∀a∈a',b.1<a.1):eu (d++a') b=eu d b++a':=by
 have l:a'.filter (λi=>!(i.1==b.1))=a':=sg.2 λa k=>by grind
 induction d with
 |nil=>
  cases a' with
  |nil=>rfl
  |cons e a' =>
   have:=g e i';simp[p1,eu];grind
 |cons e d j=>
  simp[us,eu];grind
abbrev dG.fl(a:dG):Prop:=a.af.Pairwise λb d=>b.1<d.1
theorem DB{g j}:∀{o:dG},dG.fl o->(o.put g j).af=eu o.af (g,j)
 |.nil,_=>rfl
 |.ax d e i a',r=>by
  obtain⟨t,p,u⟩:=o0.1 r;have s:=iA.1 p;have n:∀a∈d.af,a.1<e:=λa b=>u a b (e,i) i';simp[dG.put,dG.af];split
  .rename_i k;simp[dG.af];rw[DB (o:=d) t,abw (a':=(e,i)::a'.af)];grind
  split
  .rename_i _ k;simp[dG.af];rw[DB (o:=a') s.2,Lj (d:=d.af) λa b=>by grind];simp[eu];grind
  have l:g=e:=y;subst l;simp[dG.af];rw[Lj (d:=d.af) λa b=>n a b];simp only[eu];rw[bm E,sr,bm E,sg.2 λa b=>by grind]
theorem aby{d}{b}(k:d.Pairwise λe a=>e.1<a.1):(eu d b).Pairwise (λe a=>e.1<a.1)/\∀g∈eu d b,g=b∨g∈d:=by
 induction d with
 |nil=>simp[eu]
 |cons a o i=>
  obtain⟨l,j⟩:=iA.1 k;obtain⟨n,cc⟩:=i j;simp[eu];grind[List.pairwise_cons]
def CA{k}:∀{o:dG},dG.fl o->o.find k=lc o.af k
 |.nil,_=>rfl
 |.ax b d r p,n=>by obtain⟨i,e,j⟩:=o0.1 n;have g:=iA.1 e;have t:∀a∈b.af,a.1<d:=λa l=>j a l (d,r) i';simp[dG.find,dG.af];have s:=CA (k:=k) (o:=b) i;have cc:=CA (k:=k) (o:=p) g.2;unfold lc at *;grind
end R1
namespace R1
section
variable {r:ai V}
def mG(b:c')(a:p c'×Bool)(d:bE):p c'×Bool:=if a.2=f then a else if aW d b.1=f then a else(a.1++[b],f)
def yR(d:c')(a:p c'×Bool)(b:c'):p c'×Bool:=if b.1=d.1 then a else(a.1++[b],a.2)
def rR(b:c')(a:p c'×Bool)(d:c'):p c'×Bool:=yR b (mG b a d.1) d
def mH(a:c')(b:p c'):p c'×Bool:=b.foldl (rR a) ([],m)
def lk(b:p c')(a:c'):p c':=if(mH a b).2=f then(mH a b).1 else(mH a b).1++[a]
theorem o9{o}(b:e<c o):o[e]=(cl o e,lr o e):=by have a:o.getD e ([],[])=o[e]:=M;simp only[cl,lr,a]
def abp{a}{o}(b:e<c o):mH a (o.take (e+1))=rR a (mH a (o.take e)) (cl o e,lr o e):=by rw[wU,bI b,o9 b];simp[mH]
def Lf(a)(uw)(C):(mG a uw C).1.length<=c uw.1+1:=zX
def abo(a)(uw)(C):(yR a uw C).1.length<=c uw.1+1:=by unfold yR;grind
def Lg(b):∀e(a:p c'×Bool),(e.foldl (rR b) a).1.length<=c a.1+2*c e
 |[],a=>by simp
 |d::g,a=>by
  have i:=Lg b g (rR b a d);have j:=Lf b a d.1;have k:=abo b (mG b a d.1) d;simp only[j7,fj];have:(rR b a d).1.length<=c a.1+2:=by unfold rR;omega
  omega
abbrev xN(b:Nat)(a:p c'):z:=.q (.aq (.r b 2 (c a) (bD.fn a)))
abbrev m9(a:p c'):an:=.r 46 2 (c a) (bD.fn a)
def WA(o)(ae)(F:c o<=4000000):Y r 95 [bD.S o,xL ae] [] (xN 0 (lk o ae)) [m9 (lk o ae)]:=by
 refine Y.K func95 rfl λD=>?_;refine aZ a v (g.bP 5 46 2 a a ?_);let O:Nat->p c'×Bool:=λe=>mH ae (o.take e);have t:∀e,e<=c o->(O e).1.length<=8000000:=by intro e l;have:=Lg ae (o.take e) ([],m);simp at this;show(mH ae (o.take e)).1.length<=_;unfold mH;omega
 refine g.ca (λe=>e<=c o) (λe:Nat=>[(0,bD.S o),(3,aG 0 0),(7,S e),(5,xN 1 (O e).1),(6,bi (O e).2)]) (λe=>[.cells 46 [.c (.V ae.1),.c (.V ae.2)],m9 (O e).1]) (λe=>c o-e) 0 a ?_ a ?_ y ?_
 .simp[bt,O,mH]
 .simp[bt,O,mH]
 intro e l;by_cases u:e<c o
 .have A:O (e+1)=rR ae (O e) (cl o e,lr o e):=abp u;have z:=t e l;generalize O e=b at *;have B:=Lf ae b (cl o e);apply g.cj [(0,bD.S o),(3,aG 0 0),(7,S e),(5,xN 1 (mG ae b (cl o e)).1),(6,bi (mG ae b (cl o e)).2)] [.cells 46 [.c (.V ae.1),.c (.V ae.2)],m9 (mG ae b (cl o e)).1]
  .intro b1;cases s:b.2 with
   |true=>
    have k:mG ae b (cl o e)=b:=zX;rw[k]at b1;refine bP [(12,f),(15,f),(1000009,f)] a gT (b1 _ _ a ?_);exact bw
   |false=>
    cases x:aW (cl o e) ae.1 with
    |true=>
     have k:mG ae b (cl o e)=b:=zX;rw[k]at b1;refine bP [(12,f),(15,m),(25,m),(1000009,f)] a ?_ (b1 _ _ a ?_)
     .simp[-al,u,ko,x]
     exact bw
    |false=>
     have k:mG ae b (cl o e)=(b.1++[ae],f):=zX;rw[k]at b1;refine bP [(12,f),(15,m),(25,f),(1000009,f)] a ?_ (g.ba _ a ?_ (b1 _ _ a ?_))
     .simp[-al,u,ko,x,qt];omega
     .exact P8
     exact P8
  have w:O (e+1)=yR ae (mG ae b (cl o e)) (cl o e,lr o e):=A;generalize mG ae b (cl o e)=i at *;by_cases n:cl o e=ae.1
  .have j:O (e+1)=i:=by rw[w];exact bs n
   refine bP [(38,m)] a ?_ (g.b5 (e+1) a ?_ a ?_ ?_ ?_)
   .simp[-al,u,ko,n,a7];omega
   .simp_all
   .simp_all
   .omega
   omega
  have j:O (e+1)=(i.1++[(cl o e,lr o e)],i.2):=by rw[w];exact bm n
  refine bP [(38,f)] a ?_ (g.b5 (e+1) a ?_ a ?_ ?_ ?_)
  .simp[-al,u,ko,n,a7,qt];omega
  .exact Pq
  .exact Pq
  .omega
  omega
 have:e=c o:=y;subst this;have C:O (c o)=mH ae o:=M;have z:=t (c o) (bC _);refine a6 [(12,m)] a E (g.bt a a ?_);have d:lk o ae=if(O (c o)).2=f then(O (c o)).1 else(O (c o)).1++[ae]:=hp;cases s:(O (c o)).2 with
 |true=>
  rw[s,bs a]at d;refine a6 [(46,f)] a E (g.ba [.cells 46 [.c (.V ae.1),.c (.V ae.2)],m9 (lk o ae)] a dA (g.aS [1] a dA ?_));grind
 |false=>
  rw[s,bm E]at d;refine a6 [(46,m)] a ?_ (g.ba [.cells 46 [.c (.V ae.1),.c (.V ae.2)],m9 (lk o ae)] a ?_ (g.aS [1] a ?_ ?_))
  .simp[qt];omega
  .exact OL
  .exact OL
  grind
end
end R1
def bt.app0{b a:Nat->p N}:bt k (ce 0 b a) a:=λd _=>by simp[ce]
namespace R1
variable {r:ai V}
def Bi:bK:=λargs g=>match args,g with
 |[i,.q (.agg [.c (.V a),.c (.V b)])],[]=>match jU 2 i with
  |none=>q
  |some (d,e)=>h (xN 0 (lk (bD.af d e) (a,b)) ,[ m9 (lk (bD.af d e) (a,b))],[bD.bW d e,c ((bD.af d e))<=4000000])
 |_,_=>q
def adk:bL r 95 Bi:=by
 intro args k g i e a b;unfold Bi at a;split at a
 .split at a
  .cases a
  rename_i l n j;cases a;exact(WA _ _ (b.2)).args (λ_ B=>b4.imp (λ_=>bD.cC j b.1) (b4.imp (λ_ d=>d) (λ_ d=>d)) B)
 cases a
def HR:p (Nat×bK):=(95,Bi)::HQ
def sK:a8 r HR:=a8.cons adk (Sy)
def js(a:p c')(b d:bE):p c'×Bool:=
 if dR a=f/\fK b=f/\fC d=f then(if dR (lk a (b,d))=f then(lk a (b,d),f)else(a,m))else([],m)
abbrev aea(d:Nat)(a:p c')(b:Bool):z:=.Q [.aq (.r d 2 (c a) (bD.fn a)),.aq (.c (.bool b))]
def MN{o}(a:dR o=f):c o<=6:=by simp only[dR,cF,bA]at a;omega
def IY(o)(b l):Y r 52 [bD.S o,bZ b,bZ l] [] (aea 0 (js o b l).1 (js o b l).2) [m9 (js o b l).1]:=by
 refine Y.K func52 rfl λs=>?_;have d:¬(dR o=f/\fK b=f/\fC l=f)->js o b l=([],m):=λp=>bm p;cases e:dR o with
 |false=>
  rw[d M];refine a_ sK [(10,m)] a ?_ ?_
  .simp[bD.E,bD.U,e]
  exact E'
 |true=>
  have t:=MN e;cases i:fK b with
  |false=>
   rw[d M];refine a_ sK [(10,f),(14,m)] a ?_ ?_
   .simp[bD.E,bD.U,e,i]
   exact E'
  |true=>
   cases n:fC l with
   |false=>
    rw[d M];refine a_ sK [(10,f),(14,f),(19,m)] a ?_ ?_
    .simp[bD.E,bD.U,e,i,n]
    exact E'
   |true=>
    have j:js o b l=if dR (lk o (b,l))=f then(lk o (b,l),f)else(o,m):=bs ⟨e,i,n⟩;cases k:dR (lk o (b,l))with
    |true=>
     rw[k,bs a]at j;rw[j];refine a_ sK [(10,f),(14,f),(19,f),(29,f)] a ?_ (g.ba [m9 (lk o (b,l))] a ?_ (g.aS [0] a ?_ ?_))
     .simp[bD.E,bD.U,e,i,n,k];omega
     .simp[bD.E]
     .simp[bD.E]
     grind
    |false=>
     rw[k,bm E]at j;rw[j];refine a_ sK [(10,f),(14,f),(19,f),(29,m)] a ?_ (g.ba [m9 (lk o (b,l)),m9 o] a ?_ (g.aS [1] a ?_ ?_))
     .simp[bD.E,bD.U,e,i,n,k,qt];omega
     .simp[bD.E,bt.app0]
     .simp[bt.app0]
     grind
def Xr(o)(b l):Y r 52 [bD.S o,bZ b,bZ l] [] (rX (js o b l).1 (js o b l).2) []:=
 (IY o b l).b1 a E a
def Ba:bK:=λargs g=>match args,g with
 |[i,.q (.aq (.c (.V d))),.q (.aq (.c (.V e)))],[]=>match jU 2 i with
  |none=>q
  |some (a,b)=>h (rX (js (bD.af a b) d e).1 (js (bD.af a b) d e).2,[],[bD.bW a b])
 |_,_=>q
def adc:bL r 52 Ba:=by
 intro args k g i e a d;unfold Ba at a;split at a
 .split at a
  .cases a
  rename_i l n j;cases a;exact(Xr _ _ _ ).args (λ_ B=>b4.imp (λ_=>bD.cC j d) (b4.imp (λ_ b=>b) (b4.imp (λ_ b=>b) (λ_ b=>b))) B)
 cases a
def HS:p (Nat×bK):=(52,Ba)::HR
def Sz:a8 r HS:=a8.cons adc (sK)
end R1
def tA(a:p N)(d:Nat):Nat×(Nat->p N):=match c6 d a with|some (.S _ _ e b)=>(e,b)|_=>(0,λ_=>[])
def aB:cY Int:={bk:=1,a8:=λb=>[.int .i64 b],cm:=λa=>s8 a 0,I:=0,inv:=λ_=>rfl,len:=λ_=>rfl}
def bQ:cY bE:={bk:=1,a8:=λb=>[.V b],cm:=λa=>vU a 0,I:=[],inv:=λ_=>rfl,len:=λ_=>rfl}
namespace R1
def bG:cY cW:={bk:=2,a8:=λb=>[.int .i64 b.1,.V b.2],cm:=λa=>(s8 a 0,vU a 1),I:=(0,[]),inv:=λ_=>rfl,len:=λ_=>rfl}
def eZ:cY fr:={bk:=2,a8:=λb=>[.int .i64 b.1,.int .i64 b.2],cm:=λa=>(s8 a 0,s8 a 1),I:=(0,0),inv:=λ_=>rfl,len:=λ_=>rfl}
abbrev ll(a:ca):N:=.S m 2 (c a.2) (bG.fn a.2)
def a1:cY ca:={bk:=2,a8:=λb=>[.int .i64 b.1,ll b],cm:=λa=>(s8 a 0,bG.af (tA a 1).1 (tA a 1).2),I:=(0,[]),inv:=λb=>by show(b.1,bG.af (c b.2) (bG.fn b.2))=b;rw[bG.E],len:=λ_=>rfl}
def cu:cY mZ:={bk:=2,a8:=λd=>[.V d.1,.S m 1 (c d.2) (aB.fn d.2)],cm:=λa=>(vU a 0,aB.af (tA a 1).1 (tA a 1).2),I:=([],[]),inv:=λb=>by show(b.1,aB.af (c b.2) (aB.fn b.2))=b;rw[aB.E],len:=λ_=>rfl}
def bj:cY eE:={bk:=2,a8:=λd=>[.int .i64 d.1,.S m 2 (c d.2) (cu.fn d.2)],cm:=λa=>(s8 a 0,cu.af (tA a 1).1 (tA a 1).2),I:=(0,[]),inv:=λb=>by show(b.1,cu.af (c b.2) (cu.fn b.2))=b;rw[cu.E],len:=λ_=>rfl}
def a2:cY (Int×Int):=eZ
abbrev fz(a:ca):z:=.q (.agg [.c (.int .i64 a.1),.c (ll a)])
abbrev xJ(a:Option bE):z:=.q (.agg [.c (.V (a.getD [])),.c (.bool a.isSome)])
end R1
end Go.AM
