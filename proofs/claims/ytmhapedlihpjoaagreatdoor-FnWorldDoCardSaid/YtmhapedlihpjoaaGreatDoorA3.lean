/- Part 3. No condition. -/
import Derived.Test.YtmhapedlihpjoaaGreatDoorA2
import Derived.Laws.Externs
import Derived.Lib.Builder
import Derived.Conc.Beside
import Derived.Conc.CrowdRun
import Derived.Conc.WgGenN2
import Derived.Conc.WgGenN3
import Derived.Conc.LeavingOf
import Derived.Below
import Derived.ProofKit
import Derived.OpenShut
import Derived.OpenVars
import Derived.LaidMore
import Derived.Lay
import Derived.SevenTiedAt
set_option linter.all false
set_option maxHeartbeats 8000000
open Go.Proofs
open Go.Proofs.Tryz
open Go.Conc (G)
open List renaming length → c, range → aC, replicate → aY, getD_eq_getElem?_getD → al, all_eq_true → aZ
open Go renaming Value → aa, TypeId → av, Event → aT, undef → K, World → au, Frame → aK, FuncId → a4, execOp → ac, Operand → aA, Program → aI, Goroutine → ak, stepG → aq, Oper → ap
open Option renaming some → h, none → q
open Bool renaming true → f, false → m
open Nat renaming beq → af, ble → ay
open Go.Region renaming wanted → aU
open Go.World renaming cell? → aL
open Go.Op renaming bytesLess → aW
open Go.Sem renaming events_bind → aG
open Go.Result renaming evThen_ok → aJ
open Go.Instr renaming sliceBounds → aX
open Go.Proofs.Tryz renaming prog → V
open Go.MemAct renaming ofEvent → aO
open Go.Conc renaming stepG_seq → aw, stepG_region_end → aF
namespace Go.AM
variable {k A:Nat}{i:Int}{d j e w:Nat}{W:av}{H:aa->(Nat->Option Obj)->Prop}{L:Array Bool}{bE:Mem}{D:Nat}{P:aI}{br:ak->a6->Prop}{s:Code}{C:ak}{t:ap}{b:a6}{o:av}{ab:aa}{l X:aA}{α:Type}{η:aA->z}{ι:Type}{n:p an}{F:bJ}{all:p ap}{du:Array av}{cap:p N}{cV:p z}{lb:Nat->Option Obj}{ah:p aK}{bh:p (Nat×Bool)}{T:Nat->p N}{cR:aA}{gs:Array ak}{aP:p Nat}{ck:p Prop}{off:Nat}{op:BinOp}{aD:Array ap}{Y:p Prop}{bt:p ap}{az:a6}{ty:av}{val:Nat->Nat->aa}{B:p aa}{bi:au}{ag:Array aA}{ao dh:p an}{res:ι->z}{aM:ι->p an}
variable {CT:p (Nat×bL)}{ar:p il}{bf:fw}{ad:p (Nat×bx)}{a5:bx}
section
variable {r:aj P}{bd:p (Nat×bx)}{ad:av}{I:Bool}{v1:aa}{bP:Option (Nat×Nat)}{ag:p UInt8}{i:Nat}
def I_{P}{j t}{o}{i}:∀(B:p aa)a(g:Array aa)d(b:Array aT),d.heap[j]?=h (.cells g o i)->i.2<=t+a->t+a+c B<=g.size->(∀e∈B,e.oneCell'=f) ->
  ∀l∈(storeCells ⟨j,t,q⟩ B a).events P d b,l∈b∨∃n,a<=n/\n<a+c B/\l=tZ j (t+n)
 |[],_,_,_,_,_,_,_,_=>λl r=>.inl cU
 |e::k,a,g,d,b,C,F,I,s=>λl r=>by
  have bq:t+a<g.size:=M;have u:d.cell? ⟨j,t+a,q⟩=h g[t+a]:=NQ;have A:d.frozen? ⟨j,t+a,q⟩=m:=by obtain⟨x,D⟩:=i;simp[World.frozen?,C,AA,dr];grind
  have v:(store (⟨j,t+a,q⟩:Addr) e).run P d=.ok () (d.setRow j (g.setIfInBounds (t+a) e)):=NF;have w:(store (⟨j,t+a,q⟩:Addr) e).events P d b=b.push (tZ j (t+a)):=by rw[events_store P d b _ e _ (s e E),u];exact hz
  simp[storeCells,aG,gY,v,w,aJ]at r;rcases I_ k (a+1) (g.setIfInBounds (t+a) e) _ _ (setRow_heap _ _ _ _ _ _ C) y M (λz N=>s z M) l r with J|⟨n,O,K,rfl⟩
  .grind
  grind
def m5.at{L}{j C cap}{e:Nat->Option Obj}(t:m5 P n b d ad W I v1 (h (C,cap)) ag i L j e):
  C≠j/\c ag<=cap/\0<cap/\cap<=9223372036854775807/\i<=c ag/\(∃g,c (fW ag++g)=cap/\e C=h (.cells (fW ag++g).toArray W (0,i)))/\(∀s,(e s).isSome=f↔s=j∨s=C)/\C∈L.al:=by
 obtain⟨v,w,_,_,k,l,o,p,r,a,u⟩:=t.gf;have:v=j:=by rw[t.v]at w;grind
 subst this;obtain⟨g,a,x⟩:=a;exact⟨k,l,o,p,r,⟨g,a,x⟩,u,(t.al C).2 M⟩
def acp{L}(a:b.m[d]?=h L):b.m.set d L=b.m:=m4
def m5.ca{L}{j C cap}{g:Nat->Option Obj}(t:bc n b)(u:n[d]?=h (.J (eH ad W I v1 (h (C,cap)) ag i)))(e:m5 P n b d ad W I v1 (h (C,cap)) ag i L j g){oU}{po}{ui}{bi}(A:c (fW oU++ui)=cap)(N:c oU<=cap)(E:po<=c oU)(R:bi.heap.size=b.a.heap.size)(o:∀a,a≠C->bi.heap[a]?=b.a.heap[a]?)(U:bi.heap[C]?=h (.cells (fW oU++ui).toArray W (0,po)))(v:bi.os=b.a.os)(K:bi.tape=b.a.tape)(B:bi.output=b.a.output):
  bc (n.set d (.J (eH ad W I v1 (h (C,cap)) oU po))) {b with a:=bi}/\cP n b (n.set d (.J (eH ad W I v1 (h (C,cap)) oU po))) {b with a:=bi}:=by
 obtain⟨k,w,r,s,x,⟨T,z,S⟩,bC,Q⟩:=e.at;obtain⟨J,F⟩:=t.ca (d:=d) (j_:=eH ad W I v1 (h (C,cap)) oU po) (cr:=L) (bi:=bi) u e.m rfl y
  (λa l D=>o a M) (λa l=>.inl l)
  ⟨λa=>if a=C then h (.cells (fW oU++ui).toArray W (0,po))else g a,⟨j,e.v,e.cell,(show(if j=C then _ else g j)=_ from(bm λp=>k p.symm).trans e.cJ),k,N,r,s,E,⟨ui,A,by simp⟩,λa=>by
   grind⟩,λa O l=>by
   by_cases p:a=C
   .grind
   .simp only[p,dn]at l;rw[o a p];exact e.heap _ _ l,λa=>by
   rw[e.al a]
   grind⟩ v K B
 rw[acp e.m]at J F;grind
def a1.iv{x}(u:t.op=.call {callee:=.builtin .append,args:=#[l,X],argTypes:=#[o,x]}){a5}(ab:P.underlying o=h (.slice W))(N:P.underlying x=h .string)(aa:P.info? W=h a5)(Z:a5.size=1){C cap}(s:n[d]?=h (.J (eH ad W I v1 (h (C,cap)) ag i)))(S:η l=cN (jO (h (C,cap)) k))(R:c ag=k){b}(T:η X=ax (.V b))(aM:k+c b<=cap):
  a1 P t η n (cN (jO (h (C,cap)) (k+c b))) (n.set d (.J (eH ad W I v1 (h (C,cap)) (ag++b) i))):=by
 intro j Y r v;subst R;obtain⟨L,aP,aB,w⟩:=eH.row (P:=P) r s;obtain⟨ar,au,av,aw,B,⟨g,az,D⟩,aA,aj⟩:=w.at;have z:=v l;rw[S]at z;have z:=Rd.bk z;have O:=v X;rw[T]at O;have O:=b8 O;generalize H:Y X=aJ at O;cases O with
 |@V e _ ae aK=>
 have ak:e.size=c b:=by rw[<-ae,nc];rfl
 have A:=w.heap _ _ D;have aL:(fW ag++g).toArray.size=cap:=M;have ai:=Lib.run_append_room_stringF (P:=P) j.a o x t.type W a5 ab N aa Z C (c ag) cap _ _ A B e y M;have G:((fW ag++g).toArray.toList.take (c ag)++Lib.strCells e++(fW ag++g).toArray.toList.drop (c ag+e.size))=fW (ag++b)++g.drop (c b):=by
  have F:(fW ag++g).take (c ag)=fW ag:=E6;have J:(fW ag++g).drop (c ag+e.size)=g.drop (c b):=by rw[List.drop_append,M4,Gc M,ak];simp
  have K:Lib.strCells e=fW b:=by simp[Lib.strCells,fW,ae]
  rw[List.toList_toArray,F,J,K,aeH]
 rw[G,ak]at ai;have ah:c g=cap-c ag:=E6;have aH:c (fW (ag++b)++g.drop (c b))=cap:=E6;have aI:(j.a.setRow C (fW (ag++b)++g.drop (c b)).toArray).heap[C]?=h (.cells (fW (ag++b)++g.drop (c b)).toArray W (0,i)):=setRow_heap j.a C _ _ W _ A;obtain⟨V,an⟩:=w.ca (po:=i) (bi:=j.a.setRow C (fW (ag++b)++g.drop (c b)).toArray) r s aH M M (setRow_size _ _ _) (λE aq=>setRow_other j.a C E _ aq) aI rfl rfl rfl;refine⟨.value (.slice (h ⟨C,0,q⟩) (c ag+c b) cap),_,?_,Rd.val a,V,an,?_⟩
 .rw[li u,z,H];simp[cK,d9];have aO:(Builtin.append_ #[o,x] t.type #[jO (h (C,cap)) (c ag),.string e]).run P j.a=_:=ai;exact hz
 rw[li u,z,H];refine jq λaD p=>?_;have Q:=Lib.run_firstCells_string (P:=P) j.a 1 e;have ao:=run_storeCells_atF P C (c ag) W (0,i) (Lib.strCells e) 0 _ j.a A M M (Lib.strCells_oneCell e);have aE:c ag+e.size<=cap:=y;have aN:(Builtin.firstCells 1 e.size (.string e)).events P j.a #[]=#[]:=rfl;simp[jO,Builtin.append_,run_underlying ab,run_underlying N,sizeOf,typeInfo,aa,Z,Builtin.lenOf,aE,Q,aN,gY,ao]at p;rcases I_ (Lib.strCells e) 0 _ j.a _ A M M (Lib.strCells_oneCell e) aD p with aQ|⟨aR,aF,aG,rfl⟩
 .grind
 exact om (b_ w.m) aj (w.u _ aj _)
def a1.iw{A}(g:t.op=.call {callee:=.builtin .append,args:=#[l,X],argTypes:=#[o,A]}){a5}(v:P.underlying o=h (.slice W))(s:P.underlying A=h .string)(r:P.info? W=h a5)(B:η l=cN (jO q 0))(z:η X=ax (.V [])):a1 P t η n (cN (jO q 0)) n:=by
 refine .aZ λw p x i=>?_;have e:=i l;rw[B]at e;have e:=Rd.bk e;have d:=i X;rw[z]at d;have d:=b8 d;generalize u:p X=C at d;cases d with
 |@V b _ E D=>
 have j:b.size=0:=by have:c b.data.toList=0:=M;rw[nc]at this;exact this
 have k:=Lib.run_firstCells_string (P:=P) w.a a5.size b;rw[j]at k;have y:(Builtin.firstCells a5.size 0 (.string b)).events P w.a #[]=#[]:=rfl;refine⟨.slice q 0 0,?_,Rd.val a,?_⟩
 .rw[li g,e,u];simp[jO,Builtin.append_,run_underlying v,run_underlying s,sizeOf,typeInfo,r,Builtin.lenOf,j,k]
 rw[li g,e,u];simp[jO,Builtin.append_,run_underlying v,run_underlying s,sizeOf,typeInfo,r,Builtin.lenOf,j,k,y]
def Sh{u}{fn}{Y}(ai:P.underlying o=h (.slice W))(B:P.funcs[u]?=h fn)(O:(fn.name== "runtime.NumGoroutine")=m)(aj:fn.body.isNone=f)(R:Extern.findNext fn=q)(G:Extern.find fn=h (Extern.BytealgMakeNoZero.makeNoZero Y #[o]))(D:t.op=.call {callee:=.value cR,args:=#[l],argTypes:=du})(aA:η cR=.q (.aq (.c (.fn (.func u) [] []))))(X:η l=.q (.aq (.c (.int .i64 k))))(aK:0<k)(T:k<=140737488355328)(C:n[d]?=h (.J (eH ad W I v1 q ag i))):
  ∀b g,bc n b->(∀ar,bz n b (g ar) (η ar))->∃(F:{aM:Nat×Nat // k<=aM.2}) (v:a6) (J:aa),(ac g t).run P b.a=.ok (.value J) v.a/\bz (n.set d (.J (eH ad W I v1 (h F.1) [] 0))) v J (cN (jO (h F.1) k)) /\
   bc (n.set d (.J (eH ad W I v1 (h F.1) [] 0))) v/\cP n b (n.set d (.J (eH ad W I v1 (h F.1) [] 0))) v/\dx b ((ac g t).events P b.a #[]):=by
 intro b g aN E;obtain⟨L,ak,aG,p⟩:=eH.row (P:=P) aN C;have z:g cR=.func (.func u) #[] #[]:=by
  have j:=E cR;rw[aA]at j;have j:=b8 j;generalize g cR=J at j;cases j with
  |fn aJ e aR ak aH aI aE aF d1 d2=>
   grind
 have ah:g l=.int .i64 k:=by have j:=E l;rw[X]at j;have j:=b8 j;generalize g l=J at j;cases j;rfl
 obtain⟨e,j,K,Q⟩:=Lib.run_makeNoZero (P:=P) b.a Y o W ai k y;have Q:=Q (by simp[maxLen];omega);have av:(callFunc u #[.int .i64 k]).run P b.a=.ok (.value (.slice (h ⟨b.a.heap.size,0,q⟩) k e.size)) (b.a.drew.drew.alloc (.cells e W)):=by rw[run_callFunc_extern B O aj R G,j];rfl
 let bi:au:=b.a.drew.drew.alloc (.cells e W);have V:bi.heap[b.a.heap.size]?=h (.cells e W (0,0)):=lZ b.a.drew.drew _;have aq:bi.heap.size=b.a.heap.size+1:=by show(b.a.drew.drew.heap.push _).size=_;simp
 obtain⟨A,ab,aO,aP,aQ⟩:=p.gf;have aB:A=ak:=by rw[p.v]at ab;grind
 subst aB;have N:=aN.lt L (b_ p.m) A p.mem;have aw:b.a.heap.size≠A:=y;obtain⟨ae,t2⟩:=aN.ca (d:=d) (j_:=eH ad W I v1 (h (b.a.heap.size,e.size)) [] 0) (cr:=⟨L.v,[A,b.a.heap.size]⟩) (bi:=bi) C p.m rfl y
  (λr x R=>iV b.a.drew.drew _ x) (λr x=>by
   simp at x;rcases x with rfl|rfl
   .exact .inl p.mem
   grind)
  ⟨λr=>if r=A then h (.cells #[if I then L.v else .pointer q,v1] ad (0,0))else if r=b.a.heap.size then h (.cells e W (0,0))else q,⟨A,p.v,p.cell,by simp,aw,by simp,by omega,by simp[maxLen]at Q;omega,by simp,⟨e.toList,by simp[fW],by exact hz⟩,λr=>by
   grind⟩,λr aL x=>by
   by_cases w:r=A
   .subst w;simp[dJ]at x;have:bi.heap[r]?=b.a.heap[r]?:=iV b.a.drew.drew _ N;rw[this,<-x];exact p.heap _ _ p.cJ
   grind,λr=>by grind⟩ rfl rfl rfl
 refine⟨⟨(b.a.heap.size,e.size),K⟩,_,_,?_,Rd.val rfl,ae,t2,?_⟩
 .simp[ac,D,resolve,Deferred.ofValue,invoke,z,ah,av,bi,jO]
 intro a az;simp[ac,D,resolve,Deferred.ofValue,invoke,z,ah]at az;have H:a∈(callFunc u #[.int .i64 k]).events P b.a #[]:=M;have ax:fn.name≠ "runtime.NumGoroutine":=M;have aD:fn.body=q:=by simpa using aj
 have key:∀s:Array aT,∀w∈(Extern.BytealgMakeNoZero.makeNoZero Y #[o] #[.int .i64 k]).events P b.a s,w∈s∨∃Z,w=⟨.mark Z,m,f⟩/\Go.Conc.Neutral Z:=by
  intro s w G;change w∈Sem.events P (underlying _ >>= _) _ _ at G;have j:¬(k:Int)<0:=y;have K:¬(281474976710656:Int)<(k:Int):=y;have ao:w∈(askRoom (grownCap b.a k 0 W)).events P b.a.drew s:=by simpa[run_underlying ai,j,K,Question.forced,newRow,grownCap]using G
  grind[Go.Conc.events_askRoom]
 have:a∈(Extern.BytealgMakeNoZero.makeNoZero Y #[o] #[.int .i64 k]).events P b.a ((#[]:Array aT).push ⟨.mark (.extern u),m,f⟩):=by have w:callFunc u #[.int .i64 k]=callFunc u #[.int .i64 k]:=rfl;simpa[callFunc,B,ax,aD,R,G,j]using H
 rcases key _ _ this with an|⟨Z,rfl,S⟩
 .simp at an;subst an;exact .inr ⟨u,rfl⟩
 exact .inl S
def Si{N ar}(cz:t.op=.call {callee:=.builtin .unsafeString,args:=#[l,X],argTypes:=#[N,ar]})(K:P.underlying N=h (.pointer W))(H:P.cellsOf W=1){C cap}(v:n[d]?=h (.J (eH ad W I v1 (h (C,cap)) ag i)))(ab:η l=cN (.pointer (h ⟨C,0,q⟩)))(ah:η X=ax (.int .i64 (c ag))):
  a1 P t η n (ax (.V ag)) (n.set d (.J (eH ad W I v1 (h (C,cap)) ag (c ag)))):=by
 intro b o u Q;obtain⟨L,aV,aU,R⟩:=eH.row (P:=P) u v;obtain⟨aM,s,aO,aP,aQ,⟨S,B,Z⟩,aR,aF⟩:=R.at;have O:=Q l;rw[ab]at O;have O:=Rd.bk O;have aj:o X=.int .i64 (c ag):=by have z:=Q X;rw[ah]at z;have z:=b8 z;generalize o X=aW at z;cases z;rfl
 have Y:=R.heap _ _ Z;have ak:ac o t=(do pure (.value (<-Builtin.unsafeString_ #[N,ar] t.type #[o l,o X]))):=Ro;have aa:(fW ag++S).toArray.size=cap:=M;by_cases D:ag=[]
 .subst D;have az:=Lib.run_unsafeString_none (P:=P) b.a N ar t.type (h ⟨C,0,q⟩);obtain⟨w,V⟩:=R.ca (oU:=[]) (po:=0) (ui:=S) (bi:=b.a) u v B s E rfl (λ_ _=>rfl) M rfl rfl rfl;refine⟨.value (.string .empty),_,hz,Rd.V a E,w,V,?_⟩;rw[ak,O,aj];exact Pd
 .have e:∀j l,ag[j]?=h l->b.a.cell? ((⟨C,0,q⟩:Addr).add j)=h (.int .u8 l.toNat):=by
   intro j l T;rw[gY];simp[aL,Y,cZ];have av:=(cQ.1 T).1;have:(fW ag)[j]?=h (.int .u8 l.toNat):=by simp[fW,T]
   grind
  have an:b.a.shape? C=h (W,cap):=by simp[World.shape?,Y];grind
  have az:=Lib.run_unsafeString_row (P:=P) b.a N ar t.type W K H C cap an ag D s y e;have ae:c ag≠0:=M;have F:(b.a.freeze ⟨C,0,q⟩ (c ag)).heap[C]?=h (.cells (fW ag++S).toArray W (0,c ag)):=by simp[World.freeze,ae,dn,AJ,dJ,Y,lH];grind
  obtain⟨w,V⟩:=R.ca (oU:=ag) (po:=c ag) (ui:=S) (bi:=b.a.freeze ⟨C,0,q⟩ (c ag)) u v B s (bB _) z6 (λaS au=>by
   simp only[World.freeze,ae,dn,AJ]
   grind) F z6 z6 z6
  refine⟨.value (.string ⟨ag.toArray⟩),_,?_,Rd.V E y,w,V,?_⟩
  .rw[ak,O,aj];simp only[cK,d9,az];rfl
  rw[ak,O,aj];refine jq λr x=>?_;have aB:¬(c ag:Int)<0:=y;have aH:¬(9223372036854775807:Int)<(c ag:Int):=y;have aw:=Lib.liesAt_bytes (P:=P) H (cap / P.cellsOf W) (c ag) M;have aA:IntKind.i64.max=9223372036854775807:=rfl;have J:=Lib.run_loadBytes (P:=P) b.a ag ⟨C,0,q⟩ .empty e;have aE:∀(G:p UInt8) (A:Nat) (k:ByteArray) (g:Array aT),(∀j l,G[j]?=h l->b.a.cell? ⟨C,A+j,q⟩=h (.int .u8 l.toNat))->∀r∈(loadBytes ⟨C,A,q⟩ k (c G)).events P b.a g,r∈g∨∃j,r=pB C j:=by
   intro G;induction G with
   |nil=>intro A k g _ r x;exact .inl (by simpa[loadBytes]using x)
   |cons X G ai=>
    intro A k g H r x;have ao:=H 0 X a;simp only[ki]at ao;have aN:(load ⟨C,A,q⟩).run P b.a=.ok (.int .u8 X.toNat) b.a:=by grind[run_load]
    simp only[fp,loadBytes,aG,aN,aJ,Cr ao,gY]at x;rcases ai (A+1) _ _ (λj l T=>by have:=H (j+1) l M;grind) r x with aq|aq
    .grind
    grind
  have aI:(variablesAt ⟨C,0,q⟩ W (c ag)).run P b.a=.ok f b.a:=by simp[variablesAt,an,aw]
  have aD:∀g,(variablesAt ⟨C,0,q⟩ W (c ag)).events P b.a g=g:=λg=>by simp[variablesAt,an,aw]
  have aK:r∈(loadBytes ⟨C,0,q⟩ .empty (c ag)).events P b.a #[]:=by change r∈Sem.events P (asInt (.int .i64 (c ag:Int)) >>= _) _ _ at x;simpa[asInt,asIntOf,aA,aB,aH,ae,elemOf,run_underlying K,aI,aD,J]using x
  rcases aE ag 0 .empty #[] (λj l T=>by grind[gY]) r aK with aq|⟨j,rfl⟩
  .grind
  exact qr (b_ R.m) aF
end
section
variable {r:aj P}{R:p (Nat×bx)}{ad:av}{C:Bool}{v1:aa}{bP:Option (Nat×Nat)}{ag:p UInt8}{e:Nat}
def a1.exact{j}{i}(k:η l=cN ab)(o:∀(a:aA->aa) g,a l=ab->(ac a t).run P g=.ok (.value j) g/\(ac a t).events P g #[]=#[])(u:∀n e,bz n e j i):a1 P t η n i n:=by refine .aZ λe a s d=>?_;have b:=d l;rw[k]at b;have b:=Rd.bk b;obtain⟨p,r⟩:=o a e.a b;grind
def a1.fJ(g:t.op=.call {callee:=.builtin .len,args:=#[l],argTypes:=du})(e:du[0]?=h o)(d:P.underlying o=h (.slice W)){a}{s}(j:η l=cN (.slice a k s))(i:k<=9223372036854775807):a1 P t η n (ax (.int .i64 k)) n:=
  .exact j (λp r b=>by constructor<;>simp[ac,g,resolve,invoke,builtin,Builtin.len_,b,run_underlying d,goInt,e]) (λ_ _=>Rd.int nT)
def a1.gZ(g:t.op=.call {callee:=.builtin .cap,args:=#[l],argTypes:=du})(e:du[0]?=h o)(d:P.underlying o=h (.slice W)){a}{s}(j:η l=cN (.slice a k s))(i:s<=9223372036854775807):a1 P t η n (ax (.int .i64 s)) n:=
  .exact j (λp r b=>by constructor<;>simp[ac,g,resolve,invoke,builtin,Builtin.cap_,b,run_underlying d,goInt,e]) (λ_ _=>Rd.int nT)
def a1.ib(g:t.op=.call {callee:=.builtin .unsafeSliceData,args:=#[l],argTypes:=du}){s}(d:η l=cN (.slice q k s)):a1 P t η n (cN (.pointer q)) n:=
  .exact d (λi j b=>by
    have e:Builtin.unsafeSliceData_ du t.type #[.slice q k s]=pure (.pointer q):=rfl
    constructor<;>simp[ac,g,resolve,invoke,builtin,b,e]) (λ_ _=>Rd.val a)
def a1.ic(j:t.op=.call {callee:=.builtin .unsafeSliceData,args:=#[l],argTypes:=du}){b}{s}(i:η l=cN (.slice (h b) k s))(e:s≠0):a1 P t η n (cN (.pointer (h b))) n:=
  .exact i (λp r d=>by
    obtain⟨o,rfl⟩:=Nat.exists_eq_succ_of_ne_zero e;have g:Builtin.unsafeSliceData_ du t.type #[.slice (h b) k (o+1)]=pure (.pointer (h b)):=rfl
    constructor<;>simp[ac,j,resolve,invoke,builtin,d,g]) (λ_ _=>Rd.val a)
def a1.jj(C:t.op=.slice o l q (h X) q)(D:P.underlying o=h (.slice W)){a5}(r:P.info? W=h a5){g}{p i:Nat}(M:η l=cN (.slice (h g) k p))(K:η X=ax (.int .i64 i))(z:i<=k)(u:k<=p)(E:p≠0)(J:g.add 0=g):a1 P t η n (cN (.slice (h g) i p)) n:=by
  refine .aZ λF y e w=>?_;have j:=w l;rw[M]at j;have j:=Rd.bk j;have B:y X=.int .i64 i:=by have b:=w X;rw[K]at b;have b:=b8 b;generalize y X=N at b;cases b;rfl
  have s:((q:Option aa)=q/\(q:Option Int)=q)∨∃i x,(q:Option aa)=h (.int i x)/\(q:Option Int)=h x:=.inl ⟨rfl,rfl⟩;have e:(h (Value.int .i64 i)=q/\(h (i:Int))=q)∨∃A x,h (Value.int .i64 i)=h (.int A x)/\(h (i:Int))=h x:=.inr ⟨_,_,rfl,rfl⟩;have v:U (jl k q (h (i:Int))):=by simp[jl,z]
  obtain⟨d,_,_⟩:=vW (P:=P) (ks:=f) u s e v F.a;have I:=u' (P:=P) (ks:=f) u s e v F.a;simp only[bT,c9]at d;refine⟨.slice (h g) i p,?_,Rd.val a,?_⟩
  · simp[ac,C,j,B,Instr.sliceAt,run_underlying D,Instr.slice,d,sizeOf,typeInfo,r,E,J]
  · simp[ac,C,j,B,Instr.sliceAt,run_underlying D,Instr.slice,d,I,sizeOf,typeInfo,r,E]
def a1.iO{i}(j:t.op=.call {callee:=.builtin .copy,args:=#[l,X],argTypes:=#[o,i]})(r:P.underlying o=h (.slice W)){a5}(e:P.info? W=h a5){g}{s}(u:η l=cN (.slice (h g) 0 s))(p:η X=cN (.slice q 0 0)):a1 P t η n (ax (.int .i64 0)) n:=by
  refine .aZ λw v k a=>?_;have d:=a l;rw[u]at d;have d:=Rd.bk d;have b:=a X;rw[p]at b;have b:=Rd.bk b;refine⟨.int .i64 0,?_,Rd.int lA,?_⟩<;>
  simp[ac,j,resolve,invoke,builtin,Builtin.copy_,d,b,run_underlying r,sizeOf,typeInfo,e,Builtin.lenOf,Builtin.firstCells,storeCells,goInt]
def a1.j2{w j}(cz:t.op=.call {callee:=.builtin .unsafeString,args:=#[l,X],argTypes:=#[w,j]})(u:η l=cN (.pointer q))(s:η X=ax (.int .i64 ((0:Nat):Int))):a1 P t η n (ax (.V [])) n:=by
  refine .dy λb e r i=>?_;have g:=i l;rw[u]at g;have g:=Rd.bk g;have k:e X=.int .i64 0:=by have d:=i X;rw[s]at d;have d:=b8 d;generalize e X=v at d;cases d;rfl
  have o:ac e t=(do pure (.value (<-Builtin.unsafeString_ #[w,j] t.type #[e l,e X]))):=Ro;have p:=Lib.run_unsafeString_none (P:=P) b.a w j t.type q;refine⟨.string .empty,?_,Rd.V a E,?_⟩
  · rw[o,g,k]
    simp only[cK,d9,p];rfl
  · rw[o,g,k]
    exact Pd
def a1.iA(A:n[d]?=h (.J (eH ad W C v1 bP ag e))){i dst}(u:t.op=.convert i dst l)(z:P.underlying i=h (.pointer ad))(x:P.underlying dst=h .unsafePointer){w}(a:P.info? ad=h w)(v:w.size≠0)(B:η l=aH d 0):a1 P t η n (aH d 0) n:=by
  refine .aZ λo p j k=>?_;obtain⟨L,b,lb,ba⟩:=eH.row (P:=P) j A;have g:=k l;rw[B]at g;have y:=ba.ptr g;have s:o.a.shape? b=h (ad,2):=NC;have r:=Lib.run_to_unsafe (P:=P) o.a ⟨b,0,q⟩ z x a v s E;refine⟨p l,by simp[ac,u,y,r],g,?_⟩;have:(convert i dst (.pointer (h ⟨b,0,q⟩))).events P o.a #[]=#[]:=by simp[convert,run_underlying z,run_underlying x,Conv.unsafePointer,Conv.seenAt,viewAt,cellsIn,s,sizeOf,typeInfo,a,v]
  simp[ac,u,y,r,this]
def a1.ix(A:n[d]?=h (.J (eH ad W C v1 bP ag e))){i dst}(u:t.op=.convert i dst l)(z:P.underlying i=h .unsafePointer)(x:P.underlying dst=h (.pointer ad)){w}(a:P.info? ad=h w)(B:w.size≠0)(r:liesAt P P.depth ad (2 / P.cellsOf ad) 0 ad 1=f)(D:η l=aH d 0):a1 P t η n (aH d 0) n:=by
  refine .aZ λo p j k=>?_;obtain⟨L,b,lb,ba⟩:=eH.row (P:=P) j A;have g:=k l;rw[D]at g;have y:=ba.ptr g;have v:o.a.shape? b=h (ad,2):=NC;have s:=Lib.run_from_unsafe (P:=P) o.a ⟨b,0,q⟩ z x a v r;refine⟨p l,by simp[ac,u,y,s],g,?_⟩;have:(convert i dst (.pointer (h ⟨b,0,q⟩))).events P o.a #[]=#[]:=by simp[convert,run_underlying z,run_underlying x,Conv.unsafePointer,Conv.seenAt,viewAt,variablesAt,v,sizeOf,typeInfo,a,B,r]
  simp[ac,u,y,s,this]
def a1.jM{i}{fn}(u:P.funcs[i]?=h fn)(r:(fn.name== "runtime.NumGoroutine")=m)(d:fn.body.isNone=f)(e:Extern.findNext fn=q)(v:Extern.find fn=h Extern.AbiNoEscape.same)(g:t.op=.call {callee:=.value cR,args:=#[l],argTypes:=du})(D:η cR=.q (.aq (.c (.fn (.func i) [] [])))){o}(N:η l=o):a1 P t η n o n:=by
  refine .dy λk a B j=>?_;have s:a cR=.func (.func i) #[] #[]:=by
    have b:=j cR;rw[D]at b;have b:=b8 b;generalize a cR=M at b;cases b with
    |fn A y F I K J w x d1 d2=>
      grind
  have C:(callFunc i #[a l]).run P k.a=.ok (.value (a l)) k.a:=by rw[run_callFunc_extern u r d e v];rfl
  have E:=Iy (P:=P) u r d e v #[a l] (λ_ _=>rfl) k.a #[];refine⟨a l,?_,by grind,λz p=>?_⟩
  · simp[ac,g,resolve,Deferred.ofValue,invoke,s,C]
  · simp[ac,g,resolve,Deferred.ofValue,invoke,s,E]at p
    subst p;exact .inr ⟨_,rfl⟩
end
def DA{a n:Type}{e:a->n}:∀{g:p a},(g.map e).Nodup->∀{b d:a},b∈g->d∈g->e b=e d->b=d
 |[],_,_,_,s,_,_=>by grind
 |u::t,k,b,d,o,r,l=>by
  simp only[mq,List.nodup_cons]at k;rcases e4.1 o with j|j<;>rcases e4.1 r with i|i
  .grind
  .grind
  .grind
  exact DA k.2 j i l
def qO{bX}{a}(d:bX≠.bo)(b:jW a=f):jW (bX::a)=f:=by cases bX<;>first|exact b|grind
section
variable {r:aj P}
def g.bS{aN n}(i:∀k b d,aN k b d->n k b d):∀{ar:p il}{k:Exit}{b:bJ}{d:p an},g r D aN ar k b d->g r D n ar k b d
 |[],k,b,d,a=>i k b d a
 |.code l::ar,.normal,b,d,a=>b0.mono a λ_ _ _ a=>g.bS i a
 |.code l::ar,.exit _,b,d,a=>g.bS (ar:=ar) i a
 |.code l::ar,.ret,b,d,a=>g.bS (ar:=ar) i a
 |.code l::ar,.panic _,b,d,a=>g.bS (ar:=ar) i a
 |.code l::ar,.goto _,b,d,a=>g.bS (ar:=ar) i a
 |.code l::ar,.outgrown,b,d,a=>g.bS (ar:=ar) i a
 |.blk id::ar,.exit o,b,d,a=>by
  simp only[g]at a⊢;split
  .rename_i k;rw[bs k]at a;exact g.bS (ar:=ar) i a
  rename_i k;rw[bm k]at a;exact g.bS (ar:=ar) i a
 |.blk id::ar,.normal,b,d,a=>g.bS (ar:=ar) i a
 |.blk id::ar,.ret,b,d,a=>g.bS (ar:=ar) i a
 |.blk id::ar,.panic _,b,d,a=>g.bS (ar:=ar) i a
 |.blk id::ar,.goto _,b,d,a=>g.bS (ar:=ar) i a
 |.blk id::ar,.outgrown,b,d,a=>g.bS (ar:=ar) i a
 |.ae j e::ar,.normal,b,d,a=>fb.mono a λ_ _ a=>g.bS i a
 |.ae j e::ar,.exit _,b,d,a=>g.bS (ar:=ar) i a
 |.ae j e::ar,.ret,b,d,a=>g.bS (ar:=ar) i a
 |.ae j e::ar,.panic _,b,d,a=>g.bS (ar:=ar) i a
 |.ae j e::ar,.goto _,b,d,a=>g.bS (ar:=ar) i a
 |.ae j e::ar,.outgrown,b,d,a=>g.bS (ar:=ar) i a
def g.fI{id}{O:bJ->p an->Prop}{d s j}(a:iS id d=q)(b:iS id s=h j)(l:g r D bf j .normal F n):
  g r D (wc O (g r D bf s)) (.code (.exit id)::d) .normal F n:=
 g.bS (λk e i o=>by cases k<;>exact o) (g.bu (r:=r) (D:=D) (Au:=bf) (O:=O) (F:=F) (n:=n) a b l)
end
section
variable {r:aj P}
def g.bj{fn}{u}{ao:ι->p an}(e)(aP){ah}{o}{j}(i:U Y)(b2:∀w,w<u->aP[w]?=h w)(k:fn.results.toList=[.cell o ty]:=by exact rfl)(bq:bZ ad ty=h j:=by exact rfl)(A:j.agg=f:=by exact rfl)(t:look F o=aH d 0:=by exact rfl)(gM:c' d n=h (.cells W ah):=by exact rfl)(x:af (c ah) j.size=f:=by exact rfl)(s:eg d aP=m:=by exact rfl)(ae:kt (.q (.agg ah)) (e' aP (res e))=h Y:=by exact rfl)(I:hQ (c aP) (res e)=f:=by exact rfl)(R:dz aP n=h (ao e):=by exact rfl)(C:l8 (ao e)=f:=by exact rfl)(jr:e_ aP=f:=by exact rfl):
  g r D (λai F aM=>∃w,uw ad fn u (res w) (ao w) ai F aM) (.code .ret::ar) .normal F n:=
 g.ret ⟨e,.inl a,aP,d,W,ah,o,ty,j,Y,q,nofun,k,bq,A,dp x,t,eo gM,Kt s,ae,i,I,R,C,jr,b2⟩
def g.cv{fn}{i}{ao:ι->p an}(e)(aP){ah}{o bC}{j}{l}(A:U Y)(b2:∀w,w<i->aP[w]?=h w)(t:fn.results.toList=[.cell o ty,.tmp bC]:=by exact rfl)(bq:bZ ad ty=h j:=by exact rfl)(k:j.agg=f:=by exact rfl)(bd:look F o=aH d 0:=by exact rfl)(R:look F bC=.q l:=by exact rfl)(gM:c' d n=h (.cells W ah):=by exact rfl)(x:af (c ah) j.size=f:=by exact rfl)(s:eg d aP=m:=by exact rfl)(ae:kt (.Q [.agg ah,l]) (e' aP (res e))=h Y:=by exact rfl)(I:hQ (c aP) (res e)=f:=by exact rfl)(ba:dz aP n=h (ao e):=by exact rfl)(C:l8 (ao e)=f:=by exact rfl)(jr:e_ aP=f:=by exact rfl):
  g r D (λai F aM=>∃w,uw ad fn i (res w) (ao w) ai F aM) (.code .ret::ar) .normal F n:=
 g.ret ⟨e,.inl a,aP,d,W,ah,o,ty,j,Y,h (bC,l),λ_ u=>by cases u;exact R,t,bq,k,dp x,bd,eo gM,Kt s,ae,A,I,ba,C,jr,b2⟩
def Z.bp(aR:bn P ad){d}{fn}{args}{res}(k:P.funcs[d]?=h fn)(j:(fn.name== "runtime.NumGoroutine")=m)(b:fn.body=h s)(i:ay args.length fn.ntmps=f)(o:kF args n->g r fn.ntmps (λl e a=>∃_:Unit,uw ad fn n.length res ao l e a) [.code s] .normal (h6 0 args) n):Z r d args n res ao:=
 (bl.bG (ι:=Unit) (ao:=λ_=>ao) (res:=λ_=>res) aR k j b i o).toZ
end
section
variable {r:aj P}
def g.jL{I:ι->z}{e:ι->p an}(Q:dB r D all t F n I e)(T:fg D t.dst=f)(S:∀o,g r D bf (.ae all bt::ar) .normal (gb t.dst (I o) F) (e o)):g r D bf (.ae all (t::bt)::ar) .normal F n:=by
  intro V J u d E k i C idx j a x;cases idx with
  |nil=>exact a.elim
  |cons R idx=>
  refine Q V J u d E k i C R idx j a.1 λo X y v w b=>?_;refine S o y _ ?_ w E k i C idx j a.2 λK l A s U M O B=>x K l A s U M O (b.trans B);cases N:t.dst with
  |none=>exact u.mono b d.len
  |some W=>exact(u.mono b d.len).put (lf T W N) v
def dB.gi[r.cb]{bm}(aL:bl r bm cV [] res aM){ab}(aT:oT all F t=f)(bw:t.op=.call {callee:=.value cR,args:=ag,argTypes:=du})(V:gZ (bG F cR)=h (bm,cap))(bt:pW n (ag.toList.map (bG F)++e7 cap) ab)(bM:l3 ab (gA [] cV)=h Y)(a3:U Y)(aX:ha 0 cV=f)(bJ:∀u,yl (res u)=f)(a2:∀u,qP (aM u)=f):dB r D all t F n res (λu=>n++aM u):=by
  intro b x bb aw j a5 ah bN bI idx g aW bq;have an:=eN bb cR;unfold gZ at V;split at V
  case h_2=>cases V
  case h_1 vc uZ he=>
    cases V;rw[he]at an;have bE:=b8 an;generalize O:x.eval cR=bV at bE;cases bE with
    |fn bo J a0 ax bT bn e y bX bB=>
      have aQ:bo=[]:=jI a0;subst aQ;have bQ:b6 n b J (e7 cap):=ql (λu s bs=>⟨bn u,y u M,bB u s bs⟩) ax;have G:b6 n b (ag.toList.map x.eval++J) (ag.toList.map (bG F)++e7 cap):=(m' (eN bb) ag.toList).append bQ;generalize bH:ag.toList.map x.eval++J=B at G;obtain⟨⟨fn,aO,aA,bR⟩,T⟩:=aL;have aD:∀aF,(ac x.eval t).run P aF=.ok (.enter bm B.toArray) aF:=λaF=>by grind[mU]
      have av:∀aF,(ac x.eval t).events P aF #[]=#[]:=λaF=>(mU bw aO aA bR O aF).2;refine .next a λl a4=>?_;have W:=r.bN a4;have v:=aw.rely W;have aH:=bb.rely W aw;have bL:b6 n l B (ag.toList.map (bG F)++e7 cap):=G.mono W.aQ.ext aw.len;obtain⟨R,au,bF,a8,bx,a9,bW,bz⟩:=bt l B v bL;let Q:a6:={l with m:=[],u:=au,own:=λj=>l.own j∨∃L∈l.m,j∈L.al}
      have aV:bc [] Q:=by
        refine⟨a9,a,by simp,by grind,by grind,λj g=>⟨?_,by grind⟩⟩;rcases g with g|⟨d,Z,g⟩
        · exact(v.own j g).1
        · exact v.lt d Z j g
      have aR:eX l Q:=by refine⟨rfl,a8,λj g t=>bx j (λaE=>by grind) t,a9,λj g=>?_⟩;grind
      have bZ:b6 [] Q B cV:=by have bf:=ti bM a3 bz;exact(b6.sub (aP:=[]) (n:=n) (ao:=[]) (b:={l with u:=au}) (lB:=[]) rfl rfl bf aX).mono (n:=[]) (b:={l with m:=[],u:=au}) (ao:=[]) (az:=Q) ⟨λ_ _ _ w=>w,λz R L aE bp=>by grind⟩ rfl
      refine⟨_,l,_,tJ aW (j7 aT _ _ _ aH) g (aD l.a),⟨⟨n,n,v,v,.refl _ _⟩,dx.seen (by rw[av];exact .nil)⟩,.aU aR (T Q B bZ aV bN _ λu bU p bY a1 aB K a_=>?_)⟩;refine uN (ah:=ah) (s:=j.M x (.inRegion all.toArray (bI::idx)::a5)) K a1 λC bd=>?_;have X:=K.rely bd;have S:=a_.trans bd.aQ;have bP:=aB.mono bd.aQ.ext K.len
      classical
      let aa:Mem:=λj t=>if R j then l.u j t else C.u j t;have bA:∀j,(l.own j∨∃L∈l.m,j∈L.al)->C.own j:=λj g=>by rw[S.own];exact g
      have ad:nZ C {C with u:=aa}:=by
        refine⟨a,a,a,λj t p O=>?_,λj t p O=>?_⟩
        · grind
        grind
      refine .b2 aj.cb.ok ad ?_;have ae:∀j t p,aa j t=h p->C.u j t=h p:=ad.e8;let A:a6:={C with u:=aa,m:=l.m++C.m,own:=l.own}
      have ak:∀j t p,l.u j t=h p->aa j t=h p:=λj t p O=>by
        by_cases o:R j
        · grind
        · simp[aa,o,dn];exact S.mem j t p (a8 j t p O)
      have ai:∀j,j<l.a.heap.size->∀t,aa j t=l.u j t:=λj g t=>by
        by_cases o:R j
        · grind
        · simp[aa,o,dn]
          rw[S.bC j g M t];grind
      have bO:c C.m=c (aM u):=X.len;have aG:fm n l (n++aM u) A:=by
        refine⟨ak,λz R L aE bp=>⟨R,L,?_,?_,.refl _ _⟩⟩
        · grind
        grind
      have aN:l.a.heap.size<=C.a.heap.size:=S.size;have bD:∀z d,(l.m++C.m)[z]?=h d->(z<c l.m/\l.m[z]?=h d)∨(c l.m<=z/\C.m[z-c l.m]?=h d):=λz d w=>by grind
      have aU:bc (n++aM u) A:=by
        refine⟨λj t p O=>X.mem j t p (ae j t p O),by simp[A,v.len,bO],?_,?_,?_,?_⟩
        · intro z R d aE Z
          rcases bD z d Z with⟨ar,e⟩|⟨aq,e⟩
          · rw[kb (by rw[<-v.len];exact ar)]at aE
            exact(v.box z R d aE e).cd aG v.len λk o=>⟨S.a7 k (.inr ⟨d,b_ e,o⟩),ai k (v.lt d (b_ e) k o)⟩
          · rw[hn (by rw[<-v.len];exact aq),<-v.len]at aE
            have aK:=X.box _ R d aE e;rcases KT (a2 u) R (b_ aE)with⟨H,rfl⟩|rfl
            · obtain⟨bk,bg,bh,bj,bS⟩:=aK
              refine⟨bk,bg,bh,bj,λk o t=>?_⟩;grind
            · trivial
        · intro z a7 E I aI aJ k N ba
          rcases bD z E aI with⟨ar,e⟩|⟨aq,e⟩<;>rcases bD a7 I aJ with⟨bu,y⟩|⟨br,y⟩
          · exact v.a3 z a7 E I e y k N ba
          · exact absurd ba ((X.own k (bA k (.inr ⟨E,b_ e,N⟩))).2 I (b_ y))
          · exact absurd N ((X.own k (bA k (.inr ⟨I,b_ y,ba⟩))).2 E (b_ e))
          · have:=X.a3 _ _ E I e y k N ba;omega
        · intro d Z k o
          rcases fx.1 Z with w|w
          · exact eD (v.lt d w k o) aN
          · exact X.lt d w k o
        · intro k o
          refine⟨eD (v.own k o).1 aN,λd Z=>?_⟩;rcases fx.1 Z with w|w
          · exact(v.own k o).2 d w
          · exact(X.own k (bA k (.inl o))).2 d w
      have aS:eX {C with u:=aa} A:=by refine⟨rfl,λ_ _ _ w=>w,λ_ _ _=>rfl,λj t p O=>X.mem j t p (ae j t p O),λk o=>?_⟩;grind
      have a':dg n l (n++aM u) A:=by
        refine⟨aN,λk o=>S.a7 k (.inl o),ak,λk o _ t=>ai k o t,λd Z k o=>?_,aG.box,S.os,S.tape,S.output,a⟩;rcases fx.1 Z with w|w
        · grind
        · rcases S.bU d w k o with e|⟨bK,e,_⟩
          · grind
          grind
      refine .aU aS ?_;have bC:=qu (j:=j) (x:=x) (i:=a5) all.toArray bI idx p;rw[aW]at bC;simp[n6]at bC;rw[bC];exact bq u p A (YG (bJ u) bP) aU (W.aQ.trans a')
def g.gi[r.cb]{e:Type}{cR}{ag}{du}{l}{cap}{cV}{a:e->z}{b:e->p an}(A:bl r l cV [] a b){s}(w:oT all F t=f)(j:t.op=.call {callee:=.value cR,args:=ag,argTypes:=du})(B:gZ (bG F cR)=h (l,cap))(i:pW n (ag.toList.map (bG F)++e7 cap) s){Y}(o:l3 s (gA [] cV)=h Y)(v:U Y)(x:ha 0 cV=f)(u:∀d,yl (a d)=f)(y:∀d,qP (b d)=f)(C:fg D t.dst=f)(k:∀d,g r D bf (.ae all bt::ar) .normal (gb t.dst (a d) F) (n++b d)):g r D bf (.ae all (t::bt)::ar) .normal F n:=.jL (dB.gi A w j B i o v x u y) C k
def g.iJ[r.cb]{l}(y:bl r l cV [] res aM)(A j){o}{i}(u:oT all F t=f)(d:t.op=.call {callee:=.value cR,args:=ag,argTypes:=du})(B:gZ (bG F cR)=h (l,cap))(z:(ag.toList.map (bG F)++e7 cap)[j]?=h (cN o))(b:Ar n A o i k T)(p:l3 ((ag.toList.map (bG F)++e7 cap).set j (ax (.S m i k T))) (gA [] cV)=h Y)(v:U Y)(w:ha 0 cV=f)(s:∀a,yl (res a)=f)(x:∀a,qP (aM a)=f)(C:fg D t.dst=f)(e:∀a,g r D bf (.ae all bt::ar) .normal (gb t.dst (res a) F) (n++aM a)):g r D bf (.ae all (t::bt)::ar) .normal F n:=
  g.gi y u d B ((pW.refl _ _).step j A z b) p v w s x C e
end
section
variable {r:aj P}
theorem dB.fg{y:ι->z}{a:ι->p an}(M:t.guard=q)(E:eB P D t F n y a):dB r D all t F n y a:=by intro T A C b Q S B O R s l o k;refine rz l o (ja M) λJ e=>?_;have g:=b.rely e;obtain⟨w,N,d,x,i,j,K,u,v,I⟩:=E J A (C.rely e b) g;exact⟨N,d,x,i,j,⟨⟨n,a w,g,u,v⟩,I⟩,k w x d K u (e.aQ.trans (v.too5 g))⟩
def dB.eY{E}(K:bl r E cV dh res aM)(aP)(ah:t.guard=q)(e:t.op=.call {callee:=.value cR,args:=ag,argTypes:=du})(i:gZ (bG F cR)=h (E,cap))(Y:∀g B,b6 n g B (ag.toList.map (bG F)++e7 cap)->b6 n g B (gA aP cV))(ak:ha (c aP) cV=f)(an:dz aP n=h dh)(R:eu dh=f)(ai:∀a,eu (aM a)=f)(w:e_ aP=f)(ao:∀a,ay (c aP) (c (aM a))=f):
  dB r D all t F n (λa=>e' (aP++gS (c n) (c (aM a)-c aP)) (res a)) (λa=>dc aP (aM a) n):=by
 intro g S J p ar ab U aq au y o s l;have N:=eN J cR;unfold gZ at i;split at i
 case h_2=>cases i
 case h_1 vc uZ he=>
  cases i;rw[he]at N;have C:=b8 N;generalize O:S.eval cR=X at C;cases C with
  |fn W b v d V j Z k ae x=>
   have aj:=jI v;subst aj;have aa:b6 n g b (e7 cap):=ql (λa T u=>⟨j a,k a M,x a T u⟩) d;have ad:=Y g _ ((m' (eN J) ag.toList).append aa);obtain⟨fn,Q,I,A⟩:=K.1;exact A3 o s (ja ah) p (λz=>(mU e Q I A O z).1) (λz=>(mU e Q I A O z).2) K ad ak an R ai w (λa=>ff (ao a)) l
def dB.dm{e}(s:bl r e cV dh res aM)(aP)(i:t.guard=q)(d:t.op=.call {callee:=.value cR,args:=ag,argTypes:=du})(v:gZ (bG F cR)=h (e,cap))(g:la (ag.toList.map (bG F)++e7 cap)=gA aP cV)(k:ha (c aP) cV=f)(l:dz aP n=h dh)(u:eu dh=f)(j:∀a,eu (aM a)=f)(b:e_ aP=f)(o:∀a,ay (c aP) (c (aM a))=f):
  dB r D all t F n (λa=>e' (aP++gS (c n) (c (aM a)-c aP)) (res a)) (λa=>dc aP (aM a) n):=.eY s aP i d v (λ_ _ p=>g▸uY p) k l u j b o
def dB.b3{e}(u:bl r e cV dh res aM)(aP)(j:t.guard=q)(d:t.op=.call {callee:=.value cR,args:=ag,argTypes:=du})(v:gZ (bG F cR)=h (e,cap))(g:l3 (ag.toList.map (bG F)++e7 cap) (gA aP cV)=h Y)(i:U Y)(l:ha (c aP) cV=f)(o:dz aP n=h dh)(w:eu dh=f)(k:∀a,eu (aM a)=f)(b:e_ aP=f)(s:∀a,ay (c aP) (c (aM a))=f):
  dB r D all t F n (λa=>e' (aP++gS (c n) (c (aM a)-c aP)) (res a)) (λa=>dc aP (aM a) n):=.eY u aP j d v (λ_ _ p=>ti g i p) l o w k b s
def eB.fD(I:j9 P t l X W a5){aH i}{V}{d:Nat->p N}(R:a5.size=i)(ae:bG F l=ax (.S f aH 0 T))(aw:bG F X=ax (.S V i A d))(k:0<A)(j:A*a5.bytes<=140737488355328)(aL:∀C,C<A->∀ah∈d C,nu ah=f):
  eB P D t F n (ι:={E:fl×p aa // ej i A d E.2}) (λE=>cN (c0 E.1.1 A)) (λE=>n++[.J (cn W i E.1.1 A E.1.2)]):=by
 intro b az K g;obtain⟨a1,t2,C,ce,aq,e,aF,G,z⟩:=I.op;have J:=eN K l;rw[ae]at J;have Z:=Rd.fV (i:=aH) (gj:=a5.size) (.inr a) (b8 J);have u:=eN K X;rw[aw]at u;have u:=b8 u;obtain⟨a0,aI,B,S,aX,aJ,av,aT,aM⟩:=Z.b1;have aN:=av a;subst aN;rw[S]at Z;have aB:Rd b.u (az.eval X) (.S V a5.size A d):=M;obtain⟨s,ab,Y,r,aA,aS,aQ,aR⟩:=vV (P:=P) (ty:=t.type) e aF G z I.elem g Z aB y M I.bytes;have aK:=u_ (P:=P) (ty:=t.type) e aF G z I.elem g Z aB y M I.bytes;have aj:cg 0 T d=d:=by funext C;simp[cg]
 rw[R,cZ,aj]at r;rw[R]at aQ;rw[cZ]at aA aR;have aD:ej i A d s:=⟨r.len,r.bI,λC e aU ah v=>by
  obtain⟨aV,ad,aG⟩:=r.rd C e aU ah v
  grind[vk]⟩
 have O:∀l∈s,dX l=f:=λl ae=>by
  obtain⟨w,ar,rfl⟩:=hl ae;have ao:0<i:=M;have aP:=r.len;have e:w / i<A:=su M;have L:w / i*i+w % i=w:=uC w i;have v:w % i<c (d (w / i)):=by rw[r.bI _ e];exact p' _ ao
  obtain⟨aV,ad,aG⟩:=aD.b6 _ e _ _ (bK v);rw[L,bK ar]at ad;cases ad;exact(aG b.u).cell
 let o:au:=b.a.drew.alloc (.cells (s++ab).toArray W);have aE:ew (n++[.J (cn W i (.row b.a.heap.size Y) A s)]) {b with a:=o,m:=b.m++[⟨.nilFunc,[b.a.heap.size]⟩]} (.J (cn W i (.row b.a.heap.size Y) A s)) ⟨.nilFunc,[b.a.heap.size]⟩:=by
  refine⟨λx=>if x=b.a.heap.size then h (.cells (s++ab).toArray W (0,0))else q,⟨a,O,r.len,aA,aS,ab,aQ,a⟩,λx t U=>?_,λx=>?_,λx U t=>?_⟩
  .by_cases ai:x=b.a.heap.size
   .subst ai;simp only[dJ]at U;cases U;exact lZ b.a.drew _
   grind
  .by_cases ai:x=b.a.heap.size<;>simp[ai]
  simp at U;subst U;cases k:b.u b.a.heap.size t with
  |none=>rfl
  |some aW=>have:=g.block k;omega
 have aO:o.heap.size=b.a.heap.size+1:=Nx;have H:bc n {b with a:=o}/\cP n b n {b with a:=o}:=
  g.c1 y (λag j=>iV b.a.drew _ j) (λag j t=>rfl) (λag j t aW k=>by have:=g.block k;omega) a a a
 obtain⟨ak,an⟩:=H.1.b0 H.2 rfl g aE (λag j=>by grind);refine⟨⟨(.row b.a.heap.size Y,s),aD⟩,.value (.slice (h ⟨b.a.heap.size,0,q⟩) A Y),_,_,?_,.inl a,Rd.val a,ak,an,?_⟩
 .rw[li aq,S];simp[aR];rfl
 grind[li,jq]
def g.fD{l X}{W}{a5}(B:j9 P t l X W a5){x i A}{o}{d a:Nat->p N}(y:a5.size=i)(C:bG F l=ax (.S f x 0 d))(v:bG F X=ax (.S o i A a))(j:0<A)(e:A*a5.bytes<=140737488355328)(u:∀s,s<A->∀w∈a s,nu w=f)(z:t.guard=q)(E:fg D t.dst=f)(k:∀b:{b:fl×p aa // ej i A a b.2},g r D bf (.ae all bt::ar) .normal (gb t.dst (cN (c0 b.1.1 A)) F) (n++[.J (cn W i b.1.1 A b.1.2)])):g r D bf (.ae all (t::bt)::ar) .normal F n:=
 g.cF _ _ z E (eB.fD B y C v j e u) k
def g.fh(W)(i)(j:g r D bf (.code s::ar) .normal F (n++[.J (cn W i (.nil q) 0 [])])):g r D bf (.code s::ar) .normal F n:=by refine g.aU (λk p b a=>?_) j;obtain⟨l,d⟩:=a.b0 (bX:=.J (cn W i (.nil q) 0 [])) (L:=⟨.nilFunc,[]⟩) (.refl _ _) rfl a ⟨λ_=>q,⟨rfl,by simp,by simp,rfl,rfl⟩,by simp,by simp,by simp⟩ E;exact⟨{k with m:=k.m++[⟨.nilFunc,[]⟩]},rfl,⟨b.size,b.defers.imp λ_ e=>e.mono d.ext,λo=>(b.aJ o).mono d.ext a.len⟩,l,d⟩
end
def FY(i:aa)(e g:Nat)(a:Nat->p N)(d b:N):Prop:=b=d∨(d=.val i/\b=.S m e g a)
def bc.fA{aM fa}{i}{bP}{ag}(r:bc (aM++[.J (cn W i bP k ag)]) b)(aw:ej i k T ag){t}{eL}{A o}{C lU:Nat->p N}(z:aM[t]?=h (.h eL A o C))(aU:fa=aM.set t (.h eL A o lU))(az:kr (c fa) fa=f)(ab:∀l,l<o->c (lU l)=c (C l))(Z:∀l,l<o->∀(w:Nat) (K:N),(lU l)[w]?=h K->∃y,(C l)[w]?=h y/\FY (c0 bP k) i k T y K):
  ∃s:a6,bc fa s/\eX b s/\(∀aj Q,bz (aM++[.J (cn W i bP k ag)]) b aj Q->hQ (c fa) Q=f->bz fa s aj Q)/\∀{n:p an} {x:a6},dg n x (aM++[.J (cn W i bP k ag)]) b->n.length<=c fa->dg n x fa s:=by
 have G:=(cQ.1 z).1;have aE:(aM++[an.J (cn W i bP k ag)])[c aM]?=h (.J (cn W i bP k ag)):=E
 obtain⟨L,cf,au,av,ao,S,aJ,aK⟩:=cn.fK aE T (λl g=>⟨aw.ep l g,λaT w y aV u aI=>by
  obtain⟨aW,aP,aQ⟩:=aw.b6 l g w y u
  grind⟩) b r
 obtain⟨D,F⟩:=r.b' (cf:=cf) (bi:=b.a) (ec:=.x) (cr:=⟨L.v,[]⟩) aE au rfl (bB _) (λ_ _ _=>rfl) (λj _ e ad=>ao j e ad) av S E rfl rfl rfl v;have O:(aM++[an.J (cn W i bP k ag)]).set (c aM) .x=aM++[.x]:=E;rw[O]at D F;have ax:(aM++[an.x])[t]?=h (.h eL A o C):=M;have aR:=D.len;have R:=bK (l:=b.m.set (c aM) ⟨L.v,[]⟩) (i:=t) M;generalize(b.m.set (c aM) ⟨L.v,[]⟩)[t]'_=sm at R;have H:=D.box t _ sm ax R;have ae:fK (.h eL A o C) sm (.h eL A o lU) sm:=⟨λ_=>rfl,bB _⟩
 have aS:(b.m.set (c aM) ⟨L.v,[]⟩).set t sm=b.m.set (c aM) ⟨L.v,[]⟩:=m4;obtain⟨aq,I⟩:=D.b' (cf:=cf) (bi:=b.a) (ec:=.h eL A o lU) (cr:=sm) ax R ae (bB _) (λ_ _ _=>rfl) (λ_ _ _ _=>rfl) (λ_ _ _ aG=>aG) S
  (λj e=>⟨.inl e,D.lt sm (b_ R) j e⟩) a a a (by
   rcases H with⟨dK,eJ⟩|⟨j,U,B,ak,dK,eJ,jS,V,X,ar,Y⟩
   .exact .inl ⟨dK,eJ⟩
   .refine .inr ⟨j,U,B,ak,dK,eJ,jS,V,X,⟨ar.len,λl g=>by rw[ab l g];exact ar.bI l g,λl g w K u=>?_⟩,Y⟩;obtain⟨y,aF,aA⟩:=Z l g w K u;obtain⟨aO,ah,ai⟩:=ar.rd l g w y aF;refine⟨aO,ah,?_⟩;rcases aA with rfl|⟨rfl,rfl⟩
    .exact ai
    grind[Rd.bk])
 have aD:(aM++[an.x]).set t (.h eL A o lU)=fa++[.x]:=M;rw[aD]at aq I;have J:=F.trans I;refine⟨_,aq.drop (bt:=[.x]) az,⟨a,av,λj e ad=>ao j (e L (b_ au)) ad,S,λj e=>?_⟩,λaj Q aL aa=>(aL.mono J.ext r.len).drop (bt:=[.x]) aa,λ{n x} aN ae=>(aN.trans (J.too5 r)).drop (bt:=[.x]) ae⟩;rcases e with e|⟨cr,aB,e⟩
 .exact .inl e
 have aH:=gV aB;grind
def bl.fA{P:aI}{d:Type}{I:aj P}{K}{args}{n}{b:d->z}{aM fa:d->p an}{W i k}{bP:d->fl}{ag:d->p aa}{l:Nat->p N}(M:bl I K args n b (λa=>aM a++[.J (cn W i (bP a) k (ag a))]))(ab:∀a,ej i k l (ag a))(Q){eL}{R r:Nat}{s:d->Nat->p N}{lU:Nat->p N}(ad:∀a,(aM a)[Q]?=h (.h eL R r (s a)))(X:∀a,fa a=(aM a).set Q (.h eL R r lU))(Z:∀a,kr (c (fa a)) (fa a)=f)(V:∀a,hQ (c (fa a)) (b a)=f)(Y:∀a,c n<=c (fa a))(ai:∀a g,g<r->c (lU g)=c (s a g))(ak:∀a g,g<r->∀(O:Nat) (S:N),(lU g)[O]?=h S->∃J,(s a g)[O]?=h J/\FY (c0 (bP a) k) i k l J S):bl I K args n b fa:=by refine⟨M.1,λae B D A U w y=>M.2 ae B D A U w λa x T ah C e o F=>?_⟩;obtain⟨E,t,j,u,v⟩:=o.fA (ab a) (ad a) (X a) (Z a) (ai a) (ak a);exact .aU j (y a x T E (C.mono j.mem) (u T _ e (V a)) t (v F (Y a)))
def Su(aR:bn P ad){parts}(u:t.op=.buildSlice o k parts){i}{T}(g:rY ad η o k parts.toList=h (i,T)){e}(s:bZ ad o=h e)(ae:e.desc=.slice W){ρ:aA->aa}(K:∀ar,bz n b (ρ ar) (η ar)):
  ∃r:p aa,e2 b.u i k (λe=>T.getD e []) r/\k<=16777216/\0<i/\(ac ρ t).run P b.a=.ok (.value (.slice (h ⟨b.a.heap.size,0,q⟩) k k)) (b.newRow W r).a/\(ac ρ t).events P b.a #[]=#[]:=by
 unfold rY at g;simp[s,ae]at g
 .skip
  cases w:bZ ad W with
  |none=>grind
  |some d=>
   simp[w]at g;cases A:af d.size 0 with
   |true=>grind
   |false=>
    simp[A]at g;cases G:ay (k*d.size) 16777216 with
    |false=>grind
    |true=>
     simp[G]at g;cases Z:pz η parts.toList with
     |none=>grind
     |some U=>
      simp[Z]at g;cases aq:rN (λi=>h (i*d.size,d.size)) U (aY (k*d.size) O.any)with
      |none=>grind
      |some D=>
       simp[aq]at g;cases H:h7 D with
       |none=>grind
       |some aF=>
        simp[H]at g;cases ab:rG d.size k aF with
        |none=>grind
        |some ai=>
         simp only[ab,eV,lI]at g;obtain⟨rfl,rfl⟩:=g;have aL:d.size≠0:=λaB=>by rw[aB]at A;cases A
         have aD:=ff G;obtain⟨ao,l,Nr,aH,aI,a,ag,aJ,aK⟩:=(aR W d w).de;have an:l.cells.size=d.size:=by have:=eM List.length ag;grind
         have ak:∀j∈l.cells.toList,dX j=f:=by intro j L;have ah:lJ j∈l.cells.toList.map lJ:=ho.2 ⟨j,L,rfl⟩;rw[ag]at ah;obtain⟨aM,_,I⟩:=ho.1 ah;exact(Rd.fs (bE:=b.u) I.symm).cell
         have z:∀aE,(∀j∈(aC aE).map (λv=>l.cells[v % l.cells.size]!),dX j=f):=by grind[Nat.mod_lt]
         have au:∀B:p aa,(∀j∈B,dX j=f)->bN n b B (aY (c B) O.any):=by
          intro B;induction B with
          |nil=>intro _;trivial
          |cons j B N=>intro L;exact⟨L j E,N λaG x=>L aG M⟩
         obtain⟨R,S⟩:=yW (n:=n) (b:=b) K Z;have aN:bN n b ((Array.range (k*d.size)).map (λv=>l.cells[v % l.cells.size]!)).toList (aY (k*d.size) O.any):=by have:=au _ (z (k*d.size));simpa using this
         obtain⟨r,V,X⟩:=ya (n:=n) (b:=b) (vO:=λi=>h (i*d.size,d.size)) (λi aO J=>J) aq R S aN;have nM:=rI H X;obtain⟨az,C⟩:=BR (bE:=b.u) (B:=r.toList) ab (by simpa using nM.cN) nM.eZ;refine⟨r.toList,C,fM (uA k y) aD,by omega,?_,?_⟩
         rotate_left
         .exact Q_
         have x:=(aR o e s).run_underlying (Q:=b.a);rw[ae]at x;have av:(zeroValue W).run P b.a=.ok l b.a:=NO;have F:Instr.fill (λi=>h (i*d.size,d.size)) ((Array.range (k*d.size)).map (λv=>l.cells[v % l.cells.size]!)) (parts.map λ(e,Y)=>(e,ρ Y)).toList=h r:=by simpa using V
         by_cases ax:k*d.size=0
         .have aw:k=0:=by grind[Nat.mul_eq_zero]
          subst aw;have aj:Array.range 0=#[]:=rfl;simp[aj]at F;simp[ac,u,Instr.buildSlice,x,(aR W d w).bc,aj,F,Go.newRow,a6.newRow]
         rw[show ac ρ t=(do pure (.value (<-Instr.buildSlice o k (parts.map λ(e,Y)=>(e,ρ Y))))) by simp[ac,u]];simp only[Instr.buildSlice,cK,x,c7,(aR W d w).bc,ax,dn,av,show¬k*d.size>2 ^ 24 by omega,sF,F,d9];simp[Go.newRow,a6.newRow]
section
variable {r:aj P}
def g.gX(aR:bn P ad){parts}(C:t.op=.buildSlice o k parts){i}{T}{e}(v:bZ ad o=h e)(M:e.desc=.slice W)(s:rY ad (bG F) o k parts.toList=h (i,T))(S:t.guard=q)(V:fg D t.dst=f)(w:g r D bf (.ae all bt::ar) .normal (gb t.dst (cD (c n) (.S k i 0 k)) F) (n++[.h W i k (λe=>T.getD e [])])):g r D bf (.ae all (t::bt)::ar) .normal F n:=by
 refine g.cF (ι:=Unit) (λ_=>cD (c n) (.S k i 0 k)) (λ_=>n++[.h W i k (λe=>T.getD e [])]) S V (λb A O j=>?_) λ_=>w;obtain⟨p,y,I,E,B,K⟩:=Su (n:=n) (b:=b) (ρ:=A.eval) aR C s v M (λX=>eN O X);have aE:ew (n++[.h W i k (λe=>T.getD e [])]) {b with a:=(b.newRow W p).a,m:=b.m++[⟨.slice (h ⟨b.a.heap.size,0,q⟩) 0 k,[b.a.heap.size]⟩]} (.h W i k (λe=>T.getD e [])) ⟨.slice (h ⟨b.a.heap.size,0,q⟩) 0 k,[b.a.heap.size]⟩:=by
  refine .inr ⟨b.a.heap.size,k,p,[],a,by rw[h5];exact lZ b.a _,by rw[h5];exact y.len,bB _,by omega,y,λt=>?_⟩;cases l:b.u b.a.heap.size t with
  |none=>rfl
  |some U=>have:=j.block l;omega
 have z:bc n {b with a:=(b.newRow W p).a}/\cP n b n {b with a:=(b.newRow W p).a}:=
  j.c1 (by simp[a6.newRow]) (λu d=>iV b.a _ d) (λu d t=>rfl) (λu d t U l=>by have:=j.block l;omega) a a a
 obtain⟨R,Q⟩:=z.1.b0 z.2 rfl j aE (λu d=>by simp at d;subst d;exact⟨bB _,by simp[a6.newRow]⟩);refine⟨(),.value (.slice (h ⟨b.a.heap.size,0,q⟩) k k),{b with a:=(b.newRow W p).a,m:=b.m++[⟨.slice (h ⟨b.a.heap.size,0,q⟩) 0 k,[b.a.heap.size]⟩]},_,B,.inl rfl,?_,R,Q,by rw[K];exact .nil⟩;refine⟨.slice (h ⟨b.a.heap.size,0,q⟩) 0 k,⟨_,_,k,k,a,bB _,by simp,by omega,a,λ_=>⟨_,a,by simp⟩⟩,by simp,λY J N x s=>?_⟩;simp at s;obtain⟨_,_,rfl,_⟩:=s;exact⟨bB _,λ_=>⟨_,by show(b.m++[_])[c n]?=_;rw[<-j.len,wS],a⟩⟩
end
def u3(n j k:Nat)(g:Nat->p N):O->O×p Prop
 |.R b (.S i a e d)=>match af b n with
  |true=>match af a j with
   |true=>(.c (.S m j d (hF e g)),[i=k,e+d<=k])
   |false=>(.R b (.S i a e d),[])
  |false=>(.R b (.S i a e d),[])
 |l=>(l,[])
def pd(g e i:Nat)(a:Nat->p N):p O->p O×p Prop
 |[]=>([],[])
 |j::n=>match u3 g e i a j with
  |(b,k)=>match pd g e i a n with
   |(d,l)=>(b::d,gJ k l)
def B4(i g j:Nat)(a:Nat->p N):E1->E1×p Prop
 |.aq k=>match u3 i g j a k with|(b,e)=>(.aq b,e)
 |.agg d=>match pd i g j a d with|(l,e)=>(.agg l,e)
def B3(g e i:Nat)(a:Nat->p N):z->z×p Prop
 |.q k=>match B4 g e i a k with|(b,j)=>(.q b,j)
 |d=>(d,[])
def u4(e d g:Nat)(a:Nat->p N):bJ->bJ×p Prop
 |[]=>([],[])
 |(o,j)::n=>match B3 e d g a j with
  |(i,k)=>match u4 e d g a n with
   |(b,l)=>((o,i)::b,gJ k l)
def iM(g k l:Nat)(b:Nat->p N):Nat->p an->p an×p Prop
 |_,[]=>([],[])
 |j,d::s=>match iM g k l b (j+1) s with
  |(a,i)=>match af j g with
   |true=>(.x::a,i)
   |false=>match d with
    |.cells n e=>match pd g k l b e with|(o,r)=>(.cells n o::a,gJ r i)
    |d=>(d::a,i)
section
variable {b4:a6}{W i:Nat}
structure mf(n:p an)(b:a6)(d i k:Nat)(T:Nat->p N)(ao:p an)(b4:a6):Prop where
 a7:∀ab x,cA n b ab x->cA ao b4 ab x
 e0:∀ab gj t A,cA n b ab (.R d (.S k gj t A))->gj=i->t+A<=k->Rd b4.u ab (.S m i A (hF t T))
def mf.cQ(g:mf n b d i k T ao b4){ab}{x}(l:U (u3 d i k T x).2)(j:cA n b ab x):cA ao b4 ab (u3 d i k T x).1:=by
 unfold u3 at l⊢;split
 .rename_i r C p t A;split
  .rename_i a;split
   .rename_i e;simp[a,e]at l;have a:=dp a;have e:=dp e;subst a;obtain⟨rfl,o⟩:C=k/\t+A<=k:=l;exact g.e0 ab _ _ _ j e o
   exact g.a7 ab _ j
  exact g.a7 ab _ j
 exact g.a7 ab _ j
def mf.gw(j:mf n b d i k T ao b4):∀{B:p aa}{a:p O},U (pd d i k T a).2->bN n b B a->bN ao b4 B (pd d i k T a).1
 |[],[],_,_=>trivial
 |[],_::_,_,e=>e.elim
 |_::_,[],_,e=>e.elim
 |o::B,l::a,g,e=>by simp only[pd]at g⊢;rw[U.Z]at g;exact⟨j.cQ g.1 e.1,j.gw g.2 e.2⟩
def mf.q(e:mf n b d i k T ao b4){l}(a:U (B4 d i k T l).2)(g:ey n b ab l):ey ao b4 ab (B4 d i k T l).1:=by
 cases l with
 |aq r=>exact e.cQ a g
 |agg o=>obtain⟨B,p,j⟩:=g;exact⟨B,p,e.gw a j⟩
def mf.dc(l:mf n b d i k T ao b4)(a:c b.m=c n)(j:fm n b ao b4){ab}{I}(g:U (B3 d i k T I).2)(e:bz n b ab I):bz ao b4 ab (B3 d i k T I).1:=by
 cases I with
 |q p=>exact l.q g e
 |Q o=>exact e.mono j a
 |any=>trivial
def mf.b7(r:mf n b d i k T ao b4)(g:c b.m=c n)(p:fm n b ao b4):∀{F:bJ}{o:Nat}{l:aa},U (u4 d i k T F).2->bz n b l (look F o)->bz ao b4 l (look (u4 d i k T F).1 o)
 |[],_,_,_,_=>trivial
 |(s,t)::u,o,l,j,a=>by
  simp only[u4]at j⊢;rw[U.Z]at j;simp[look]at a⊢;cases e:af s o with
  |true=>rw[e]at a;exact r.dc g p j.1 a
  |false=>rw[e]at a;exact r.b7 g p j.2 a
theorem B1:∀{n:p an}{e w:Nat},(iM d i k T e n).1[w]?=match n[w]? with
  |none=>q
  |some a=>h (match af (e+w) d with|true=>.x|false=>match a with|.cells j b=>.cells j (pd d i k T b).1|a=>a)
 |[],e,w=>by simp[iM]
 |a::g,e,0=>by simp[iM,ki,mr];grind
 |a::g,e,w+1=>by have l:=B1 (n:=g) (e:=e+1) (w:=w);have o:e+1+w=e+(w+1):=y;rw[o]at l;simp[iM,n8];grind
def HW:∀{n:p an}{e w:Nat}{g:av}{a:p O},U (iM d i k T e n).2->n[w]?=h (.cells g a)->e+w≠d->U (pd d i k T a).2
 |[],e,w,_,_,_,b,_=>by grind
 |o::l,e,0,g,a,j,b,r=>by simp at b;subst b;simp[iM]at j;grind[Nat.eq_of_beq_eq_true,U.Z]
 |o::l,e,w+1,g,a,j,b,r=>by simp at b;refine HW (n:=l) (e:=e+1) (w:=w) ?_ b y;simp[iM]at j;grind[U.Z]
theorem B2:∀{n:p an}{e:Nat},(iM d i k T e n).1.length=c n
 |[],_=>rfl
 |g::a,e=>by simp[iM];have b:=B2 (n:=a) (e:=e+1);grind
def bc.bF(s:bc n b)(aE:n[d]?=h (.h W i k T))(aq:U (iM d i k T 0 n).2):
  ∃p:a6,p.a=b.a/\bc (iM d i k T 0 n).1 p/\cP n b (iM d i k T 0 n).1 p/\mf n b d i k T (iM d i k T 0 n).1 p:=by
 have z:d<c n:=(cQ.1 aE).1;have ae:b.m[d]?=h (b.m[d]'(by rw[s.len];exact z)):=bK _;generalize b.m[d]'M=L at ae;have a0:=s.box _ _ L aE ae;obtain⟨cf,av,aw,ax,az⟩:∃cf:Mem,(∀l e r,b.u l e=h r->cf l e=h r)/\(∀l,l∉L.al->∀e,cf l e=b.u l e)/\(∀l e r,cf l e=h r->b.a.cell? ⟨l,e,q⟩=h r) /\
   (∀r o e I,cA n b r (.R d (.S k o e I))->o=i->e+I<=k->Rd cf r (.S m i I (hF e T))):=by
  rcases a0 with⟨rfl,rfl⟩|⟨l,ak,B,a9,rfl,hw,aU,aV,aT,aK,a5⟩
  .refine⟨b.u,λ_ _ _ S=>S,λ_ _ _=>rfl,s.mem,λr o e I J t aG=>?_⟩;obtain⟨au,⟨aP,aj,Z,ak,X,u,w,G,aI,aN⟩,_,aM⟩:=J;grind[Rd.dL]
  let cf:Mem:=λA e=>if A=l then B[e]? else b.u A e;have aO:∀A e r,b.u A e=h r->cf A e=h r:=λA e r X=>by grind
  refine⟨cf,aO,λA aS e=>M,λA e r X=>?_,λr o e I J t aG=>?_⟩
  .by_cases t:A=l
   .subst t;simp[cf,dJ]at X;simp[aL,hw];grind
   simp[cf,t,dn]at X;exact s.mem A e r X
  subst t;obtain⟨au,⟨aP,aj,Z,a4,X,u,w,G,aI,aN⟩,_,aM⟩:=J;obtain⟨cr,D,aH⟩:=(aM _ _ _ _ aE).2 rfl;rw[ae]at D;cases D;rw[aI]at aH;cases aH;rw[X];have ag:∀j,j<I->∀F R,(hF e T j)[F]?=h R->∃aB,B[(e+j)*o+F]?=h aB/\Rd b.u aB R:=λj g F R x=>by rw[yN]at x;exact aK.rd (e+j) y F R x
  refine .S l (e*o) (λj F=>(B[(e+j)*o+F]?).getD K) u y E (λj g=>by rw[yN];exact aK.bI _ y) (λa7=>M) (λj g F R x=>M) (λj g F R x=>?_);obtain⟨aB,aD,aF⟩:=ag j g F R x;rw[aD];exact aF.mono aO
 obtain⟨N,aA⟩:=s.b' (cf:=cf) (bi:=b.a) (ec:=.x) (cr:=⟨L.v,[]⟩) aE ae v (bB _) (λ_ _ _=>rfl) (λl _ V e=>aw l V e) av ax E rfl rfl rfl v;let p:a6:=⟨b.m.set d ⟨L.v,[]⟩,cf,b.a,b.own⟩
 have ag:∀j Q,n[j]?=h Q->j≠d->(iM d i k T 0 n).1[j]?=h (match Q with|.cells W aa=>.cells W (pd d i k T aa).1|l=>l):=λj Q g aW=>by grind[B1,Nat.eq_of_beq_eq_true]
 have aJ:(iM d i k T 0 n).1[d]?=h .x:=by
  rw[B1,aE];have:af (0+d) d=f:=by rw[cZ];exact sG d
  grind
 have r8:cP (n.set d .x) p (iM d i k T 0 n).1 p:=by
  refine⟨bB _,λ_ _ _=>rfl,λ_ _ _ S=>S,λ_ _ _ _=>rfl,λcr D l V=>.inr ⟨cr,D,V⟩,λj Q cr g D=>?_,a,a,a,a⟩;by_cases t:j=d
  .subst t;rw[ip z]at g;cases g;exact⟨.x,cr,aJ,D,a⟩
  rw[kJ (λS=>t S.symm)]at g;refine⟨_,cr,ag j Q g t,D,?_⟩;cases Q<;>first|exact fK.refl _ _|rfl
 have ad:=aA.trans r8;have ab:mf n b d i k T (iM d i k T 0 n).1 p:=⟨λr aP J=>J.mono ad.ext s.len,λr o e I J t aG=>az r o e I J t aG⟩
 refine⟨p,a,⟨N.mem,by rw[B2,<-s.len];grind,λj Q cr g D=>?_,N.a3,N.lt,N.own⟩,ad,ab⟩;by_cases t:j=d
 .subst t;rw[aJ]at g;cases g;trivial
 have O:j<c n:=by grind[B2]
 have ah:=bK O;have a2:b.m[j]?=h cr:=M;have a3:=s.box j _ cr ah a2;have Y:=N.box j _ cr (by rw[kJ (λS=>t S.symm)];exact ah) D;have C:=ag j _ ah t;rw[g]at C;have C:=uG C;generalize aR:n[j]=ai at *;cases ai with
 |cells eL aa=>
  subst C;obtain⟨l,B,u,w,G,aN⟩:=a3;obtain⟨A,aX,H,aQ,_,a1⟩:=Y;rw[u]at H;cases H;exact⟨l,B,u,w,ab.gw (HW aq ah y) G,a1⟩
 |r=>subst C;exact Y
 |J=>subst C;exact Y
 |x=>subst C;trivial
 |loop a' a_ J=>
  subst C;obtain⟨ar,tmps,fn,an,u,w,G,aN,ao⟩:=Y;exact⟨ar,tmps,fn,an,u,w,G,λa8=>(aN a8).mono r8.ext N.len,ao⟩
 |bo=>subst C;exact Y
 |h=>subst C;exact Y
end
section
variable {r:aj P}{dI:bJ}
def g.bF(d){W i k}{a:Nat->p N}{Y cT}(u:c' d n=h (.h W i k a))(C:u4 d i k a F=(dI,Y))(A:iM d i k a 0 n=(ao,cT))(w:U Y)(E:U cT)(v:g r D bf (.code s::ar) .normal dI ao):g r D bf (.code s::ar) .normal F n:=by refine g.aU (λI x l e=>?_) v;obtain⟨y,t,b,j,z⟩:=e.bF (eo u) M;rw[A]at b j z;refine⟨y,t,⟨l.size,l.defers.imp λ_ B=>B.mono j.ext,λo=>?_⟩,b,j⟩;have:=z.b7 e.len j.ext (F:=F) (o:=o) M (l.aJ o);grind
end
def bc.e1{aM}{i}{bP}{ag}(j:bc (aM++[.J (cn W i bP k ag)]) b)(u:ej i k T ag)(I:kr (c aM) aM=f):
  ∃g:a6,bc aM g/\eX b g/\Rd g.u (c0 bP k) (.S m i k T)/\∀{e:p an} {l:a6},dg e l (aM++[.J (cn W i bP k ag)]) b->e.length<=c aM->dg e l aM g:=by
 have aE:(aM++[an.J (cn W i bP k ag)])[c aM]?=h (.J (cn W i bP k ag)):=E
 obtain⟨L,cf,B,A,x,y,U,R⟩:=cn.fK aE T (λw n=>⟨u.ep w n,λS Q D V s N=>by
  obtain⟨X,Y,O⟩:=u.b6 w n Q D s
  grind⟩) b j
 obtain⟨z,o⟩:=j.b' (cf:=cf) (bi:=b.a) (ec:=.x) (cr:=⟨L.v,[]⟩) aE B rfl (bB _) (λ_ _ _=>rfl) (λr _ d t=>x r d t) A y E rfl rfl rfl v;have C:(aM++[an.J (cn W i bP k ag)]).set (c aM) .x=aM++[.x]:=E;rw[C]at z o;refine⟨_,z.drop (bt:=[.x]) I,⟨a,A,λr d t=>x r (d L (b_ B)) t,y,λr d=>?_⟩,R,λ{e l} K J=>(K.trans (o.too5 j)).drop (bt:=[.x]) J⟩;rcases d with d|⟨cr,F,d⟩
 .exact .inl d
 have M:=gV F;grind
def bl.e1{P:aI}{b:Type}{C:aj P}{D}{args}{n}{aM:b->p an}{W i}{k:b->Nat}{d:b->fl}{l:b->p aa}{T:b->Nat->p N}(E:bl C D args n (λa=>cN (c0 (d a) (k a))) (λa=>aM a++[.J (cn W i (d a) (k a) (l a))]))(K:∀a,ej i (k a) (T a) (l a))(M:∀a,kr (c (aM a)) (aM a)=f)(J:∀a,c n<=c (aM a)):bl C D args n (λa=>ax (.S m i (k a) (T a))) aM:=by refine⟨E.1,λQ B y w I t v=>E.2 Q B y w I t λa u F R x e j A=>?_⟩;obtain⟨z,o,g,r,s⟩:=j.e1 (K a) (M a);have O:F=c0 (d a) (k a):=Rd.bk e;exact .aU g (v a u F z (x.mono g.mem) (by rw[O];exact r) o (s A (J a)))
section
variable {r:aj P}
def iD.cK{y}{bh}{res}{bt:ι->p an}(o:iD r y bh n res λa=>aM a++bt a)(g:∀a,c (aM a)=c n)(I:∀a (k:Nat)(w:an),(aM a)[k]?=h w->Ai (c (aM a)) n k w):iD r y bh n res aM:=by
 intro K B k D e i;obtain⟨fn,tmps,A,x,s,t,E⟩:=o K B k D e i;refine⟨fn,tmps,A,x,s,t,λz C l u=>E z C l λa j b v=>?_⟩;have J:eX j (j.cut (c (aM a))):=⟨rfl,λ_ _ _ o=>o,λ_ _ _=>rfl,b.mem,λx d=>d.imp id λ⟨L,F,d⟩=>⟨L,gV F,d⟩⟩
 exact .aU J (u a _ (e.g4 (g a).symm (I a) b) (v.drop (Nat.le_of_eq (g a).symm)))
end
section
variable {r:aj P}
def g.e3(o d){ah}{gK}(i:look F o=aH d 0)(a:c' d n=h (.cells W ah))(e:h7 ah=h gK)(b:g r D bf (.ae all bt::ar) .normal ((o,ax (.O gK))::F) (dc.cr d .x n)):g r D bf (.ae all bt::ar) .normal F n:=by grind[mV,g.hl,bY.freeze]
def iC.cons{a}{o}{b}(k:look F o=b)(g:iC F a):iC F ((o,b)::a):=by
 intro j l n i d;simp only[look];cases e:af o i with
 |false=>exact g _ _ _ _ d
 |true=>
  exact ug
end
section
variable {r:aj P}
def Se{j:aK}{i}{x}{bt}{X}(I:j.kind≠.early)(w:aD[e]?=h t)(M:aU t (yielded aD x.tmps)=f)(p:bc n b)(Y:∀d,bc n d->(ac x.eval t).run P d.a=.ok (.enter X B.toArray) d.a/\dx d ((ac x.eval t).events P d.a #[]))(aj:bl r X cV dh res aM)(ax:b6 n b B (gA aP cV))(aq:ha (c aP) cV=f)(C:dz aP n=h dh)(K:eu dh=f)(ab:∀g,eu (aM g)=f)(v:e_ aP=f)(u:∀g,c aP<=c (aM g))(E:∀g A az,bz (dc aP (aM g) n) az A (e' (aP++gS (c n) (c (aM g)-c aP)) (res g))->bc (dc aP (aM g) n) az->dg n b (dc aP (aM g) n) az->cd r br (G (j.M (x.put t.dst A) (.inRegion aD bt::i)) ah) az):
  cd r br (G (j.M x (.inRegion aD (e::bt)::i)) ah) b:=by obtain⟨_,O⟩:=aj;refine .next a λd y=>?_;have l:=r.bN y;have k:=p.rely l;obtain⟨z,S⟩:=vZ (kR:=d.m) C k.len;obtain⟨W,o⟩:=k.sub C S K v;have au:=ax.mono l.aQ.ext p.len;have aa:b6 dh {d with m:=z,own:=oK d z} B cV:=(au.sub (b:=d) C S aq).mono (n:=dh) (b:={d with m:=z}) (ao:=dh) (az:={d with m:=z,own:=oK d z}) ⟨λ_ _ _ E=>E,λaA Z L aE F=>⟨Z,L,aE,F,.refl _ _⟩⟩ W.len;refine⟨_,d,_,tJ w M I (Y d k).1,⟨⟨n,n,k,k,.refl _ _⟩,dx.seen (Y d k).2⟩,.aU o (O _ B aa W br _ λg ar A av J H Q ai=>?_)⟩;refine uN (ah:=ah) (s:=j.M x (.inRegion aD (e::bt)::i)) Q J λaw T=>?_;have V:=Q.rely T;have U:=ai.trans T.aQ;obtain⟨R,ag,ad,an,ae,aN,ak,N⟩:=frame k C S v (ab g) V U (u g) (H.mono T.aQ.ext Q.len);refine .aU (eX.cS k V U ag aN ak N) ?_;have D:=qu (j:=j) (x:=x) (i:=i) aD e bt A;rw[w]at D;simp[n6]at D;rw[D];exact E g A R ad an (l.aQ.trans ae)
def ee.cell(aR:bn P ad){d o C}{W}{ab}{e}(s:c' d n=h (.J (ee C W ab)))(g:bZ ad o=h e)(x:dX ab=f)(w:hi e [.c (.val ab)]=h (.aq (.c (.val ab)))){b}(bQ:bc n b):
  (loadVar o ⟨C,0,q⟩).run P b.a=.ok ab b.a/\dx b ((loadVar o ⟨C,0,q⟩).events P b.a #[]):=by
 have aE:=eo s;have A:d<c b.m:=h2;have p:=bK A;generalize b.m[d]=L at p;obtain⟨z,⟨D,r,R⟩,I,J,N⟩:=bQ.box d _ L aE p;have u:=I C _ r;have O:=(J C).2 M
 have F:bN n b [ab] [.c (.val ab)]:=⟨Rd.val x,v⟩;obtain⟨K,E,y⟩:=tF (b:=b) (n:=n) (P:=P) (aR o e g) (j:=C) (off:=0) (B:=[ab]) (ah:=[.c (.val ab)]) (ai:=.aq (.c (.val ab))) (λt S i=>by
  simp[aL,u]
  grind) F w
 have Q:=Rd.bk y;subst Q;refine⟨E,λl a=>?_⟩;obtain⟨t,i,rfl⟩:=pf (aR o e g) (k:=1) (λt i=>⟨K,by simp[aL,u];grind⟩) (by have:=sb w;grind) l a;exact qr (b_ p) O
def aV.eF(aR:bn P ad){o C}(d){l}{e}(K:oT all F t=f)(u:t.op=.load o l)(N:bG F l=ax (.val (.pointer (h ⟨C,0,q⟩))))(s:c' d n=h (.J (ee C W ab)))(p:bZ ad o=h e)(A:dX ab=f)(M:hi e [.c (.val ab)]=h (.aq (.c (.val ab)))):
  aV r D all t F n (ax (.val ab)) n:=by
 intro U B x k Q S E O T w j v i;refine rz j v (j7 K _ _ _ x) λz y=>?_;have b:=k.rely y;have g:=eN x l;rw[N]at g;have g:=Rd.bk (b8 g);obtain⟨I,J⟩:=ee.cell aR s p A M b;have R:ac B.eval t=(do pure (.value (<-loadVar o ⟨C,0,q⟩))):=by simp[ac,u,g,Instr.loadAt,Instr.sureAddr]
 refine⟨.value ab,z,ab,by simp_all,.inl a,⟨⟨n,n,b,b,.refl _ _⟩,?_⟩,i ab z (Rd.val A) b y.aQ⟩;simp_all
def Nn(o)(a)(b):Builtin.ssaWrapNilChk_ #[o] o #[.pointer (h a),strVal "",strVal b]=pure (.pointer (h a)):=rfl
def nY(P:aI)(g:p an)(b:av)(e:aa)(name:String)(i:a4)(j:aa):Prop:=∀a,bc g a->∀d,(Go.method (d+1) b e name).run P a.a=.ok (i,j) a.a/\dx a ((Go.method (d+1) b e name).events P a.a #[])
def nY.ptr{g}{name}{k}{e}{A}{r}(l:P.info? g=h e)(j:e.methods.find? (·.name==name)=h A)(o:A.path=#[])(p:A.func=h (k,f))(s:P.underlying g=h (.pointer r)):nY P n g ab name k ab:=by
 intro u t v;have i:∀d,(typeInfo g).run P d=.ok e d:=λd=>by simp[typeInfo,l]
 have b:∀d,(underlying g).run P d=.ok (.pointer r) d:=λd=>by simp[underlying,s]
 unfold Go.method;constructor
 .simp only[cK,i,j,o,p,c7,follow,d9,receiverAt,b];rfl
 have:∀a,((do pure (k,<-receiverAt g (.val ab) f (if A.path.isEmpty then h ((name.splitOn ".").getLastD name)else q))):Sem (a4×aa)).events P u.a a=a:=λa=>by simp[receiverAt,b,Place.get]
 simp[aG,cK,i,j,o,p,c7,aJ,follow,d9,Sem.events_pure,receiverAt,b,events_typeInfo,events_underlying,Place.get];exact .nil
def nY.deref(aR:bn P ad){C}{g}{name}{u}{e}{A}{w}(r:P.info? g=h e)(k:e.methods.find? (·.name==name)=h A)(t:A.path=#[])(v:A.func=h (u,m))(D:P.underlying g=h (.pointer o))(s:c' d n=h (.J (ee C W ab)))(y:bZ ad o=h w)(E:dX ab=f)(B:hi w [.c (.val ab)]=h (.aq (.c (.val ab)))):nY P n g (.pointer (h ⟨C,0,q⟩)) name u ab:=by
 intro J p F;have i:∀b,(typeInfo g).run P b=.ok e b:=λb=>by simp[typeInfo,r]
 have j:∀b,(underlying g).run P b=.ok (.pointer o) b:=λb=>by simp[underlying,D]
 obtain⟨x,z⟩:=ee.cell aR s y E B p;have I:A.path.isEmpty=f:=M;unfold Go.method;constructor
 .simp only[cK,i,k,t,v,c7,follow,d9,receiverAt,j,Place.get];simp[Nn,asAddr,x]
 intro l a;refine z l ?_;simp[aG,cK,i,k,t,v,c7,aJ,follow,d9,Sem.events_pure,receiverAt,j,events_typeInfo,events_underlying,Place.get]at a;simpa[Nn,asAddr,x]using a
def CF{a:aA->aa}{l}{b}{name}(e:t.op=.call {callee:=.invoke l name,args:=b,argTypes:=du}){j}{d}(n:a l=.iface j d):
  ac a t=callMethod (.iface j d) name (b.toList.map a).toArray:=by
 have g:#[a l]++b.map a=(.iface j d::b.toList.map a).toArray:=M;have i:(Value.iface j d::b.toList.map a).toArray.extract 1 (Value.iface j d::b.toList.map a).toArray.size=(b.toList.map a).toArray:=M;have k:ac a t=invoke (.fn (.method name) #[]) (#[a l]++b.map a):=by simp[ac,e];rfl
 rw[k,g];show callMethod (.iface j d) name ((Value.iface j d::b.toList.map a).toArray.extract 1 (Value.iface j d::b.toList.map a).toArray.size)=_;rw[i]
def g.ds{an}{name}{au}{aA z}(aj:bl r au cV dh res aM)(aP)(V:nY P n an aA name au z)(H:oT all F t=f){l}{u}(y:t.op=.call {callee:=.invoke l name,args:=u,argTypes:=du})(aa:bG F l=ax (.cg an (.val aA)))(Y:dX z=f)(aQ:la (ax (.val z)::u.toList.map (bG F))=gA aP cV)(aE:ha (c aP) cV=f)(aN:dz aP n=h dh)(X:eu dh=f)(aB:∀i,eu (aM i)=f)(W:e_ aP=f)(aF:∀i,ay (c aP) (c (aM i))=f)(R:fg D t.dst=f)(aL:∀i,g r D bf (.ae all bt::ar) .normal (gb t.dst (e' (aP++gS (c n) (c (aM i)-c aP)) (res i)) F) (dc aP (aM i) n)):g r D bf (.ae all (t::bt)::ar) .normal F n:=by
 intro b E N k aH ab v aG idx w d S;cases idx with
 |nil=>exact d.elim
 |cons aX idx=>
 have O:=eN N l;rw[aa]at O;have O:=b8 O;generalize aq:E.eval l=aU at O;cases O with
 |@cg _ aT _ K aK=>
  have Z:=Rd.bk K;subst Z;obtain⟨fn,G,a,aW⟩:=aj.1;have aw:fn.name≠ "runtime.NumGoroutine":=M;have av:fn.body≠q:=M;obtain⟨ae,ak⟩:∃ae,P.types.size+Made.depth=ae+1:=⟨P.types.size+Made.depth-1,by exact cU⟩
  have az:∀s,(program:Sem aI).run P s=.ok P s:=λs=>by simp
  have aV:∀s j,(program:Sem aI).events P s j=j:=λs j=>by simp
  have aO:b6 n b (z::u.toList.map E.eval) (gA aP cV):=by rw[<-aQ];exact uY (n:=n) (b:=b) ⟨Rd.val Y,m' (eN N) u.toList⟩
  refine Se (aP:=aP) w d.1 (j7 H _ _ _ N) k (B:=z::u.toList.map E.eval) (λah aD=>?_) aj aO aE aN X aB W (λi=>ff (aF i)) λi aU ag o x p=>?_
  .obtain⟨ao,ad⟩:=V ah aD ae;constructor
   .rw[CF y aq];simp[callMethod,az,ak,ao,callFunc,G,aw,av]
   intro J e;refine ad J ?_;rw[CF y aq]at e;simpa[callMethod,az,aV,ak,ao,callFunc,G,aw,av]using e
  refine aL i ag _ ?_ x aH ab v aG idx w d.2 λL C ai I aR aJ Q A=>S L C ai I aR aJ Q (p.trans A);cases T:t.dst with
  |none=>exact N.mono p k.len
  |some aS=>exact(N.mono p k.len).put (lf R aS T) o
def a1.dS{l}(g:t.op=.nilCheck l){i}(j:η l=ax (.val (.pointer (h i)))):a1 P t η n (ax (.val (.pointer (h i)))) n:=by refine .aZ λo d k b=>?_;have a:=b l;rw[j]at a;have e:=Rd.bk (b8 a);exact⟨d l,by simp[ac,g,e],a,by simp[ac,g,e]⟩
def a1.e_(aR:bn P ad){l}(u:t.op=.load o l){cap ae i}{ag}{z}{ai}(F:η l=ax (.val (.pointer (h ⟨j,off,q⟩))))(az:off=e*i+ae)(D:n[d]?=h (.J (cn W i (.row j cap) k ag)))(ah:ej i k T ag)(y:bZ ad o=h z)(Q:hi z ((f_ ae (T e)).map O.c)=h ai)(ab:e<k):a1 P t η n (.q ai) n:=by
 refine .dy λb I bQ E=>?_;have G:=E l;rw[F]at G;have G:=Rd.bk (b8 G);have ao:d<c b.m:=h2;have B:=bK ao;generalize b.m[d]=L at B;obtain⟨aj,a,an,H,S⟩:=bQ.box d _ L D B;obtain⟨av,aA,X,aw⟩:=cn.lookup a;have Z:=(H j).2 M;have au:=an j _ X;let C:Nat->aa:=λg=>ag.getD (e*i+g) K;have J:∀g s,(f_ ae (T e))[g]?=h s->ag[e*i+(ae+g)]?=h (C (ae+g))/\Rd b.u (C (ae+g)) s:=by intro g s p;rw[rK,p_]at p;obtain⟨v,aq,ar⟩:=ah.b6 e ab (ae+g) s p;grind
 have aN:=D1 (n:=n) (b:=b) (C:=C) (bh:=f_ ae (T e)) (A:=ae) (λg s p=>(J g s p).2);have R:∀g v,((aC (c (f_ ae (T e)))).map λg=>C (ae+g))[g]?=h v->b.a.cell? ⟨j,off+g,q⟩=h v:=by
  intro g v p;simp[nf]at p;by_cases U:g<c (f_ ae (T e))
  .simp[U]at p;subst p;have ak:=(J g _ (bK U)).1;simp[aL,au];grind
  grind
 obtain⟨v,V,Y⟩:=tF (b:=b) (n:=n) (P:=P) (aR o z y) (j:=j) (off:=off) (ai:=ai) R aN Q;have w:ac I t=(do pure (.value (<-loadVar o ⟨j,off,q⟩))):=Rj;refine⟨v,by rw[w];simp[V],Y,λx r=>?_⟩;rw[w]at r;have N:x∈(loadVar o ⟨j,off,q⟩).events P b.a #[]:=by simpa[V]using r
 obtain⟨g,p,rfl⟩:=pf (aR o z y) (k:=c (f_ ae (T e))) (λg p=>⟨_,R g (C (ae+g)) M⟩) (by have:=sb Q;grind) x N;exact qr (b_ B) Z
def a1.j5(aR:bn P ad){l}(y:t.op=.slice o l q (h X) q){e}(D:bZ ad o=h e)(I:e.desc=.slice W)(J:bZ ad W=h a5){cap}{kd}{A}(N:η l=ax (.val (.slice (h ⟨j,0,q⟩) k cap)))(K:η X=ax (.int kd A))(z:k<=cap)(O:0<=A)(v:A<=k):a1 P t η n (ax (.val (.slice (h ⟨j,0,q⟩) A.toNat cap))) n:=by
 refine .aZ λb s C d=>?_;have i:=d l;rw[N]at i;have i:=Rd.bk (b8 i);have p:kM η q=h q:=rfl;have B:kM η (h X)=h (h A):=by simp[kM,K]
 have r:U (jl k q (h A)):=⟨O,v⟩;obtain⟨w,R,M⟩:=vW (P:=P) (ks:=f) z (kl d p) (kl d B) r b.a;have u:=(aR o e D).run_underlying (Q:=b.a);rw[I]at u;have x:(aX f k cap q (h (s X)) q).run P b.a=.ok (0,A.toNat,cap) b.a:=w;have F:=u' (P:=P) (ks:=f) z (kl d p) (kl d B) r b.a;have E:∀g,(aX f k cap q (h (s X)) q).events P b.a g=g:=F;refine⟨_,?_,Rd.val a,?_⟩
 .simp[ac,y,i,Instr.sliceAt,u,Instr.slice,x,(aR W a5 J).bc,gY]
 simp[ac,y,i,Instr.sliceAt,u,Instr.slice,x,E]
def LH{b}:∀{B:p aa}{d:p N},c B=c d->∀g:Nat->aa,(∀a,a<c B->B[a]?=h (g a))->(∀a(e:N),d[a]?=h e->Rd b.u (g a) e)->bN n b B (d.map O.c)
 |[],[],_,_,_,_=>trivial
 |[],_::_,i,_,_,_=>by grind
 |_::_,[],i,_,_,_=>by grind
 |r::B,e::d,i,g,k,j=>⟨by have:=k 0 E;cases this;exact j 0 e rfl,LH M (λa=>g (a+1)) (λa l=>by grind) λa o l=>j (a+1) o M⟩
def a1.gb(aR:bn P ad){l}{i}(u:t.op=.typeAssert l i o m){e}(j:bZ ad o=h e)(v:vr e.desc=m){ah}(F:η l=ax (.cG o ah)):a1 P t η n (.q (.agg (ah.map O.c))) n:=by
 refine .aZ λd r C p=>?_;have b:=p l;rw[F]at b;replace b:=b8 b;generalize s:r l=J at b;have x:=(aR o e j).run_underlying (Q:=d.a);have K:∀w,e.desc≠.interface w:=by intro w y;rw[y]at v;cases v
 cases b with
 |@cG I B ah k z E D=>
  have g:(Instr.typeAssert (.iface o (.agg B.toArray)) i o m).run P d.a=.ok (.agg B.toArray) d.a/\(Instr.typeAssert (.iface o (.agg B.toArray)) i o m).events P d.a #[]=#[]:=by
   constructor
   .unfold Instr.typeAssert;simp only[cK,x,c7];cases A:e.desc<;>first|simp|simp
   unfold Instr.typeAssert;simp only[x,aG,aJ,events_underlying];cases A:e.desc<;>first|simp|simp
  exact⟨.agg B.toArray,by simp[ac,u,s,cK,g.1,c7,d9],⟨B,a,LH k z E D⟩,by simp[ac,u,s,aG,g.1,g.2,aJ,Sem.events_pure]⟩
def g.h_(aR:bn P ad)(d){o C}{l}{b}{e}(ao:t.op=.store o l X)(x:bZ ad o=h e)(T:e.size=1)(I:bG F l=ax (.val (.pointer (h ⟨C,0,q⟩))))(J:bG F X=ax (.val b))(U:b.cells=#[b])(V:dX b=f)(p:c' d n=h (.J (ee C W ab)))(ai:t.guard=q)(B:fg D t.dst=f)(R:g r D bf (.ae all bt::ar) .normal (gb t.dst .any F) (n.set d (.J (ee C W b)))):g r D bf (.ae all (t::bt)::ar) .normal F n:=by
 refine g.cF (ι:=Unit) (λ_=>.any) (λ_=>n.set d (.J (ee C W b))) ai B (λk ak aN bQ=>?_) λ_=>R;have H:=eN aN l;rw[I]at H;have H:=Rd.bk (b8 H);have y:=eN aN X;rw[J]at y;have y:=Rd.bk (b8 y);have p:=eo p;have Z:d<c k.m:=h2;have G:=bK Z;generalize k.m[d]=L at G;obtain⟨an,⟨z,A,aq⟩,aw,aa,ag⟩:=bQ.box d _ L p G;have O:=(aa C).2 M;have Q:=aw C _ A;have N:∀S∈[b],S.oneCell'=f:=λS av=>by have:dX S=f:=M;exact this
 have ae:=run_storeCells_at P C 0 W [b] 0 #[ab] k.a Q E N;have aA:∀i,i≠C->(k.a.setRow C #[b]).heap[i]?=k.a.heap[i]?:=λi s=>setRow_other k.a C i _ s;have aB:=setRow_heap k.a C #[ab] #[b] W (0,0) Q;obtain⟨aj,ah⟩:=bQ.ca (d:=d) (j_:=ee C W b) (cr:=L) (bi:=k.a.setRow C #[b]) p G rfl E
  (λi s au=>aA i M) (λi s=>.inl s)
  ⟨λi=>if i=C then h (.cells #[b] W (0,0))else q,⟨z,by simp,λi s=>by grind⟩,λi t s=>by grind,λi=>by grind⟩ a a a
 have u:ac ak.eval t=(do storeVar o ⟨C,0,q⟩ b;pure .skip):=by simp[ac,ao,H,y,Instr.storeAt,Instr.sureAddr]
 have Y:=ae;refine⟨(),.skip,_,K,?_,.inr ⟨a,a⟩,v,aj,ah,?_⟩
 .rw[u];simp[storeVar,(aR o e x).bc,U,T,Y]
 intro w j;rw[u]at j;have az:w∈(storeCells ⟨C,0,q⟩ [b] 0).events P k.a #[]:=by simp[storeVar,aG,(aR o e x).bc,T,U,aJ,events_sizeOf,d_,hx,dn,cK,c7,Sem.events_pure]at j;simpa[Y]using j
 rcases nm [b] 0 #[ab] k.a #[] Q E N w az with aD|⟨aE,_,_,rfl⟩
 .grind
 exact om (b_ G) O (ag C O _)
def g.jN(o d)(C i){I}(H:look F o=aH d 0)(l:c' d n=h (.cells W [.c (.S f I 0 T)]))(z:∀j b,g r D bf (.code s::ar) .normal ((o,cN (.pointer (h ⟨j,0,q⟩)))::F) (n.set d (.J (ee j W (c0 (.nil b) 0)))++[.J (cn C i (.nil b) 0 [])])):g r D bf (.code s::ar) .normal F n:=by
 refine b0.e4 (ι:=Nat×Option Addr) (dI:=λt=>(o,cN (.pointer (h ⟨t.1,0,q⟩)))::F) (ao:=λt=>n.set d (.J (ee t.1 W (c0 (.nil t.2) 0)))++[an.J (cn C i (.nil t.2) 0 [])]) (λu ai x bQ=>?_) λt=>z t.1 t.2;have l:=eo l;have X:d<c u.m:=h2;have w:=bK X;generalize u.m[d]=L at w;obtain⟨j,B,rfl,ae,N,ad⟩:=bQ.box d _ L l w
 match B,N with
 |[aa],⟨S,_⟩=>
  obtain⟨b,J,aN,rfl,_,_,ab,_,_⟩:=(show Rd u.u aa (.S f I 0 T)from S).b1;have U:=ab a;subst U;obtain⟨G,A⟩:=bQ.b' (cf:=u.u) (bi:=u.a) (ec:=.J (ee j W (c0 (.nil b) 0))) (cr:=⟨.pointer (h ⟨j,0,q⟩),[j]⟩) l w rfl (bB _) (λ_ _ _=>rfl) (λ_ _ _ _=>rfl) (λ_ _ _ V=>V) bQ.mem (λp e=>⟨.inl e,bQ.lt _ (b_ w) p e⟩) rfl rfl rfl
   ⟨λp=>if p=j then h (.cells #[.slice b 0 0] W (0,0))else q,⟨rfl,by simp[c0],λp e=>by grind⟩,λp Y e=>by grind,λp=>by by_cases y:p=j<;>simp[y],λp e Y=>by grind⟩
  obtain⟨R,Q⟩:=G.b0 (bX:=.J (cn C i (.nil b) 0 [])) (L:=⟨.nilFunc,[]⟩) (.refl _ _) rfl G ⟨λ_=>q,⟨rfl,by simp,by simp,rfl,rfl⟩,by simp,by simp,by simp⟩ E;have v:=A.trans Q;refine⟨(j,b),{u with m:=u.m.set d ⟨.pointer (h ⟨j,0,q⟩),[j]⟩++[⟨.nilFunc,[]⟩]},rfl,⟨x.size,x.defers.imp λ_ k=>k.mono v.ext,λM=>?_⟩,R,v⟩;simp only[look];cases e:af o M with
  |false=>exact(x.aJ M).mono v.ext bQ.len
  |true=>
   have y:=dp e;subst y;have k:=x.aJ o;rw[H]at k;obtain⟨_,ah,ag,K,O,Z⟩:=(k:cA n u _ (.ptr d 0));rw[w]at K;cases K;cases O;rw[Z];exact Rd.val a
theorem aV.fg{k:Type}{l}{ao}(u:t.guard=q)(w:eB P D t F n (λ_:k=>l) λ_=>ao):aV r D all t F n l ao:=λy p v g s j b o x a e i d=>dB.fg u w y p v g s j b o x a e i λ_=>d
section
variable {l:Nat->z}{b4:Bool->Bool->p an}{cM I:Nat}
abbrev pm(a:Bool->Bool->p an)(d b:Nat):(Nat->Bool)->p an:=λz=>a (z d) (z b)
def cu.jR(cS:af cM e=m)(dq:af I e=m)(i:∀a b,aV r D all t (dC all F l e) (b4 a b) (l e) (b4 a b)):cu r D all F l (pm b4 cM I) e t:=by intro z _ _;have d:dt e z cM=z cM:=E0;have g:dt e z I=z I:=EZ;grind
def cu.dv(aR:bn P ad)(iU:a9 r CT)(u:∀x j,hG ad CT [] all (dC all F l e) (b4 x j) t=h (l e,q,ck):=by intro x j;cases x<;>cases j<;>rfl)(cS:af cM e=m:=by rfl)(dq:af I e=m:=by rfl)(cz:U ck:=by simp only[U,a_];omega):cu r D all F l (pm b4 cM I) e t:=.jR cS dq λx j=>aV.eval aR iU (u x j) cz
def cu.bK(aR:bn P ad:=by exact be)(iU:a9 r CT:=by first|assumption|exact a9.nil)(u:∀x j,hG ad CT [] all (dC all F l e) (b4 x j) t=h (l e,q,[]):=by intro x j;cases x<;>cases j<;>rfl)(cS:af cM e=m:=by rfl)(dq:af I e=m:=by rfl):cu r D all F l (pm b4 cM I) e t:=.dv (ck:=[]) aR iU u cS dq v
def cu.hk(cS:af cM e=m)(dq:af I e=m)(i:ek all cM e=f)(g:ek all I e=f)(j:aV r D all t (dC all F l e) (b4 m m) (l e) (b4 m m)):cu r D all F l (pm b4 cM I) e t:=by intro z _ d;have a:dt e z cM=z cM:=E0;have b:dt e z I=z I:=EZ;grind
def cu.gG(dq:af I cM=m)(d:ek all I cM=f)(g:aV r D all t (dC all F l cM) (b4 m m) (l cM) (b4 f m)):cu r D all F l (pm b4 cM I) cM t:=by intro z _ e;have a:dt cM z cM=f:=z5;have b:dt cM z I=z I:=EZ;grind
def cu.gH(cS:af cM I=m)(e:ek all I cM=f)(g:aV r D all t (dC all F l I) (b4 f m) (l I) (b4 f f)):cu r D all F l (pm b4 cM I) I t:=by intro z aR d;have a:dt I z cM=z cM:=E0;have b:dt I z I=f:=z5;grind
end
end
inductive dL where
 |nil
 |ax (d:dL) (x j:Int) (ba:dL)
def ez(k:av):dL->aa->(Nat->Option Obj)->Prop
 |.nil,l,a=>l=.pointer q/\∀j,a j=q
 |.ax r n j s,l,a=>∃i p o e b,l=.pointer (h ⟨i,0,q⟩)/\(a8 .i64 n/\a8 .i64 j)/\ez k r p e/\ez k s o b/\a i=h (.cells #[.int .i64 n,.int .i64 j,p,o] k (0,0))/\e i=q/\b i=q /\
   (∀d g,e d=h g->b d=q/\a d=h g)/\(∀d g,b d=h g->a d=h g)/\∀d g,a d=h g->d=i∨e d=h g∨b d=h g
def ez.cell{o}(a:ez W o ab lb):dX ab=f:=by
 cases o with
 |nil=>rw[a.1];rfl
 |ax=>obtain⟨_,_,_,_,_,rfl,_⟩:=a;rfl
section
def bc.h0{ad:Nat->Prop}(o:bc n b)(C:az.a=b.a)(M:az.u=b.u)(F:az.own=b.own)(S:c az.m=c ao)(X:c n<=c ao)(z:∀a,a<c n->¬ad a->ao[a]?=n[a]?/\az.m[a]?=b.m[a]?)(T:∀a d,(ad a∨c n<=a)->az.m[a]?=h d->∀e∈d.al,∃x L,ad x/\b.m[x]?=h L/\e∈L.al)(J:∀a i L d,(ad a∨c n<=a)->(ad i∨c n<=i)->az.m[a]?=h L->az.m[i]?=h d->∀e∈L.al,e∈d.al->a=i)(box:∀a t L,ad a->n[a]?=h t->b.m[a]?=h L->∃u d,ao[a]?=h u/\az.m[a]?=h d/\fK t L u d)(ok:fm n b ao az->∀a t L,(ad a∨c n<=a)->ao[a]?=h t->az.m[a]?=h L->ew ao az t L):bc ao az/\cP n b ao az:=by
 have K:=o.len;have Q:∀(a:Nat) t (L:Loc),n[a]?=h t->b.m[a]?=h L->∃u d,ao[a]?=h u/\az.m[a]?=h d/\fK t L u d:=λa t L aE j=>by
  by_cases y:ad a
  .grind
  obtain⟨k,p⟩:=z a (cQ.1 aE).1 y;exact⟨t,L,k.trans aE,p.trans j,.refl _ _⟩
 have D:fm n b ao az:=⟨λe N R y=>M▸y,Q⟩
 have v:∀(a:Nat) (d:Loc),az.m[a]?=h d->(ad a∨c n<=a)∨(a<c n/\¬ad a/\b.m[a]?=h d):=λa d y=>by grind
 have I:∀(a:Nat) (d:Loc),az.m[a]?=h d->∀e∈d.al,∃(x:Nat) (L:Loc),b.m[x]?=h L/\e∈L.al:=λa d y e g=>by grind
 have Y:∀(a i:Nat) (L d:Loc),(ad a∨c n<=a)->¬ad i->az.m[a]?=h L->b.m[i]?=h d->∀e∈L.al,e∈d.al->False:=λa i L d k p j l e g w=>by obtain⟨x,A,B,r,O⟩:=T a L k j e g;exact p (o.a3 x i A d r l e O w▸B)
 refine⟨⟨λe N R y=>?_,S,λa t L aE j=>?_,λa i L d j l e g w=>?_,λL j e g=>?_,λe g=>?_⟩,⟨?_,?_,D.mem,?_,λd l e g=>?_,Q,?_,?_,?_,F⟩⟩
 .rw[M]at y;rw[C];exact o.mem e N R y
 .rcases v a L j with k|⟨k,p,W⟩
  .grind
  rw[(z a k p).1]at aE;exact(o.box a t L aE W).cd D K λe _=>⟨by rw[C],λN=>by rw[M]⟩
 .rcases v a L j with k|⟨_,k,p⟩<;>rcases v i d l with V|⟨_,V,U⟩
  .grind
  .grind
  .grind
  exact o.a3 a i L d p U e g w
 .obtain⟨a,s,rfl⟩:=hl j;obtain⟨x,A,B,r⟩:=I a _ (bK s) e g;rw[C];exact o.lt A (b_ B) e r
 .rw[F]at g;refine⟨C▸(o.own e g).1,λL j E=>?_⟩;obtain⟨a,s,rfl⟩:=hl j;obtain⟨x,A,B,r⟩:=I a _ (bK s) e E;exact(o.own e g).2 A (b_ B) r
 .grind
 .grind
 .grind
 .obtain⟨a,s,rfl⟩:=hl l;obtain⟨x,A,B,r⟩:=I a _ (bK s) e g;grind
 all_goals rw[C]
def bc.kj(t:bc n b){A i}{L e}{bD}{p}(aE:n[d]?=h A)(ae:b.m[d]?=h L)(aa:fK A L i e)(Y:c p=bD.length)(sub:∀w∈e::p,∀x∈w.al,x∈L.al)(U:(e::p).Pairwise λw F=>∀x∈w.al,x∉F.al)(ok:∀l:a6,l.a=b.a->l.u=b.u->l.m=b.m.set d e++p->ew (n.set d i++bD) l i e/\∀(D:Nat) v B,bD[D]?=h v->p[D]?=h B->ew (n.set d i++bD) l v B):
  bc (n.set d i++bD) {b with m:=b.m.set d e++p}/\cP n b (n.set d i++bD) {b with m:=b.m.set d e++p}:=by
 have T:=t.len;have X:d<c n:=(cQ.1 aE).1;have Z:=iF.1 U;have r:∀g o,(g=d∨c n<=g)->(b.m.set d e++p)[g]?=h o->(g=d/\o=e)∨(c n<=g/\p[g-c n]?=h o):=λg o j k=>by grind
 refine bc.h0 (ad:=λg=>g=d) t a a a M E (λg j C=>M) (λg o j k W S=>M) (λg z o V j u k s W S ab=>?_) (λg v o j y k=>?_) (λQ g v o j y k=>?_)
 .rcases r g o j k with⟨cS,rfl⟩|⟨cS,dq⟩<;>rcases r z V u s with⟨R,rfl⟩|⟨R,O⟩
  .omega
  .grind
  .grind
  obtain⟨I,J⟩:=cQ.1 dq;obtain⟨K,N⟩:=cQ.1 O;exact Fs
 .grind
 grind
def iv:dL->Nat->O
 |.nil,_=>.c .bd
 |.ax ..,a=>.aR a
def hq(a:av):dL->p an
 |.nil=>[]
 |.ax e b d g=>[.J (ez a (.ax e b d g))]
def mz(a:p Nat):dL->aa->(Nat->Option Obj)->p Loc
 |.nil,_,_=>[]
 |.ax ..,d,b=>[⟨d,a.filter λe=>(b e).isSome⟩]
def jn:dL->Nat->p an->p an
 |.nil,_,a=>a
 |.ax ..,b,a=>a.set b .x
def bc.gC(bQ:bc n b){lt cw}{p r:Int}(aE:n[d]?=h (.J (ez W (.ax lt p r cw)))):
  ∃g,g.a=b.a/\(∃j L,b.m[d]?=h L/\L.v=.pointer (h ⟨j,0,q⟩)/\g.m[d]?=h ⟨L.v,[j]⟩)/\bc (n.set d (.cells W [.c (.int .i64 p),.c (.int .i64 r),iv lt (c n),iv cw (c n+c (hq W lt))])++(hq W lt++hq W cw)) g /\
   cP n b (n.set d (.cells W [.c (.int .i64 p),.c (.int .i64 r),iv lt (c n),iv cw (c n+c (hq W lt))])++(hq W lt++hq W cw)) g:=by
 have ar:d<c n:=(cQ.1 aE).1;have Y:d<c b.m:=h2;have E:=bK Y;generalize b.m[d]=L at E;obtain⟨I,⟨j,D,C,i,y,A,⟨Z,z⟩,t,u,aj,ae,aN,U,ag,ah⟩,aa,J,ad⟩:=bQ.box d _ L aE E;have aq:=bQ.len;have O:j∈L.al:=(J j).2 M;refine⟨{b with m:=b.m.set d ⟨.pointer (h ⟨j,0,q⟩),[j]⟩++(mz L.al lt D i++mz L.al cw C y)},rfl,⟨j,L,E,A,M⟩,bQ.kj aE E (show _=_ from A.symm) ?_ ?_ ?_ λg V e l=>?_⟩
 .cases lt<;>cases cw<;>rfl
 .intro bE e X B;rcases e4.1 e with rfl|e
  .grind
  rcases fx.1 e with e|e
  .cases lt with
   |nil=>cases e
   |ax=>rw[mz,gH]at e;grind
  cases cw with
  |nil=>cases e
  |ax=>rw[mz,gH]at e;grind
 .refine iF.2 ⟨λbE e X B au=>?_,?_⟩
  .rw[gH]at B;subst B;rcases fx.1 e with e|e
   .cases lt with
    |nil=>cases e
    |ax=>rw[mz,gH]at e;grind
   cases cw with
   |nil=>cases e
   |ax=>rw[mz,gH]at e;grind
  cases lt<;>cases cw<;>simp[mz,qb,h5,uF,iF,List.Pairwise.nil,gH,forall_eq,sz,false_implies,implies_true,a_]
  exact E4
 have H:∀X o,i X=h o->I X=h o:=λX o k=>(U X o k).2;have ab:ew (n.set d (.cells W [.c (.int .i64 p),.c (.int .i64 r),iv lt (c n),iv cw (c n+c (hq W lt))])++(hq W lt++hq W cw)) g (.J (ez W lt)) ⟨D,L.al.filter λX=>(i X).isSome⟩:=
  ⟨i,t,λX o k=>by grind,λX=>⟨λk=>(ji.1 k).2,λk=>ji.2 ⟨(J X).2 E4,k⟩⟩,λX B o=>by rw[e];grind⟩
 have ai:ew (n.set d (.cells W [.c (.int .i64 p),.c (.int .i64 r),iv lt (c n),iv cw (c n+c (hq W lt))])++(hq W lt++hq W cw)) g (.J (ez W cw)) ⟨C,L.al.filter λX=>(y X).isSome⟩:=
  ⟨y,u,λX o k=>by grind,λX=>⟨λk=>(ji.1 k).2,λk=>ji.2 ⟨(J X).2 E4,k⟩⟩,λX B o=>by rw[e];grind⟩
 have F:=t.cell;have x:=u.cell;have K:g.a.heap[j]?=h (.cells (List.toArray [.int .i64 p,.int .i64 r,D,C]) W (0,0)):=M;have Q:∀o,g.u j o=q:=λo=>by rw[e];grind
 have R:∀w,(b.m.set d ⟨.pointer (h ⟨j,0,q⟩),[j]⟩++(mz L.al lt D i++mz L.al cw C y))[c n+w]?=(mz L.al lt D i++mz L.al cw C y)[w]?:=λw=>by grind
 have s:∀w,(n.set d (.cells W [.c (.int .i64 p),.c (.int .i64 r),iv lt (c n),iv cw (c n+c (hq W lt))])++(hq W lt++hq W cw))[c n+w]?=(hq W lt++hq W cw)[w]?:=λw=>by grind
 refine⟨⟨j,_,a,K,⟨Rd.int Z,Rd.int z,?_,?_,v⟩,Q⟩,?_⟩
 .cases lt with
  |nil=>rw[t.1];exact Rd.bd
  |ax=>exact⟨λS aE=>by have G:=(s 0).symm.trans aE;cases G;rfl,_,by rw[l];exact R 0,rfl,F⟩
 .cases cw with
  |nil=>rw[u.1];exact Rd.bd
  |ax=>
   cases lt with
   |nil=>exact⟨λS aE=>by rw[s]at aE;cases aE;rfl,_,by rw[l];exact R 0,rfl,x⟩
   |ax=>exact⟨λS aE=>by rw[s]at aE;cases aE;rfl,_,by rw[l];exact R 1,rfl,x⟩
 intro ao ak an T N;cases lt<;>cases cw<;>simp only[hq,mz,qb,h5,uF,List.getElem?_nil]at T N
 .cases T
 .grind
 .grind
 grind
def HH(t:bc n b){o}(k:cA n b ab (iv o e))(l:o≠.nil->n[e]?=h (.J (ez W o))):
  ∃i d,ez W o ab i/\(∀g j,i g=h j->b.a.heap[g]?=h j)/\(∀g,g∈d↔(i g).isSome=f)/\(∀g∈d,∀j,b.u g j=q)/\(match o with|.nil=>d=[]|.ax ..=>b.m[e]?=h ⟨ab,d⟩):=by
 cases o with
 |nil=>
  have k:Rd b.u ab .bd:=k;cases k;exact⟨λ_=>q,[],⟨a,λ_=>rfl⟩,by simp,by simp,by simp,a⟩
 |ax=>
  obtain⟨_,L,r,rfl,_⟩:=k;obtain⟨i,s,u,p,v⟩:=t.box e _ L (l nofun) r;exact⟨i,L.al,s,u,p,v,r⟩
def rW:dL->Nat->aa->p Loc->p Loc
 |.nil,_,_,a=>a
 |.ax ..,b,d,a=>a.set b ⟨d,[]⟩
def bc.cY(t:bc n b){lt cw}{F j}(aE:n[d]?=h (.cells W [.c (.int .i64 F),.c (.int .i64 j),iv lt e,iv cw w]))(I:lt≠.nil->n[e]?=h (.J (ez W lt)))(J:cw≠.nil->n[w]?=h (.J (ez W cw)))(G:lt≠.nil->cw≠.nil->e≠w):
  ∃r,r.a=b.a/\(∃L,b.m[d]?=h L/\∃U,r.m[d]?=h U/\U.v=L.v)/\bc (jn cw w (jn lt e (n.set d (.J (ez W (.ax lt F j cw)))))) r/\cP n b (jn cw w (jn lt e (n.set d (.J (ez W (.ax lt F j cw)))))) r:=by
 have aV:d<c n:=(cQ.1 aE).1;have aU:=t.len;have N:d<c b.m:=y;have ab:=bK N;generalize b.m[d]=L at ab;obtain⟨p,B,rfl,aK,u,aL⟩:=t.box d _ L aE ab
 match B,u with
 |[aD,aB,Q,R],⟨ae,ag,aN,az,_⟩=>
 obtain⟨s,A,ai,aF,aG,aH,X⟩:=HH t aN I;obtain⟨T,C,d1,d2,d3,d4,e9⟩:=HH t az J;have ae:Rd b.u aD (.int .i64 F):=ae;have ag:Rd b.u aB (.int .i64 j):=ag;cases ae with|int an=>
 cases ag with|int ao=>
 have aS:p∉A:=λl=>by
  cases lt with
  |nil=>grind
  |ax=>have:=t.a3 d e _ _ ab X p E l;grind
 have aT:p∉C:=λl=>by
  cases cw with
  |nil=>grind
  |ax=>have:=t.a3 d w _ _ ab e9 p E l;grind
 have aP:∀i∈A,i∉C:=λi l aA=>by
  cases lt with
  |nil=>grind
  |ax=>
   cases cw with
   |nil=>grind
   |ax=>exact G nofun nofun (t.a3 e w _ _ X e9 i l aA)
 have z:s p=q:=by cases l:s p with|none=>rfl|some x=>grind
 have aQ:T p=q:=by cases l:T p with|none=>rfl|some x=>grind
 have aw:∀i x,s i=h x->T i=q:=λi x l=>by
  cases u:T i with
  |none=>rfl
  |some K=>grind
 have ok:∀V r,r.a=b.a->r.u=b.u->ew V r (.J (ez W (.ax lt F j cw))) ⟨.pointer (h ⟨p,0,q⟩),p::(A++C)⟩:=λV r ak aj=>by
  refine⟨λi=>if i=p then h (.cells #[.int .i64 F,.int .i64 j,Q,R] W (0,0))else(s i).or (T i),⟨p,Q,R,s,T,a,⟨an,ao⟩,ai,d1,bs a,z,aQ,λi x l=>⟨aw i x l,M⟩,λi x l=>?_,λi x l=>?_⟩,λi x l=>?_,λi=>?_,λi D x=>?_⟩
  .have:i≠p:=M;dsimp only;rw[bm this,l];cases u:s i with
   |none=>rfl
   |some K=>grind
  .by_cases Z:i=p
   .grind
   dsimp only at l;rw[bm Z]at l;cases u:s i with
   |none=>grind
   |some K=>grind
  .rw[ak];by_cases Z:i=p
   .grind
   dsimp only at l;rw[bm Z]at l;cases u:s i with
   |none=>grind
   |some K=>grind
  .grind
  rw[aj];grind
 refine⟨{b with m:=rW cw w R (rW lt e Q (b.m.set d ⟨.pointer (h ⟨p,0,q⟩),p::(A++C)⟩))},rfl,?_⟩
 classical
 have aX:lt≠.nil->e<c n/\e≠d:=λl=>⟨(cQ.1 (I l)).1,λZ=>by grind⟩
 have aM:cw≠.nil->w<c n/\w≠d:=λl=>⟨(cQ.1 (J l)).1,λZ=>by grind⟩
 have ar:b.m[d]?=h ⟨.pointer (h ⟨p,0,q⟩),[p]⟩:=ab;let ad:Nat->Prop:=λo=>o=d∨(lt≠.nil/\o=e)∨(cw≠.nil/\o=w);have O:∀o,(jn cw w (jn lt e (n.set d (.J (ez W (.ax lt F j cw))))))[o]?=if o=d then h (.J (ez W (.ax lt F j cw)))else if(lt≠.nil/\o=e)∨(cw≠.nil/\o=w)then h .x else n[o]?:=λo=>by cases lt<;>cases cw<;>simp[jn,o6,ss]<;>grind
 have Y:∀o,(rW cw w R (rW lt e Q (b.m.set d ⟨.pointer (h ⟨p,0,q⟩),p::(A++C)⟩)))[o]?=if o=d then h ⟨.pointer (h ⟨p,0,q⟩),p::(A++C)⟩else if cw≠.nil/\o=w then h ⟨R,[]⟩else if lt≠.nil/\o=e then h ⟨Q,[]⟩else b.m[o]?:=λo=>by cases lt<;>cases cw<;>simp[rW,o6,ss]<;>grind
 have aao:∀S e d,c (jn S e d)=c d:=λS e d=>by cases S<;>simp[jn]
 have aap:∀S e au d,c (rW S e au d)=c d:=λS e au d=>by cases S<;>simp[rW]
 have aI:∀i∈A,lt≠.nil/\b.m[e]?=h ⟨Q,A⟩:=λi D=>by grind
 have aJ:∀i∈C,cw≠.nil/\b.m[w]?=h ⟨R,C⟩:=λi D=>by grind
 refine⟨⟨_,ar,_,(Y d).trans (bs a),a⟩,bc.h0 (ad:=ad) t a a a M M (λo v aR=>M) (λo ah v k i D=>?_) (λo aO ah ax v aq k aa i D aW=>?_) (λo av ah v g k=>?_) (λ_ o av ah v g k=>?_)⟩
 .rw[Y]at k;split at k
  .cases k;rcases e4.1 D with rfl|D
   .grind
   rcases fx.1 D with D|D
   .grind
   grind
  have:o<c b.m∨c b.m<=o:=dZ _ _;grind
 .rw[Y]at k aa;grind
 .rw[O,Y];rcases v with rfl|⟨l,rfl⟩|⟨l,rfl⟩
  .rw[ar]at k;cases k;rw[aE]at g;cases g;exact⟨_,_,bs a,bs a,a⟩
  .have H:b.m[o]?=h ⟨Q,A⟩:=M;rw[I l]at g;rw[H]at k;cases g;cases k;grind[fK]
  have H:b.m[o]?=h ⟨R,C⟩:=M;rw[J l]at g;rw[H]at k;cases g;cases k;grind[fK]
 rw[O]at g;rw[Y]at k;split at g
 .grind
 split at g
 .cases g;trivial
 grind
def eK:dL->N
 |.nil=>.bd
 |.ax d a b e=>.O [.int .i64 a,.int .i64 b,eK d,eK e]
def ez.rd{W}{bE}:∀{p:dL}{s:aa}{e:Nat->Option Obj},ez W p s e->(∀d B b j,e d=h (.cells B b j)->∀o r,B[o]?=h r->bE d o=h r)->Rd bE s (eK p)
 |.nil,_,_,g,_=>by rw[g.1];exact .bd
 |.ax J u v N,_,e,⟨t,F,E,x,R,y,⟨C,A⟩,l,n,I,_,_,z,D,_⟩,k=>by
  subst y;have Q:=l.rd (bE:=bE) λd B b j g=>k d B b j (z d _ g).2;have M:=n.rd (bE:=bE) λd B b j g=>k d B b j (D d _ g);have O:=k t _ _ _ I;refine Rd.O t 0 (λi=>[Value.int .i64 u,.int .i64 v,F,E].getD i K) (λi w a=>?_) (λi w a=>?_)
  .match i,a with
   |0,_|1,_|2,_|3,_=>grind
  .match i,a with
   |0,a=>cases a;exact Rd.int C
   |1,a=>cases a;exact Rd.int A
   |2,a=>grind
   |3,a=>grind
def bc.gn(i:bc n b){o}(aE:n[d]?=h (.J (ez W o))):
  ∃k,k.a=b.a/\k.m=b.m/\(∀L,b.m[d]?=h L->Rd k.u L.v (eK o))/\bc (n.set d .x) k/\cP n b (n.set d .x) k:=by
 have N:d<c n:=(cQ.1 aE).1;have M:=i.len;have x:=bK (show d<c b.m by omega);generalize b.m[d]=L at x;obtain⟨w,T,E,K,O⟩:=i.box d _ L aE x;let j:Mem:=λe g=>match w e with|some (.cells B _ _)=>B[g]?|_=>b.u e g
 have D:∀e,e∉L.al->∀g,j e g=b.u e g:=λe u g=>by grind
 have Q:∀e g v,b.u e g=h v->j e g=h v:=λe g v s=>by grind
 have z:cP n b (n.set d .x) {b with u:=j}:=by
  refine⟨bB _,λ_ _ _=>rfl,Q,λe _ F g=>D e (F L (b_ x)) g,λp l e u=>.inr ⟨p,l,u⟩,λy A p r l=>?_,a,a,a,a⟩;by_cases t:d=y
  .subst t;rw[aE]at r;cases r;exact⟨.x,p,by grind,l,a⟩
  exact⟨A,p,by grind,l,.refl _ _⟩
 refine⟨{b with u:=j},rfl,rfl,λp l=>?_,⟨λe g v s=>?_,by grind,λy A p r l=>?_,i.a3,i.lt,i.own⟩,z⟩
 .rw[x]at l;cases l;exact T.rd λe B C U u g V X=>by grind
 .by_cases u:e∈L.al
  .have s:j e g=h v:=s;cases I:w e with
   |none=>grind
   |some S=>
    have R:=E e S I;simp[j,I]at s;split at s
    .rename_i B C U t;cases t;show b.a.cell? _=_;simp[aL,R,s]
    grind
  exact i.mem e g v ((D e u g).symm.trans s)
 by_cases t:d=y
 .subst t;rw[ip N]at r;cases r;trivial
 rw[kJ t]at r;exact(i.box y A p r l).cd z.ext M λe u=>⟨a,λg=>D e (λJ=>t (i.a3 d y L p x l e J u)) g⟩
end
section
variable {r:aj P}
def bY.gB{d}{o}{j}(e:bY D n b F d)(i:c b.m=c n)(a:cP n b ao az)(p:bz ao az (d.tmps.getD o K) j):bY D ao az ((o,j)::F) d:=
 ⟨e.size,e.defers.imp λ_ g=>g.mono a.ext,λk=>by
  simp only[look];cases l:af o k with
  |false=>exact(e.aJ k).mono a.ext i
  |true=>grind[Nat.eq_of_beq_eq_true]⟩
def g.gC(o d){W}{lt cw}{p j}(B:look F o=.q (.aq (.aR d)))(e:c' d n=h (.J (ez W (.ax lt p j cw))))(k:g r D bf (.code s::ar) .normal ((o,aH d 0)::F) (n.set d (.cells W [.c (.int .i64 p),.c (.int .i64 j),iv lt (c n),iv cw (c n+c (hq W lt))])++(hq W lt++hq W cw))):g r D bf (.code s::ar) .normal F n:=by refine g.aU (λN K t b=>?_) k;have w:=t.aJ o;rw[B]at w;obtain⟨_,L,C,y,_⟩:=w;obtain⟨l,i,⟨E,J,a,v,z⟩,A,u⟩:=b.gC (eo e);rw[C]at a;cases a;have x:d<c n:=(cQ.1 (eo e)).1;refine⟨l,i,t.gB b.len u ⟨λI aE=>?_,_,E,z,v,y.trans v⟩,A,u⟩;rw[kb M,ip x]at aE;cases aE;rfl
def g.cY(o d e w){W}{lt cw}{a j}(S:look F o=aH d 0)(p:c' d n=h (.cells W [.c (.int .i64 a),.c (.int .i64 j),iv lt e,iv cw w]))(y:lt≠.nil->c' e n=h (.J (ez W lt)))(A:cw≠.nil->c' w n=h (.J (ez W cw)))(Q:lt≠.nil->cw≠.nil->e≠w)(C:g r D bf (.code s::ar) .normal ((o,.q (.aq (.aR d)))::F) (jn cw w (jn lt e (n.set d (.J (ez W (.ax lt a j cw))))))):g r D bf (.code s::ar) .normal F n:=by
 refine g.aU (λaa Z I l=>?_) C;have K:=I.aJ o;rw[S]at K;obtain⟨_,L,ad,V,O,ae⟩:=K;obtain⟨E,x,⟨N,k,v,T,z⟩,R,J⟩:=l.cY (eo p) (λi=>eo (y i)) (λi=>eo (A i)) Q;rw[V]at k;cases k;have M:d<c n:=(cQ.1 (eo p)).1;have t:(jn cw w (jn lt e (n.set d (.J (ez W (.ax lt a j cw))))))[d]?=h (.J (ez W (.ax lt a j cw)))∨(jn cw w (jn lt e (n.set d (.J (ez W (.ax lt a j cw))))))[d]?=h .x:=by
  have ab:(n.set d (.J (ez W (.ax lt a j cw))))[d]?=h (.J (ez W (.ax lt a j cw))):=ip M;have Y:∀u B b,b[d]?=h (.J (ez W (.ax lt a j cw)))∨b[d]?=h .x->(jn u B b)[d]?=h (.J (ez W (.ax lt a j cw)))∨(jn u B b)[d]?=h .x:=λu B b i=>by
   cases u with
   |nil=>exact i
   |ax=>simp[jn,o6];grind
  grind
 refine⟨E,x,I.gB l.len J ⟨λX aE=>?_,v,T,?_,?_⟩,R,J⟩
 .rcases t with t|t<;>(rw[t]at aE;cases aE;rfl)
 .grind
 exact hz
def g.gn(o d){W}{t}(w:look F o=.q (.aq (.aR d)))(i:c' d n=h (.J (ez W t)))(b:g r D bf (.code s::ar) .normal ((o,ax (eK t))::F) (dc.cr d .x n)):g r D bf (.code s::ar) .normal F n:=by rw[mV]at b;refine g.aU (λA z k a=>?_) b;have p:=k.aJ o;rw[w]at p;obtain⟨_,L,y,u,_⟩:=p;obtain⟨j,e,_,x,v,l⟩:=a.gn (eo i);exact⟨j,e,k.gB a.len l (show Rd _ _ _ from u▸x L y),v,l⟩
end
section
variable {r:aj P}{aN:fw}{ai:Exit}
def n0(i:Nat)(aN:fw):fw:=λl k g=>∃d a,(∀e j,bY i g e k j->bc g e->∃b:a6,b.a=e.a/\bY i a b d j/\bc a b/\cP g e a b)/\aN l d a
theorem n0.of(d:aN ai F n):n0 D aN ai F n:=⟨F,n,λe g b a=>⟨e,rfl,b,a,.refl _ _⟩,d⟩
def n0.step{d}(v:∀b e,bY D n b F e->bc n b->∃a:a6,a.a=b.a/\bY D ao a d e/\bc ao a/\cP n b ao a)(y:n0 D aN ai d ao):n0 D aN ai F n:=by obtain⟨r,g,l,B⟩:=y;refine⟨r,g,λb e t o=>?_,B⟩;obtain⟨z,i,w,k,p⟩:=v b e t o;obtain⟨u,j,x,A,s⟩:=l z e w k;exact⟨u,j.trans i,x,A,p.trans s⟩
theorem n0.freeze(o d){W}{ah}{gK}(j:look F o=aH d 0)(b:c' d n=h (.cells W ah))(g:h7 ah=h gK)(e:n0 D aN ai ((o,ax (.O gK))::F) (dc.cr d .x n)):n0 D aN ai F n:=by rw[mV]at e;exact .step (λl k i a=>bY.freeze o d j b g i a) e
def de.je(K:de r D s (n0 D aN) F n):de r D s aN F n:=by
 intro T I R u J N o E t d p;refine K T I R u J N o E t d λA U C g b x O a i=>?_;obtain⟨k,l,S,x⟩:=x;obtain⟨e,Q,M,z,y⟩:=S g b O a;have B:=y.too5 a;have j:=p A k l e b x M z (i.trans B);have w:eX g e:=.of a z Q B;cases A<;>first
  |exact j.elim
  |exact .aU w j
  |exactλpre=>.aU w (j pre)
  |exactλpre v=>.aU w (j pre v)
def de.bg(d)(ao){cT}(p:iX F d=h Y)(J:U Y)(b:jt n ao=h cT)(w:U cT)(M:de r D s aN d ao):de r D s aN F n:=by intro y x K a j v l B u e t;have o:=jV b w;have A:=(o y a).2.1;exact M y x ((K.le (eG p J)).al o a) (o y a).1 j v l B u e λC E i z k N I b g=>t C E i z k N I b ((A.too5 a).trans g)
def de.jW{l}{Y}{assign body}{g}{pb}{d:ι->p an}(o:∀e i,bY D n e F i->bc n e->∃j:p aa,i.eval l=.func (.func g) #[] j.toArray/\b6 n e j pb)(s:bl r g (.q (.aq (.aR (c n)))::pb) (n++[.loop D F {state:=.ready,pending:=q,fn:=0,tmps:=#[],params:=Y,assign:=assign,body:=body,defers:=0}]) res d)(a:∀b,∃gd,(d b)[c n]?=h (.loop D F gd)/\gd.state≠.busy/\∃k,yY gd.pending=h k/\aN k F ((d b).set (c n) .x++[.bo])):de r D (.rangeFunc l Y assign body) aN F n:=
 de.rangeFunc (gd:=λb=>(a b).choose) o s (λb=>⟨(a b).choose_spec.1,(a b).choose_spec.2.1⟩) λb=>(a b).choose_spec.2.2
def bl.jl{d}{fn}{args}{ao:ι->p an}(B:P.funcs[d]?=h fn)(x:(fn.name== "runtime.NumGoroutine")=m)(i:fn.body=h s)(v:ay args.length fn.ntmps=f)(y:de r fn.ntmps s (n0 fn.ntmps λw l b=>∃k,k9 P fn n.length (res k) (ao k) w l b) (h6 0 args) n):bl r d args n res ao:=
 bl.gA B x i (ff v) λC t d z u A e o j a g=>de.je y C t d z u A e o j a g
def k9.cells(aR:bn P ad){fn}{d}{res}(aP)(e:tD ad fn.results.toList aP F res=h Y)(l:U Y)(k:dz aP n=h ao)(j:l8 ao=f)(i:e_ aP=f)(g:∀b,b<d->aP[b]?=h b):k9 P fn d res ao .ret F n:=by refine⟨.inl a,aP,?_⟩;unfold tD at e;grind[o0.ff]
end
def x9:O->Option aa
 |.c (.val a)=>h a
 |_=>q
def vb:p O->Option (p aa)
 |[]=>h []
 |a::d=>match x9 a with
  |some e=>match vb d with
   |some b=>h (e::b)
   |none=>q
  |none=>q
def x_:z->Option aa
 |.q (.aq b)=>x9 b
 |.q (.agg a)=>match vb a with
  |some d=>h (.agg d.toArray)
  |none=>q
 |_=>q
def s3:p z->Option (p aa)
 |[]=>h []
 |a::d=>match x_ a with
  |some e=>match s3 d with
   |some b=>h (e::b)
   |none=>q
  |none=>q
section
variable {r:aj P}
def Jj{d}:∀{a:O},cA n b ab a->x9 a=h d->ab=d
 |.c (.val i),g,e=>by cases e;exact Rd.bk g
theorem Jk:∀{e:p O}{B a:p aa},bN n b B e->vb e=h a->B=a
 |[],[],a,_,g=>by cases g;rfl
 |[],_::_,_,d,_=>d.elim
 |_::_,[],_,d,_=>d.elim
 |k::l,r::B,a,d,g=>by
  simp[vb]at g;cases i:x9 k with
  |none=>grind
  |some s=>
   cases j:vb l with
   |none=>grind
   |some o=>
    simp[i,j]at g;subst g;rw[Jj d.1 i,Jk d.2 j]
def X2{g}:∀{d:z},bz n b ab d->x_ d=h g->ab=g
 |.q (.aq j),e,a=>Jj e a
 |.q (.agg i),⟨B,k,e⟩,a=>by simp[x_]at a;grind[Jk]
def CD:∀{e:p z}{B a:p aa},b6 n b B e->s3 e=h a->B=a
 |[],[],a,_,g=>by cases g;rfl
 |[],_::_,_,d,_=>d.elim
 |_::_,[],_,d,_=>d.elim
 |k::l,r::B,a,d,g=>by
  simp[s3]at g;cases i:x_ k with
  |none=>grind
  |some s=>
   cases j:s3 l with
   |none=>grind
   |some o=>
    simp[i,j]at g;subst g;rw[X2 d.1 i,CD d.2 j]
def h3(P:aI)(i:Nat)(e:ap)(g:bJ)(j:p an)(d:a4)(args:p aa):Prop:=∀k b,bY i j k g b->∀a,(ac b.eval e).run P a=(callFunc d args.toArray).run P a/\(ac b.eval e).events P a #[]=(callFunc d args.toArray).events P a #[]
def h3.ea{a}{args}(e:t.op=.call {callee:=.value (.func a),args:=ag,argTypes:=du})(j:s3 (ag.toList.map (bG F))=h args):h3 P D t F n a args:=by
 intro o b i p;have k:=CD (m' (eN i) ag.toList) j;have d:ag.map b.eval=args.toArray:=M;have g:b.eval (.func a)=.func (.func a) #[] #[]:=rfl;have l:ac b.eval t=callFunc a args.toArray:=by simp[ac,e,resolve,g,Deferred.ofValue,invoke,d]
 grind
def h3.invoke{r}{i}{name}{e}{o u}{args}(k:t.op=.call {callee:=.invoke l name,args:=i,argTypes:=du})(x:bG F l=ax (.val (.iface e o)))(w:s3 (i.toList.map (bG F))=h args)(d:∀a,(Go.method (P.types.size+Made.depth) e o name).run P a=.ok (r,u) a/\∀b,(Go.method (P.types.size+Made.depth) e o name).events P a b=b):h3 P D t F n r (u::args):=by
 intro z y s a;have g:=eN s l;rw[x]at g;have g:=Rd.bk (b8 g);have j:=CD (m' (eN s) i.toList) w;have p:∀a,(program:Sem aI).run P a=.ok P a:=λa=>by simp
 have v:∀a b,(program:Sem aI).events P a b=b:=λa b=>by simp
 rw[CF k g,j];constructor
 .simp[callMethod,p,(d a).1]
 simp[callMethod,p,v,(d a).1,(d a).2]
structure jD(P:aI)(ae:a4)(ai:Array aa->Sem aa):Prop where
 fn:∃fn,P.funcs[ae]?=h fn/\(fn.name== "runtime.NumGoroutine")=m/\fn.body.isNone=f/\Extern.findNext fn=q/\Extern.find fn=h ai
def jD.run{d}{g:Array aa->Sem aa}(r:jD P d g){args}{e}(o:(g args).run P e=.ok ab bi):(callFunc d args).run P e=.ok (.value ab) bi/\∀a,(callFunc d args).events P e a=(g args).events P e (a.push ⟨.mark (.extern d),m,f⟩):=by
 obtain⟨fn,n,p,k,b,l⟩:=r.fn;have i:fn.name≠ "runtime.NumGoroutine":=M;have j:fn.body=q:=dD;constructor
 .rw[run_callFunc_extern n p k b l,o];rfl
 intro a;simp[callFunc,n,i,j,b,l,o]
def eB.ext{B:ι->z}{d:ι->p an}{s}{r:Array aa->Sem aa}{args}(N:h3 P D t F n s args)(J:jD P s r)(l:∀g,bc n g->∃j b o,(r args.toArray).run P g.a=.ok o b.a/\bz (d j) b o (B j)/\bc (d j) b/\cP n g (d j) b/\∀k,∀e∈(r args.toArray).events P g.a k,e∈k∨h8 g e):eB P D t F n B d:=by
 intro g C I w;obtain⟨u,v⟩:=N g C I g.a;obtain⟨j,b,o,M,x,y,A,O⟩:=l g w;obtain⟨K,E⟩:=J.run M;refine⟨j,.value o,b,o,u.trans K,.inl a,x,y,A,λe i=>?_⟩;rw[v,E]at i;rcases O _ e i with l|l
 .simp at l;subst l;exact .inr ⟨s,a⟩
 grind
def eB.eb{i}{e:Array aa->Sem aa}{args}{l}(o:h3 P D t F n i args)(j:jD P i e)(k:∀d,(e args.toArray).run P d=.ok ab d)(s:∀d a,(e args.toArray).events P d a=a)(p:∀b,bz n b ab l):eB P D t F n (λ_:Unit=>l) λ_=>n:=
 .ext o j λb g=>⟨(),b,ab,k b.a,p b,g,.refl _ _,λa r u=>.inl M⟩
def eB.g_{v}{i:Array aa->Sem aa}{args}{ab:Nat->aa}{l:Nat->z}{bC}(J:h3 P D t F n v args)(A:jD P v i)(I:∀p,(i args.toArray).run P p=.ok (ab p.heap.size) (p.alloc (.cells #[bC] W)))(Q:∀p j,(i args.toArray).events P p j=j)(K:∀r n d,bz n d (ab r) (l r)):
  eB P D t F n l λr=>n++[.J (ee r W bC)]:=
 .ext J A λd g=>by
  have u:cP n d n {d with a:=d.a.alloc (.cells #[bC] W)}:=⟨by simp,λe b _=>iV _ _ b,λ_ _ _ w=>w,λ_ _ _ _=>rfl,λL C e b=>.inr ⟨L,C,b⟩,λN bX L k s=>⟨bX,L,k,s,.refl _ _⟩,rfl,rfl,rfl,rfl⟩
  have O:∀t,d.u d.a.heap.size t=q:=λt=>by
   cases o:d.u d.a.heap.size t with
   |none=>rfl
   |some ab=>exact absurd (g.block o) (w0 _)
  have k:=(g.c1 (bi:=d.a.alloc (.cells #[bC] W)) (cf:=d.u) E (λe b=>iV d.a _ b) (λe b t=>rfl) (λe b t ab o=>by have:=g.block o;omega) a a a).1;obtain⟨y,x⟩:=k.b0 (bX:=.J (ee d.a.heap.size W bC)) (L:=⟨.pointer (h ⟨d.a.heap.size,0,q⟩),[d.a.heap.size]⟩) u rfl g
   ⟨λe=>if e=d.a.heap.size then h (.cells #[bC] W (0,0))else q,⟨rfl,by simp,λe b=>by grind⟩,λe t b=>by
    by_cases i:e=d.a.heap.size
    .subst i;simp[dJ]at b;grind[lZ]
    grind,λe=>by by_cases i:e=d.a.heap.size<;>simp[i],λe b t=>by grind⟩
   (λe b=>by simp_all)
  exact⟨d.a.heap.size,_,_,I d.a,K _ _ _,y,x,λj B w=>.inl M⟩
def ee.own{C}(j:c' d n=h (.J (ee C W ab)))(bQ:bc n b):b.a.heap[C]?=h (.cells #[ab] W (0,0))/\b.a.cell? ⟨C,0,q⟩=h ab/\(∀a,h8 b ⟨.cell ⟨C,a,q⟩,m,m⟩)/\∀a,h8 b ⟨.cell ⟨C,a,q⟩,f,m⟩:=by have aE:=eo j;have l:d<c b.m:=h2;have e:=bK l;generalize b.m[d]=L at e;obtain⟨o,⟨t,i,u⟩,r,s,p⟩:=bQ.box d _ L aE e;have k:=r C _ i;have g:=(s C).2 M;exact⟨k,by simp[aL,k],λa=>qr (b_ e) g,λa=>om (b_ e) g (p C g _)⟩
def ee.ca{d C}{W}{ab bC}(g:c' d n=h (.J (ee C W ab)))(bQ:bc n b):bc (n.set d (.J (ee C W bC))) {b with a:=b.a.setRow C #[bC]}/\cP n b (n.set d (.J (ee C W bC))) {b with a:=b.a.setRow C #[bC]}:=by
 have g:=eo g;have s:d<c b.m:=h2;have l:=bK s;generalize b.m[d]=L at l;obtain⟨p,⟨j,k,B⟩,o,u,y⟩:=bQ.box d _ L g l;have z:=(u C).2 M;have r:=o C _ k;have t:∀e,e≠C->(b.a.setRow C #[bC]).heap[e]?=b.a.heap[e]?:=λe i=>setRow_other b.a C e _ i;have x:=setRow_heap b.a C #[ab] #[bC] W (0,0) r;have w:b.m.set d L=b.m:=m4;have D:=bQ.ca (d:=d) (j_:=ee C W bC) (cr:=L) (bi:=b.a.setRow C #[bC]) g l a E
  (λe i v=>t e M) (λe i=>.inl i)
  ⟨λe=>if e=C then h (.cells #[bC] W (0,0))else q,⟨j,by simp,λe i=>by grind⟩,λe A i=>by grind,λe=>by grind⟩ a a a
 grind
def eB.g'{o}{j:Array aa->Sem aa}{args}{bC}{l}(d){C}(k:c' d n=h (.J (ee C W bC)))(x:h3 P D t F n o args)(r:jD P o j)(w:∀i,i.cell? ⟨C,0,q⟩=h bC->(j args.toArray).run P i=.ok ab i/\∀a,∀b∈(j args.toArray).events P i a,b∈a∨b=⟨.cell ⟨C,0,q⟩,m,m⟩)(y:∀g,bz n g ab l):eB P D t F n (λ_:Unit=>l) λ_=>n:=
 .ext x r λg e=>by obtain⟨_,u,z,_⟩:=ee.own k e;obtain⟨s,p⟩:=w g.a u;exact⟨(),g,ab,s,y g,e,.refl _ _,λa b v=>(p a b v).imp id λA=>by grind⟩
def eB.iW{s}{p:Array aa->Sem aa}{args}{bC ER}{l}(d i){C o}{k}(g:c' d n=h (.J (ee C W ER)))(u:c' i n=h (.J (ee o k bC)))(I:h3 P D t F n s args)(y:jD P s p)(A:∀j,j.heap[C]?=h (.cells #[ER] W (0,0))->j.cell? ⟨o,0,q⟩=h bC->(p args.toArray).run P j=.ok ab (j.setRow C #[bC])/\∀b,∀a∈(p args.toArray).events P j b,a∈b∨a=⟨.cell ⟨o,0,q⟩,m,m⟩∨a=⟨.cell ⟨C,0,q⟩,f,m⟩)(K:∀n r,bz n r ab l):eB P D t F n (λ_:Unit=>l) λ_=>n.set d (.J (ee C W bC)):=
 .ext I y λr e=>by obtain⟨v,_,_,E⟩:=ee.own g e;obtain⟨_,B,J,_⟩:=ee.own u e;obtain⟨z,N⟩:=A r.a v B;obtain⟨x,w⟩:=ee.ca (bC:=bC) g e;refine⟨(),_,ab,z,K _ _,x,w,λb a M=>?_⟩;grind
def g.c6{M:ι->z}{b:ι->p an}(T:oT all F t=f)(N:fg D t.dst=f)(U:eB P D t F n M b)(V:∀k,g r D bf (.ae all bt::ar) .normal (gb t.dst (M k) F) (b k)):g r D bf (.ae all (t::bt)::ar) .normal F n:=by
 intro ai R I j S A u Q idx i a y;cases idx with
 |nil=>exact a.elim
 |cons ah idx=>
 refine rz i a.1 (j7 T _ _ _ I) λag v=>?_;have e:=j.rely v;have B:=I.rely v j;obtain⟨k,ae,l,ab,x,d,O,J,K,ad⟩:=U ag R B e;have w:=K.too5 e;refine⟨ae,l,ab,x,d,⟨⟨n,b k,e,J,K⟩,ad⟩,?_⟩;refine V k l _ ?_ J S A u Q idx i a.2 λW o C s X Y d E=>y W o C s X Y d ((v.aQ.trans w).trans E);cases aa:t.dst with
 |none=>exact B.mono w e.len
 |some Z=>exact(B.mono w e.len).put (lf N Z aa) O
def g.iU(o){ad}{ah}(y:look F o=ax (.cg ad (.O ah)))(l:∀p:Addr,g r D bf (.code s::ar) .normal ((o,cN (.iface ad (.pointer (h p))))::F) n):g r D bf (.code s::ar) .normal F n:=by
 refine b0.e4 (ι:=Addr) (dI:=λp=>(o,cN (.iface ad (.pointer (h p))))::F) (ao:=λ_=>n) (λC u e k=>?_) l;have b:=e.aJ o;rw[y]at b;have b:=b8 b;generalize x:u.tmps.getD o K=I at b;cases b with
 |@cg _ t _ i z=>
  cases i with
  |O v d E A B=>
   refine⟨⟨v,d,q⟩,C,a,⟨e.size,e.defers,λt=>?_⟩,k,.refl _ _⟩;simp only[look];cases j:af o t with
   |false=>exact e.aJ t
   |true=>
    have w:=dp j;subst w;rw[x];exact Rd.val a
def g.g9(o){ad}{l}(k:look F o=ax (.cg ad (.val l)))(j:g r D bf (.ae all bt::ar) .normal ((o,cN (.iface ad l))::F) n):g r D bf (.ae all bt::ar) .normal F n:=by
 refine fb.le j λn v w t b=>?_;simp[look];cases i:af o t with
 |false=>exact b
 |true=>
  have p:=dp i;subst p;rw[k]at b;have d:=b;cases d with
  |@cg _ u _ e s=>
   obtain rfl:=Rd.bk e;exact Rd.val a
def g.hS(o d)(N:look F o=aH d 0)(j:c' d n=h (.cells W [.c .bd]))(w:∀b,g r D bf (.code s::ar) .normal ((o,cN (.pointer (h ⟨b,0,q⟩)))::F) (n.set d (.J (ee b W (.pointer q))))):g r D bf (.code s::ar) .normal F n:=by
 refine b0.e4 (ι:=Nat) (dI:=λb=>(o,cN (.pointer (h ⟨b,0,q⟩)))::F) (ao:=λb=>n.set d (.J (ee b W (.pointer q)))) (λp Q u bQ=>?_) w;have j:=eo j;have C:d<c p.m:=h2;have t:=bK C;generalize p.m[d]=L at t;obtain⟨b,B,rfl,S,K,U⟩:=bQ.box d _ L j t
 match B,K with
 |[R],⟨x,_⟩=>
  have x:=x;cases x;obtain⟨M,l⟩:=bQ.b' (cf:=p.u) (bi:=p.a) (ec:=.J (ee b W (.pointer q))) (cr:=⟨.pointer (h ⟨b,0,q⟩),[b]⟩) j t rfl (bB _) (λ_ _ _=>rfl) (λ_ _ _ _=>rfl) (λ_ _ _ A=>A) bQ.mem (λk e=>⟨.inl e,bQ.lt _ (b_ t) k e⟩) rfl rfl rfl
   ⟨λk=>if k=b then h (.cells #[.pointer q] W (0,0))else q,⟨rfl,by simp,λk e=>by grind⟩,λk J e=>by grind,λk=>by by_cases v:k=b<;>simp[v],λk e J=>by grind⟩
  refine⟨b,{p with m:=p.m.set d ⟨.pointer (h ⟨b,0,q⟩),[b]⟩},rfl,⟨u.size,u.defers.imp λ_ i=>i.mono l.ext,λz=>?_⟩,M,l⟩;simp only[look];cases e:af o z with
  |false=>exact(u.aJ z).mono l.ext bQ.len
  |true=>
   have v:=dp e;subst v;have i:=u.aJ o;rw[N]at i;obtain⟨_,T,O,y,I,E⟩:=(i:cA n p _ (.ptr d 0));rw[t]at y;cases y;cases I;rw[E];exact Rd.val a
end
section
variable {r:aj P}
def vB:p O->Option (p aa)
 |[]=>h []
 |.c (.int a b)::e=>match vB e with
  |some d=>h (.int a b::d)
  |none=>q
 |_=>q
def Ky:∀{e:p O}{B b:p aa}{r:a6},bN n r B e->vB e=h b->B=b/\∀d i,bN d i b e
 |[],[],b,_,_,g=>by cases g;exact⟨a,λ_ _=>trivial⟩
 |[],_::_,_,_,j,_=>j.elim
 |_::_,[],_,_,j,_=>j.elim
 |.c (.int u v)::w,x::B,b,r,j,g=>by
  simp only[vB]at g;cases l:vB w with
  |none=>rw[l]at g;cases g
  |some y=>
   rw[l]at g;cases g;obtain⟨k,s⟩:=j;obtain⟨rfl,t⟩:=Ky s l;have k:Rd r.u x (.int u v):=k;cases k with
   |int o=>exact⟨rfl,λd i=>⟨Rd.int o,t d i⟩⟩
def eB.hB{b}{ah}{j}(p:t.op=.makeFunc (.func b) #[l] #[])(w:bG F l=.q (.agg ah))(i:vB ah=h j):
  eB P D t F n (λ_:{_u:Unit // ∀a k,bN a k j ah}=>ax (.val (.func (.func b) #[.agg j.toArray] #[]))) λ_=>n:=by
 intro r s u g;have o:=eN u l;rw[w]at o;obtain⟨B,v,d⟩:=o;obtain⟨rfl,e⟩:=Ky d i;refine⟨⟨(),e⟩,.value (.func (.func b) #[.agg B.toArray] #[]),r,_,?_,.inl rfl,Rd.val rfl,g,.refl _ _,?_⟩
 .simp only[ac,p,Instr.makeFunc];simp[v]
 have:(ac s.eval t).events P r.a #[]=#[]:=by simp only[ac,p,Instr.makeFunc];rfl
 rw[this];exact .nil
def LS(cz:t.op=.call {callee:=.value cR,args:=#[l],argTypes:=du}){b}{fn}(I:P.funcs[b]?=h fn)(i:(fn.name== "runtime.NumGoroutine")=m)(g:fn.body.isNone=m){a:Act}{e}(C:a.eval cR=.func (.func b) #[e] #[])(d):
  (ac a.eval t).run P d=.ok (.enter b [e,a.eval l].toArray) d/\(ac a.eval t).events P d #[]=#[]:=by
 have s:fn.name≠ "runtime.NumGoroutine":=M;have j:fn.body≠q:=M;constructor
 .exact Ot
 exact Ot
def aV.g2(R:∀n B j,bY D n B F j->aU t (yielded all.toArray j.tmps)=f)(d:t.op=.call {callee:=.value cR,args:=#[l],argTypes:=du}){I}{ah}{k}{X res}(V:bG F cR=ax (.val (.func (.func I) #[.agg k.toArray] #[])))(Y:∀o b,bN o b k ah)(W:BO (bG F l)=X)(N:Z r I [.q (.agg ah),X] [] res [])(s:ha 0 [.q (.agg ah),X]=f)(u:gA [] [.q (.agg ah),X]=[.q (.agg ah),X])(ab:e' [] res=res):aV r D all t F n res n:=by
 intro B j p y ae U ag ad ai A x z w;have M:=eN p cR;rw[V]at M;have O:=Rd.bk (b8 M);obtain⟨fn,K,J,E⟩:=N.1;have Q:=HE (eN p l);rw[W]at Q;have T:b6 n B [.agg k.toArray,j.eval l] (gA [] [.q (.agg ah),X]):=by rw[u];exact⟨⟨k,a,Y _ _⟩,Q,v⟩
 refine Gw (aP:=[]) (dh:=[]) (aM:=[]) x z (R _ _ _ p) y (λC=>(LS d K J E O C).1) (λC=>(LS d K J E O C).2) N T s a a a a (bB _) ?_;intro aa b e g i;have S:dc [] [] n=n:=by simp[dc]
 rw[S]at e g i;refine w aa b ?_ g i;simpa[ab,gS]using e
def dB.cL(ai:∀n i b,bY D n i F b->aU t (yielded all.toArray b.tmps)=f)(e:t.op=.call {callee:=.value cR,args:=ag,argTypes:=du}){I}(g:gZ (bG F cR)=h (I,cap))(O:bl r I cV n res aM)(W:l3 (ag.toList.map (bG F)++e7 cap) cV=h Y)(ae:U Y):dB r D all t F n res aM:=by
 intro i b y s ak aa S aj an A p u o;have N:=eN y cR;unfold gZ at g;split at g
 case h_2=>cases g
 case h_1 vc uZ he=>
  cases g;rw[he]at N;have J:=b8 N;generalize Q:b.eval cR=V at J;cases J with
  |fn k a w d T j X l ad z=>
   have ah:k=[]:=jI w;subst ah;have Z:b6 n i a (e7 cap):=ql (λx R v=>⟨j x,l x M,z x R v⟩) d;have ab:b6 n i (ag.toList.map b.eval++a) cV:=ti W ae ((m' (eN y) ag.toList).append Z);obtain⟨fn,K,E,C⟩:=O.1;exact Gx p u (ai _ _ _ y) s (λB=>(mU e K E C Q B).1) (λB=>(mU e K E C Q B).2) O ab o
def g.hr(d){p}(aE:n[d]?=h p)(B:∀L,fK p L .x L)(o:g r D bf (.code s::ar) .normal F (n.set d .x)):g r D bf (.code s::ar) .normal F n:=by
 refine g.aU (λb E l bQ=>?_) o;have t:d<c b.m:=h2;have j:=bK t;generalize b.m[d]=L at j;have y:b.m.set d L=b.m:=by
  apply qd;intro A;by_cases u:d=A
  .subst u;rw[ip t,j]
  rw[kJ u]
 obtain⟨w,i⟩:=bQ.b' (cf:=b.u) (bi:=b.a) aE j (B L) (bB _) (λ_ _ _=>rfl) (λ_ _ _ _=>rfl) (λ_ _ _ z=>z) bQ.mem (λx e=>⟨.inl e,bQ.lt L (b_ j) x e⟩) rfl rfl rfl v;rw[y]at w i;exact⟨b,a,⟨l.size,l.defers.imp λ_ k=>k.mono i.ext,λC=>(l.aJ C).mono i.ext bQ.len⟩,w,i⟩
def g.cO(d){b}(aE:c' d n=h b)(e:∀L,fK b L .x L)(a:g r D bf (.code s::ar) .normal F (n.set d .x)):g r D bf (.code s::ar) .normal F n:=.hr d (eo aE) e a
def g.eO{s}:∀d{b:p an},g r D bf (.code s::ar) .normal F (b++aY d .x)->g r D bf (.code s::ar) .normal F b
 |0,b,a=>by simpa using a
 |d+1,b,a=>by refine g.fh 0 1 (g.hr (c b) (wS) bp (g.eO d ?_));rw[List.set_append_right _ _ (bB _)];simpa[List.replicate_succ]using a
end
section
variable {r:aj P}{s:Type}{l:s->Nat->z}{br:s->(Nat->Bool)->p an}{fc:s->(Nat->Bool)->Prop}
def eC(s:aj P)(r:Nat)(a:p ap)(o:bJ){i:Type}(j:i->Nat->z)(l:i->(Nat->Bool)->p an)(d:i->(Nat->Bool)->Prop)(e:Nat)(t:ap):Prop:=
 ∀g (z:Nat->Bool),d g z->(∀b,ek a e b=f->z b=f)->(∀b,(b=e∨ek a b e=f)->z b=m)->dB s r a t (dC a o (j g) e) (l g z) (λk:{n:i // (∀b,z b=f->j n b=j g b)/\d n (dt e z)}=>j k.1 e) (λk=>l k.1 (dt e z))
def uk{P}(j:aj P)(g:Nat)(b:p ap)(e:bJ){d:Type}(l:d->Nat->z)(i:d->(Nat->Bool)->p an)(a:d->(Nat->Bool)->Prop):p ap->Nat->Prop
 |[],_=>True
 |n::o,k=>eC j g b e l i a k n/\uk j g b e l i a o (k+1)
theorem uk.get{all}:∀{i:p ap}{g:Nat},uk r D all F l br fc i g->∀d b,i[d]?=h b->eC r D all F l br fc (g+d) b
 |[],_,_,d,b,e=>by grind
 |j::k,g,e,0,b,a=>by simp at a;subst a;exact e.1
 |j::k,g,e,d+1,b,a=>by have:=uk.get e.2 d b M;grind
def g.hf{id}(J:P.follows Departure.mixedOrders=f)(u:s->Nat->z)(l:s->(Nat->Bool)->p an)(a:s->(Nat->Bool)->Prop)(o:s)(I:a o λ_=>m)(K:l o (λ_=>m)=n)(x:kW aD.toList=f)(y:n_ aD.toList 0=f)(A:oj D aD.toList=f)(k:uk r D aD.toList F u l a aD.toList 0)(C:∀d z,a d z->(∀i,i<c aD.toList->z i=f)->g r D bf ar .normal (nq aD.toList F (u d)) (l d z)):g r D bf (.code (.region id aD f)::ar) .normal F n:=by
 have:=b0.reg (r:=r) (D:=D) (F:=F) (n:=n) J (all:=aD.toList) (c aD.toList) u l a o I K x y A (bB _)
  (λi b e=>absurd e (n7.2 b)) (λd z _ _ i b e=>absurd e (n7.2 b))
  (λd z i w t j _ E B v=>by have b:=k.get i w j;rw[cZ]at b;exact b d z t (A7 v i w j B) (Gj v E))
  (aN:=g r D bf ar) (λd z t M=>by rw[sB];exact .nil (C d z t M)) id
 exact ua
theorem eC.of(J:∀a (z:Nat->Bool),fc a z->(∀d,ek all e d=f->z d=f)->(∀d,(d=e∨ek all d e=f)->z d=m)->fc a (dt e z)/\aV r D all t (dC all F (l a) e) (br a z) (l a e) (br a (dt e z))):eC r D all F l br fc e t:=by intro a z I j k M A E p B K i g idx b o s n;obtain⟨C,u⟩:=J a z I j k;exact u M A E p B K i g idx b o s λN y v w x=>n ⟨a,λ_ _=>rfl,C⟩ N y v w x
def eC.hO(S:∀k (z:Nat->Bool),fc k z->(∀a,ek all e a=f->z a=f)->(∀a,(a=e∨ek all a e=f)->z a=m) ->
  ∃(i:Type) (M:i->Go.AM.z) (b:i->p an),dB r D all t (dC all F (l k) e) (br k z) M b/\∀a,∃j,((∀I,z I=f->l j I=l k I)/\fc j (dt e z))/\M a=l j e/\b a=br j (dt e z)):eC r D all F l br fc e t:=by intro k z U v w W N Q A O T u s idx g y B x;obtain⟨i,M,b,V,J⟩:=S k z U v w;refine V W N Q A O T u s idx g y B λa X K d n o=>?_;obtain⟨j,R,C,E⟩:=J a;rw[C]at d;rw[E]at d n o;exact x ⟨j,R⟩ X K d n o
end
section
variable {r:aj P}{l:Option ι->Nat->z}{b:Option ι->Bool->Bool->Bool->p an}{ai ae I:Nat}
abbrev mo(g:Option ι->Bool->Bool->Bool->p an)(d e b:Nat):Option ι->(Nat->Bool)->p an:=λa z=>g a (z d) (z e) (z b)
abbrev mh(a:Type)(d:Nat):Option a->(Nat->Bool)->Prop:=λb z=>b.isSome=z d
def eC.aZ(n:af A e=m)(j:af ai e=m)(k:af ae e=m)(p:af I e=m)(o:∀a d g i,aV r D all t (dC all F (l a) e) (b a d g i) (l a e) (b a d g i)):
  eC r D all F l (mo b ai ae I) (mh ι A) e t:=by grind[eC.of,nN]
def eC.jV(p:af A e=m)(g:af ai e=m)(i:af ae e=m)(u:af I e=m)(s:ek all e A=f)(o:∀a j k n,aV r D all t (dC all F (l (h a)) e) (b (h a) j k n) (l (h a) e) (b (h a) j k n)):
  eC r D all F l (mo b ai ae I) (mh ι A) e t:=by
 refine eC.of λd z w aR _=>⟨?_,?_⟩
 .grind [nN]
 show aV r D all t _ (b d (z ai) (z ae) (z I)) _ (b d (dt e z ai) (dt e z ae) (dt e z I));rw[nN g,nN i,nN u];have v:=aR A s;cases d with
 |none=>grind
 |some a=>exact o _ _ _ _
def eC.jU(aR:bn P ad)(iU:a9 r CT)(cz:U ck)(u:∀C x j s,hG ad CT [] all (dC all F (l C) e) (b C x j s) t=h (l C e,q,ck):=by intro C x j s;cases C<;>cases x<;>cases j<;>cases s<;>rfl)(pq:af A e=m:=by rfl)(cS:af ai e=m:=by rfl)(dq:af ae e=m:=by rfl)(w:af I e=m:=by rfl):eC r D all F l (mo b ai ae I) (mh ι A) e t:=.aZ pq cS dq w λC x j s=>aV.eval aR iU (u C x j s) cz
def eC.fQ(aR:bn P ad:=by exact be)(iU:a9 r CT:=by first|assumption|exact a9.nil)(u:∀C x j s,hG ad CT [] all (dC all F (l C) e) (b C x j s) t=h (l C e,q,[]):=by intro C x j s;cases C<;>cases x<;>cases j<;>cases s<;>rfl)(pq:af A e=m:=by rfl)(cS:af ai e=m:=by rfl)(dq:af ae e=m:=by rfl)(w:af I e=m:=by rfl):eC r D all F l (mo b ai ae I) (mh ι A) e t:=.jU (ck:=[]) aR iU v u pq cS dq w
def eC.dV(aR:bn P ad:=by exact be)(iU:a9 r CT:=by first|assumption|exact a9.nil)(u:∀w x j s,hG ad CT [] all (dC all F (l (h w)) e) (b (h w) x j s) t=h (l (h w) e,q,[]):=by intro w x j s;cases x<;>cases j<;>cases s<;>rfl)(pq:af A e=m:=by rfl)(cS:af ai e=m:=by rfl)(dq:af ae e=m:=by rfl)(i:af I e=m:=by rfl)(C:ek all e A=f:=by rfl):eC r D all F l (mo b ai ae I) (mh ι A) e t:=.jV pq cS dq i C λw x j s=>aV.y aR iU (u w x j s)
def eC.iV(n:af ai A=m)(o:af ae A=m)(C:af I A=m)(k:ek all ai A=f)(p:ek all I A=f)(x:∀e g,g=A∨ek all g A=f∨l (h e) g=l q g)(u:∀j,dB r D all t (dC all F (l q) A) (b q m j m) (λe=>l (h e) A) (λe=>b (h e) m j m)):eC r D all F l (mo b ai ae I) (mh ι A) A t:=by
 refine eC.hO λi z B aR d=>?_;have s:=d A (.inl a);have v:=d ai (.inr k);have w:=d I (.inr p);have y:i=q:=by
  cases i with
  |none=>rfl
  |some e=>grind
 grind[wi,nN]
def eC.g5(k:af A ai=m)(i:af ae ai=m)(s:af I ai=m)(e:ek all ai A=f)(u:ek all I ai=f)(o:∀a d,aV r D all t (dC all F (l (h a)) ai) (b (h a) m d m) (l (h a) ai) (b (h a) f d m)):eC r D all F l (mo b ai ae I) (mh ι A) ai t:=by
 refine eC.of λg z p aR j=>?_;have n:=aR A e;cases g with
 |none=>grind
 |some a=>
  grind[nN,wi]
def eC.g6(g:af A ae=m)(e:af ai ae=m)(j:af I ae=m)(i:ek all I ae=f)(k:∀a d,aV r D all t (dC all F (l a) ae) (b a d m m) (l a ae) (b a d f m)):eC r D all F l (mo b ai ae I) (mh ι A) ae t:=by grind[eC.of,nN,wi]
def eC.g7(k:af A I=m)(g:af ai I=m)(i:af ae I=m)(d:ek all I A=f)(s:ek all I ai=f)(u:ek all I ae=f)(p:∀a,aV r D all t (dC all F (l (h a)) I) (b (h a) f f m) (l (h a) I) (b (h a) f f f)):eC r D all F l (mo b ai ae I) (mh ι A) I t:=by
 refine eC.of λe z o aR j=>?_;have n:=aR A d;cases e with
 |none=>grind
 |some a=>
  grind[nN,wi]
end
def Rd.jX{o}{i}(y:Rd bE ab (.S o i k T)):∃n a p b,ab=.slice n k a/\k<=a/\a<=9223372036854775807/\(0<k->n=h ⟨p,b,q⟩)/\(∀d,d<k->c (T d)=i)/\∀d,d<k->∀l e,(T d)[l]?=h e->∃w,bE p (b+d*i+l)=h w/\Rd bE w e:=by
 cases y with
 |@S n _ a _ _ _ p b A x s z t r u v=>exact⟨n,a,p,b,rfl,x,s,r,t,λd g l e j=>⟨_,u d g l e j,v d g l e j⟩⟩
def Rd.h1{o}{cap i}(e:k<=cap)(g:cap<=9223372036854775807)(s:0<k->o=h ⟨j,off,q⟩)(r:∀a,a<k->c (T a)=i)(u:∀a,a<k->∀b d,(T a)[b]?=h d->∃p,bE j (off+a*i+b)=h p/\Rd bE p d):Rd bE (.slice o k cap) (.S m i k T):=by refine .S j off (λa b=>(bE j (off+a*i+b)).getD K) e g (λt=>by cases t) r s (λa l b d n=>M) λa l b d n=>?_;grind
section
variable {r:aj P}{I:p il}
end
section
variable {r:aj P}{l:Option ι->Nat->z}{b:Option ι->Bool->Bool->Bool->p an}{s x I:Nat}
def eC.iX(n:af s A=m)(o:af x A=m)(J:af I A=m)(E:ek all s A=f)(K:ek all I A=f)(ok:Bool->ι->Prop)(B:∀j d,ok j d->∀g,g=A∨ek all g A=f∨(g=x/\j=m)∨l (h d) g=l q g)(w:∀j,dB r D all t (dC all F (l q) A) (b q m j m) (λd:{d // ok j d}=>l (h d.1) A) (λd=>b (h d.1) m j m)):eC r D all F l (mo b s x I) (mh ι A) A t:=by
 refine eC.hO λv z M aR e=>?_;have y:=e A (.inl a);have p:=e s (.inr E);have u:=e I (.inr K);have C:v=q:=by
  cases v with
  |none=>rfl
  |some d=>grind
 subst C;have key:=w (z x);refine⟨{d // ok (z x) d},λd=>l (h d.1) A,λd=>b (h d.1) m (z x) m,?_,λd=>⟨h d.1,⟨λg k=>?_,?_⟩,a,?_⟩⟩
 .show dB r D all t _ (b q (z s) (z x) (z I)) _ _;rw[p,u];exact key
 .rcases B _ d.1 d.2 g with i|i|⟨i,eJ⟩|i
  .subst i;rw[y]at k;cases k
  .have:=e g (.inr i);rw[this]at k;cases k
  .subst i;rw[eJ]at k;cases k
  exact i
 .show (h d.1).isSome=dt A z A;rw[zE];rfl
 show b (h d.1) m (z x) m=b (h d.1) (dt A z s) (dt A z x) (dt A z I);rw[m1 n,m1 o,m1 J,p,u]
end
section
open Go.Conc
def gr(d:a6):Prop:=∀a b e,d.u a b=h e->d.a.cell? ⟨a,b,q⟩=h e
def jE(a:Nat->Prop):Go.Loc->Prop
  |.cell b=>a b.block
  |.obj d=>a d
  |_=>False
structure gU(s:Nat->Prop)(b:a6):Prop where
  own:∀j,s j->¬b.own j
  m:∀j,s j->∀L∈b.m,j∉L.al
  u:∀j,s j->∀t,b.u j t=q
  lt:∀j,s j->j<b.a.heap.size
section
variable {s:Nat->Prop}
def gU.step(g:gU s b)(e:cP n b ao az):gU s az:=by
  refine⟨λd a=>by rw[e.own];exact g.own d a,λd a L k j=>?_,λd a p=>by rw[e.bC d (g.lt d a) (g.m d a)];exact g.u d a p,λd a=>eD (g.lt d a) e.size⟩;rcases e.bU L k d j with i|⟨o,l,i⟩
  · exact absurd (g.lt d a) (n7.2 i)
  · exact g.m d a o l i
theorem gU.aU(g:gU s b)(k:eX b az):gU s az:=by
  have i:∀d,s d->¬(az.own d∨∃L∈az.m,d∈L.al):=λd a e=>by
    rcases k.blk d e with e|⟨L,j,e⟩
    · exact g.own d a e
    · exact g.m d a L j e
  exact⟨λd a e=>i d a (.inl e),λd a L j e=>i d a (.inr ⟨L,j,e⟩),λd a l=>by rw[k.bC d (g.m d a)];exact g.u d a l,λd a=>by rw[k.a];exact g.lt d a⟩
def gU.b2(e:gU s b)(g:nZ b az):gU s az:=by
  refine⟨λd a=>by rw[g.own];exact e.own d a,λd a=>by rw[g.m];exact e.m d a,λd a i=>?_,λd a=>by rw[g.a];exact e.lt d a⟩;cases j:az.u d i with
  |none=>rfl
  |some k=>rw[<-g.e8 d i k j,e.u d a i]
def gU.at(a:gU s b)(d):gU s {b with a:=b.a.at d}:=⟨a.own,a.m,a.u,a.lt⟩
def gr.at(d:gr b)(a):gr {b with a:=b.a.at a}:=d
theorem gr.aU(a:eX b az):gr az:=λe g i d=>by rw[a.a];exact a.cell e g i d
def gr.b2(j:gr b)(d:nZ b az):gr az:=λa e g i=>by rw[d.a];exact j a e g (d.e8 a e g i)
def gr.lt(e:gr b){t}(d:b.u j t=h ab):j<b.a.heap.size:=by
  have:=e j t ab d;rcases dZ j b.a.heap.size with a|a
  · exact a
  · simp[aL,AH a]at this
def cX.at(d:gr b)(a):cX b {b with a:=b.a.at a}:=⟨rfl,rfl,rfl,bB _,λ_ _=>rfl,d,rfl,rfl,rfl⟩
def Tw{o}(p:bc n b)(r:gU s b)(g:h8 b o){t}(aE:b.a.heap.size<=t):EvL (jE s) t o:=by
  obtain⟨u,wr,y⟩:=o;cases u with
  |cell l=>
    obtain⟨j,k,a⟩:=g;simp only at j k a;subst j;have key:¬s l.block/\l.block<b.a.heap.size:=by
      rcases a with a|⟨⟨L,i,a⟩,_⟩|⟨_,A,a⟩
      · exact a.elim
      · exact⟨λe=>r.m _ e L i a,p.lt L i _ a⟩
      · refine⟨λe=>?_,gr.lt p.mem a⟩
        rw[r.u _ e]at a;cases a
    exact evL_cell l wr key.1 (eD key.2 aE)
  |obj z=>
    obtain⟨j,k⟩:=g;simp only at j k;subst j;obtain⟨L,i,a⟩:=k.resolve_left id;refine⟨λe d v=>?_,by simp,by simp,?_⟩
    · simp[aO,MemAct.touch?]at d
      subst d;exact absurd a (r.m _ v L i)
    · simp[aO,MemAct.low,Loc.low]
      exact eD (p.lt L i _ a) aE
  |mark x=>
    simp[h8]at g;rcases g with rfl|⟨w,rfl⟩
    · exact⟨λe d=>by simp[aO,MemAct.touch?]at d,by simp,by simp,by simp[aO,MemAct.low]⟩
    · exact⟨λe d=>by simp[aO,MemAct.touch?]at d,by simp,by simp,by simp[aO,MemAct.low]⟩
  |_=>exact g.elim
end
def m_(b:Trace):Prop:=∀a,NoRelease a b
def m_.app{o}(e:m_ o){C}{fn}{pos}{T}(j:∀d∈T,∀a,d.loc≠.mark (.release a)):m_ (o++MemOp.ofEvents C fn pos T):=
  λa=>(e a).app λi b g=>by grind[Go.Conc.mem_ofEvents,Go.ConcR.loc_of_ofEvent]
def Tx{a}(i:h8 b a)(g):a.loc≠.mark (.release g):=by intro d;obtain⟨loc,wr,k⟩:=a;simp only at d;subst d;rcases i with e|⟨j,e⟩<;>cases e
def Kx{a:aT}(e:a.mute=f)(d):a.loc≠.mark (.release d):=by intro b;obtain⟨loc,wr,g⟩:=a;simp only at b;subst b;simp[Event.mute]at e
def k4(P:aI)(s:ak)(g:a6)(o:ak->a6->Prop):Prop:=
  ∀(l:Nat->Prop) b dG i (t:Nat->Nat),gr g->b[0]?=h s->Leavers P i b t->Past (jE l) g.a.heap.size i->gU l g->m_ i ->
    ∃(n:Nat) (k:Nat->Prop) (j:Array ak) (d:ak) (a:a6) (p:Option (Nat×Nat)) (e:Trace) (r:Nat->Nat),
      runNT P n (crowd b g.a dG) i=(.next (crowd j a.a p),e)/\gr a/\j[0]?=h d/\Leavers P e j r/\Past (jE k) a.a.heap.size e/\gU k a/\m_ e/\o d a
def aj.aV(P):aj P:={b8:=f,rely:=λb a=>cX b a/\∃d,a={b with a:=b.a.at d},dj:=k4 P,bN:=λe=>e.1,dR:=True}
instance (P:aI):(aj.aV P).cb:=⟨v⟩
theorem D6{P}:∀b a {e i:Machine} {j g:Trace},runNT P b e j=(.next i,g)->runNT P (b+a) e j=runNT P a i g
  |0,a,e,i,j,g,d=>by simp[runNT]at d;grind
  |b+1,a,e,i,j,g,d=>by
    rw[show b+1+a=(b+a)+1 by omega];simp[runNT]at d⊢;cases l:stepT P e with
    |mk o k=>
      rw[l]at d;cases o with
      |next n=>exact D6 b a d
      |ended p r=>grind
def k4.trans{s:ak->a6->Prop}(B:k4 P C b s)(I:∀a d,s a d->k4 P a d br):k4 P C b br:=by intro x e dG S Q n g j k l o;obtain⟨u,F,w,a,d,z,R,W,D,i,V,O,U,J,E,T⟩:=B x e dG S Q n g j k l o;obtain⟨t,v,y,K,r,A,M,p,k1,N⟩:=I a d T F w z R W i V O U J E;exact⟨u+t,v,y,K,r,A,M,p,by grind[D6],N⟩
def k4.j8{ad:ak->a6->Prop}(aA:C.status=.running)(S:∀(r:Nat->Prop) d B dG g (j:Nat->Nat),gr b->d[0]?=h C->Leavers P g d j->Past (jE r) b.a.heap.size g->gU r b->m_ g ->
      ∃F G x e,runT P (crowd d (b.a.at B) dG) 0=(.next (crowd F x.a dG),e)/\gr x/\F[0]?=h G/\Leavers P (g++e) F j/\Past (jE r) x.a.heap.size (g++e)/\gU r x/\m_ (g++e)/\ad G x):k4 P C b ad:=by
  intro r d dG g j;have key:∀X d B dG g (j:Nat->Nat),Go.ConcN.sumTo d.size j<=X->gr b->d[0]?=h C->Leavers P g d j->Past (jE r) b.a.heap.size g->gU r b->m_ g ->
      ∃(Z:Nat) (W:Nat->Prop) (I:Array ak) (k:ak) (n:a6) (A:Option (Nat×Nat)) (O:Trace) (Y:Nat->Nat),
        runNT P Z (crowd d (b.a.at B) dG) g=(.next (crowd I n.a A),O)/\gr n/\I[0]?=h k/\Leavers P O I Y/\Past (jE W) n.a.heap.size O/\gU W n/\m_ O/\ad k n:=by
    intro X;induction X with
    |zero=>?_
    |succ X aq=>?_
    all_goals
      intro d B dG g j aG v s l t u o;have ar:∀C∈d,awake C:=by
        intro w aB;obtain⟨i,p,rfl⟩:=Array.mem_iff_getElem.1 aB;rcases n9 i with rfl|ae
        · grind[awake_of]
        · exact awake_of ((l.old i _ ae (iE p)).status.elim .inl λw=>.inr (.inr w))
      obtain⟨i,w,d2,A,p,aN,ah⟩:=crowd_pick (P:=P) (w:=b.a.at B) (sl:=dG) ar ⟨0,C,s,aA⟩;rw[show(b.a.at B).at d2=b.a.at d2 from a]at ah;rcases n9 i with rfl|ae
      · obtain⟨F,G,x,e,k1,L,aw,ab,ax⟩:=S r d d2 A g j v s l t u o
        exact⟨1,r,F,G,x,A,g++e,j,by simp[runNT,ah,k1],L,aw,ab,ax⟩
      · have U:=l.old i w ae p
        have au:(i==0)=m:=M;have H:i<d.size:=(jh.1 p).1;cases aj:j i with
        |zero=>rw[aj]at U;rw[U.1]at aN;cases aN
        |succ D=>
          rw[aj]at U;rcases U with⟨aF,_⟩|⟨_,k,T,z,ao,aL⟩
          · grind
          have aJ:Go.ConcN.sumTo d.size (Go.ConcN.upd j i D)+(D+1)=Go.ConcN.sumTo d.size j+D:=by have:=Go.ConcN.sumTo_upd j D id H;simpa[aj]using this
          first
          | (exfalso;omega)
          | (have aH:=runT_crowd_go (P:=P) (sl:=A) (i:=i) p (by rw[au];exact ao (b.a.at d2))
             have aK:((d.map (woken P w k (b.a.at d2))).setIfInBounds i k).size=d.size:=E;obtain⟨Z,W,I,av,n,N,O,Y,k1,L⟩:=aq ((d.map (woken P w k (b.a.at d2))).setIfInBounds i k) d2 A (g++MemOp.ofEvents i w.frame.fn w.frame.place T) (Go.ConcN.upd j i D) M v
              (by grind[woken_run])
              ⟨λV aM J R=>by
                by_cases ai:i=V
                · grind[Go.ConcN.upd_same,Deaf_own]
                · rw[sH ai,Array.getElem?_map]at R
                  obtain⟨aI,az,rfl⟩:=rn.1 R;have an:=l.old V aI J az;rw[woken_quitsD an,Go.ConcN.upd_ne j D (qc ai),Deaf_other g ai _ (λag K=>by grind[Go.Conc.mem_ofEvents])];exact an,λV J=>by
                rw[Deaf_other g (g':=i) M _ (λag K=>by grind[Go.Conc.mem_ofEvents])]
                exact l.above V M⟩
              (t.mute y z) u (o.app λaE aa aD=>Kx (z aE aa) aD)
             exact⟨Z+1,W,I,av,n,N,O,Y,by simp[runNT,ah,aH];exact k1,L⟩)
  intro v s l t u o;have:=key _ d b.a.drawn dG g j (bB _) v s l t u o
  rwa [show b.a.at b.a.drawn=b.a from a]at this
def _root_.Go.Conc.Leavers.own{d}{s}{o}{n:Nat->Nat}(l:Leavers P o gs n){aD}(g:∀b∈aD,b.g=0)(u:0<gs.size):Leavers P (o++aD) ((gs.map (woken P C d s)).setIfInBounds 0 d) n:=
  ⟨λj v e i=>by
    have p:0≠j:=y;rw[sH p,Array.getElem?_map]at i;obtain⟨t,r,rfl⟩:=rn.1 i;have k:=l.old j t e r;rw[woken_quitsD k,Deaf_other o y _ (λb a=>g b a)];exact k,λj e=>by
    rw[Deaf_other o (g':=0) M _ (λb a=>g b a)]
    exact l.above j M⟩
def cd.aV{P:aI}{O:ak->a6->Prop}{C}{b}(E:cd (aj.aV P) O C b):k4 P C b O:=by
  induction E with
  |stop E=>intro p l dG v u n g i j k o;exact⟨0,p,l,_,_,dG,v,u,a,n,g,i,j,k,o,E⟩
  |aU d _ s=>
    intro p l dG v u n g i j k o;have:=s p l dG v u (.aU d) g i (by rw[d.a];exact j) (k.aU d) o
    rwa [d.a]at this
  |b2 _ d _ s=>
    intro p l dG v u n g i j k o;have:=s p l dG v u (n.b2 d) g i (by rw[d.a];exact j) (k.b2 d) o
    rwa [d.a]at this
  |dj K _ s=>exact k4.trans K s
  |@step C b ab z W M F I _ s=>
    refine k4.trans (k4.j8 (ad:=λw A=>∃y,(aj.aV P).rely b y/\w=ab y/\A=z y) M λp l r dG v u n g i j k x=>?_) λw A ⟨y,k1,Z,aa⟩=>by subst Z aa;exact s y k1
    have B:(aj.aV P).rely b {b with a:=b.a.at r}:=⟨cX.at n r,r,rfl⟩;obtain⟨⟨ae,T,J,X,t⟩,S⟩:=I _ B;have V:=(jh.1 g).1;have R:gU p {b with a:=b.a.at r}:=k.at r;exact⟨_,_,z {b with a:=b.a.at r},_,runT_crowd_go (P:=P) (sl:=dG) (i:=0) g (show aq P (0==0) C (b.a.at r)=_ from F _ B),X.mem,by grind,
      i.own (λY Q=>by grind[Go.Conc.mem_ofEvents]) V,((j.mono t.size).own λD N=>Tw J R (S D N) t.size),R.step t,x.app λD N U=>Tx (S D N) U,_,B,rfl,rfl⟩
inductive cm where
 |leaf
 |node (ae:a6->cm)
def cm.lt:cm->cm->Prop
 |_,.leaf=>False
 |d,.node a=>∃b,d=a b∨cm.lt d (a b)
def cm.ft:∀g:cm,Acc cm.lt g
 |.leaf=>⟨_,λ_ b=>b.elim⟩
 |.node d=>⟨_,λ_ ⟨e,a⟩=>a.elim (λa=>a▸cm.ft (d e)) λb=>(cm.ft (d e)).inv b⟩
def cm.dJ:Nat->cm
 |0=>.leaf
 |a+1=>.node λ_=>cm.dJ a
def cm.gz(k)(b:a6):cm.lt (cm.dJ k) (cm.dJ (k+1)):=⟨b,.inl a⟩
def wP(e:Nat)(d z:Nat->cm):Prop:=∃a,a<e/\cm.lt (d a) (z a)/\∀b,b≠a->d b=z b
def Ng:∀b,WellFounded (wP b)
 |0=>⟨λ_=>⟨_,λ_ ⟨e,g,_⟩=>absurd g (iH e)⟩⟩
 |b+1=>by
  have n:=Ng b;have key:∀d:cm,∀z:Nat->cm,z b=d->Acc (wP (b+1)) z:=by
   intro d;induction cm.ft d with
   |intro d _ r=>
    intro z;induction n.apply z with
    |intro z _ l=>
     intro s;refine⟨_,λp g=>?_⟩;obtain⟨e,o,k,i⟩:=g;rcases dZ e b with j|j
     .exact l p ⟨e,j,k,i⟩ M
     grind
  exact⟨λz=>key _ z a⟩
section
def gE(g:aj P)(l:a6->a6->Array aT->Prop)(k:ak->a6->Prop):cm->ak->a6->Prop
 |.leaf,e,d=>k e d
 |.node n,e,d=>k e d∨(∃a,(eX d a∨(g.dR/\nZ d a))/\gE g l k (n d) e a) ∨
   (e.status=.running/\∀i,g.rely d i->∃j a b,aq P g.b8 e i.a=.go j a.a b/\(kG i a b∨l i a b)/\gE g l k (n i) j a)
variable {r:aj P}{W:a6->a6->Array aT->Prop}{s:ak->a6->Prop}
def dw(d:aj P)(a:a6->a6->Array aT->Prop)(b:ak->a6->Prop)(e:ak)(i:a6):Prop:=∃g,gE d a b g e i
theorem dw.aU(d:eX b az)(a:dw r W br C az):dw r W br C b:=by obtain⟨e,a⟩:=a;exact⟨.node λ_=>e,.inr (.inl ⟨az,.inl d,a⟩)⟩
def dw.b2(a:r.dR)(e:nZ b az)(d:dw r W br C az):dw r W br C b:=by obtain⟨g,d⟩:=d;exact⟨.node λ_=>g,.inr (.inl ⟨az,.inr ⟨a,e⟩,d⟩)⟩
def dw.step(o:C.status=.running)(k:∀e,r.rely b e->∃g a d,aq P r.b8 C e.a=.go g a.a d/\(kG e a d∨W e a d)/\dw r W br g a):dw r W br C b:=by
 classical
 have i:∀e,∃l:cm,r.rely b e->∃g a d,aq P r.b8 C e.a=.go g a.a d/\(kG e a d∨W e a d)/\gE r W br l g a:=by
  intro e;by_cases j:r.rely b e
  .obtain⟨g,a,d,cS,dq,l,n⟩:=k e j;exact⟨l,λ_=>⟨g,a,d,cS,dq,n⟩⟩
  exact⟨.leaf,λk=>absurd k j⟩
 exact⟨.node λe=>Classical.choose (i e),.inr (.inr ⟨o,λe j=>Classical.choose_spec (i e) j⟩)⟩
def dw.bind(d:dw r W br C b)(j:∀C b,br C b->dw r W s C b):dw r W s C b:=by
 obtain⟨k,d⟩:=d;induction k generalizing C b with
 |leaf=>exact j C b d
 |node p g=>
  rcases d with d|⟨l,a,e⟩|⟨i,d⟩
  .grind
  .rcases a with a|⟨gM,a⟩
   .exact .aU a (g _ e)
   exact .b2 gM a (g _ e)
  exact .step i λo n=>by grind
def cd.toW(s:∀C b p,¬r.dj C b p)(i:cd r br C b):dw r W br C b:=by
 induction i with
 |stop i=>exact⟨.leaf,i⟩
 |step u v t n j k _ d=>exact .step n λg e=>⟨_,_,_,j g e,.inl (k g e),d g e⟩
 |aU a _ d=>exact .aU a d
 |b2 l a _ d=>exact .b2 l a d
 |dj o _ _=>grind
def gE.bg(n:a6->Prop)(C:∀g b,eX g b->n g->n b)(A:r.dR->∀g b,nZ g b->n g->n b):∀{D:cm}{s:ak}{g:a6},gE r W br D s g->n g ->
  (∃b,n b/\br s b)∨(s.status=.running/\∃b,n b/\∀l,r.rely b l->∃i j d o,aq P r.b8 s l.a=.go i j.a d/\(kG l j d∨W l j d)/\gE r W br o i j/\cm.lt o D)
 |.leaf,_,g,p,k=>.inl ⟨g,k,p⟩
 |.node E,s,g,p,k=>by
  rcases p with p|⟨b,x,y⟩|⟨I,p⟩
  .grind
  .have e:n b:=x.elim (λt=>C g b t k) λt=>A t.1 g b t.2 k;rcases gE.bg n C A y e with B|⟨B,j,F,J⟩
   .grind
   refine .inr ⟨B,j,F,λl z=>?_⟩;obtain⟨i,v,d,o,k1,u,w,K⟩:=J l z;exact⟨i,v,d,o,k1,u,w,g,.inr K⟩
  refine .inr ⟨I,g,k,λl z=>?_⟩;obtain⟨i,v,d,k1,u,w⟩:=p l z;exact⟨i,v,d,E l,k1,u,w,l,.inl a⟩
def dw.goes{dj:au->au->Prop}{z:au->au->Array aT->Prop}{Stop:ak->au->Prop}(l:a6->Prop)(v:∀b d,l b->r.rely b d->l d)(p:∀b d,l b->r.rely b d->dj b.a d.a)(A:∀b e,l b->∀k,z b.a k e->k=b.a/\(kG b b e∨W b b e))(w:∀b,l b->r.rely b b)(x:∀i b,l b->Stop i b.a->dw r W br i b):
  ∀s i b,l b->Goes P r.b8 dj z Stop s i b.a->dw r W br i b
 |0,i,b,g,n=>x i b g (n b.a (p b b g (w b g)))
 |s+1,i,b,g,n=>by
  rcases n with n|⟨D,n⟩
  .grind
  refine .step D λd y=>?_;have j:=n d.a (p b d g y);have t:=v b d g y;cases u:aq P r.b8 i d.a with
  |go o k e=>
   rw[u,goes_go]at j;obtain⟨C,E⟩:=j;obtain⟨rfl,B⟩:=A d e t k C;exact⟨o,d,e,a,B,dw.goes l v p A w x s o d t E⟩
  |_=>rw[u]at j;exact j.elim
end
theorem cX.aU{n}(i:cX b {b with a:=n})(g:eX b az):cX az {az with a:=n}:=by
 refine⟨a,a,a,by rw[g.a];exact i.size,λd e=>by rw[g.a];exact i.a7 d (g.blk d e),λd j k l=>?_,by rw[g.a];exact i.os,by rw[g.a];exact i.tape,by rw[g.a];exact i.output⟩;have p:=g.cell d j k l;by_cases e:∃L∈b.m,d∈L.al
 .have:=i.a7 d (.inr e);simp only[aL]at p⊢;grind
 have:b.u d j=h k:=by rw[<-g.bC d (λL r o=>e ⟨L,r,o⟩)];exact l
 exact i.mem d j k this
def cX.b2{k}(d:cX b {b with a:=k})(a:nZ b az):cX az {az with a:=k}:=
 ⟨rfl,rfl,rfl,by rw[a.a];exact d.size,λe g=>by rw[a.a];exact d.a7 e (by rw[<-a.own,<-a.m];exact g),λe i j l=>d.mem e i j (a.e8 e i j l),by rw[a.a];exact d.os,by rw[a.a];exact d.tape,by rw[a.a];exact d.output⟩
def cX.eo(a:gr b):cX b b:=⟨rfl,rfl,rfl,bB _,λ_ _=>rfl,a,rfl,rfl,rfl⟩
def cX.fX{a}(d:cX b {b with a:=a}):cX {b with a:=a} {b with a:=a}:=cX.eo d.mem
def cX.trans{b i b4}(a:cX b i)(d:cX i b4):cX b b4:=
 ⟨d.m.trans a.m,d.u.trans a.u,d.own.trans a.own,fM a.size d.size,λg e=>by rw[d.a7 g (by rw[a.own,a.m];exact e),a.a7 g e],λg k l j=>d.mem g k l (by rw[a.u];exact j),d.os.trans a.os,d.tape.trans a.tape,d.output.trans a.output⟩
end
section
open Go.Conc
open Go.ConcN (fork_knows RelBy)
open Go.ConcR (stA smA)
def hV:Go.Loc->Option Nat
 |.cell a=>h a.block
 |.obj b=>h b
 |_=>q
def Km{d}(b:d.isMemory=f):∃a,hV d=h a:=by cases d<;>simp[Go.Loc.isMemory]at b<;>exact⟨_,rfl⟩
def aeD{d:MemAct}{e}{bX}(b:d.touch?=h e)(g:d.low bX)(a:hV e.loc=h j):j<bX:=by
 cases d with
 |access i=>
  simp[MemAct.touch?]at b;subst b;simp only at a;obtain⟨loc,wr,l⟩:=i;cases loc<;>simp[hV]at a<;>subst a<;>exact g
 |mark k=>
  cases k<;>simp[MemAct.touch?]at b<;>subst b<;>simp[hV]at a<;>subst a<;>exact g
 |_=>exact cU
structure hK where
 bD:Nat->Prop
 bP:Nat
 f:Nat
 aj:Nat
 base:Nat
 aH:Nat
def o4(d:hK)(g:Nat->Nat)(e:Touch):Prop:=
 (∃a,e.loc=.cell a/\a.block=d.f/\e.kind≠.plain)∨(∃b,hV e.loc=h b/\g b=0/\b≠d.f/\b≠d.aj/\¬d.bD b/\e.kind=.plain)
def n5(b:hK)(j:Nat->Nat)(k:Mem)(i:Nat)(a:Touch):Prop:=
 (∃e,a.loc=.cell e/\e.block=b.f/\a.kind=.atomic) ∨
 (a.kind=.plain/\((∃g,hV a.loc=h g/\j g=b.base+i)∨(∃d,a.loc=.cell ⟨b.aj,d,q⟩/\b.aH*i<=d/\d<b.aH*i+b.aH)∨(a.write=m/\∃g d l,a.loc=.cell ⟨g,d,q⟩/\k g d=h l)))
structure fF(J:hK)(I:Nat->Nat)(ae:Nat->Mem)(o:Trace)(w bX:Nat):Prop where
 base:1<=J.base
 c0:I J.f=0
 dd:I J.aj=0
 b4:J.aj≠J.f
 dW:¬J.bD J.f
 eu:¬J.bD J.aj
 et:∀j,J.bD j->I j=0
 bH:∀l,l<w->∀j t ab,ae l j t=h ab->I j=0/\j≠J.aj/\j≠J.f/\¬J.bD j
 bP:J.bP<=o.size
 ej:∀said,¬Race said o
 seen:∀op∈o,op.act.low bX
 old:∀e x,e<J.bP->touchAt o e=h x->x.loc.isMemory=f->Knows o 0 e∨(jE J.bD x.loc/\x.kind=.atomic)
 ed:∀l,l<w->∀e x,e<J.bP->touchAt o e=h x->x.loc.isMemory=f->Knows o (J.base+l) e∨(jE J.bD x.loc/\x.kind=.atomic)
 eK:∀e x j,e<J.bP->touchAt o e=h x->hV x.loc=h j->I j=0
 new:∀e x,J.bP<=e->touchAt o e=h x->x.loc.isMemory=f->(o.g? e=h 0/\o4 J I x)∨(∃l,l<w/\o.g? e=h (J.base+l)/\n5 J I (ae l) l x)
 ei:∀l,l<w->∀e x,J.bP<=e->touchAt o e=h x->o.g? e=h 0->x.write=f->∀j t ab,x.loc=.cell ⟨j,t,q⟩->ae l j t=h ab->Knows o (J.base+l) e
 over:∀e C,e<J.bP->o.g? e=h C->C≠0->o.counts e->∃i,o.g? i=h 0/\HappensBefore o e i
section
variable {J:hK}{I ep:Nat->Nat}{ae:Nat->Mem}{o bC:Trace}{bX ec:Nat}
theorem zw{a}{C}(g:touchAt o e=h a)(b:o.g? e=h C):Knows o C e:=by
 obtain⟨i,d,_⟩:=touch_of g;have:i.g=C:=by simpa[Trace.g?,d]using b
 grind[knows_own]
def fF.low(k:fF J I ae o w bX){b}(g:touchAt o e=h b)(a:hV b.loc=h j):j<bX:=by obtain⟨l,i,d⟩:=touch_of g;exact aeD d (k.seen l (wW i)) a
def fF.eM(d:fF J I ae o w bX)(e:∀b,b<bX->ep b=I b)(aE:bX<=ec)(B:J.f<bX)(u:J.aj<bX)(C:∀b,J.bD b->b<bX)(D:∀i,i<w->∀b s t,ae i b s=h t->b<bX):fF J ep ae o w ec:=by
 have F:∀l g,touchAt o l=h g->o4 J I g->o4 J ep g:=λl g n a=>by
  rcases a with a|⟨b,a,j,z⟩
  .exact .inl a
  exact .inr ⟨b,a,by rw[e b (d.low n a)];exact j,z⟩
 have E:∀i l g,touchAt o l=h g->n5 J I (ae i) i g->n5 J ep (ae i) i g:=λi l g n a=>by
  rcases a with a|⟨y,⟨b,a,j⟩|a⟩
  .exact .inl a
  .exact .inr ⟨y,.inl ⟨b,a,by rw[e b (d.low n a)];exact j⟩⟩
  exact .inr ⟨y,.inr a⟩
 refine⟨d.base,by rw[e _ B];exact d.c0,by rw[e _ u];exact d.dd,d.b4,d.dW,d.eu,λb k=>by rw[e b (C b k)];exact d.et b k,λi A b s t x=>by rw[e b (D i A b s t x)];exact d.bH i A b s t x,
  d.bP,d.ej,λv r=>MemAct.low_mono aE (d.seen v r),d.old,d.ed,λl g b p n k=>by rw[e b (d.low n k)];exact d.eK l g b p n k,λl g p n I=>?_,d.ei,d.over⟩
 rcases d.new l g p n I with⟨a,j⟩|⟨i,a,j,z⟩
 .grind
 grind
def fF.fE(a:fF J I ae o w bX):J.bP<=(o++bC).size:=fM a.bP E
theorem ot(a:e<o.size):(o++bC).g? e=o.g? e:=by simp[Trace.g?,getElem?_append_old a]
def fF.fO(p:fF J I ae o w bX)(bC):∀a i,a<J.bP->(o++bC).g? a=h i->i≠0->(o++bC).counts a->∃g,(o++bC).g? g=h 0/\HappensBefore (o++bC) a g:=by
 intro a i d b e k;have n:=eD d p.bP;rw[ot n]at b;obtain⟨g,l,j⟩:=p.over a i d b e ((counts_old n).1 k);have r:g<o.size:=by unfold Trace.g? at l;grind
 exact⟨g,by grind[ot],hb_app bC j⟩
def Md{a:Nat->Prop}{d}(e:jE a d)(b:hV d=h j):a j:=by cases d<;>simp[hV]at b<;>subst b<;>exact e
def fF.eA(b:fF J I ae o w bX){l}(u:l<w){a j}{said}(aR:o4 J I j)(p:n5 J I (ae l) l a)(gM:a.loc=j.loc)(n:a.kind=.plain∨j.kind=.plain∨(said=f/\a.kind=.said/\j.kind=.said))(A:j.kind=.plain->j.write=f->∀d t ab,j.loc=.cell ⟨d,t,q⟩->ae l d t≠h ab)(y:a.write=f∨j.write=f):False:=by
 have x:=b.base;rcases p with⟨g,dK,eJ,jS⟩|⟨X,⟨s,dK,eJ⟩|⟨t,dK,_⟩|⟨dK,d,t,ab,eJ,jS⟩⟩
 .rcases aR with⟨e,ai,C,i⟩|⟨s,ai,C,i,_⟩
  .grind
  exact OG
 .rcases aR with⟨e,ai,C,i⟩|⟨k,ai,C,i,_⟩
  .rw[gM,ai]at dK;simp[hV,eV]at dK;rw[<-dK,C,b.c0]at eJ;omega
  grind
 .rcases aR with⟨e,ai,C,i⟩|⟨k,ai,C,i,r,_⟩
  .rw[<-gM,dK]at ai;cases ai;exact b.b4 C
  exact OG
 obtain⟨v,B,O,z⟩:=b.bH l u d t ab jS;rcases aR with⟨e,ai,C,i⟩|⟨k,ai,C,i,r,_,N⟩
 .grind
 grind
def fF.app0(u:fF J I ae o w bX)(C:∀a∈bC,a.g=0)(B:∀a∈bC,a.act.low bX)(z:∀a∈bC,∀b,a.act.touch?=h b->b.loc.isMemory=f->o4 J I b)(T:∀a∈bC,∀b,a.act.touch?=h b->b.kind=.plain->b.write=f->∀k,k<w->∀l t v,b.loc=.cell ⟨l,t,q⟩->ae k l t≠h v):fF J I ae (o++bC) w bX:=by
 have F:∀{d:Nat} {b:Touch},touchAt (o++bC) d=h b->(d<o.size/\touchAt o d=h b)∨(o.size<=d/\(o++bC).g? d=h 0/\∃a∈bC,a.act.touch?=h b):=by
  intro d b i;obtain⟨k,p,W⟩:=touch_of i;rcases getElem?_append_cases p with⟨bq,G⟩|⟨bq,Q⟩
  .grind [touchAt_of]
  exact .inr ⟨bq,by simp[Trace.g?,p,C k Q],k,Q,W⟩
 refine⟨u.base,u.c0,u.dd,u.b4,u.dW,u.eu,u.et,u.bH,u.fE,λsaid=>?_,seen_app u.seen B,λd b bq i I=>?_,λk p d b bq i I=>?_,λd b l bq i r=>?_,λd b bq i I=>?_,λk p d b bq i x N l t v K E=>?_,u.fO bC⟩
 .refine noRace_append (u.ej said) C λd b i a g l r e=>?_;have V:l.loc.isMemory=f:=by rw[<-e.1];exact e.2.1
  have aR:=z a g l r V;rcases dZ d J.bP with bq|bq
  .rcases u.old d b bq i e.2.1 with b2|⟨ar,L⟩
   .exact b2
   exfalso;obtain⟨X,s⟩:=Km e.2.1;have R:=Md ar s;rcases aR with⟨y,dK,eJ,jS⟩|⟨H,dK,eJ,jS,D,bE,S⟩
   .rw[e.1,dK]at s;simp[hV,eV]at s;rw[<-s,eJ]at R;exact u.dW R
   rw[e.1,dK]at s;grind
  rcases u.new d b bq i e.2.1 with⟨x,_⟩|⟨k,p,x,O⟩
  .grind [zw]
  exact(u.eA p aR O e.1 e.2.2.2 (λn j=>T a g l r n j k p) e.2.2.1).elim
 .have A:touchAt o d=h b:=FH;exact(u.old d b bq A I).imp (·.app bC) id
 .have A:touchAt o d=h b:=FH;exact(u.ed k p d b bq A I).imp (·.app bC) id
 .have A:touchAt o d=h b:=FH;exact u.eK d b l bq A r
 .rcases F i with⟨n,j⟩|⟨_,j,a,g,M⟩
  .rw[ot n];exact u.new d b bq j I
  grind
 rcases F i with⟨n,j⟩|⟨_,j,a,g,M⟩
 .rw[ot n]at x;exact(u.ei k p d b bq j x N l t v K E).app bC
 exfalso;rcases z a g b M hz with⟨y,dK,eJ,jS⟩|⟨H,_,_,_,_,_,S⟩
 .rw[K]at dK;cases dK;exact(u.bH k p l t v E).2.2.1 eJ
 grind
def fF.ih(u:fF J I ae o w bX){l}(N:l<w)(V:∀n∈bC,n.g=J.base+l)(S:∀n∈bC,n.act.low bX)(ao:∀n∈bC,∀e,n.act.touch?=h e->e.loc.isMemory=f->n5 J I (ae l) l e):fF J I ae (o++bC) w bX:=by
 have Y:=u.base;have ab:∀{g:Nat} {e:Touch},touchAt (o++bC) g=h e->(g<o.size/\touchAt o g=h e)∨(o.size<=g/\(o++bC).g? g=h (J.base+l)/\∃n∈bC,n.act.touch?=h e):=by
  intro g e bd;obtain⟨x,y,P⟩:=touch_of bd;rcases getElem?_append_cases y with⟨bq,aa⟩|⟨bq,U⟩
  .grind [touchAt_of]
  exact .inr ⟨bq,by simp[Trace.g?,y,V x U],x,U,P⟩
 refine⟨u.base,u.c0,u.dd,u.b4,u.dW,u.eu,u.et,u.bH,u.fE,λsaid=>?_,seen_app u.seen S,λg e bq bd I=>?_,λx y g e bq bd I=>?_,λg e Q bq bd K=>?_,λg e bq bd I=>?_,λx y g e bq bd z H Q k p ag aN=>?_,u.fO bC⟩
 .refine noRace_append (u.ej said) V λg e bd n C Q K j=>?_;have ah:Q.loc.isMemory=f:=by rw[<-j.1];exact j.2.1
  have aR:=ao n C Q K ah;obtain⟨ax,v⟩:=Km j.2.1;rcases dZ g J.bP with bq|bq
  .rcases u.ed l N g e bq bd j.2.1 with M|⟨T,Z⟩
   .exact M
   exfalso;have E:=Md T v;rw[j.1]at v;rcases aR with⟨R,dK,eJ,jS⟩|⟨an,⟨ar,dK,eJ⟩|⟨k,dK,_⟩|⟨dK,s,k,p,eJ,jS⟩⟩
   .rw[dK]at v;simp[hV,eV]at v;rw[<-v,eJ]at E;exact u.dW E
   .rw[dK]at v;simp[eV]at v;rw[<-v]at E;rw[u.et _ E]at eJ;omega
   .rw[dK]at v;simp[hV,eV]at v;rw[<-v]at E;exact u.eu E
   rw[eJ]at v;simp[hV,eV]at v;rw[<-v]at E;exact(u.bH l N s k p jS).2.2.2 E
  rcases u.new g e bq bd j.2.1 with⟨z,F⟩|⟨x,y,z,aj⟩
  ·
   by_cases G:e.write=f/\∃s k p,e.loc=.cell ⟨s,k,q⟩/\ae l s k=h p
   .obtain⟨i,s,k,p,r,W⟩:=G;exact u.ei l N g e bq bd z i s k p r W
   exfalso;refine u.eA (said:=said) N F aR j.1.symm ?_ (λ_ ai s k p t aN=>G ⟨ai,s,k,p,t,aN⟩) j.2.2.1.symm;rcases j.2.2.2 with M|M|⟨i,r,W⟩
   .grind
   .grind
   grind
  by_cases L:x=l
  .grind [zw]
  exfalso;obtain⟨t,_,H,av⟩:=j;rcases aj with⟨R,dK,eJ,jS⟩|⟨an,⟨g7,dK,eJ⟩|⟨k,dK,X,aw⟩|⟨dK,s,k,p,eJ,jS⟩⟩
  .rcases aR with⟨O,d,A,B⟩|⟨b5,⟨iK,d,A⟩|⟨k,d,_⟩|⟨d,s,k,p,A,B⟩⟩
   .grind
   .rw[<-t,dK]at d;simp[hV,eV]at d;rw[<-d,eJ,u.c0]at A;omega
   .rw[<-t,dK]at d;cases d;exact u.b4 eJ
   rw[<-t,dK]at A;cases A;exact(u.bH l N s k p B).2.2.1 eJ
  .rcases aR with⟨O,d,A,B⟩|⟨b5,⟨iK,d,A⟩|⟨k,d,_⟩|⟨d,s,k,p,A,B⟩⟩
   .rw[t,d]at dK;simp[hV,eV]at dK;rw[<-dK,A,u.c0]at eJ;omega
   .grind
   .rw[t,d]at dK;simp[hV,eV]at dK;rw[<-dK,u.dd]at eJ;omega
   rw[t,A]at dK;simp[hV,eV]at dK;rw[<-dK,(u.bH l N s k p B).1]at eJ;omega
  .rcases aR with⟨O,d,A,B⟩|⟨b5,⟨iK,d,A⟩|⟨D,d,br,ak⟩|⟨d,s,D,p,A,B⟩⟩
   .rw[<-t,dK]at d;cases d;exact u.b4 A
   .rw[<-t,dK]at d;simp[hV,eV]at d;rw[<-d,u.dd]at A;omega
   .rw[<-t,dK]at d;cases d;rcases Nat.lt_or_gt_of_ne L with i|i
    .have:=wY J.aH (show x+1<=l from i);grind
    have:=wY J.aH (show l+1<=x from i);grind
   rw[<-t,dK]at A;cases A;exact(u.bH l N _ _ p B).2.1 a
  rcases aR with⟨O,d,A,B⟩|⟨b5,⟨iK,d,A⟩|⟨D,d,br,ak⟩|⟨d,aq,D,au,A,B⟩⟩
  .rw[<-t,eJ]at d;cases d;exact(u.bH x y s k p jS).2.2.1 A
  .rw[<-t,eJ]at d;simp[hV,eV]at d;rw[<-d,(u.bH x y s k p jS).1]at A;omega
  .rw[<-t,eJ]at d;cases d;exact(u.bH x y _ _ p jS).2.1 a
  grind
 .have b:touchAt o g=h e:=FG;exact(u.old g e bq b I).imp (·.app bC) id
 .have b:touchAt o g=h e:=FG;exact(u.ed x y g e bq b I).imp (·.app bC) id
 .have b:touchAt o g=h e:=FG;exact u.eK g e Q bq b K
 .rcases ab bd with⟨i,r⟩|⟨_,r,n,C,ad⟩
  .rw[ot i];exact u.new g e bq r I
  grind
 rcases ab bd with⟨i,r⟩|⟨_,r,_⟩
 .rw[ot i]at z;exact(u.ei x y g e bq r z H Q k p ag aN).app bC
 grind
def fF.mute(b:fF J I ae o w bX){C}(z:∀i∈bC,i.g=C)(l:∀i∈bC,i.act.low bX)(u:∀i∈bC,i.act.touch?=q):fF J I ae (o++bC) w bX:=by
 have old:∀{d:Nat} {e:Touch},touchAt (o++bC) d=h e->d<o.size/\touchAt o d=h e:=by intro d e g;obtain⟨E,D,B⟩:=touch_of g;grind[touchAt_of]
 refine⟨b.base,b.c0,b.dd,b.b4,b.dW,b.eu,b.et,b.bH,b.fE,λsaid=>noRace_append (b.ej said) z λd e _ i r k j _=>M,seen_app b.seen l,λd e a g I=>(b.old d e a (old g).2 I).imp (·.app bC) id,
  λp n d e a g I=>(b.ed p n d e a (old g).2 I).imp (·.app bC) id,λd e k a g j=>b.eK d e k a (old g).2 j,λd e a g I=>?_,λp n d e a g s v k x A t y=>?_,b.fO bC⟩
 .rw[ot (old g).1];exact b.new d e a (old g).2 I
 rw[ot (old g).1]at s;exact(b.ei p n d e a (old g).2 s v k x A t y).app bC
def fF.gm(i:fF J I ae o w bX){l X}(O:l.g=0/\l.act=.go (J.base+w))(D:X.g=J.base+w/\X.act=.start)(E:Deaf o 0=0)(v:Deaf o (J.base+w)=0)(T:∀e t u,ae w e t=h u->I e=0/\e≠J.aj/\e≠J.f/\¬J.bD e):fF J I ae (o++#[l,X]) (w+1) bX:=by
 have z:∀g∈#[l,X],g.act.touch?=q:=by
  intro g a;simp[List.mem_toArray,e4,sz,or_false]at a;rcases a with rfl|rfl
  .exact hz
  exact hz
 have N:∀g∈#[l,X],g.act.low bX:=by
  intro g a;simp[List.mem_toArray,e4,sz,or_false]at a;rcases a with rfl|rfl
  .exact hz
  exact hz
 have old:∀{j:Nat} {n:Touch},touchAt (o++#[l,X]) j=h n->j<o.size/\touchAt o j=h n:=by intro j n p;obtain⟨r,B,S⟩:=touch_of p;grind[touchAt_of]
 have k:∀r,r<w+1->∀e t u,ae r e t=h u->I e=0/\e≠J.aj/\e≠J.f/\¬J.bD e:=λr B e t u x=>by
  rcases dZ r w with b|b
  .exact i.bH r b e t u x
  grind
 refine⟨i.base,i.c0,i.dd,i.b4,i.dW,i.eu,i.et,k,i.fE,λsaid=>?_,seen_app i.seen N,λj n d p I=>(i.old j n d (old p).2 I).imp (·.app _) id,
  λr B j n d p I=>?_,λj n e d p s=>i.eK j n e d (old p).2 s,λj n d p I=>?_,λr B j n d p A R e t u Q x=>?_,i.fO _⟩
 .have F:o++#[l,X]=(o++#[l])++#[X]:=M;rw[F];refine noRace_append (g:=J.base+w) (noRace_append (g:=0) (i.ej said) (λg a=>by grind) (λj n _ g a e s _=>M)) (λg a=>by grind) (λj n _ g a e s _=>?_);grind
 .rcases dZ r w with b|b
  .exact(i.ed r b j n d (old p).2 I).imp (·.app _) id
  obtain rfl:r=w:=y;exact(i.old j n d (old p).2 I).imp (fork_knows O D E v) id
 .rw[ot (old p).1];rcases i.new j n d (old p).2 I with b|⟨r,b,K⟩
  .grind
  grind
 rw[ot (old p).1]at A;rcases dZ r w with b|b
 .exact(i.ei r b j n d (old p).2 A R e t u Q x).app _
 obtain rfl:r=w:=y;exact fork_knows O D E v (zw (old p).2 A)
def fF.jP(i:fF J I ae o w bX)(H:Deaf o 0=0)(y:NoRelease (stA J.f) o){bd}(F:o.act? bd=h (.mark (.acquire (stA J.f))))(C:o.g? bd=h 0)(E:o.heard bd)(Q:∀d,d<w->∃k,RelBy (stA J.f) o (J.base+d) k/\k<bd):Past (jE λp=>J.bD p∨p=J.f) bX o:=by
 have B:∀d,d<w->∀a,o.g? a=h (J.base+d)->o.counts a->HappensBefore o a bd:=by
  intro d s a j n;obtain⟨k,t,O⟩:=Q d s;have S:HappensBefore o k bd:=.single (.inr ⟨.marked O (.inr t.act) F (λU _ _=>y U),t.heard,E⟩);have L:a<=k:=Nat.le_of_not_lt λA=>t.after a A j n;rcases dZ a k with A|G
  .exact .trans (.single (.inl ⟨A,_,j,t.g⟩)) S
  grind
 have V:∀{u:Go.Loc},jE J.bD u->jE (λp=>J.bD p∨p=J.f) u:=λ{u} r=>by cases u<;>first|exact .inl r|exact r
 refine⟨i.ej,λa g l I=>?_,λa T j N n=>?_,H,i.seen⟩
 .rcases dZ a J.bP with b|b
  .exact(i.old a g b l I).imp id λ⟨e,v⟩=>⟨V e,v⟩
  rcases i.new a g b l I with⟨e,_⟩|⟨d,s,j,aR⟩
  .grind [zw]
  rcases aR with⟨R,dK,eJ,jS⟩|⟨bE,_⟩
  .exact .inr ⟨by rw[dK];exact .inr eJ,jS⟩
  left;have n:o.counts a:=⟨g,l,I,.inl M⟩
  obtain⟨W,K,D⟩:=rn.1 C;exact⟨bd,W,K,D,.inr (B d s a j n)⟩
 rcases dZ a J.bP with b|b
 .exact i.over a T b j N n
 obtain⟨g,l,I,x⟩:=n;rcases i.new a g b l I with⟨e,_⟩|⟨d,s,z,aR⟩
 .grind
 exact⟨bd,C,B d s a z ⟨g,l,I,x⟩⟩
def fF.start{J}{o}{bX}{n:Nat->Mem}(d:Past (jE J.bD) bX o)(aR:J.bP=o.size)(i:1<=J.base)(g:J.aj≠J.f)(t:¬J.bD J.f)(r:¬J.bD J.aj):fF J (λ_=>0) n o 0 bX:=
 ⟨i,rfl,rfl,g,t,r,λ_ _=>rfl,λb a=>absurd a (iH b),by omega,d.clean,d.seen,λe k _ j l=>d.known e k j l,λb a=>absurd a (iH b),λ_ _ _ _ _ _=>rfl,
  λe k s j _=>by
   obtain⟨b,a,_⟩:=touch_of j
   grind,λb a=>absurd a (iH b),λe p _ u g v=>d.over e p u g v⟩
end
end
section
open Go.Conc
open Go.ConcN (WD CTag Mode Vc Ssum pend phi cnt WgLive PayAt Has RW DWs WSit RelBy sumTo upd upd_same upd_ne AtR0 get_map_set get_map_set_same norel_of Deaf_still)
open Go.ConcR (KK WgAt stA smA rd wr mk Payload g_of_ofEvents)
def aj.c'(P):aj P:={b8:=m,rely:=cX,dj:=λ_ _ _=>False,bN:=id,dR:=True}
def aj.aG(P)(d:av)(a:Nat):aj P:={b8:=f,rely:=λe b=>cX e b/\(WgLive d a e.a->WgLive d a b.a),dj:=λ_ _ _=>False,bN:=λg=>g.1,dR:=False}
instance (P:aI):(aj.c' P).cb:=⟨v⟩
def eL:a6->a6->Array aT->Prop:=λ_ _ _=>False
def dU(b:Nat):a6->a6->Array aT->Prop:=λg e a=>e=g/\∃d:Addr,d.block=b/\(a=#[mk (.read d)]∨a=#[mk (.write d)])
def pZ:Nat->Go.Loc->Prop:=λ_ _=>False
variable [Payload]
structure RP(N D e0 i:Nat)(B:Nat->aa)(Q bi:au):Prop where
 tape:bi.tape=Q.tape
 os:bi.os=Q.os
 output:bi.output=Q.output
 size:bi.heap.size=Q.heap.size
 block:∀j,j≠N->bi.heap[j]?=Q.heap[j]?
 bT:PayAt N D bi
 hD:∀t,(t<e0∨e0+i<=t)->bi.cell? ⟨N,t,q⟩=Q.cell? ⟨N,t,q⟩
 new:∀e,e<i->bi.cell? ⟨N,e0+e,q⟩=h (B e)
section
variable (P:aI)(ty:av)(J:hK)(D:Nat)(val:Nat->Nat->aa)
def um(a:Nat)(g:ak)(i:a6):Prop:=
 g.status=.running/\∀w1,cX i {i with a:=w1}->PayAt J.aj D w1->WgLive ty J.f w1 ->
  ∃d w2 b,aq P m g w1=.go d w2 b/\RP J.aj D (J.aH*a) J.aH (val a) w1 w2/\(∀j∈b,∃e,j=⟨.cell ⟨J.aj,e,q⟩,f,m⟩/\J.aH*a<=e/\e<J.aH*a+J.aH) /\
   ∃k,Goes P m (RW ty J.f J.aj D 0 (J.aH*a)) Go.ConcR.DC0 (AtR0 P ty J.f J.aj D 0 (J.aH*a+1) (val a 0)) k d w2
end
structure hu(ae:Nat->Nat)(ba:Mem)(C:Nat)(b:a6):Prop where
 blk:∀j,(b.own j∨∃L∈b.m,j∈L.al)->ae j=C/\j<b.a.heap.size
 u:∀j t ab,b.u j t=h ab->(ae j=C∨ba j t=h ab)/\j<b.a.heap.size
structure gq(J:hK)(ae:Nat->Nat)(O:Nat->Mem)(w:Nat)(b:a6):Prop where
 blk:∀j,(b.own j∨∃L∈b.m,j∈L.al)->ae j=0/\j≠J.aj/\j≠J.f/\¬J.bD j/\j<b.a.heap.size
 u:∀j t ab,b.u j t=h ab->ae j=0/\j≠J.aj/\j≠J.f/\¬J.bD j/\j<b.a.heap.size
 bH:∀l,l<w->∀j t ab,O l j t=h ab->b.u j t=h ab
structure lE(J:hK)(ae:Nat->Nat)(ba:Mem)(X:Nat)(Q bi:au):Prop where
 size:Q.heap.size<=bi.heap.size
 blk:∀j,j<Q.heap.size->ae j=J.base+X->bi.heap[j]?=Q.heap[j]?
 cell:∀j t ab,ba j t=h ab->Q.cell? ⟨j,t,q⟩=h ab->bi.cell? ⟨j,t,q⟩=h ab
 bT:∀t,J.aH*X<=t->t<J.aH*X+J.aH->bi.cell? ⟨J.aj,t,q⟩=Q.cell? ⟨J.aj,t,q⟩
 os:bi.os=Q.os
 tape:bi.tape=Q.tape
 output:bi.output=Q.output
omit [Payload]in
def lE.refl(J)(a:Nat->Nat)(d)(X)(Q):lE J a d X Q Q:=⟨bB _,λ_ _ _=>rfl,λ_ _ _ _ b=>b,λ_ _ _=>rfl,rfl,rfl,rfl⟩
omit [Payload]in
def lE.at(J)(b:Nat->Nat)(e)(X)(Q)(a):lE J b e X Q (Q.at a):=⟨bB _,λ_ _ _=>rfl,λ_ _ _ _ d=>d,λ_ _ _=>rfl,rfl,rfl,rfl⟩
structure rl(J:hK)(ae:Nat->Nat)(Q bi:au):Prop where
 size:Q.heap.size<=bi.heap.size
 blk:∀j,j<Q.heap.size->ae j=0->j≠J.aj->j≠J.f->bi.heap[j]?=Q.heap[j]?
 os:bi.os=Q.os
 tape:bi.tape=Q.tape
 output:bi.output=Q.output
omit [Payload]in
def nj{a:au}(b:bi.heap[j]?=a.heap[j]?)(t):bi.cell? ⟨j,t,q⟩=a.cell? ⟨j,t,q⟩:=by simp[aL,b]
omit [Payload]in
def cX.eG{Q}(e:cX b {b with a:=Q})(p:Q.heap.size<=bi.heap.size)(l:∀d,(b.own d∨∃L∈b.m,d∈L.al)->bi.heap[d]?=Q.heap[d]?)(a:∀d g i,b.u d g=h i->Q.cell? ⟨d,g,q⟩=h i->bi.cell? ⟨d,g,q⟩=h i)(n:bi.os=Q.os)(o:bi.tape=Q.tape)(r:bi.output=Q.output):cX b {b with a:=bi}:=
 ⟨rfl,rfl,rfl,fM e.size p,λd j=>by show bi.heap[d]?=_;rw[l d j];exact e.a7 d j,λd g i k=>a d g i k (e.mem d g i k),n.trans e.os,o.trans e.tape,r.trans e.output⟩
section
variable {J:hK}{ae ep:Nat->Nat}{O:Nat->Mem}{X:Nat}{Q:au}
omit [Payload]in
def hu.dg(l:hu ae (O X) (J.base+X) b)(k:cX b {b with a:=Q})(a:lE J ae (O X) X Q bi):cX b {b with a:=bi}:=by
 have n:=k.size;refine k.eG a.size (λe p=>?_) (λe g o r j=>?_) a.os a.tape a.output
 .obtain⟨d,i⟩:=l.blk e p;exact a.blk e (eD i n) d
 obtain⟨d,i⟩:=l.u e g o r;rcases d with d|d
 .rw[nj (a.blk e (eD i n) d) g];exact j
 exact a.cell e g o d j
omit [Payload]in
def hu.eM{i}{C}(g:hu ae i C b)(p:b.a.heap.size<=Q.heap.size)(o:∀a,a<Q.heap.size->ep a=ae a):hu ep i C b:=
 ⟨λa j=>let ⟨d,e⟩:=g.blk a j;⟨by grind,e⟩,λa k n l=>let ⟨d,e⟩:=g.u a k n l;⟨by grind,e⟩⟩
omit [Payload]in
def gq.dg(k:gq J ae O w b)(j:cX b {b with a:=Q})(a:rl J ae Q bi):cX b {b with a:=bi}:=by
 have n:=j.size;refine j.eG a.size (λe p=>?_) (λe l s r o=>?_) a.os a.tape a.output
 .obtain⟨d,g,i,H,z⟩:=k.blk e p;exact a.blk e (eD z n) d g i
 obtain⟨d,g,i,H,z⟩:=k.u e l s r;rw[nj (a.blk e (eD z n) d g i) l];exact o
omit [Payload]in
def gq.eM(e:gq J ae O w b)(p:b.a.heap.size<=Q.heap.size)(o:∀a,a<Q.heap.size->ep a=ae a):gq J ep O w b:=
 ⟨λa j=>let ⟨d,g,i,H,z⟩:=e.blk a j;⟨by grind,g,i,H,z⟩,
  λa k n l=>let ⟨d,g,i,H,z⟩:=e.u a k n l;⟨by grind,g,i,H,z⟩,e.bH⟩
omit [Payload]in
def hu.rely{j}{C}(i:hu ae j C b)(g:b.a.heap.size<=Q.heap.size):hu ae j C {b with a:=Q}:=
 ⟨λa k=>let ⟨d,e⟩:=i.blk a k;⟨d,eD e g⟩,λa l o n=>let ⟨d,e⟩:=i.u a l o n;⟨d,eD e g⟩⟩
omit [Payload]in
def gq.rely(e:gq J ae O w b)(j:b.a.heap.size<=Q.heap.size):gq J ae O w {b with a:=Q}:=
 ⟨λa k=>let ⟨d,g,i,H,z⟩:=e.blk a k;⟨d,g,i,H,eD z j⟩,λa l o n=>let ⟨d,g,i,H,z⟩:=e.u a l o n;⟨d,g,i,H,eD z j⟩,e.bH⟩
omit [Payload]in
theorem hu.aU{e}{C}(a:hu ae e C b)(i:eX b az):hu ae e C az:=by
 refine⟨λj s=>by rw[i.a];exact a.blk j (i.blk j s),λj g k bd=>?_⟩;rw[i.a];by_cases s:∃L∈b.m,j∈L.al
 .obtain⟨d,l⟩:=a.blk j (.inr s);grind
 exact a.u j g k Rm
omit [Payload]in
def hu.b2{i}{C}(e:hu ae i C b)(a:nZ b az):hu ae i C az:=
 ⟨λd k=>by rw[a.a];exact e.blk d (by rw[<-a.own,<-a.m];exact k),λd g j l=>by rw[a.a];exact e.u d g j (a.e8 d g j l)⟩
omit [Payload]in
theorem gq.aU(a:gq J ae O w b)(i:eX b az):gq J ae O w az:=by
 refine⟨λj s=>by rw[i.a];exact a.blk j (i.blk j s),λj d e bd=>?_,λk g j d e bd=>i.mem _ _ _ (a.bH k g j d e bd)⟩;rw[i.a];by_cases s:∃L∈b.m,j∈L.al
 .exact a.blk j (.inr s)
 exact a.u j d e Rm
def l0(d:Nat->Nat)(b e:Nat):Nat->Nat:=λa=>if a<b then d a else e
omit [Payload]in
theorem ll{b:Nat->Nat}{a C}(d:j<a):l0 b a C j=b j:=by simp[l0,d]
omit [Payload]in
theorem C6{b:Nat->Nat}{a C}(d:a<=j):l0 b a C j=C:=by simp[l0,n7.2 d]
omit [Payload]in
def hu.step{l}{C}(i:hu ae l C b)(G:bc ao az)(e:cP n b ao az):hu (l0 ae b.a.heap.size C) l C az:=by
 refine⟨λa d=>?_,λa r t k=>?_⟩
 .rcases d with d|⟨L,W,d⟩
  .rw[e.own]at d;obtain⟨g,s⟩:=i.blk a (.inl d);exact⟨by grind[ll],eD s e.size⟩
  have j:=G.lt L W a d;rcases e.bU L W a d with g|⟨p,o,g⟩
  .grind [C6]
  obtain⟨k1,aN⟩:=i.blk a (.inr ⟨p,o,g⟩);grind[ll]
 have j:=gr.lt G.mem k;rcases dZ a b.a.heap.size with g|g
 .rw[ll g];by_cases d:∃L∈b.m,a∈L.al
  .exact⟨.inl (i.blk a (.inr d)).1,j⟩
  rw[e.bC a g (λL W u=>d ⟨L,W,u⟩)]at k;exact⟨(i.u a r t k).1,j⟩
 grind[C6]
omit [Payload]in
def gq.step(i:gq J ae O w b)(G:bc ao az)(d:cP n b ao az)(B:J.f<b.a.heap.size)(y:J.aj<b.a.heap.size)(A:∀a,J.bD a->a<b.a.heap.size):gq J (l0 ae b.a.heap.size 0) O w az:=by
 have F:∀a,b.a.heap.size<=a->a<az.a.heap.size->l0 ae b.a.heap.size 0 a=0/\a≠J.aj/\a≠J.f/\¬J.bD a/\a<az.a.heap.size:=λa g l=>
  ⟨C6 g,by omega,by omega,λI=>by grind,l⟩
 refine⟨λa e=>?_,λa k o j=>?_,λD v a k o j=>d.mem _ _ _ (i.bH D v a k o j)⟩
 .rcases e with e|⟨L,W,e⟩
  .rw[d.own]at e;obtain⟨g,l,C,H,z⟩:=i.blk a (.inl e);exact⟨by grind[ll],l,C,H,eD z d.size⟩
  have t:=G.lt L W a e;rcases d.bU L W a e with g|⟨x,u,g⟩
  .grind
  obtain⟨k1,aN,p,s,r⟩:=i.blk a (.inr ⟨x,u,g⟩);grind[ll]
 have t:=gr.lt G.mem j;rcases dZ a b.a.heap.size with g|g
 .by_cases e:∃L∈b.m,a∈L.al
  .obtain⟨k1,aN,p,s,r⟩:=i.blk a (.inr e);grind[ll]
  rw[d.bC a g (λL W E=>e ⟨L,W,E⟩)]at j;obtain⟨k1,aN,p,s,r⟩:=i.u a k o j;grind[ll]
 grind
end
end
section
open Go.Conc
open Go.ConcN (WD CTag Mode Vc Ssum pend phi cnt WgLive PayAt Has RW DWs WSit RelBy sumTo upd upd_same upd_ne AtR0 get_map_set get_map_set_same norel_of Deaf_still)
open Go.ConcR (KK WgAt stA smA rd wr mk Payload g_of_ofEvents)
variable [Payload]
section
variable (P:aI)(ty:av)(J:hK)(D:Nat)(val:Nat->Nat->aa)(d:Nat->Nat)(s:Nat->Mem)
inductive hL (l:Nat):Nat->Nat->cm->Nat->ak->au->Prop
 |db {ba:cm} {C:ak} {b:a6} {Q:au}:gE (aj.c' P) eL (um P ty J D val l) ba C b->cX b {b with a:=Q}->hu d (s l) (J.base+l) b->hL l 1 7 ba 0 C Q
 |rel {A:Nat} {C:ak} {Q:au}:Goes P m (RW ty J.f J.aj D 0 (J.aH*l)) Go.ConcR.DC0 (AtR0 P ty J.f J.aj D 0 (J.aH*l+1) (val l 0)) A C Q->hL l 0 7 (cm.dJ A) 0 C Q
 |tail {b9 A I:Nat} {C:ak} {Q:au}:b9<=6->WSit P ty J.f J.aj D pZ pZ 0 (J.aH*l+1) (val l 0) b9 A I C Q->hL l 0 b9 (cm.dJ A) I C Q
structure ij(w:Nat)(gs:Array ak)(Q:au)(o:Trace)(z:Nat->WD)(O:Nat->Nat)(ar:Nat->cm)(k:Nat):Prop where
 size:gs.size=J.base+w
 dt:∀e C,0<e->e<J.base->gs[e]?=h C->∃A,ar e=cm.dJ A/\QuitsD P A (Deaf o e) C
 above:∀e,J.base+w<=e->Deaf o e=0
 c9:∀l,l<w->∃C,gs[J.base+l]?=h C/\hL P ty J D val d s l (O l) (z l).stage (ar (J.base+l)) (z l).deaf C Q
 bw:fF J d s o w Q.heap.size
 dT:m_ o
 dB:Deaf o 0=k
 dC:∀l,l<w->Deaf o (J.base+l)=(z l).deaf
 rel:∀l,l<w->(z l).stage<=6->∃ba,RelBy (stA J.f) o (J.base+l) ba
 dp:∀l,l<w->O l=0->∀e,1<=e->e<J.aH->Q.cell? ⟨J.aj,J.aH*l+e,q⟩=h (val l e)
 dO:∀l,l<w->(z l).stage<=6->Has J.aj (J.aH*l) (val l 0) Q
 bT:PayAt J.aj D Q
 cZ:WgLive ty J.f Q
 cn:J.f<Q.heap.size
 cz:J.aj<Q.heap.size
 dr:∀j,J.bD j->j<Q.heap.size
 aH:0<J.aH
 dH:∀X,X<w->∀j t ab,s X j t=h ab->j<Q.heap.size
end
section
variable {P:aI}{ty:av}{J:hK}{D:Nat}{val:Nat->Nat->aa}{d ep:Nat->Nat}{s:Nat->Mem}{l:Nat}{Q:au}{o:Trace}{z:Nat->WD}{O:Nat->Nat}{ar:Nat->cm}{k:Nat}
def RW.dg(j:lE J d (s l) l Q bi)(b:WgLive ty J.f bi)(e:PayAt J.aj D bi)(i:0<J.aH):RW ty J.f J.aj D 0 (J.aH*l+1-1) Q bi:=
 ⟨λg a=>absurd a (iH g),λ_=>b,λ_=>e,j.bT _ (bB _) M⟩
def hL.dg{p b9 r}{u}{C}(v:hL P ty J D val d s l p b9 u r C Q)(o:lE J d (s l) l Q bi)(i:WgLive ty J.f bi)(t:PayAt J.aj D bi)(g:0<J.aH)(n:∀j,j<Q.heap.size->ep j=d j):
  hL P ty J D val ep s l p b9 u r C bi:=by
 cases v with
 |db a b e=>exact .db a (e.dg b o) (e.eM b.size n)
 |rel a=>exact .rel (Goes.rely (λ_ _ _ a b=>a.trans b) a (RW.dg o i t g))
 |tail k a=>exact .tail k (a.rely (RW.dg o i t g))
omit [Payload]in
def gE.run{j:aj P}{i:a6->a6->Array aT->Prop}{e:ak->a6->Prop}(g:∀b d,e b d->b.status=.running):∀{ba:cm}{b:ak}{d:a6},gE j i e ba b d->b.status=.running
 |.leaf,_,_,a=>g _ _ a
 |.node k,b,d,a=>by
  rcases a with a|⟨l,_,a⟩|⟨a,_⟩
  .grind
  .exact gE.run g (ba:=k d) a
  grind
def hL.status{e b9 g}{i}{C}(b:hL P ty J D val d s l e b9 i g C Q):C.status=.running∨C.status=.finished:=by
 cases b with
 |db a _ _=>exact .inl (a.run λC j b=>b.1)
 |rel a=>exact .inl (Goes.running (λ_ _ l=>l.1) Q (Go.ConcN.RW.refl Q) a)
 |tail _ a=>exact a.status
def hL.woken{a b9 b}{i}{C}(g:hL P ty J D val d s l a b9 i b C Q)(j e)(bi):woken P j e bi C=C:=by
 unfold Go.Conc.woken;split
 .exact again_running _ g.status
 simp
def ij.at(a:ij P ty J D val d s w gs Q o z O ar k)(e):ij P ty J D val d s w gs (Q.at e) o z O ar k:=
 ⟨a.size,a.dt,a.above,λg b=>let ⟨C,cS,dq⟩:=a.c9 g b;⟨C,cS,dq.dg (.at ..) a.cZ a.bT a.aH λ_ _=>rfl⟩,a.bw,a.dT,a.dB,a.dC,a.rel,a.dp,a.dO,a.bT,a.cZ,a.cn,a.cz,a.dr,a.aH,a.dH⟩
def ij.aQ(u:ij P ty J D val d s w gs Q o z O ar k)(W:l<w){r}{fn}{pos}{T}{x p A}{N}(K:∀t,t<Q.heap.size->ep t=d t)(F:Q.heap.size<=bi.heap.size)(Z:∀b,b<w->b≠l->lE J d (s b) b Q bi)(aB:hL P ty J D val ep s l x p N A r bi)(az:∀g∈T,(aO g).low bi.heap.size)(a:∀g∈T,∀E,(aO g).touch?=h E->E.loc.isMemory=f->n5 J ep (s l) l E)(ak:∀g∈T,∀E,g.loc≠.mark (.release E))(ax:deafBehind (z l).deaf T=A)(aA:p<=6->∃aa,RelBy (stA J.f) (o++MemOp.ofEvents (J.base+l) fn pos T) (J.base+l) aa)(aq:x=0->∀e,1<=e->e<J.aH->bi.cell? ⟨J.aj,J.aH*l+e,q⟩=h (val l e))(ao:p<=6->Has J.aj (J.aH*l) (val l 0) bi)(H:PayAt J.aj D bi)(aj:WgLive ty J.f bi):
  ij P ty J D val ep s w ((gs.map (woken P C r bi)).setIfInBounds (J.base+l) r) bi (o++MemOp.ofEvents (J.base+l) fn pos T) (upd z l ⟨p,0,A⟩) (upd O l x) (upd ar (J.base+l) N) k:=by
 have I:=u.bw.base;have R:∀b,b≠l->J.base+l≠J.base+b:=λb j g=>j y;have an:∀e G,0<e->e<J.base->((gs.map (Go.Conc.woken P C r bi)).setIfInBounds (J.base+l) r)[e]?=h G->gs[e]?=h G:=by intro e G bq n i;rw[get_map_set _ _ _ _ y]at i;obtain⟨aw,X,rfl⟩:=rn.1 i;obtain⟨ai,_,av⟩:=u.dt e aw bq n X;grind[woken_quitsD]
 refine⟨by simp[u.size],λe G bq n i=>?_,λe bq=>?_,λb j=>?_,?_,u.dT.app ak,by rw[Deaf_other o y _ g_of_ofEvents,u.dB],λb j=>?_,λb j B=>?_,λb j S e L aN=>?_,λb j B=>?_,H,aj,eD u.cn F,eD u.cz F,λt I=>eD (u.dr t I) F,u.aH,λb j t Y ab U=>eD (u.dH b j t Y ab U) F⟩
 .obtain⟨ai,ae,ag⟩:=u.dt e G bq n (an e G bq n i);refine⟨ai,by rw[upd_ne ar _ y];omega,?_⟩;rw[Deaf_other o y _ g_of_ofEvents];omega
 .exact Oe
 .by_cases g:b=l
  .subst g;exact⟨r,get_map_set_same _ _ _ (by rw[u.size];omega),by rw[upd_same,upd_same,upd_same];omega⟩
  obtain⟨G,i,ad⟩:=u.c9 b j;refine⟨G,by rw[get_map_set _ _ _ _ (R b g),i,lH,ad.woken],?_⟩;rw[upd_ne O _ g,upd_ne z _ g,upd_ne ar _ (R b g).symm];exact ad.dg (Z b j g) aj H u.aH K
 .refine(u.bw.eM K F u.cn u.cz u.dr λb j t Y ab U=>?_).ih W (λM v=>by grind[Go.Conc.mem_ofEvents]) (λM v=>?_) (λM v E S ah=>?_)
  .exact u.dH b j t Y ab U
  .exact Ff
  grind[Go.Conc.mem_ofEvents]
 .by_cases g:b=l
  .subst g;rw[Deaf_own,u.dC b j,upd_same];omega
  rw[Deaf_other o (R b g) _ g_of_ofEvents,u.dC b j,upd_ne z _ g]
 .by_cases g:b=l
  .subst g;rw[upd_same]at B;grind
  rw[upd_ne z _ g]at B;obtain⟨aa,V⟩:=u.rel b j B;exact⟨aa,V.appOther g_of_ofEvents (R b g)⟩
 .by_cases g:b=l
  .subst g;rw[upd_same]at S;grind
  rw[upd_ne O _ g]at S;rw[(Z b j g).bT _ y y];exact u.dp b j S e L aN
 by_cases g:b=l
 .subst g;rw[upd_same]at B;grind
 rw[upd_ne z _ g]at B;have:=u.dO b j B;have au:=u.aH;simp only[Has]at this⊢;rw[(Z b j g).bT _ y y];omega
def ij.h8(u:ij P ty J D val d s w gs Q o z O ar k){hr}{fn}{pos}{T}(v:∀n,n<Q.heap.size->ep n=d n)(A:Q.heap.size<=bi.heap.size)(I:∀b,b<w->lE J d (s b) b Q bi)(aN:∀p∈T,(aO p).low bi.heap.size)(R:∀p∈T,∀j,(aO p).touch?=h j->j.loc.isMemory=f->o4 J ep j)(ag:∀p∈T,∀j,(aO p).touch?=h j->j.kind=.plain->j.write=f->∀U,U<w->∀n B K,j.loc=.cell ⟨n,B,q⟩->s U n B≠h K)(V:∀p∈T,∀j,p.loc≠.mark (.release j))(M:PayAt J.aj D bi)(S:WgLive ty J.f bi):
  ij P ty J D val ep s w ((gs.map (woken P C hr bi)).setIfInBounds 0 hr) bi (o++MemOp.ofEvents 0 fn pos T) z O ar (deafBehind k T):=by
 have t:=u.bw.base;have aa:=u.aH;refine⟨by simp[u.size],λe N bq x i=>?_,λe bq=>?_,λb g=>?_,?_,u.dT.app V,by rw[Deaf_own,u.dB],λb g=>by rw[Deaf_other o y _ g_of_ofEvents,u.dC b g],λb g E=>?_,λb g F e H W=>?_,λb g E=>?_,M,S,eD u.cn A,eD u.cz A,λn t=>eD (u.dr n t) A,u.aH,λb g n B K a=>eD (u.dH b g n B K a) A⟩
 .rw[get_map_set _ _ _ _ y]at i;obtain⟨ae,Y,rfl⟩:=rn.1 i;obtain⟨ab,L,X⟩:=u.dt e ae bq x Y;exact⟨ab,L,by rw[woken_quitsD X,Deaf_other o y _ g_of_ofEvents];omega⟩
 .exact Oe
 .obtain⟨N,i,G⟩:=u.c9 b g;exact⟨N,by rw[get_map_set _ _ _ _ y,i,lH,G.woken],G.dg (I b g) S M u.aH v⟩
 .refine(u.bw.eM v A u.cn u.cz u.dr u.dH).app0 (λr l=>by grind[Go.Conc.mem_ofEvents]) (λr l=>Ff) (λr l j F ah=>Ff) (λr l j F=>?_);grind[Go.Conc.mem_ofEvents]
 .obtain⟨ad,Z⟩:=u.rel b g E;exact⟨ad,Z.appOther g_of_ofEvents y⟩
 .rw[(I b g).bT _ y y];exact u.dp b g F e H W
 have:=u.dO b g E;simp only[Has]at this⊢;rw[(I b g).bT _ y y];omega
def ij.bu(b:ij P ty J D val d s w gs Q o z O ar k)(R:0<e)(Y:e<J.base){j}{fn}{pos}{T}(V:∀g∈T,g.mute=f)(L:QuitsD P A (deafBehind (Deaf o e) T) j):
  ij P ty J D val d s w ((gs.map (woken P C j Q)).setIfInBounds e j) Q (o++MemOp.ofEvents e fn pos T) z O (upd ar e (cm.dJ A)) k:=by
 have K:=b.bw.base;have S:∀g∈T,∀x,g.loc≠.mark (.release x):=λg N x=>Kx (V g N) x;refine⟨by simp[b.size],λv B l p a=>?_,λv l=>?_,λu n=>?_,?_,b.dT.app S,by rw[Deaf_other o y _ g_of_ofEvents,b.dB],λu n=>by rw[Deaf_other o y _ g_of_ofEvents,b.dC u n],λu n I=>?_,b.dp,b.dO,b.bT,b.cZ,b.cn,b.cz,b.dr,b.aH,b.dH⟩
 .by_cases g:v=e
  .subst g;rw[get_map_set_same _ _ _ M]at a;cases a;exact⟨A,by rw[upd_same],by grind[Deaf_own]⟩
  rw[get_map_set _ _ _ _ (qc g)]at a;obtain⟨X,F,rfl⟩:=rn.1 a;obtain⟨E,H,W⟩:=b.dt v X l p F;exact⟨E,by rw[upd_ne ar _ g];omega,by rw[woken_quitsD W,Deaf_other o (qc g) _ g_of_ofEvents];omega⟩
 .rw[Deaf_other o y _ g_of_ofEvents];exact b.above v l
 .obtain⟨B,a,t⟩:=b.c9 u n;exact⟨B,by rw[get_map_set _ _ _ _ y,a,lH,t.woken],by rw[upd_ne ar _ y];omega⟩
 .exact b.bw.mute (C:=e) (λr i=>by grind[Go.Conc.mem_ofEvents]) (λr i=>by grind[Go.Conc.mem_ofEvents,low_mute]) (λr i=>by grind[Go.Conc.mem_ofEvents,touch_mute])
 obtain⟨U,G⟩:=b.rel u n I;exact⟨U,G.appOther g_of_ofEvents y⟩
def ij.spawn(e:ij P ty J D val d s w gs Q o z O ar 0){fL rF}{l X}{K}(Y:l.g=0/\l.act=.go (J.base+w))(H:X.g=J.base+w/\X.act=.start)(L:∀j B E,s w j B=h E->d j=0/\j≠J.aj/\j≠J.f/\¬J.bD j/\j<Q.heap.size)(aN:gE (aj.c' P) eL (um P ty J D val w) K rF b)(R:cX b {b with a:=Q})(G:hu d (s w) (J.base+w) b):
  ij P ty J D val d s (w+1) ((gs.setIfInBounds 0 fL).push rF) Q (o++#[l,X]) (upd z w ⟨7,0,0⟩) (upd O w 1) (upd ar (J.base+w) K) 0:=by
 have Z:=e.bw.base;have ad:∀i∈#[l,X],i=l∨i=X:=M;have I:∀i∈#[l,X],i.act≠.mark .disable/\i.act≠.mark .enable:=M;have aa:∀k,0<k->k<J.base+w->((gs.setIfInBounds 0 fL).push rF)[k]?=gs[k]?:=λk n a=>by rw[Array.getElem?_push_lt (by simp[e.size];omega),<-iE,sH y]
 refine⟨by simp[e.size];omega,λk T n x u=>?_,λk n=>?_,λg C=>?_,e.bw.gm Y H e.dB (e.above _ (bB _)) λj B E U=>let ⟨r,t,W,V,_⟩:=L j B E U;⟨r,t,W,V⟩,λS=>(e.dT S).app λi A=>?_,by rw[Deaf_still o 0 _ I,e.dB],λg C=>?_,λg C p=>?_,λg C N=>?_,λg C p=>?_,e.bT,e.cZ,e.cn,e.cz,e.dr,e.aH,λg C j B E U=>?_⟩
 .rw[aa k n y]at u;obtain⟨ab,r,t⟩:=e.dt k T n x u;exact⟨ab,by rw[upd_ne ar _ y];exact r,by rw[Deaf_still o _ _ I];exact t⟩
 .rw[Deaf_still o _ _ I];exact e.above k y
 .rcases dZ g w with a|v
  .obtain⟨T,u,F⟩:=e.c9 g a;exact⟨T,by grind,by rw[upd_ne z _ y,upd_ne O _ y,upd_ne ar _ y];omega⟩
  obtain rfl:g=w:=y;refine⟨rF,?_,by rw[upd_same,upd_same,upd_same];exact .db aN R G⟩;rw[show J.base+g=(gs.setIfInBounds 0 fL).size by simp[e.size],Array.getElem?_push_size]
 .grind
 .rw[Deaf_still o _ _ I];rcases dZ g w with a|v
  .rw[e.dC g a,upd_ne z _ y]
  obtain rfl:g=w:=y;rw[upd_same];exact e.above _ (bB _)
 .rcases dZ g w with a|v
  .rw[upd_ne z _ y]at p;obtain⟨K,R⟩:=e.rel g a p;refine⟨K,R.appNot λi A=>?_⟩;grind
  obtain rfl:g=w:=y;rw[upd_same]at p;grind
 .rcases dZ g w with a|v
  .rw[upd_ne O _ y]at N;exact e.dp g a N
  obtain rfl:g=w:=y;rw[upd_same]at N;grind
 .rcases dZ g w with a|v
  .rw[upd_ne z _ y]at p;exact e.dO g a p
  obtain rfl:g=w:=y;rw[upd_same]at p;grind
 rcases dZ g w with a|v
 .exact e.dH g a j B E U
 grind
end
end
section
open Go.Conc
open Go.ConcN (WD CTag Mode Vc Ssum pend phi cnt WgLive PayAt Has RW DWs WSit RelBy sumTo upd upd_same upd_ne AtR0)
open Go.ConcR (KK WgAt stA smA rd wr mk Payload g_of_ofEvents again_blocked)
variable [Payload]
section
variable (P:aI)(ty:av)(J:hK)(D:Nat)(val:Nat->Nat->aa)(k:Nat)(ad d:ak->a6->Prop)
def Ac(d:ak)(g:a6):Prop:=d.status=.running/\∃a,(∀e,aq P f d e=.go a e #[mk (.acquire (stA J.f))])/\∀b,(aj.aG P ty J.f).rely g b->ad a b
def wK(d:ak)(g:a6):Prop:=d.status=.running/\∃a,(∀e,aq P f d e=.go a e #[mk .enable])/\∀b,(aj.aG P ty J.f).rely g b->(dw (aj.aG P ty J.f) (dU J.f)) (Ac P ty J ad) a b
def Ah(d:ak)(e:a6):Prop:=d.status=.running/\∀a,(aj.aG P ty J.f).rely e a->WgAt ty J.f a.a 0 0->∃b,aq P f d a.a=.go b a.a #[rd (stA J.f)]/\(dw (aj.aG P ty J.f) (dU J.f)) (wK P ty J ad) b a
def oZ(b:ak)(g:a6):Prop:=b.status=.running/\b.offers=q/\∀a,(aj.aG P ty J.f).rely g a ->
 ((∃e,WgAt ty J.f a.a e 0)->aq P f b a.a=.go {b with status:=.blocked} a.a #[]) /\
 (WgAt ty J.f a.a 0 1->∃d,aq P f b a.a=.go d (a.a.setCell (smA J.f) (.int .u32 0)) (semEvents (smA J.f))/\(dw (aj.aG P ty J.f) (dU J.f)) (Ah P ty J ad) d {a with a:=a.a.setCell (smA J.f) (.int .u32 0)})
def Ag(B:Nat)(g:ak)(i:a6):Prop:=g.status=.running/\∀b,(aj.aG P ty J.f).rely i b->∀e:Nat,e<2147483648->WgAt ty J.f b.a (e*KK) 0 ->
 (e=B->∃a,aq P f g b.a=.go a (b.a.setCell (stA J.f) (.int .u64 (e*KK+1))) #[rd (stA J.f),wr (stA J.f)]/\(dw (aj.aG P ty J.f) (dU J.f)) (oZ P ty J ad) a {b with a:=b.a.setCell (stA J.f) (.int .u64 (e*KK+1))}) /\
 (e≠B->∃a,aq P f g b.a=.go a b.a #[rd (stA J.f)]/\d a b)
def re(g:ak)(i:a6):Prop:=g.status=.running/\∀b,(aj.aG P ty J.f).rely i b->∀e:Nat,e<2147483648->WgAt ty J.f b.a (e*KK) 0 ->
 ∃a,aq P f g b.a=.go a b.a #[rd (stA J.f)]/\(e=0->(dw (aj.aG P ty J.f) (dU J.f)) (wK P ty J ad) a b)/\(e≠0->(dw (aj.aG P ty J.f) (dU J.f)) (Ag P ty J ad d e) a b)
def Ad(e:ak)(i:a6):Prop:=e.status=.running/\∃a,(∀g,aq P f e g=.go a g #[mk .disable])/\∀b,(aj.aG P ty J.f).rely i b->d a b
def a6.dz(a:a6):a6:={m:=[],u:=a.u,a:=a.a,own:=λ_=>False}
def wJ(g:Nat)(Next:ak->a6->Prop)(e:ak)(i:a6):Prop:=e.status=.running/\∀b,(aj.aG P ty J.f).rely i b ->
 ∃d a,aq P f e b.a=.spawn d a b.a #[]/\a.status=.running/\dw (aj.c' P) eL (um P ty J D val g) a b.dz/\Next d b
def Af(g:Nat)(Next:ak->a6->Prop)(d:ak)(i:a6):Prop:=d.status=.running/\∃a,(∀e,aq P f d e=.go a e #[mk .enable])/\∀b,(aj.aG P ty J.f).rely i b->(dw (aj.aG P ty J.f) (dU J.f)) (wJ P ty J D val g Next) a b
def Ab(g:Nat)(Next:ak->a6->Prop)(e:ak)(i:a6):Prop:=e.status=.running/\∀a,(aj.aG P ty J.f).rely i a->∀d:Nat,d<2147483647->WgAt ty J.f a.a (d*KK) 0 ->
 ∃b,aq P f e a.a=.go b (a.a.setCell (stA J.f) (.int .u64 ((d+1)*KK))) #[rd (stA J.f),wr (stA J.f)]/\(dw (aj.aG P ty J.f) (dU J.f)) (Af P ty J D val g Next) b {a with a:=a.a.setCell (stA J.f) (.int .u64 ((d+1)*KK))}
def Ae(g:Nat)(Next:ak->a6->Prop)(d:ak)(i:a6):Prop:=d.status=.running/\∃a,(∀e,aq P f d e=.go a e #[mk .disable])/\∀b,(aj.aG P ty J.f).rely i b->(dw (aj.aG P ty J.f) (dU J.f)) (Ab P ty J D val g Next) a b
def o3:Nat->ak->a6->Prop
 |0,a,b=>(dw (aj.aG P ty J.f) (dU J.f)) (Ad P ty J d) a b
 |e+1,a,b=>(dw (aj.aG P ty J.f) (dU J.f)) (Ae P ty J D val (k-(e+1)) (o3 e)) a b
def cm.ee:cm->cm
 |.leaf=>.node λ_=>.leaf
 |.node a=>.node λb=>cm.ee (a b)
omit [Payload]in
def cm.ho:∀{d b:cm},cm.lt d b->cm.lt d.ee b.ee
 |_,.leaf,a=>a.elim
 |_,.node _,⟨g,a⟩=>⟨g,a.elim (λe=>.inl (by rw[e])) λa=>.inr (cm.ho a)⟩
omit [Payload]in
def cm.jA(a:a6):∀d:cm,∃e,cm.lt e d.ee
 |.leaf=>⟨.leaf,a,.inl rfl⟩
 |.node b=>⟨(b a).ee,a,.inl rfl⟩
inductive hk:CTag->Nat->cm->Nat->ak->a6->Prop
 |fc {ba:Nat} {c5:cm} {C:ak} {b:a6}:ba<k->(gE (aj.aG P ty J.f) (dU J.f)) (Ae P ty J D val (k-(ba+1)) (o3 P ty J D val k d ba)) c5 C b->hk (.sp ba 5) (k-(ba+1)) c5 0 C b
 |fR {ba:Nat} {c5:cm} {C:ak} {b:a6}:ba<k->(gE (aj.aG P ty J.f) (dU J.f)) (Ab P ty J D val (k-(ba+1)) (o3 P ty J D val k d ba)) c5 C b->hk (.sp ba 4) (k-(ba+1)) c5 1 C b
 |fT {ba:Nat} {c5:cm} {C:ak} {b:a6}:ba<k->(gE (aj.aG P ty J.f) (dU J.f)) (Af P ty J D val (k-(ba+1)) (o3 P ty J D val k d ba)) c5 C b->hk (.sp ba 3) (k-(ba+1)) c5 1 C b
 |fS {ba:Nat} {c5:cm} {C:ak} {b:a6}:ba<k->(gE (aj.aG P ty J.f) (dU J.f)) (wJ P ty J D val (k-(ba+1)) (o3 P ty J D val k d ba)) c5 C b->hk (.sp ba 2) (k-(ba+1)) c5 0 C b
 |kd {c5:cm} {C:ak} {b:a6}:(gE (aj.aG P ty J.f) (dU J.f)) (Ad P ty J d) c5 C b->hk .kd k c5 0 C b
 |w1 {c5:cm} {C:ak} {b:a6}:(gE (aj.aG P ty J.f) (dU J.f)) (re P ty J ad d) c5 C b->hk .w1 k c5 1 C b
 |w2 {B:Nat} {c5:cm} {C:ak} {b:a6}:(gE (aj.aG P ty J.f) (dU J.f)) (Ag P ty J ad d B) c5 C b->hk (.w2 B) k c5 1 C b
 |w3 {c5:cm} {C:ak} {b:a6}:(gE (aj.aG P ty J.f) (dU J.f)) (oZ P ty J ad) c5 C b->hk .w3 k c5.ee 1 C b
 |blk {c5:cm} {C:ak} {b:a6}:oZ P ty J ad C b->hk .blk k c5 1 {C with status:=.blocked} b
 |w4 {c5:cm} {C:ak} {b:a6}:(gE (aj.aG P ty J.f) (dU J.f)) (Ah P ty J ad) c5 C b->hk .w4 k c5 1 C b
 |ke {c5:cm} {C:ak} {b:a6}:(gE (aj.aG P ty J.f) (dU J.f)) (wK P ty J ad) c5 C b->hk .ke k c5 1 C b
 |acq {c5:cm} {C:ak} {b:a6}:(gE (aj.aG P ty J.f) (dU J.f)) (Ac P ty J ad) c5 C b->hk .acq k c5 0 C b
structure wN(R:Nat->Nat)(t:Nat->Mem)(A:Machine)(o:Trace):Prop where
 hD:∃(gs:Array ak) (Q:au) (dG:Option (Nat×Nat)) (x:ak) (b:a6) (bd:Nat->Nat),A=crowd gs Q dG/\gs[0]?=h x/\gs.size=J.base+k/\ad x {b with a:=Q}/\cX b {b with a:=Q}/\gq J R t k b /\
  Leavers P o gs bd/\Past (jE λj=>J.bD j∨j=J.f) Q.heap.size o/\m_ o/\PayAt J.aj D Q/\(∀l,l<k->∀e,e<J.aH->Q.cell? ⟨J.aj,J.aH*l+e,q⟩=h (val l e))/\J.aj<Q.heap.size/\J.f<Q.heap.size/\∀j,J.bD j->j<Q.heap.size
abbrev pX:=Nat×((Nat->cm)×cm)
def k8(a:Nat):pX->pX->Prop:=Prod.Lex (· < ·) (Prod.Lex (wP a) cm.lt)
omit [Payload]in
def aaz(bE):WellFounded (k8 bE):=(Prod.lex Nat.lt_wfRel ⟨_,(Prod.lex ⟨wP bE,Ng bE⟩ ⟨cm.lt,⟨cm.ft⟩⟩).wf⟩).wf
structure lC(μ:pX)(gs:Array ak)(Q:au)(o:Trace)(R:Nat->Nat)(t:Nat->Mem)(w:Nat)(z:Nat->WD)(O:Nat->Nat)(ar:Nat->cm)(d0:Nat)(tag:CTag)(c5:cm)(x:ak)(b:a6)(b9 oQ:Int):Prop where
 dq:gs[0]?=h x
 dA:hk P ty J D val k ad d tag w c5 d0 x b
 rely:cX b {b with a:=Q}
 aG:gq J R t w b
 ai:ij P ty J D val R t w gs Q o z O ar d0
 bZ:WgAt ty J.f Q b9 oQ
 mode:Go.ConcN.Mode w z tag b9 oQ
 eH:μ=(phi k (Vc w z) tag+Ssum w z+sumTo w O,(ar,c5))
def fc(o:pX)(r:Machine)(v:Trace):Prop:=
 ∃(a:Array ak) (i:au) (dG:Option (Nat×Nat)) (t:Nat->Nat) (s:Nat->Mem) (p:Nat) (z:Nat->WD) (O:Nat->Nat) (j:Nat->cm) (n:Nat) (tag:CTag) (b:cm) (l:ak) (u:a6) (g e:Int),
  r=crowd a i dG/\lC P ty J D val k ad d o a i v t s p z O j n tag b l u g e
end
section
variable {P:aI}{ty:av}{J:hK}{D:Nat}{val:Nat->Nat->aa}{k:Nat}{ad d:ak->a6->Prop}{R ep:Nat->Nat}{t:Nat->Mem}{tag:CTag}{c5:cm}{I:Nat}{x:ak}{Q:au}
omit [Payload]in
def mM(d:cX b {b with a:=Q})(a:WgLive ty J.f Q):(aj.aG P ty J.f).rely b {b with a:=Q}:=⟨d,λ_=>a⟩
omit [Payload]in
def oZ.rely{s}(a:oZ P ty J ad C b)(g:(aj.aG P ty J.f).rely b s):oZ P ty J ad C s:=
 ⟨a.1,a.2.1,λd e=>a.2.2 d ⟨g.1.trans e.1,λi=>e.2 (g.2 i)⟩⟩
def hk.status(a:hk P ty J D val k ad d tag w c5 I x b):(x.status=.running/\tag≠.blk)∨(x.status=.blocked/\tag=.blk):=by
 cases a with
 |fc _ a=>exact .inl ⟨a.run λ_ _ e=>e.1,by simp⟩
 |fR _ a=>exact .inl ⟨a.run λ_ _ e=>e.1,by simp⟩
 |fT _ a=>exact .inl ⟨a.run λ_ _ e=>e.1,by simp⟩
 |fS _ a=>exact .inl ⟨a.run λ_ _ e=>e.1,by simp⟩
 |kd a=>exact .inl ⟨a.run λ_ _ e=>e.1,by simp⟩
 |w1 a=>exact .inl ⟨a.run λ_ _ e=>e.1,by simp⟩
 |w2 a=>exact .inl ⟨a.run λ_ _ e=>e.1,by simp⟩
 |w3 a=>exact .inl ⟨a.run λ_ _ e=>e.1,by simp⟩
 |blk a=>grind
 |w4 a=>exact .inl ⟨a.run λ_ _ e=>e.1,by simp⟩
 |ke a=>exact .inl ⟨a.run λ_ _ e=>e.1,by simp⟩
 |acq a=>exact .inl ⟨a.run λ_ _ e=>e.1,by simp⟩
def hk.ia(n:hk P ty J D val k ad d tag w c5 I x b)(C i)(bi):
  ∃a l,hk P ty J D val k ad d a w l I (woken P C i bi x) b/\(a=tag∨(tag=.blk/\a=.w3))/\(mayWake P C=f->i.status=.running->a≠.blk):=by
 unfold Go.Conc.woken;split
 .rcases n.status with⟨e,j⟩|⟨_,rfl⟩
  .grind [again_running]
  cases n with
  |blk g=>exact⟨.w3,cm.ee .leaf,by rw[again_blocked g.1 g.2.1];exact .w3 (show gE _ _ _ .leaf _ _ from g),.inr ⟨rfl,rfl⟩,λ_ _=>by simp⟩
 grind
def wm{W:pX}{dG:Option (Nat×Nat)}{ax:Trace}{z:Nat->WD}{O:Nat->Nat}{X:Nat->cm}{aw av:Int}(p:lC P ty J D val k ad d W gs Q ax R t w z O X I tag c5 x b aw av){g:Nat}(Y:g<w){o:ak}{n:Array aT}{l i j:Nat}{v:cm}{ae G:Int}(ao:gs[J.base+g]?=h C)(E:aq P m C Q=.go o bi n)(F:∀ag,ag<Q.heap.size->ep ag=R ag)(S:Q.heap.size<=bi.heap.size)(aG:∀aa,aa<w->aa≠g->lE J R (t aa) aa Q bi)(aE:rl J R Q bi)(aK:hL P ty J D val ep t g l i v j o bi)(L:∀A∈n,(aO A).low bi.heap.size)(T:∀A∈n,∀x,(aO A).touch?=h x->x.loc.isMemory=f->n5 J ep (t g) g x)(N:∀A∈n,∀x,A.loc≠.mark (.release x))(aF:deafBehind (z g).deaf n=j)(aN:i<=6->∃aS,RelBy (stA J.f) (ax++MemOp.ofEvents (J.base+g) C.frame.fn C.frame.place n) (J.base+g) aS)(an:l=0->∀Z,1<=Z->Z<J.aH->bi.cell? ⟨J.aj,J.aH*g+Z,q⟩=h (val g Z))(aj:i<=6->Has J.aj (J.aH*g) (val g 0) bi)(aI:PayAt J.aj D bi)(az:WgAt ty J.f bi ae G)(H:∀e,(e=tag∨(tag=.blk/\e=.w3))->(mayWake P C=f->o.status=.running->e≠.blk)->Go.ConcN.Mode w (upd z g ⟨i,0,j⟩) e ae G)(a:(i+l<(z g).stage+O g/\cnt ⟨i,0,j⟩<=cnt (z g))∨(i=(z g).stage/\l=O g/\cm.lt v (X (J.base+g))))(aA:J.base+w<=J.base+k):
  ∃aD r u,runT P (crowd gs Q dG) (J.base+g)=(.next aD,r)/\k8 (J.base+k) u W/\fc P ty J D val k ad d u aD (ax++r):=by
 have aR:=p.ai.bw.base;obtain⟨e,s,aJ,aB,V⟩:=p.dA.ia C o bi;have K:(J.base+g==0)=m:=M;have aH:=runT_crowd_go (P:=P) (sl:=dG) (i:=J.base+g) ao (by rw[K];exact E)
 have aL:=Go.ConcN.sumTo_upd z (⟨i,0,j⟩:WD) cnt Y;have aM:=Go.ConcN.sumTo_upd z (⟨i,0,j⟩:WD) WD.stage Y;have aP:sumTo w (upd O g l)+O g=sumTo w O+l:=Go.ConcN.sumTo_upd O l id Y;refine⟨_,_,(phi k (Vc w (upd z g ⟨i,0,j⟩)) e+Ssum w (upd z g ⟨i,0,j⟩)+sumTo w (upd O g l),(upd X (J.base+g) v,s)),aH,?_,
  _,bi,dG,ep,t,w,_,_,_,I,e,s,woken P C o bi x,b,ae,G,rfl,⟨by rw[Go.ConcN.get_map_set _ _ _ _ y,p.dq];rfl,aJ,p.aG.dg p.rely aE,p.aG.eM p.rely.size F,
   p.ai.aQ Y F S aG aK L T N aF aN an aj aI ⟨_,_,az⟩,az,H e aB V,rfl⟩⟩
 rw[p.eH,Go.ConcN.phi_retag k _ aB];simp only[Vc,Ssum]at *;rcases a with⟨au,DW⟩|⟨au,DW,tx⟩
 .refine Prod.Lex.left _ _ ?_;have:=Go.ConcN.phi_mono k (v':=sumTo w λx=>cnt (upd z g ⟨i,0,j⟩ x)) (v:=sumTo w λx=>cnt (z x)) y tag;omega
 have aQ:cnt (⟨i,0,j⟩:WD)=cnt (z g):=hz;have ai:(sumTo w λx=>cnt (upd z g ⟨i,0,j⟩ x))=sumTo w λx=>cnt (z x):=y;have B:(sumTo w λx=>(upd z g ⟨i,0,j⟩ x).stage)=sumTo w λx=>(z x).stage:=y;have ah:sumTo w (upd O g l)=sumTo w O:=y;rw[ai,B,ah];exact Prod.Lex.right _ (Prod.Lex.left _ _ ⟨J.base+g,by omega,by rw[upd_same];exact tx,λaU ar=>upd_ne X _ ar⟩)
end
end
section
open Go.Conc
open Go.ConcN (WD CTag Vc Ssum pend phi cnt WgLive PayAt Has RW DWs WSit RelBy sumTo upd upd_same upd_ne AtR0 isW3 isOpen OpenSt deafBehind_idle bk_cell okW_none Vc_upd Vc_le le_sumTo others_uncounted)
open Go.ConcR (KK WgAt stA smA rd wr mk Payload g_of_ofEvents Bk bk_of_mute ofEvent_loc_mark ofEvent_cell)
variable [Payload]
section
variable {J:hK}{ad G:ak->a6->Prop}{W ep:Nat->Nat}{mm:Nat->Mem}{tag:CTag}{c5:cm}{I:Nat}{x:ak}{Q:au}
omit [Payload]in
def lE.bZ(b:Aside J.f Q bi)(l:W J.f=0)(o:1<=J.base)(g:∀a d i,mm w a d=h i->a≠J.f)(e:J.aj≠J.f):lE J W (mm w) w Q bi:=
 ⟨by rw[b.size];grind,λa _ j=>b.block a (λn=>by grind),λa d i H k=>by rw[nj (b.block a (g a d i H))];exact k,λd _ _=>nj (b.block _ e) d,b.os,b.tape,b.output⟩
omit [Payload]in
def rl.bZ(a:Aside J.f Q bi):rl J W Q bi:=⟨by rw[a.size];grind,λb _ _ _ d=>a.block b d,a.os,a.tape,a.output⟩
omit [Payload]in
def rl.refl(Q):rl J W Q Q:=⟨bB _,λ_ _ _ _ _=>rfl,rfl,rfl,rfl⟩
omit [Payload]in
def GK{d}{b:Array aT}(j:∀a∈b,Bk J.f a)(k:J.f<d):∀a∈b,(aO a).low d:=by
 intro a i;rcases j a i with g|g|⟨e,wr,rfl,l⟩
 .rw[ofEvent_loc_mark g];trivial
 .rw[ofEvent_loc_mark g];trivial
 rw[ofEvent_cell];show e.block<d;grind
omit [Payload]in
def Sm{l}{e:Array aT}(o:∀d∈e,Bk J.f d):∀d∈e,∀g,(aO d).touch?=h g->g.loc.isMemory=f->n5 J W (mm l) l g:=by
 intro d n p b _;rcases o d n with j|j|⟨i,wr,rfl,k⟩
 .rw[ofEvent_loc_mark j]at b;cases b
 .rw[ofEvent_loc_mark j]at b;cases b
 rw[ofEvent_cell]at b;simp[MemAct.touch?,eV]at b;subst b;exact .inl ⟨i,a,k,a⟩
omit [Payload]in
def GL{b:Array aT}(i:∀a∈b,Bk J.f a):∀a∈b,∀d,a.loc≠.mark (.release d):=by
 intro a g d j;rcases i a g with k|k|⟨e,wr,rfl,_⟩
 .grind
 .grind
 grind
omit [Payload]in
def aeS{l}{b4}{T}(v:hu W (mm l) (J.base+l) b)(u:bc n b)(y:dx b T)(r:cP n b ao b4):
  (∀e∈T,(aO e).low b4.a.heap.size)/\(∀e∈T,∀k,(aO e).touch?=h k->k.loc.isMemory=f->n5 J (l0 W b.a.heap.size (J.base+l)) (mm l) l k) /\
  (∀e∈T,e.loc≠.mark .disable/\e.loc≠.mark .enable)/\∀e∈T,∀k,e.loc≠.mark (.release k):=by
 have key:∀e∈T,(aO e).low b4.a.heap.size/\(∀k,(aO e).touch?=h k->k.loc.isMemory=f->n5 J (l0 W b.a.heap.size (J.base+l)) (mm l) l k)/\(e.loc≠.mark .disable/\e.loc≠.mark .enable)/\∀k,e.loc≠.mark (.release k):=by
  intro e A;have o:=y e A;obtain⟨loc,wr,C⟩:=e;cases loc with
  |cell g=>
   obtain⟨p,t,d⟩:=o;simp only at p t d;subst p;have s:g.block<b.a.heap.size:=by
    rcases d with d|⟨⟨L,aN,d⟩,_⟩|⟨_,x,d⟩
    .exact d.elim
    .exact u.lt L aN _ d
    exact gr.lt u.mem d
   refine⟨by rw[ofEvent_cell];exact eD s r.size,λj i _=>?_,⟨by simp,by simp⟩,by simp⟩;rw[ofEvent_cell]at i;simp[MemAct.touch?,eV]at i;subst i;refine .inr ⟨a,?_⟩;rcases d with d|⟨⟨L,aN,d⟩,_⟩|⟨z,x,d⟩
   .exact d.elim
   .exact .inl ⟨g.block,a,by rw[ll s];exact(v.blk _ (.inr ⟨L,aN,d⟩)).1⟩
   rcases(v.u _ _ _ d).1 with w|w
   .exact .inl ⟨g.block,a,by grind[ll]⟩
   refine .inr (.inr ⟨z,g.block,g.off,x,?_,w⟩);obtain⟨j,F,sp⟩:=g;grind
  |obj B=>
   obtain⟨p,t⟩:=o;simp only at p t;subst p;obtain⟨L,aN,d⟩:=t.resolve_left id;have s:=u.lt L aN _ d;refine⟨?_,λj i _=>?_,⟨by simp,by simp⟩,by simp⟩
   .simp[aO,MemAct.low,Loc.low];exact eD s r.size
   simp[aO,MemAct.touch?]at i;subst i;exact .inr ⟨a,.inl ⟨B,a,by rw[ll s];exact(v.blk _ (.inr ⟨L,aN,d⟩)).1⟩⟩
  |mark E=>
   simp[h8]at o;rcases o with rfl|⟨D,rfl⟩
   .exact QQ
   exact QQ
  |_=>exact o.elim
 grind
def adb{a9}{dG}{o}{z:Nat->WD}{O:Nat->Nat}{b6:Nat->cm}{b9 oQ}(i:lC P ty J D val k ad G a9 gs Q o W mm w z O b6 I tag c5 x b b9 oQ)(cx:k<2147483648)(cw:w<=k)(cb:w+pend tag<=k){l}(g':l<w)(a3:gs[J.base+l]?=h C)(a4:C.status=.running):
  ∃p K R,runT P (crowd gs Q dG) (J.base+l)=(.next p,K)/\k8 (J.base+k) R a9/\fc P ty J D val k ad G R p (o++K):=by
 have bc:=i.ai.bw.base;obtain⟨bs,bQ,a5⟩:=i.ai.c9 l g';obtain rfl:C=bs:=M;generalize X:(z l).stage=aL at a5;generalize bk:b6 (J.base+l)=b4 at a5;generalize a2:(z l).deaf=aA at a5;generalize aR:O l=cq at a5;have bh:Deaf o (J.base+l)=aA:=by rw[i.ai.dC l g',a2]
 have b8:=Vc_le w z;have same:∀u r,Go.ConcN.Mode w (upd z l ⟨aL,u,r⟩) tag b9 oQ:=λu r=>by have:=i.mode.same (i:=l) u r;grind
 cases a5 with
 |@db b4 C aV Q bz aW bR=>
  rcases bz.bg (λaV=>cX aV {aV with a:=Q}/\hu W (mm l) (J.base+l) aV) (λaV v aD aI=>⟨aI.1.aU aD,aI.2.aU aD⟩) (λ_ aV v aD aI=>⟨aI.1.b2 aD,aI.2.b2 aD⟩) ⟨aW,bR⟩with⟨v,⟨k1,bP⟩,g⟩|⟨_,v,⟨k1,bP⟩,e⟩
  ·
   obtain⟨j,w2,T,d,az,bj,bC,ag⟩:=g.2 Q k1 i.ai.bT i.ai.cZ;have b':=i.ai.aH;refine wm i g' a3 d (ep:=W) (λ_ _=>rfl) (by rw[az.size];grind) (λba aS bo=>⟨by rw[az.size];grind,λY _ aQ=>az.block Y (λai=>by rw[ai,i.ai.bw.dd]at aQ;omega),λY aU ao H bT=>?_,λaU bm bn=>az.hD aU ?_,az.os,az.tape,az.output⟩)
    ⟨by rw[az.size];grind,λY _ _ aW _=>az.block Y aW,az.os,az.tape,az.output⟩ (.rel ag) (λai s=>?_) (λai s Y aQ _=>?_) (λai s=>?_) ?_ (λt=>absurd t cc) (λ_ b3 _ aI=>az.new b3 aI) (λt=>absurd t cc) az.bT
    (i.bZ.of_block (az.block _ (qc i.ai.bw.b4))) (λ_ aj _=>(same _ _).retag aj) (.inl ⟨by omega,by simp[cnt,X]⟩) y
   .rw[nj (az.block Y (i.ai.bw.bH ba aS Y aU ao H).2.1)];exact bT
   .rcases Nat.lt_or_gt_of_ne bo with t|t
    .have:=wY J.aH (show ba+1<=l from t);grind
    have:=wY J.aH (show l+1<=ba from t);grind
   .obtain⟨aU,rfl,_⟩:=bj ai s;rw[ofEvent_cell];show J.aj<_;rw[az.size];exact i.ai.cz
   .obtain⟨aU,rfl,bm,bn⟩:=bj ai s;rw[ofEvent_cell]at aQ;simp[MemAct.touch?,eV]at aQ;subst aQ;exact .inr ⟨a,.inr (.inl ⟨aU,a,bm,bn⟩)⟩
   .grind
   rw[a2];exact deafBehind_idle (λai s=>by grind) 0
  ·
   obtain⟨j,b5,T,cz,d,bG,bM,bS⟩:=e _ k1;obtain⟨⟨cA,ck,cl,bl,A⟩,cj⟩:=bG.resolve_right id;have bx:hu W (mm l) (J.base+l) {v with a:=Q}:=bP.rely k1.size;obtain⟨aG,aH,br,bW⟩:=aeS bx cl cj A;have Z:∀Y,Y<Q.heap.size->W Y≠J.base+l->b5.a.heap[Y]?=Q.heap[Y]?:=λY aQ bK=>A.a7 Y aQ λL aN bE=>bK (bx.blk Y (.inr ⟨L,aN,bE⟩)).1;refine wm i g' a3 d (ep:=l0 W Q.heap.size (J.base+l)) (λY aQ=>ll aQ) A.size (λba aS bo=>⟨A.size,λY aQ b_=>Z Y aQ y,λY aU ao H bT=>?_,λaU _ _=>nj (Z _ i.ai.cz (by rw[i.ai.bw.dd];omega)) aU,A.os,A.tape,A.output⟩)
    ⟨A.size,λY aQ cu _ _=>Z Y aQ y,A.os,A.tape,A.output⟩ (.db bM (cX.eo bl.mem) (bx.step bl A)) aG aH bW (by rw[a2];exact deafBehind_idle br 0) (λt=>absurd t cc) (λt=>absurd t cc) (λt=>absurd t cc) ?_
    (i.bZ.of_block (Z _ i.ai.cn (by rw[i.ai.bw.c0];omega))) (λ_ aj _=>(same _ _).retag aj) (.inr ⟨X.symm,aR.symm,by grind⟩) y
   .rw[nj (Z Y (i.ai.dH ba aS Y aU ao H) (by rw[(i.ai.bw.bH ba aS Y aU ao H).1];omega))];exact bT
   obtain⟨bq,bU,bV⟩:=i.ai.bT;exact⟨bq,(Z _ i.ai.cz (by rw[i.ai.bw.dd];omega)).trans bU,bV⟩
 |@rel bC C Q t=>
  rcases Goes.cases t with g|⟨u,rfl,e⟩
  ·
   obtain⟨_,bY,j,d,ax,ag⟩:=g Q (Go.ConcN.RW.refl Q);refine wm i g' a3 d (ep:=W) (λ_ _=>rfl) (bB _) (λba _ _=>.refl ..) (.refl Q) (.tail cc (.k1 ag)) (λai s=>?_) (λai s Y aQ _=>?_) (λai s=>?_) hz (λ_=>⟨o.size,RelBy.new bh _ _⟩) (λ_=>i.ai.dp l g' aR) (λ_=>by grind) i.ai.bT i.bZ
    (λ_ aj _=>(i.mode.counted g' y (.inl a) _ _).retag aj) (.inl ⟨by omega,by simp[cnt,X]⟩) y
   .simp at s;subst s;exact i.ai.cn
   .simp at s;subst s;exact cU
   simp at s;subst s;simp[mk]
  obtain⟨j,N,T,d,⟨rfl,rfl⟩,F⟩:=e Q (Go.ConcN.RW.refl Q);exact wm i g' a3 d (ep:=W) (λ_ _=>rfl) (bB _) (λba _ _=>.refl ..) (.refl N) (.rel F) E E E cU (λt=>absurd t cc) (λ_=>i.ai.dp l g' aR) (λt=>absurd t cc) i.ai.bT i.bZ (λ_ aj _=>(same _ _).retag aj)
   (.inr ⟨X.symm,aR.symm,by rw[bk];exact cm.gz _ b⟩) y
 |@tail aL bC aA C Q bX t=>
  have aM:∀{j:ak} {N:au} {T:Array aT} {v u r:Nat} {av ar:Int},aq P m C Q=.go j N T->Aside J.f Q N->WgAt ty J.f N av ar->(∀ai∈T,Bk J.f ai) ->
    (∀hS ai,T[hS]?=h ai->(aO ai).touch?=q∨0<deafBehind aA (T.extract 0 hS))->v<=6->WSit P ty J.f J.aj D pZ pZ 0 (J.aH*l+1) (val l 0) v u r j N->deafBehind aA T=r ->
    (∀S,(S=tag∨(tag=.blk/\S=.w3))->(mayWake P C=f->j.status=.running->S≠.blk)->Go.ConcN.Mode w (upd z l ⟨v,0,r⟩) S av ar)->((v<aL/\cnt ⟨v,0,r⟩<=cnt (z l))∨(v=aL/\u+1=bC)) ->
    ∃p K R,runT P (crowd gs Q dG) (J.base+l)=(.next p,K)/\k8 (J.base+k) R a9/\fc P ty J D val k ad G R p (o++K):=by
   intro j N T v u r av ar d V aK ab bw a6 aE bg ah bS;obtain⟨bq,bt,bu⟩:=i.ai.bT;refine wm i g' a3 d (ep:=W) (λ_ _=>rfl) (by rw[V.size];grind) (λba aS _=>.bZ V i.ai.bw.c0 bc (λY aU ao H=>(i.ai.bw.bH ba aS Y aU ao H).2.2.1) i.ai.bw.b4) (.bZ V) (.tail a6 aE) (GK ab (by rw[V.size];exact i.ai.cn)) (Sm ab) (GL ab) M
    (λ_=>let ⟨b4,b0⟩:=i.ai.rel l g' y;⟨b4,b0.book bh _ _ ab bw⟩) (λ_ b3 bH bI=>(nj (V.block _ i.ai.bw.b4) _).trans (i.ai.dp l g' aR b3 bH bI)) (λ_=>(nj (V.block _ i.ai.bw.b4) _).trans (i.ai.dO l g' y)) ⟨bq,(V.block _ i.ai.bw.b4).trans bt,bu⟩ aK ah
    (bS.imp (λt=>⟨by omega,t.2⟩) λt=>⟨by omega,aR.symm,by rw[bk,<-t.2];exact cm.gz _ b⟩) y
  have book:∀{j:ak} {N:au} {T:Array aT} {v u r:Nat} {av ar:Int},aq P m C Q=.go j N T->Aside J.f Q N->WgAt ty J.f N av ar->(∀ai∈T,Bk J.f ai) ->
    (∀hS ai,T[hS]?=h ai->(aO ai).touch?=q∨0<deafBehind aA (T.extract 0 hS))->v<=6->WSit P ty J.f J.aj D pZ pZ 0 (J.aH*l+1) (val l 0) v u r j N->deafBehind aA T=r ->
    Go.ConcN.Mode w (upd z l ⟨v,0,r⟩) tag av ar->((v<aL/\cnt ⟨v,0,r⟩<=cnt (z l))∨(v=aL/\u+1=bC)) ->
    ∃p K R,runT P (crowd gs Q dG) (J.base+l)=(.next p,K)/\k8 (J.base+k) R a9/\fc P ty J D val k ad G R p (o++K):=
   λd V aK ab bw a6 aE bg ah bS=>aM d V aK ab bw a6 aE bg (λ_ aj _=>ah.retag aj) bS
  have an:∀{j:ak} {u:Nat},aq P m C Q=.go j Q #[]->WSit P ty J.f J.aj D pZ pZ 0 (J.aH*l+1) (val l 0) aL u aA j Q->u+1=bC ->
    ∃p K R,runT P (crowd gs Q dG) (J.base+l)=(.next p,K)/\k8 (J.base+k) R a9/\fc P ty J D val k ad G R p (o++K):=by intro j u d aE W;exact book d (.refl J.f Q) i.bZ E E bX aE a (same _ _) (.inr ⟨a,W⟩)
  cases t with
  |r0 t=>omega
  |k1 t=>
   rcases Goes.cases t with g|⟨u,rfl,e⟩
   .obtain⟨_,j,d,ax,ag⟩:=g Q (Go.ConcN.RW.refl Q);exact book d (.refl J.f Q) i.bZ (by intro ai s;simp at s;subst s;exact .inl a) (by intro hS ai s;exact .inl (by have:=wW s;simp at this;exact hz)) cc (.d1 ag) a (i.mode.counted g' y (.inr a) _ _) (.inl ⟨by omega,by simp[cnt,X]⟩)
   obtain⟨j,N,T,d,⟨rfl,rfl⟩,F⟩:=e Q (Go.ConcN.RW.refl Q);exact an d (.k1 F) a
  |d1 t=>
   rcases Goes.cases t with g|⟨u,rfl,e⟩
   .obtain⟨_,a1⟩:=g Q (Go.ConcN.RW.refl Q);have n:=i.bZ;have aw:=i.mode;have bF:cnt (z l)=1:=by simp[cnt,X]
    have b7:1<=Vc w z:=by have:=le_sumTo (f:=λl=>cnt (z l)) g';simp[Vc];omega
    have aX:∀ai∈#[rd (stA J.f),wr (stA J.f)],Bk J.f ai:=by intro ai s;simp at s;rcases s with rfl|rfl<;>exact bk_cell _ _ rfl
    have a0:∀hS ai,(#[rd (stA J.f),wr (stA J.f)]:Array aT)[hS]?=h ai->(aO ai).touch?=q∨0<deafBehind 1 ((#[rd (stA J.f),wr (stA J.f)]:Array aT).extract 0 hS):=by
     intro hS ai s
     match hS,s with
     |0,_=>exact .inr afg
     |1,_=>exact .inr (by simp[deafBehind,rd])
     |hS+2,s=>simp at s
    have cd:∀a',cnt (⟨1,a',1⟩:WD)=0:=λ_=>rfl;have bp:∀a',OpenSt w z->OpenSt w (upd z l ⟨1,a',1⟩):=λa' t x bf=>by
     by_cases ai:x=l
     .subst ai;exact wt
     rw[upd_ne z _ ai];exact t x bf
    generalize b2:b9=cg at aw n;generalize b1:oQ=cf at aw n;cases aw with
    |opn bz aW bR=>
     obtain⟨ao,H⟩:∃ao,Vc w z+pend tag=ao+1:=⟨Vc w z+pend tag-1,by omega⟩
     rw[H]at n;have a7:WgAt ty J.f Q (((ao:Nat)+1)*KK+((0:Nat):Int)) 0:=M;obtain⟨j,d,_,aa⟩:=a1 ao 0 y y a7;obtain⟨a',aa⟩:=aa y;have bN:Vc w (upd z l ⟨1,0,1⟩)+pend tag=ao:=NA;refine book d (aside_setCell Q (stA J.f) _) (n.setSt _) aX a0 cc (.quit aa) a ?_ (.inl ⟨by omega,by grind⟩);have ai:((ao:Nat):Int)*KK+((0:Nat):Int)=((Vc w (upd z l ⟨1,0,1⟩)+pend tag:Nat):Int)*KK:=M;rw[ai];exact .opn bz (bp 0 aW) (λB cr=>by grind)
    |reg bz aW bR=>
     obtain⟨ao,H⟩:∃ao,Vc w z=ao+1:=⟨Vc w z-1,by omega⟩
     rw[H]at n;have cy:pend tag=0:=by cases tag<;>first|rfl|exact bz.elim
     have a7:WgAt ty J.f Q (((ao:Nat)+1)*KK+((1:Nat):Int)) 0:=M;obtain⟨j,d,bZ,aa⟩:=a1 ao 1 y y a7;by_cases bO:ao=0
     .subst bO;obtain⟨ax,ag⟩:=bZ ⟨rfl,rfl⟩;refine book d (aside_setCell Q (stA J.f) _) (n.setSt _) aX a0 cc (.d2 ag) a ?_ (.inl ⟨by omega,by simp[cnt]⟩);have aJ:∀x,x<w->x≠l->(z x).stage=1:=λx bf ai=>by have bD:=others_uncounted g' H bF x bf ai;have:=aW x bf;simp only[cnt]at bD;split at bD<;>omega
      have:=Go.ConcN.Mode.last (j:=w) (D:=upd z l ⟨4,0,1⟩) (tag:=tag) l bz g' wt (λx bf ai=>by rw[upd_ne z _ ai];grind);rw[upd_same]at this;grind
     obtain⟨a',aa⟩:=aa y;have bN:Vc w (upd z l ⟨1,0,1⟩)=ao:=NA;refine book d (aside_setCell Q (stA J.f) _) (n.setSt _) aX a0 cc (.quit aa) a ?_ (.inl ⟨by omega,by grind⟩);have ai:((ao:Nat):Int)*KK+((1:Nat):Int)=((Vc w (upd z l ⟨1,0,1⟩):Nat):Int)*KK+1:=M;rw[ai];exact .reg bz (bp 0 aW) y
    |last L _ aW bR cB=>
     grind
    |sema aW=>have:=aW l g';omega
    |fin _ aW=>have:=aW l g';omega
   obtain⟨j,N,T,d,⟨rfl,rfl⟩,F⟩:=e Q (Go.ConcN.RW.refl Q);exact an d (.d1 F) a
  |d2 t=>
   rcases Goes.cases t with g|⟨u,rfl,e⟩
   .obtain⟨_,aF⟩:=g Q (Go.ConcN.RW.refl Q);obtain⟨aB,aJ,aG,aH⟩:=i.mode.isLast g' y;have n:=i.bZ;rw[aG,aH,X]at n;obtain⟨j,d,ax,ag⟩:=aF M;refine book d (.refl J.f Q) n Rk Q' cc (.d3 ag) a ?_ (.inl ⟨by omega,by simp[cnt]⟩);have:=Go.ConcN.Mode.last (j:=w) (D:=upd z l ⟨3,0,1⟩) (tag:=tag) l aB g' wt (λx bf ai=>by rw[upd_ne z _ ai];grind);rw[upd_same]at this;grind
   obtain⟨j,N,T,d,⟨rfl,rfl⟩,F⟩:=e Q (Go.ConcN.RW.refl Q);exact an d (.d2 F) a
  |d3 t=>
   rcases Goes.cases t with g|⟨u,rfl,e⟩
   .obtain⟨_,aF⟩:=g Q (Go.ConcN.RW.refl Q);obtain⟨aB,aJ,aG,aH⟩:=i.mode.isLast g' y;have n:=i.bZ;rw[aG,aH,X]at n;obtain⟨j,d,ax,ag⟩:=aF M;refine book d (aside_setCell Q (stA J.f) _) (n.setSt 0) Rk Q' cc (.d4 ag) a ?_ (.inl ⟨by omega,by simp[cnt]⟩);have:=Go.ConcN.Mode.last (j:=w) (D:=upd z l ⟨2,0,1⟩) (tag:=tag) l aB g' wt (λx bf ai=>by rw[upd_ne z _ ai];grind);rw[upd_same]at this;grind
   obtain⟨j,N,T,d,⟨rfl,rfl⟩,F⟩:=e Q (Go.ConcN.RW.refl Q);exact an d (.d3 F) a
  |d4 t=>
   rcases Goes.cases t with g|⟨u,rfl,e⟩
   .obtain⟨_,bJ,aF⟩:=g Q (Go.ConcN.RW.refl Q);obtain⟨aB,aJ,aG,aH⟩:=i.mode.isLast g' y;have n:=i.bZ;rw[aG,aH,X]at n;obtain⟨j,d,a',aa⟩:=aF M;have bd:j.status=.running:=by
     cases a' with
     |zero=>exact absurd aa.2 cc
     |succ a'=>exact aa.elim (λl=>absurd l.2 cc) (λl=>l.1)
    refine aM d (aside_setCell Q (smA J.f) _) (n.setSm 1) (T:=semEvents (smA J.f)) ?_ ?_ cc (.quit aa) cU ?_ (.inl ⟨by omega,by simp[cnt]⟩)
    .intro ai s;simp[semEvents]at s;rcases s with rfl|rfl|rfl|rfl
     .exact .inl a
     .exact bk_cell _ _ a
     .exact bk_cell _ _ a
     exact .inr (.inl a)
    .intro hS ai s
     match hS,s with
     |0,s=>simp[semEvents]at s;subst s;exact .inl a
     |1,_=>exact .inr NX
     |2,_=>exact .inr NX
     |3,s=>simp[semEvents]at s;subst s;exact .inl a
     |hS+4,s=>simp[semEvents]at s
    intro S aj cn;have ca:=cn bJ bd;have br:S=.w3:=by
     rcases aj with rfl|⟨_,rfl⟩
     .cases S<;>first|rfl|exact aB.elim|grind
     simp
    subst br;simp only[dJ];exact .sema λx bf=>by
     by_cases ai:x=l
     .subst ai;rw[upd_same]
     rw[upd_ne z _ ai];grind
   obtain⟨j,N,T,d,⟨rfl,rfl⟩,F⟩:=e Q (Go.ConcN.RW.refl Q);exact an d (.d4 F) a
  |quit t=>
   cases bC with
   |zero=>rw[t.1]at a4;cases a4
   |succ a' =>
    rcases t with⟨cv,_⟩|⟨_,j,T,aP,e,aa⟩
    .grind
    have ab:∀ai∈T,Bk J.f ai:=λai s=>bk_of_mute (aP ai s);have bL:∀hS ai,T[hS]?=h ai->(aO ai).touch?=q∨0<deafBehind aA (T.extract 0 hS):=λhS ai s=>.inl (touch_mute (aP ai (wW s)));exact book (e Q) (.refl J.f Q) i.bZ ab bL cc (.quit aa) a (same _ _) (.inr ⟨a,a⟩)
end
end
section
open Go.Conc
open Go.ConcN (WD CTag Vc Ssum pend phi cnt WgLive PayAt Has RW DWs WSit RelBy sumTo upd upd_same upd_ne AtR0 isW3 isOpen OpenSt deafBehind_idle bk_cell okW_none Vc_upd Vc_le le_sumTo others_uncounted sumTo_upd_out bk_dis bk_en bk_rd bk_rw bk_sem allQuit_of exists_counted)
open Go.ConcR (KK WgAt stA smA rd wr mk Payload g_of_ofEvents Bk bk_of_mute ofEvent_loc_mark ofEvent_cell ofEvent_mk)
variable [Payload]
section
variable {J:hK}{ad i:ak->a6->Prop}{d ep:Nat->Nat}{cM G:Nat->Mem}{tag:CTag}{c5:cm}{I:Nat}{x:ak}{Q:au}{dj:pX}{dG:Option (Nat×Nat)}{o:Trace}{z:Nat->WD}{O:Nat->Nat}{ar:Nat->cm}{b9 oQ:Int}
omit [Payload]in
def fF.congr{j}(b:fF J d cM o w j)(k:∀i,i<w->G i=cM i):fF J d G o w j:=
 ⟨b.base,b.c0,b.dd,b.b4,b.dW,b.eu,b.et,λe H=>by rw[k e H];exact b.bH e H,b.bP,b.ej,b.seen,b.old,b.ed,b.eK,λn l g a d=>(b.new n l g a d).imp id λ⟨e,H,p,r⟩=>⟨e,H,p,by grind⟩,
  λe H=>by rw[k e H];exact b.ei e H,b.over⟩
def hL.congr{l x b9 I}{e}(i:hL P ty J D val d cM l x b9 e I C Q)(k:G l=cM l):hL P ty J D val d G l x b9 e I C Q:=by
 cases i with
 |db a g j=>exact .db a g M
 |rel a=>exact .rel a
 |tail b a=>exact .tail b a
def ij.congr{k}(a:ij P ty J D val d cM w gs Q o z O ar k)(e:∀b,b<w->G b=cM b):ij P ty J D val d G w gs Q o z O ar k:=
 ⟨a.size,a.dt,a.above,λi H=>let ⟨C,l,j⟩:=a.c9 i H;⟨C,l,j.congr (e i H)⟩,a.bw.congr e,a.dT,a.dB,a.dC,a.rel,a.dp,a.dO,a.bT,a.cZ,a.cn,a.cz,a.dr,a.aH,λb g=>by rw[e b g];exact a.dH b g⟩
omit [Payload]in
def aan{b4}{T}(D:gq J d cM w b)(R:bc n b)(aN:dx b T)(A:cP n b ao b4):
  (∀g∈T,(aO g).low b4.a.heap.size)/\(∀g∈T,∀e,(aO g).touch?=h e->e.loc.isMemory=f->o4 J (l0 d b.a.heap.size 0) e) /\
  (∀g∈T,∀e,(aO g).touch?=h e->e.kind=.plain->e.write=f->∀o,o<w->∀j l u,e.loc=.cell ⟨j,l,q⟩->cM o j l≠h u) /\
  (∀g∈T,g.loc≠.mark .disable/\g.loc≠.mark .enable)/\∀g∈T,∀e,g.loc≠.mark (.release e):=by
 have key:∀g∈T,(aO g).low b4.a.heap.size/\(∀e,(aO g).touch?=h e->e.loc.isMemory=f->o4 J (l0 d b.a.heap.size 0) e) /\
   (∀e,(aO g).touch?=h e->e.kind=.plain->e.write=f->∀o,o<w->∀j l u,e.loc=.cell ⟨j,l,q⟩->cM o j l≠h u)/\(g.loc≠.mark .disable/\g.loc≠.mark .enable)/\∀e,g.loc≠.mark (.release e):=by
  intro g K;have x:=aN g K;obtain⟨loc,wr,Q⟩:=g;cases loc with
  |cell i=>
   obtain⟨B,C,k⟩:=x;simp only at B C k;subst B;have E:i.block<b.a.heap.size/\d i.block=0/\i.block≠J.aj/\i.block≠J.f/\¬J.bD i.block:=by
    rcases k with k|⟨⟨L,I,k⟩,_⟩|⟨_,u,k⟩
    .exact k.elim
    .obtain⟨k1,p,F,r,t⟩:=D.blk _ (.inr ⟨L,I,k⟩);grind
    obtain⟨k1,p,F,r,t⟩:=D.u _ _ _ k;grind
   refine⟨by rw[ofEvent_cell];exact eD E.1 A.size,λj s _=>?_,λj s _ y o H v l u z M=>?_,⟨by simp,by simp⟩,by simp⟩
   .rw[ofEvent_cell]at s;simp[MemAct.touch?,eV]at s;subst s;exact .inr ⟨i.block,a,by grind[ll],E.2.2.2.1,E.2.2.1,E.2.2.2.2,a⟩
   rw[ofEvent_cell]at s;simp[MemAct.touch?,eV]at s;subst s;simp only at y z;have N:=D.bH o H v l u M;grind
  |obj O=>
   obtain⟨B,C⟩:=x;simp only at B C;subst B;obtain⟨L,I,k⟩:=C.resolve_left id;obtain⟨k1,p,F,r,t⟩:=D.blk _ (.inr ⟨L,I,k⟩);refine⟨?_,λj s _=>?_,λj s _ _ o _ v l u z=>?_,⟨by simp,by simp⟩,by simp⟩
   .simp[aO,MemAct.low,Loc.low];exact eD t A.size
   .simp[aO,MemAct.touch?]at s;subst s;exact .inr ⟨O,a,by grind[ll],F,p,r,a⟩
   simp[aO,MemAct.touch?]at s;grind
  |mark U=>
   simp[h8]at x;rcases x with rfl|⟨S,rfl⟩
   .exact O'
   exact O'
  |_=>exact x.elim
 grind
def Do(cH:lC P ty J D val k ad i dj gs Q o d cM w z O ar I tag c5 x b b9 oQ){t}{T}{qY}{nJ}{l j}(K:aq P f x Q=.go t bi T)(Y:∀F,F<Q.heap.size->ep F=d F)(N:Q.heap.size<=bi.heap.size)(E:∀U,U<w->lE J d (cM U) U Q bi)(A:∀u∈T,(aO u).low bi.heap.size)(R:∀u∈T,∀x,(aO u).touch?=h x->x.loc.isMemory=f->o4 J ep x)(S:∀u∈T,∀x,(aO u).touch?=h x->x.kind=.plain->x.write=f->∀W,W<w->∀F V ag,x.loc=.cell ⟨F,V,q⟩->cM W F V≠h ag)(M:∀u∈T,∀x,u.loc≠.mark (.release x))(B:PayAt J.aj D bi)(p:WgAt ty J.f bi l j)(v:hk P ty J D val k ad i qY w nJ (deafBehind I T) t az)(n:cX az {az with a:=bi})(Z:gq J ep cM w az)(ab:Go.ConcN.Mode w z qY l j)(aa:phi k (Vc w z) qY<phi k (Vc w z) tag∨(phi k (Vc w z) qY=phi k (Vc w z) tag/\cm.lt nJ c5)):
  ∃g r s,runT P (crowd gs Q dG) 0=(.next g,r)/\k8 (J.base+k) s dj/\fc P ty J D val k ad i s g (o++r):=by
 have ah:=cH.ai.bw.base;have C:=runT_crowd_go (P:=P) (sl:=dG) (i:=0) cH.dq (by simpa using K)
 refine⟨_,_,(phi k (Vc w z) qY+Ssum w z+sumTo w O,(ar,nJ)),C,?_,_,bi,dG,ep,cM,w,z,O,ar,deafBehind I T,qY,nJ,t,az,l,j,a,
  ⟨Go.ConcN.get_map_set_same _ _ _ FW,v,n,Z,cH.ai.h8 Y N E A R S M B ⟨_,_,p⟩,p,ab,rfl⟩⟩
 rw[cH.eH];rcases aa with ai|⟨ae,X⟩
 .exact Prod.Lex.left _ _ y
 rw[ae];exact Prod.Lex.right _ (Prod.Lex.right _ X)
def nG(l:lC P ty J D val k ad i dj gs Q o d cM w z O ar I tag c5 x b b9 oQ){K}{T}{nJ}{s1}(ak:cX s1 {s1 with a:=Q})(aj:gq J d cM w s1)(B:aq P f x Q=.go K az.a T)(S:kG {s1 with a:=Q} az T∨dU J.f {s1 with a:=Q} az T)(s:hk P ty J D val k ad i tag w nJ I K az)(aw:cm.lt nJ c5):
  ∃u E F,runT P (crowd gs Q dG) 0=(.next u,E)/\k8 (J.base+k) F dj/\fc P ty J D val k ad i F u (o++E):=by
 rcases S with⟨⟨n,ao,aE,t,C⟩,aN⟩|⟨rfl,A,N,au⟩
 .have X:gq J d cM w {s1 with a:=Q}:=aj.rely ak.size;obtain⟨ab,ae,ag,ah,ai⟩:=aan X aE aN C;have e:∀g,g<Q.heap.size->(d g≠0∨g=J.aj∨g=J.f)->az.a.heap[g]?=Q.heap[g]?:=λg p av=>C.a7 g p λL aB R=>by obtain⟨aG,aH,aI,_⟩:=X.blk g (.inr ⟨L,aB,R⟩);grind
  have V:=l.ai.bw.base;refine Do l B (ep:=l0 d Q.heap.size 0) (λg p=>ll p) C.size (λaA U=>⟨C.size,λg p an=>e g p (.inl y),λg W ax aD _=>t.mem g W ax (C.mem _ _ _ (aj.bH aA U g W ax aD)),λW _ _=>nj (e _ l.ai.cz (.inr (.inl a))) W,C.os,C.tape,C.output⟩) ab ae ag ai ?_
   (l.bZ.of_block (e _ l.ai.cn (.inr (.inr a)))) (az:=az) (qY:=tag) (nJ:=nJ) (by rw[deafBehind_idle ah];exact s) (cX.eo t.mem) (X.step t C l.ai.cn l.ai.cz l.ai.dr) l.mode (.inr ⟨rfl,aw⟩)
  obtain⟨aa,Y,Z⟩:=l.ai.bT;exact⟨aa,(e _ l.ai.cz (.inr (.inl a))).trans Y,Z⟩
 have j:∀r∈T,r=mk (.read A)∨r=mk (.write A):=M;refine Do l B (ep:=d) (λg p=>rfl) (bB _) (λaA U=>.refl ..) (λr v=>?_) (λr v g p _=>?_) (λr v g p aF=>?_) (λr v=>?_) l.ai.bT l.bZ (az:={s1 with a:=Q}) (qY:=tag) (nJ:=nJ) ?_ (ak.fX ) (aj.rely ak.size) l.mode (.inr ⟨rfl,aw⟩)
 .have hW:=l.ai.cn;rcases j r v with rfl|rfl<;>(rw[ofEvent_mk];show A.block<_;grind)
 .rcases j r v with rfl|rfl<;>(rw[ofEvent_mk]at p;simp[MemAct.touch?]at p;subst p;exact .inl ⟨A,rfl,N,by simp⟩)
 .rcases j r v with rfl|rfl<;>(rw[ofEvent_mk]at p;simp[MemAct.touch?]at p;grind)
 .rcases j r v with rfl|rfl<;>simp[mk]
 rw[deafBehind_idle (λr v=>by rcases j r v with rfl|rfl<;>simp[mk])];exact s
def l5(p:lC P ty J D val k ad i dj gs Q o d cM w z O ar I tag c5 x b b9 oQ){C}{T}{e}{t}{v u}{s1}(ag:cX s1 {s1 with a:=Q})(j:gq J d cM w s1)(R:aq P f x Q=.go C bi T)(K:Aside J.f Q bi)(B:WgAt ty J.f bi v u)(g:∀F∈T,Bk J.f F)(A:hk P ty J D val k ad i e w t (deafBehind I T) C {s1 with a:=bi})(l:Go.ConcN.Mode w z e v u)(ae:phi k (Vc w z) e<phi k (Vc w z) tag∨(phi k (Vc w z) e=phi k (Vc w z) tag/\cm.lt t c5)):
  ∃n r y,runT P (crowd gs Q dG) 0=(.next n,r)/\k8 (J.base+k) y dj/\fc P ty J D val k ad i y n (o++r):=by
 obtain⟨V,M,N⟩:=p.ai.bT;have X:cX s1 {s1 with a:=bi}:=j.dg ag (rl.bZ K);refine Do p R (ep:=d) (λS s=>rfl) (by rw[K.size];grind) (λai W=>.bZ K p.ai.bw.c0 p.ai.bw.base (λS ab ah Z=>(p.ai.bw.bH ai W S ab ah Z).2.2.1) p.ai.bw.b4) (GK g (by rw[K.size];exact p.ai.cn)) (λF U S s d=>?_) (λF U S s aa=>?_) (GL g)
  ⟨V,(K.block _ p.ai.bw.b4).trans M,N⟩ B A X.fX (j.rely X.size) l ae
 .rcases g F U with bd|bd|⟨E,wr,rfl,Y⟩
  .exact zM
  .exact zM
  rw[ofEvent_cell]at s;simp[MemAct.touch?,eV]at s;subst s;exact .inl ⟨E,a,Y,by simp⟩
 rcases g F U with bd|bd|⟨E,wr,rfl,Y⟩
 .exact zM
 .exact zM
 rw[ofEvent_cell]at s;simp[MemAct.touch?,eV]at s;grind
end
section
variable {J:hK}{ad ae:ak->a6->Prop}{R ep:Nat->Nat}{bC i:Nat->Mem}{tag:CTag}{c5:cm}{I:Nat}{x:ak}{Q:au}{bX:pX}{dG:Option (Nat×Nat)}{o:Trace}{z:Nat->WD}{O:Nat->Nat}{ar:Nat->cm}{b9 W:Int}
def hk.gg(a:hk P ty J D val k ad ae tag w c5 I x b):w+pend tag<=k:=by cases a<;>simp[pend]<;>(try simp)<;>omega
omit [Payload]in
def nC(p:gE (aj.aG P ty J.f) (dU J.f) br c5 x b)(r:cX b {b with a:=Q})(o:gq J R bC w b)(i:WgLive ty J.f Q):
  (∃a,cX a {a with a:=Q}/\gq J R bC w a/\br x a)∨∃a,cX a {a with a:=Q}/\gq J R bC w a/\∃j e g l,aq P f x Q=.go j e.a g/\(kG {a with a:=Q} e g∨dU J.f {a with a:=Q} e g)/\gE (aj.aG P ty J.f) (dU J.f) br l j e/\cm.lt l c5:=by
 rcases p.bg (λd=>cX d {d with a:=Q}/\gq J R bC w d) (λd a N k=>⟨k.1.aU N,k.2.aU N⟩) (λG=>False.elim G) ⟨r,o⟩with⟨a,⟨k1,s⟩,n⟩|⟨_,a,⟨k1,s⟩,n⟩
 .grind
 exact .inr ⟨a,k1,s,n _ ⟨k1,λ_=>i⟩⟩
def hL.quits{l x b9 I}{e}{C}(b:hL P ty J D val R bC l x b9 e I C Q)(a:b9=1):∃d,QuitsD P d I C:=by
 cases b with
 |db _ _ _=>cases a
 |rel _=>cases a
 |tail _ b=>exact⟨_,b.quits a⟩
def hL.j'{l x b9 I}{d}(a:hL P ty J D val R bC l x b9 d I C Q)(b:b9=1):x=0:=by
 cases a with
 |db _ _ _=>cases b
 |rel _=>rfl
 |tail _ a=>rfl
def ac9(cH:lC P ty J D val k ad ae bX gs Q o R bC w z O ar I tag c5 x b b9 W)(bO:k<2147483648)(a2:∀C b,ae C b->dw (aj.aG P ty J.f) (dU J.f) (re P ty J ad ae) C b)(bc:x.status=.running):
  ∃aB j,runT P (crowd gs Q dG) 0=(.next aB,j)/\((∃ep aT,wN P J D val k ad ep aT aB (o++j))∨∃n,k8 (J.base+k) n bX/\fc P ty J D val k ad ae n aB (o++j)):=by
 have bH:=Vc_le w z;have bx:=cH.ai.bw.base;have e:=cH.ai.cZ;have fin:∀{r:Prop},(∃aB j n,runT P (crowd gs Q dG) 0=(.next aB,j)/\k8 (J.base+k) n bX/\fc P ty J D val k ad ae n aB (o++j)) ->
   ∃aB j,runT P (crowd gs Q dG) 0=(.next aB,j)/\((∃ep aT,wN P J D val k ad ep aT aB (o++j))∨∃n,k8 (J.base+k) n bX/\fc P ty J D val k ad ae n aB (o++j)):=
  λ{_} ⟨aB,j,n,aE,an,aI⟩=>⟨aB,j,aE,.inr ⟨n,an,aI⟩⟩
 have bl:=cH.dA.gg;have bz:=cH.dA;have A:=cH.bZ;have ak:=cH.mode;cases bz with
 |@fc g c5 C b F Y=>
  rcases nC Y cH.rely cH.aG e with⟨az,k1,s,_,hr,H,d⟩|⟨az,k1,s,hr,b4,T,i,H,aa,d,aN⟩
  .obtain⟨ab,d⟩:=d {az with a:=Q} (mM k1 e);exact fin (r:=True) (l5 cH k1 s (H Q) (.refl J.f Q) A bk_dis (.fR F d) (ak.reopen v v a E) (.inl mc))
  exact fin (r:=True) (nG cH k1 s H aa (.fc F d) aN)
 |@fR g c5 C b F Y=>
  rcases nC Y cH.rely cH.aG e with⟨az,k1,s,_,aD⟩|⟨az,k1,s,hr,b4,T,i,H,aa,d,aN⟩
  .obtain⟨aq,K,S,_⟩:=ak.open_inv v;rw[K,S]at A;obtain⟨fL,H,ab,d⟩:=aD {az with a:=Q} (mM k1 e) (Vc (k-(g+1)) z) y (by simpa[pend]using A);refine fin (r:=True) (l5 cH k1 s H (aside_setCell Q (stA J.f) _) (A.setSt _) bk_rw (.fT F d) ?_ (.inl mc));have ai:(((Vc (k-(g+1)) z:Nat):Int)+1)*KK=((Vc (k-(g+1)) z+pend (.sp g 3):Nat):Int)*KK:=by simp[pend]
   rw[ai];exact .opn v aq E
  exact fin (r:=True) (nG cH k1 s H aa (.fR F d) aN)
 |@fT g c5 C b F Y=>
  rcases nC Y cH.rely cH.aG e with⟨az,k1,s,_,hr,H,d⟩|⟨az,k1,s,hr,b4,T,i,H,aa,d,aN⟩
  .obtain⟨ab,d⟩:=d {az with a:=Q} (mM k1 e);exact fin (r:=True) (l5 cH k1 s (H Q) (.refl J.f Q) A bk_en (.fS F d) (ak.reopen v v a E) (.inl mc))
  exact fin (r:=True) (nG cH k1 s H aa (.fT F d) aN)
 |@fS g c5 C b F Y=>
  rcases nC Y cH.rely cH.aG e with⟨az,k1,s,_,aD⟩|⟨az,k1,s,hr,b4,T,i,H,aa,d,aN⟩
  .obtain⟨fL,rF,bo,_,⟨rc,bq⟩,aw⟩:=aD {az with a:=Q} (mM k1 e);obtain⟨aq,K,S,_⟩:=ak.open_inv v;rw[K,S]at A;have t:=runT_crowd_spawn (P:=P) (sl:=dG) (i:=0) cH.dq (by simpa using bo);rw[cH.ai.size]at t;have bu:=s.rely k1.size;let aT:=upd bC (k-(g+1)) az.u;have a3:∀X,X<k-(g+1)->aT X=bC X:=λX bf=>upd_ne bC _ y;have aJ:aT (k-(g+1))=az.u:=upd_same bC _ _;have aL:cX (a6.dz {az with a:=Q}) {a6.dz {az with a:=Q}with a:=Q}:=cX.eo k1.mem;have a0:hu R (aT (k-(g+1))) (J.base+(k-(g+1))) (a6.dz {az with a:=Q}):=by
    refine⟨λa1 aA=>?_,λa1 bs bt u=>⟨.inr (by rw[aJ];exact u),(bu.u a1 bs bt u).2.2.2.2⟩⟩;rcases aA with aA|⟨L,bG,_⟩
    .exact aA.elim
    simp[a6.dz]at bG
   have V:=(cH.ai.congr a3).spawn (fL:=fL) (l:={g:=0,fn:=x.frame.fn,pos:=x.frame.place,act:=.go (J.base+(k-(g+1)))}) (X:={g:=J.base+(k-(g+1)),fn:=rF.frame.fn,pos:=x.frame.place,act:=.start}) ⟨rfl,rfl⟩ ⟨rfl,rfl⟩
    (λa1 bs bt u=>by rw[aJ]at u;exact bu.u a1 bs bt u) bq aL a0
   have bj:Vc (k-(g+1)+1) (upd z (k-(g+1)) ⟨7,0,0⟩)=Vc (k-(g+1)) z+1:=by simp[Vc,sumTo,upd_same];rw[sumTo_upd_out z _ cnt (bB _)];rfl
   have bh:Ssum (k-(g+1)+1) (upd z (k-(g+1)) ⟨7,0,0⟩)=Ssum (k-(g+1)) z+7:=by simp[Ssum,sumTo,upd_same];rw[sumTo_upd_out z _ WD.stage (bB _)]
   have bg:sumTo (k-(g+1)+1) (upd O (k-(g+1)) 1)=sumTo (k-(g+1)) O+1:=by have:sumTo (k-(g+1)) (upd O (k-(g+1)) 1)=sumTo (k-(g+1)) O:=sumTo_upd_out O 1 id (i:=k-(g+1)) (j:=k-(g+1)) (bB _);show sumTo (k-(g+1)) (upd O (k-(g+1)) 1)+upd O (k-(g+1)) 1 (k-(g+1))=_;rw[upd_same];grind
   have ax:OpenSt (k-(g+1)+1) (upd z (k-(g+1)) ⟨7,0,0⟩):=λZ ao=>by
    by_cases ai:Z=k-(g+1)
    .subst ai;exact wt
    rw[upd_ne z _ ai];exact aq Z y
   have a4:((gs.setIfInBounds 0 fL).push rF)[0]?=h fL:=by have bk:0<gs.size:=FW;grind
   have bw:gq J R aT (k-(g+1)+1) {az with a:=Q}:=⟨bu.blk,bu.u,λX bf a1 bs bt u=>by
    rcases dZ X (k-(g+1))with aE|aE
    .rw[a3 X aE]at u;exact bu.bH X aE a1 bs bt u
    .obtain rfl:X=k-(g+1):=y
     rw[aJ]at u;exact u⟩
   have bD:k-(g+1)+1=k-g:=y;rw[bD]at V bj bh bg ax bw;have aH:∀av,pend av=0->((Vc (k-(g+1)) z+pend (.sp g 2):Nat):Int)*KK=((Vc (k-g) (upd z (k-(g+1)) ⟨7,0,0⟩)+pend av:Nat):Int)*KK:=λav bP=>by exact hz
   cases g with
   |zero=>
    obtain⟨aS,d⟩:=aw;simp only[sy]at V bj bh bg ax aH bw;refine⟨_,_,t,.inr ⟨(phi k (Vc k (upd z (k-(0+1)) ⟨7,0,0⟩)) .kd+Ssum k (upd z (k-(0+1)) ⟨7,0,0⟩)+sumTo k (upd O (k-(0+1)) 1),(upd ar (J.base+(k-(0+1))) rc,aS)),by rw[cH.eH];exact Prod.Lex.left _ _ mc,
     _,Q,dG,R,aT,k,_,_,_,0,.kd,aS,fL,{az with a:=Q},_,_,rfl,⟨a4,.kd d,k1.fX,bw,V,A,?_,rfl⟩⟩⟩
    rw[aH .kd a];exact .opn v ax E
   |succ i=>
    obtain⟨aS,d⟩:=aw;refine⟨_,_,t,.inr ⟨(phi k (Vc (k-(i+1)) (upd z (k-(i+1+1)) ⟨7,0,0⟩)) (.sp i 5)+Ssum (k-(i+1)) (upd z (k-(i+1+1)) ⟨7,0,0⟩)+sumTo (k-(i+1)) (upd O (k-(i+1+1)) 1),(upd ar (J.base+(k-(i+1+1))) rc,aS)),by rw[cH.eH];exact Prod.Lex.left _ _ mc,
     _,Q,dG,R,aT,k-(i+1),_,_,_,0,.sp i 5,aS,fL,{az with a:=Q},_,_,rfl,⟨a4,.fc y d,k1.fX,bw,V,A,?_,rfl⟩⟩⟩
    rw[aH (.sp i 5) a];exact .opn v ax E
  exact fin (r:=True) (nG cH k1 s H aa (.fS F d) aN)
 |kd Y=>
  rcases nC Y cH.rely cH.aG e with⟨az,k1,s,_,hr,H,d⟩|⟨az,k1,s,hr,b4,T,i,H,aa,d,aN⟩
  .obtain⟨ab,d⟩:=a2 _ _ (d {az with a:=Q} (mM k1 e));exact fin (r:=True) (l5 cH k1 s (H Q) (.refl J.f Q) A bk_dis (.w1 d) (ak.reopen v v a E) (.inl mc))
  exact fin (r:=True) (nG cH k1 s H aa (.kd d) aN)
 |w1 Y=>
  rcases nC Y cH.rely cH.aG e with⟨az,k1,s,_,aD⟩|⟨az,k1,s,hr,b4,T,i,H,aa,d,aN⟩
  .obtain⟨aq,K,S,_⟩:=ak.open_inv v;rw[K,S]at A;have bN:=Vc_le k z;obtain⟨fL,H,bk,bn⟩:=aD {az with a:=Q} (mM k1 e) (Vc k z) y M;by_cases u:Vc k z=0
   .obtain⟨ab,d⟩:=bk u;refine fin (r:=True) (l5 cH k1 s H (.refl J.f Q) A bk_rd (.ke d) ?_ (.inl mc));have ai:((Vc k z+pend .w1:Nat):Int)*KK=0:=M;rw[ai];exact .fin v (allQuit_of aq u)
   obtain⟨ab,d⟩:=bn u;refine fin (r:=True) (l5 cH k1 s H (.refl J.f Q) A bk_rd (.w2 d) ?_ (.inl mc));have:=ak.reopen (tag':=.w2 (Vc k z)) v v a (λB ai=>by grind);grind
  exact fin (r:=True) (nG cH k1 s H aa (.w1 d) aN)
 |@w2 B c5 C b Y=>
  rcases nC Y cH.rely cH.aG e with⟨az,k1,s,_,aD⟩|⟨az,k1,s,hr,b4,T,i,H,aa,d,aN⟩
  .obtain⟨aq,K,S,bp⟩:=ak.open_inv v;rw[K,S]at A;obtain⟨bK,aE⟩:=bp B rfl;obtain⟨a',aU⟩:=aD {az with a:=Q} (mM k1 e) (Vc k z) y M;by_cases ai:Vc k z=B
   .obtain⟨fL,H,ab,d⟩:=a' ai;exact fin (r:=True) (l5 cH k1 s H (aside_setCell Q (stA J.f) _) (A.setSt _) bk_rw (.w3 d) (.reg v aq y) (.inl mc))
   obtain⟨fL,H,d⟩:=aU ai;obtain⟨ab,d⟩:=a2 _ _ d;refine fin (r:=True) (l5 cH k1 s H (.refl J.f Q) A bk_rd (.w1 d) ?_ (.inl mc));have:=ak.reopen (tag':=.w1) v v a E;grind
  exact fin (r:=True) (nG cH k1 s H aa (.w2 d) aN)
 |@w3 c5 C b Y=>
  rcases nC Y cH.rely cH.aG e with⟨az,k1,s,aW⟩|⟨az,k1,s,hr,b4,T,i,H,aa,d,aN⟩
  .obtain⟨_,ba,aD⟩:=aW;obtain⟨aK,aX⟩:=aD {az with a:=Q} (mM k1 e);obtain⟨l,p⟩:=cm.jA b c5;have aR:=oZ.rely ⟨bc,ba,aD⟩ (mM k1 e);generalize b9=bM at ak A;generalize W=bL at ak A;cases ak with
   |opn aE _ _=>exact aE.elim
   |reg aE an aI=>exact fin (r:=True) (l5 cH k1 s (aK ⟨_,A⟩) (.refl J.f Q) A E (.blk (c5:=l) aR) (.reg v an aI) (.inr ⟨rfl,p⟩))
   |last L aE an aI bF=>exact fin (r:=True) (l5 cH k1 s (aK ⟨_,A⟩) (.refl J.f Q) A E (.blk (c5:=l) aR) (.last L v an aI bF) (.inr ⟨rfl,p⟩))
   |sema an=>
    obtain⟨fL,H,ab,d⟩:=aX A;exact fin (r:=True) (l5 cH k1 s H (aside_setCell Q (smA J.f) _) (A.setSm 0) bk_sem (.w4 d) (.fin v an) (.inl mc))
   |fin aE _=>exact aE.elim
  exact fin (r:=True) (nG cH k1 s H aa (.w3 d) (cm.ho aN))
 |blk Y=>grind
 |w4 Y=>
  rcases nC Y cH.rely cH.aG e with⟨az,k1,s,_,aD⟩|⟨az,k1,s,hr,b4,T,i,H,aa,d,aN⟩
  .obtain⟨ah,K,S⟩:=ak.fin_inv v;rw[K,S]at A;obtain⟨fL,H,ab,d⟩:=aD {az with a:=Q} (mM k1 e) A;exact fin (r:=True) (l5 cH k1 s H (.refl J.f Q) A bk_rd (.ke d) (.fin v ah) (.inl mc))
  exact fin (r:=True) (nG cH k1 s H aa (.w4 d) aN)
 |ke Y=>
  rcases nC Y cH.rely cH.aG e with⟨az,k1,s,_,hr,H,d⟩|⟨az,k1,s,hr,b4,T,i,H,aa,d,aN⟩
  .obtain⟨ab,d⟩:=d {az with a:=Q} (mM k1 e);obtain⟨ah,K,S⟩:=ak.fin_inv v;rw[K,S]at A;exact fin (r:=True) (l5 cH k1 s (H Q) (.refl J.f Q) A bk_en (.acq d) (.fin v ah) (.inl mc))
  exact fin (r:=True) (nG cH k1 s H aa (.ke d) aN)
 |acq Y=>
  rcases nC Y cH.rely cH.aG e with⟨az,k1,s,_,fL,H,d⟩|⟨az,k1,s,hr,b4,T,i,H,aa,d,aN⟩
  .obtain⟨ah,K,S⟩:=ak.fin_inv v;have t:=runT_crowd_go (P:=P) (sl:=dG) (i:=0) cH.dq (by simpa using H Q);have a9:MemOp.ofEvents 0 x.frame.fn x.frame.place #[mk (.acquire (stA J.f))]=#[{g:=0,fn:=x.frame.fn,pos:=x.frame.place,act:=.mark (.acquire (stA J.f))}]:=by rw[ofEvents_eq];simp[ofEvent_mk]
   have aF:=cH.ai.h8 (C:=x) (hr:=fL) (fn:=x.frame.fn) (pos:=x.frame.place) (T:=#[mk (.acquire (stA J.f))]) (ep:=R) (bi:=Q) (λ_ _=>rfl) (bB _) (λX _=>.refl ..) (by simp;exact cH.ai.cn) (by intro ai ag a1 aA;simp at ag;subst ag;exact cU) (by intro ai ag a1 aA;simp at ag;subst ag;simp[mk,aO,MemAct.touch?]at aA) (by intro ai ag;simp at ag;subst ag;simp[mk]) cH.ai.bT e;have bI:deafBehind 0 #[mk (.acquire (stA J.f))]=0:=rfl;have bf:(o++#[({g:=0,fn:=x.frame.fn,pos:=x.frame.place,act:=.mark (.acquire (stA J.f))}:MemOp)])[o.size]?=h {g:=0,fn:=x.frame.fn,pos:=x.frame.place,act:=.mark (.acquire (stA J.f))}:=E
   have aV:=aF.bw.jP (by rw[aF.dB];rfl) (aF.dT _) (bd:=o.size) (by rw[a9,act?_of bf]) (by rw[a9];simp[Trace.g?]) (by rw[a9];exact⟨0,by simp[Trace.g?],by rw[deaf_old (bB _)];exact cH.ai.dB⟩) (λl p=>by
    obtain⟨g,F⟩:=cH.ai.rel l p (by rw[ah l p];omega)
    exact⟨g,F.appOther g_of_ofEvents y,lt_of_act? F.act⟩)
   have aP:∃bd,Leavers P (o++MemOp.ofEvents 0 x.frame.fn x.frame.place #[mk (.acquire (stA J.f))]) ((gs.map (woken P x fL Q)).setIfInBounds 0 fL) bd:=by
    have aG:∀Z,∃br,∀C,0<Z->((gs.map (woken P x fL Q)).setIfInBounds 0 fL)[Z]?=h C->QuitsD P br (Deaf (o++MemOp.ofEvents 0 x.frame.fn x.frame.place #[mk (.acquire (stA J.f))]) Z) C:=by
     intro Z;cases aM:((gs.map (woken P x fL Q)).setIfInBounds 0 fL)[Z]? with
     |none=>simp
     |some C=>
      rcases n9 Z with ai|au
      .exact⟨0,λhr Y=>by omega⟩
      rcases dZ Z J.base with aN|bJ
      .obtain⟨br,_,bm⟩:=aF.dt Z C au aN aM;exact⟨br,λhr _ a5=>by grind⟩
      obtain⟨l,rfl⟩:∃l,Z=J.base+l:=⟨Z-J.base,by omega⟩
      have p:l<k:=by have:=(jh.1 aM).1;rw[aF.size]at this;omega
      obtain⟨bE,a7,aQ⟩:=aF.c9 l p;rw[aM]at a7;cases a7;obtain⟨br,bm⟩:=aQ.quits (ah l p);refine⟨br,λhr _ a5=>?_⟩;cases a5;rw[aF.dC l p];omega
    exact⟨λZ=>Classical.choose (aG Z),λZ C ao N=>Classical.choose_spec (aG Z) C ao N,λZ ao=>aF.above Z (by rw[aF.size]at ao;exact ao)⟩
   obtain⟨bd,aP⟩:=aP;refine⟨_,_,t,.inl ⟨R,bC,⟨_,Q,dG,fL,az,bd,rfl,Go.ConcN.get_map_set_same _ _ _ FW,aF.size,d {az with a:=Q} (mM k1 e),k1,s,aP,aV,aF.dT,cH.ai.bT,λl p Z ao=>?_,cH.ai.cz,cH.ai.cn,cH.ai.dr⟩⟩⟩;obtain⟨bE,_,aQ⟩:=cH.ai.c9 l p;rcases n9 Z with ai|au
   .subst ai;exact cH.ai.dO l p (by rw[ah l p];omega)
   exact cH.ai.dp l p (aQ.j' (ah l p)) Z au ao
  exact fin (r:=True) (nG cH k1 s H aa (.acq d) aN)
end
end
section
open Go.Conc
open Go.ConcN (WD CTag Vc Ssum pend phi cnt WgLive PayAt Has WSit RelBy sumTo upd upd_same upd_ne exists_counted)
open Go.ConcR (KK WgAt stA smA Payload)
variable [Payload]
section
variable {J:hK}{ad s:ak->a6->Prop}{d:Nat->Nat}{bC:Nat->Mem}{tag:CTag}{c5:cm}{I:Nat}{x:ak}{Q:au}{ae:pX}{dG:Option (Nat×Nat)}{o:Trace}{z:Nat->WD}{O:Nat->Nat}{ar:Nat->cm}{b9 R:Int}
def hL.running_of{l x b9 I}{g}{C}(e:hL P ty J D val d bC l x b9 g I C Q)(b:b9≠1):C.status=.running:=by
 cases e with
 |db a _ _=>exact a.run λ_ _ l=>l.1
 |rel a=>exact Goes.running (λ_ _ l=>l.1) Q (Go.ConcN.RW.refl Q) a
 |tail _ a=>exact a.running_of b
def acT(g:lC P ty J D val k ad s ae gs Q o d bC w z O ar I tag c5 x b b9 R):∃(n:Nat)(e:ak),gs[n]?=h e/\e.status=.running:=by
 rcases g.dA.status with⟨i,_⟩|⟨_,rfl⟩
 .exact⟨0,x,g.dq,i⟩
 have r:=g.mode;cases r with
 |opn a _ _=>exact a.elim
 |reg _ _ p=>
  obtain⟨n,l,u⟩:=exists_counted p;obtain⟨e,j,i⟩:=g.ai.c9 n l;exact⟨_,e,j,i.running_of y⟩
 |last L _ t p _=>
  obtain⟨e,j,i⟩:=g.ai.c9 L t;exact⟨_,e,j,i.running_of y⟩
 |fin a _=>exact a.elim
def R2(e:lC P ty J D val k ad s ae gs Q o d bC w z O ar I tag c5 x b b9 R):∀n∈gs,awake n:=by
 intro n y E;obtain⟨j,a⟩:=Array.mem_iff_getElem?.1 y;rcases n9 j with rfl|r
 .rw[e.dq]at a;cases a;rcases e.dA.status with⟨i,_⟩|⟨i,_⟩<;>rw[i]<;>simp
 rcases dZ j J.base with u|C
 .obtain⟨A,_,v⟩:=e.ai.dt j n r u a;rcases v.status with g|g<;>rw[g]<;>simp
 obtain⟨l,rfl⟩:∃l,j=J.base+l:=⟨j-J.base,by omega⟩
 have B:l<w:=by have:=(jh.1 a).1;rw[e.ai.size]at this;omega
 obtain⟨t,p,i⟩:=e.ai.c9 l B;rw[a]at p;cases p;rcases i.status with g|g<;>rw[g]<;>simp
def lC.at(e:lC P ty J D val k ad s ae gs Q o d bC w z O ar I tag c5 x b b9 R)(Im):lC P ty J D val k ad s ae gs (Q.at Im) o d bC w z O ar I tag c5 x b b9 R:=
 ⟨e.dq,e.dA,e.rely.eG (bB _) (λ_ _=>rfl) (λ_ _ _ _ g=>g) a a a,e.aG,e.ai.at Im,e.bZ,e.mode,e.eH⟩
def ac8(i:lC P ty J D val k ad s ae gs Q o d bC w z O ar I tag c5 x b b9 R)(r:0<e)(F:e<J.base)(v:gs[e]?=h C)(A:C.status=.running):
  ∃E j n,runT P (crowd gs Q dG) e=(.next E,j)/\k8 (J.base+k) n ae/\fc P ty J D val k ad s n E (o++j):=by
 obtain⟨u,G,N⟩:=i.ai.dt e C r F v;cases u with
 |zero=>rw[N.1]at A;cases A
 |succ u=>
  rcases N with⟨H,_⟩|⟨_,p,T,X,V,K⟩
  .grind
  .have Y:(e==0)=m:=M;have U:=runT_crowd_go (P:=P) (sl:=dG) (i:=e) v (by rw[Y];exact V Q)
   obtain⟨g,l,W,B,Z⟩:=i.dA.ia C p Q;have S:Go.ConcN.Mode w z g b9 R:=i.mode.retag B;refine⟨_,_,(phi k (Vc w z) g+Ssum w z+sumTo w O,(upd ar e (cm.dJ u),l)),U,?_,_,Q,dG,d,bC,w,z,O,_,I,g,l,woken P C p Q x,b,b9,R,a,
    ⟨by rw[Go.ConcN.get_map_set _ _ _ _ y,i.dq];rfl,W,i.rely,i.aG,i.ai.bu r F X K,i.bZ,S,rfl⟩⟩
   rw[i.eH,Go.ConcN.phi_retag k _ B];exact Prod.Lex.right _ (Prod.Lex.left _ _ ⟨e,by omega,by rw[upd_same,G];exact cm.gz _ b,λaa t=>upd_ne ar _ t⟩)
def Yq(N:k<2147483648)(y:∀r u,s r u->dw (aj.aG P ty J.f) (dU J.f) (re P ty J ad s) r u){A}(C:fc P ty J D val k ad s ae A o):
  ∃e a,stepT P A=(.next e,a)/\((∃g d,wN P J D val k ad g d e (o++a))∨∃i,k8 (J.base+k) i ae/\fc P ty J D val k ad s i e (o++a)):=by
 obtain⟨B,O,dG,X,Z,x,S,R,U,V,tag,K,W,u,M,Y,rfl,b⟩:=C;obtain⟨l,r,n,t,j,p,E⟩:=crowd_pick (P:=P) (w:=O) (sl:=dG) (R2 b) (acT b);rw[E];have w:=b.at n;have z:x<=k:=by have:=b.dA.gg;omega
 rcases n9 l with rfl|I
 .rw[b.dq]at j;cases j;exact ac9 (dG:=t) w N y p
 rcases dZ l J.base with Q|T
 .obtain⟨e,a,i,H,G,F⟩:=ac8 (dG:=t) w I Q j p;grind
 obtain⟨v,rfl⟩:∃v,l=J.base+v:=⟨l-J.base,by omega⟩
 have L:v<x:=by have:=(jh.1 j).1;rw[b.ai.size]at this;omega
 obtain⟨e,a,i,H,G,F⟩:=adb (dG:=t) w N z b.dA.gg L j p;grind
def Yr(B:k<2147483648)(y:∀u w,s u w->dw (aj.aG P ty J.f) (dU J.f) (re P ty J ad s) u w):∀j(r:Machine)g,fc P ty J D val k ad s j r g ->
  ∃p o n b a,runNT P p r g=(.next o,n)/\wN P J D val k ad b a o n:=by
 intro j;induction(aaz (J.base+k)).apply j with
 |intro j _ A=>
  intro r g x;obtain⟨t,d,v,e⟩:=Yq B y x;rcases e with⟨b,a,e⟩|⟨i,e,l⟩
  .exact⟨1,t,g++d,b,a,by simp[runNT,v],e⟩
  obtain⟨p,o,n,b,a,k1,z⟩:=A i e t (g++d) l;exact⟨p+1,o,n,b,a,by simp only[runNT,v];exact k1,z⟩
def k4.gm{cI}{Y:ak->a6->Prop}(vs)(an:0<vs)(bo N)(aI:k<2147483648)(au:N≠bo)(Z:eX b cI)(aL:C.status=.running)(ad:∃L∈b.m,N∈L.al)(ag:∃L∈b.m,bo∈L.al)(aB:∀d,(b.own d∨∃L∈b.m,d∈L.al)->d<b.a.heap.size)(bf:∀d,(d=N∨d=bo)->¬cI.own d/\(∀L∈cI.m,d∉L.al)/\∀o,cI.u d o=q)(aE:WgAt ty bo b.a 0 0)(Q:PayAt N D b.a)(bd:∀l:hK,l.f=bo->l.aj=N->l.aH=vs->∃X U,(∀C b,U C b->dw (aj.aG P ty l.f) (dU l.f) (re P ty l X U) C b)/\o3 P ty l D val k U k C cI /\
   ∀aa j,X aa j->gr j->PayAt N D j.a->(∀g,g<k->∀s,s<vs->j.a.cell? ⟨N,vs*g+s,q⟩=h (val g s))->N<j.a.heap.size->(∀d,(d=N∨d=bo)->¬j.own d/\(∀L∈j.m,d∉L.al)/\∀o,j.u d o=q) ->
    ∃x,Y aa x/\x.a=j.a/\gr x/\∀i:Nat->Prop,gU i j->¬i N->gU i x):k4 P C b Y:=by
 intro i p T aO a8 bl K G ae y av;have bb:¬i N:=λS=>let ⟨L,G,e⟩:=ad;y.m N S L G e
 have bc:¬i bo:=λS=>let ⟨L,G,e⟩:=ag;y.m bo S L G e
 have O:=aB N (.inr ad);have a':=aB bo (.inr ag);have R:1<=p.size:=(jh.1 K).1;let l:hK:={bD:=i,bP:=aO.size,f:=bo,aj:=N,base:=p.size,aH:=vs}
 obtain⟨X,U,ab,V,ba⟩:=bd l rfl rfl rfl;have aN:=y.aU Z;have I:gr cI:=.aU Z;have aQ:gq l (λ_=>0) (λ_ _ _=>q) 0 cI:=by
  refine⟨λd e=>⟨a,λn=>M,λn=>M,λn=>?_,by rw[Z.a];exact aB d (Z.blk d e)⟩,λd o aA u=>⟨a,λn=>?_,λn=>?_,λn=>?_,gr.lt I u⟩,λg r=>absurd r (iH g)⟩
  .rcases e with e|⟨L,G,e⟩
   .exact aN.own d n e
   exact aN.m d n L G e
  .grind
  .grind
  rw[aN.u d n o]at u;cases u
 have aT:ij P ty l D val (λ_=>0) (λ_ _ _=>q) 0 p b.a aO (λ_=>⟨0,0,0⟩) (λ_=>0) (λs=>cm.dJ (a8 s)) 0:=
  ⟨rfl,λs C t _ ai=>⟨a8 s,rfl,G.old s C t ai⟩,G.above,λg r=>absurd r (iH g),fF.start ae a R au bc bb,av,ae.hears,λg r=>absurd r (iH g),λg r=>absurd r (iH g),λg r=>absurd r (iH g),λg r=>absurd r (iH g),
   Q,⟨_,_,aE⟩,a',O,y.lt,an,λg r=>absurd r (iH g)⟩
 have aU:cX cI {cI with a:=b.a}:=by have:=cX.eo I;rw[<-Z.a];exact this
 have aP:∃aG,fc P ty l D val k X U aG (crowd p b.a T) aO:=by
  cases k with
  |zero=>
   obtain⟨az,V⟩:=V;exact⟨_,p,b.a,T,_,_,0,_,_,_,0,.kd,az,C,cI,_,_,a,⟨K,.kd V,aU,aQ,aT,aE,by have:=Go.ConcN.Mode.opn (j:=0) (D:=λ_=>(⟨0,0,0⟩:WD)) (tag:=.kd) v (λs t=>absurd t (iH s)) E;simpa[Vc,sumTo,pend]using this,a⟩⟩
  |succ k=>
   obtain⟨az,V⟩:=V;have B:hk P ty l D val (k+1) X U (.sp k 5) (k+1-(k+1)) az 0 C cI:=.fc (Nat.lt_succ_self k) V;rw[sE]at B;exact⟨_,p,b.a,T,_,_,0,_,_,_,0,.sp k 5,az,C,cI,_,_,a,⟨K,B,aU,aQ,aT,aE,by have:=Go.ConcN.Mode.opn (j:=0) (D:=λ_=>(⟨0,0,0⟩:WD)) (tag:=.sp k 5) v (λs t=>absurd t (iH s)) E;simpa[Vc,sumTo,pend]using this,a⟩⟩
 obtain⟨aG,aP⟩:=aP;obtain⟨bk,bg,bj,F,W,ax,⟨aV,A,a9,aF,H,bh,rfl,a1,_,aR,J,ao,aW,aX,aJ,aw,a_,aq,a4,ar⟩⟩:=Yr aI ab aG _ _ aP;have aD:gq l F W k {H with a:=A}:=ao.rely J.size;have aS:∀d,(d=N∨d=bo∨i d)->¬H.own d/\(∀L∈H.m,d∉L.al)/\∀o,H.u d o=q:=by
  intro d e;have key:∀g,(F g=0/\g≠l.aj/\g≠l.f/\¬l.bD g/\g<A.heap.size)->g≠d:=M;refine⟨λaK=>key d (aD.blk d (.inl aK)) a,λL G ah=>key d (aD.blk d (.inr ⟨L,G,ah⟩)) a,λo=>?_⟩;cases aH:H.u d o with
  |none=>rfl
  |some aA=>exact absurd rfl (key d (aD.u d o aA aH))
 obtain⟨x,a0,a7,a5,a2⟩:=ba aF {H with a:=A} aR (λd o aA u=>J.mem d o aA u) aw a_ aq (λd e=>aS d (e.elim .inl λn=>.inr (.inl n)));have a3:gU (λd=>i d∨d=bo) {H with a:=A}:=by have aM:∀d,(i d∨d=bo)->¬H.own d/\(∀L∈H.m,d∉L.al)/\∀o,H.u d o=q:=λd e=>aS d (e.elim (λn=>.inr (.inr n)) λn=>.inr (.inl n));exact⟨λd e=>(aM d e).1,λd e=>(aM d e).2.1,λd e=>(aM d e).2.2,λd e=>e.elim (ar d) λn=>by grind⟩
 grind
end
end
section
open Go.Conc Go.RowKit Go.Conc.Lib Go.ConcR.Gen
open Go.ConcN (WgLive)
open Go.ConcR (KK WgAt stA smA rd wr mk DC0)
variable {L:WgLink}
section
variable (P:aI)(dj:au->au->Prop)(L:WgLink)(bo:Nat)(hD:ak)
def An(b:ak)(_:au):Prop:=b.status=.running/\∃a,(∀d,aq P f b d=.go a d #[mk .enable])/\∀w1,WgLive L.tWg bo w1->∃e,Goes P f dj DC0 (λb _=>b=hD) e a w1
def RC(d:ak)(_:au):Prop:=d.status=.running/\∃b a,a.block=bo/\(∀e,aq P f d e=.go b e #[mk (.read a)])/\∀w1,WgLive L.tWg bo w1->∃g,Goes P f dj DC0 (An P dj L bo hD) g b w1
def F1(b:ak)(a:au):Prop:=b.status=.running/\∀e:Nat,e<2147483647->WgAt L.tWg bo a (e*KK) 0 ->
 ∃d,aq P f b a=.go d (a.setCell (stA bo) (.int .u64 ((e+1)*KK))) #[rd (stA bo),wr (stA bo)]/\∃g,Goes P f dj DC0 (λb a=>RC P dj L bo hD b a∨An P dj L bo hD b a) g d (a.setCell (stA bo) (.int .u64 ((e+1)*KK)))
def RB(b:ak)(_:au):Prop:=b.status=.running/\∃a,(∀d,aq P f b d=.go a d #[mk .disable])/\∀w1,WgLive L.tWg bo w1->∃e,Goes P f dj DC0 (F1 P dj L bo hD) e a w1
end
set_option maxRecDepth 100000 in
def RZ{P}(H:WgLib P L){dj:au->au->Prop}{bo}(d:∀{g w1},WgLive L.tWg bo g->dj g w1->WgLive L.tWg bo w1){hN:aK}{hM}{gk:Array ap}{hR:Nat}{hY:p Nat}{hT:p Item}(g:au)(b:WgLive L.tWg bo g):
  Goes P f dj DC0 (RB P dj L bo (G (hN.at (hM.put ((gk[hR]?).bind (·.dst)) (.tuple #[])) (.inRegion gk hY::hT)) ah)) 12
   (G ((base L.add).at ⟨#[.pointer (h ⟨bo,0,q⟩),.int .i64 1,K,K,K,K,K,K,K,K,K,K,K,K,K,K,K,K,K,K,K,K,K,K,K,K,K,K,K,K,K,K,K,K,K,K,K,K,K,K,K,K,K,K,K,K,K,K,K,K,K,K,K,K,K,K,K,K,K,K,K,K,K,K,K,K,K,K,K,K,K,K,K,K,K,K,K,K,K,K,K,K,K,K,K,K,K,K,K,K,K,K,K,K,K,K,K,K,K,K,K,K,K,K,K,K,K,K,K,K,K,K,K,K,K,K,K],[]⟩ [.code (body_add L)]) (hN.at hM (.inRegion gk (hR::hY)::hT)::ah)) g:=by
 lib_facts
 simp only[body_add,addFn,h4]
 repeat (u_c aw d b)
 u_cond f d b
 repeat (u_c aw d b)
 u_reg d b
 u_op d b
 u_op d b
 u_c aF d b
 repeat (u_c aw d b)
 u_cond m d b
 u_c stepG_skip d b
 repeat (u_c aw d b)
 u_reg d b
 refine Goes.stop (λu l=>?_);refine⟨a,_,λg=>stepG_mark0 .disable E a a (by k_ne) a H.f_disable (x_disable_n L) (x_disable_b L) (x_disable_x L) (x_disable_f L),λg b=>?_⟩;clear l;refine⟨40,?_⟩
 walk_nrm
 u_c aF d b
 repeat (u_c aw d b)
 u_reg d b
 u_defer d b
 u_c aF d b
 repeat (u_c aw d b)
 u_reg d b
 u_op d b
 u_c aF d b
 repeat (u_c aw d b)
 u_reg d b
 u_bub d b
 u_c aF d b
 repeat (u_c aw d b)
 u_cond m d b
 u_c stepG_skip d b
 repeat (u_c aw d b)
 u_reg d b
 u_op d b
 u_op d b
 u_op d b
 u_op d b
 u_op d b
 u_op d b
 u_call H.f_uAdd (nm_uAdd L) uAddFn d b
 repeat (u_c aw d b)
 u_reg d b
 u_op d b
 u_c aF d b
 repeat (u_c aw d b)
 u_reg d b
 u_op d b
 u_op d b
 u_op d b
 u_op d b
 refine Goes.stop (λo k=>?_);replace b:=d b k;clear k;refine⟨a,λe D i=>?_⟩;have s:KK=4294967296:=rfl;have t:IntKind.u64.wrap ((e:Int)*KK+4294967296)=((e:Int)+1)*KK:=by rw[IntKind.wrap_u64];simp only[s];omega
 refine⟨_,(stepG_add_atomic a a (by k_ne) a H.f_addU64 (x_addU64_n L) (x_addU64_b L) (x_addU64_x L) .u64 (x_addU64_f L) a a i.cellSt (i.thaw 0)).trans (by rw[t];rfl),110,?_⟩;replace b:WgLive L.tWg bo (o.setCell (stA bo) (.int .u64 (((e:Int)+1)*KK))):=⟨_,_,i.setSt _⟩
 clear i
 walk_nrm
 u_op d b
 u_c aF d b
 u_c stepG_ret' d b
 u_leave1 H.f_uAdd d b
 u_op d b
 u_c aF d b
 have z:bits .and .u64 (((e:Int)+1)*4294967296) 2147483648=0:=by have:=Go.ConcN.st_flag (e+1) 0 y y;grind
 have C:bits .and .u64 (((e:Int)+1)*4294967296) 2147483647=0:=by have:=Go.ConcN.st_waiters (e+1) 0 y y;grind
 have F:((e:Int)+1+2147483648) % 4294967296-2147483648=(e:Int)+1:=y;have A:¬((e:Int)+1<0):=y;have B:(0:Int)<(e:Int)+1:=y
 repeat (u_c aw d b)
 u_reg d b
 u_op d b
 u_op d b
 u_op d b
 u_op d b
 u_skip d b
 u_skip d b
 u_op d b
 u_c aF d b
 repeat (u_c aw d b)
 u_cond m d b
 u_c stepG_skip d b
 repeat (u_c aw d b)
 u_reg d b
 u_op d b
 u_op d b
 u_op d b
 u_op d b
 u_c aF d b
 repeat (u_c aw d b)
 u_reg d b
 u_op d b
 u_op d b
 u_op d b
 u_op d b
 u_c aF d b
 by_cases w:(e:Int)+1=1
 .repeat (u_c aw d b)
  u_reg d b
  u_op d b
  u_op d b
  u_op d b
  u_op d b
  u_op d b
  u_op d b
  u_op d b
  u_op d b
  u_op d b
  u_op d b
  u_c aF d b
  repeat (u_c aw d b)
  u_cond f d b
  repeat (u_c aw d b)
  u_reg d b
  u_op d b
  u_op d b
  u_op d b
  u_conv H.underlying_tPU32 H.room_tU32 (Go.ConcN.Gen.WgLive.cell1 b).choose_spec d b
  refine Goes.stop (λv n=>.inl ?_);clear n;refine⟨a,_,⟨bo,1,q⟩,a,λg=>stepG_markAt .read E a a (by k_ne) a H.f_raceRead (x_raceRead_n L) (x_raceRead_b L) (x_raceRead_x L) (x_raceRead_f L) (ad:=⟨bo,1,q⟩) (by simp[Act.eval]),λg b=>⟨50,?_⟩⟩
  walk_nrm
  u_c aF d b
  repeat (u_c aw d b)
  u_reg d b
  u_op d b
  u_op d b
  u_c aF d b
  repeat (u_c aw d b)
  u_cond m d b
  u_c stepG_skip d b
  repeat (u_c aw d b)
  u_reg d b
  u_op d b
  u_op d b
  u_op d b
  u_skip d b
  u_skip d b
  u_op d b
  u_op d b
  u_skip d b
  u_skip d b
  u_skip d b
  u_skip d b
  u_op d b
  u_c aF d b
  repeat (u_c aw d b)
  u_cond m d b
  u_c stepG_skip d b
  repeat (u_c aw d b)
  u_reg d b
  u_op d b
  u_op d b
  u_op d b
  u_skip d b
  u_skip d b
  u_op d b
  u_c aF d b
  repeat (u_c aw d b)
  u_cond f d b
  u_c stepG_ret' d b
  refine Goes.stop (λr j=>?_);clear j;refine⟨a,_,λg=>stepG_unwind_entry (v:=.tuple #[]) (evs:=#[mk .enable]) a H.f_enable (x_enable_n L) (x_enable_b L) (x_enable_x L) (x_enable_f L) (by simp[Extern.Race.none_]) wq wq,λg b=>⟨1,?_⟩⟩
  u_leave0 H.f_add d b
  grind[Goes.stop]
 have x:((e:Int)+1==1)=m:=M
 repeat (u_c aw d b)
 u_reg d b
 u_op d b
 u_op d b
 u_op d b
 u_op d b
 u_op d b
 u_op d b
 u_op d b
 u_op d b
 u_op d b
 u_op d b
 u_c aF d b
 repeat (u_c aw d b)
 u_cond m d b
 u_c stepG_skip d b
 repeat (u_c aw d b)
 u_reg d b
 u_op d b
 u_op d b
 u_c aF d b
 repeat (u_c aw d b)
 u_cond m d b
 u_c stepG_skip d b
 repeat (u_c aw d b)
 u_reg d b
 u_op d b
 u_op d b
 u_op d b
 u_skip d b
 u_skip d b
 u_op d b
 u_op d b
 u_skip d b
 u_skip d b
 u_skip d b
 u_skip d b
 u_op d b
 u_c aF d b
 repeat (u_c aw d b)
 u_cond m d b
 u_c stepG_skip d b
 repeat (u_c aw d b)
 u_reg d b
 u_op d b
 u_op d b
 u_op d b
 u_skip d b
 u_skip d b
 u_op d b
 u_c aF d b
 repeat (u_c aw d b)
 u_cond f d b
 u_c stepG_ret' d b
 refine Goes.stop (λr j=>.inr ?_);clear j;refine⟨a,_,λg=>stepG_unwind_entry (v:=.tuple #[]) (evs:=#[mk .enable]) a H.f_enable (x_enable_n L) (x_enable_b L) (x_enable_x L) (x_enable_f L) (by simp[Extern.Race.none_]) wq wq,λg b=>⟨1,?_⟩⟩
 u_leave0 H.f_add d b
 grind[Goes.stop]
end
section
open Go.Conc Go.RowKit Go.Conc.Lib Go.ConcR.Gen
open Go.ConcN (WgLive)
open Go.ConcR (KK WgAt stA smA rd wr mk DC0)
section
variable (P:aI)(dj:au->au->Prop)(L:WgLink)(bo:Nat)(hD:ak)(x:ak->Prop)
def F2(b:ak)(_:au):Prop:=b.status=.running/\∃a,(∀d,aq P f b d=.go a d #[mk (.acquire (stA bo))])/\∀w1,WgLive L.tWg bo w1->∃e,Goes P f dj DC0 (λb _=>b=hD) e a w1
def Ao(b:ak)(_:au):Prop:=b.status=.running/\∃a,(∀d,aq P f b d=.go a d #[mk .enable])/\∀w1,WgLive L.tWg bo w1->∃e,Goes P f dj DC0 (F2 P dj L bo hD) e a w1
def F5(d:ak)(b:au):Prop:=d.status=.running/\(WgAt L.tWg bo b 0 0->∃a,aq P f d b=.go a b #[rd (stA bo)]/\∃e,Goes P f dj DC0 (Ao P dj L bo hD) e a b)
def F4(b:ak)(a:au):Prop:=b.status=.running/\b.offers=q/\((∃e,WgAt L.tWg bo a e 0)->aq P f b a=.go {b with status:=.blocked} a #[]) /\
 (WgAt L.tWg bo a 0 1->∃d,aq P f b a=.go d (a.setCell (smA bo) (.int .u32 0)) (semEvents (smA bo))/\∃g,Goes P f dj DC0 (F5 P dj L bo hD) g d (a.setCell (smA bo) (.int .u32 0)))
def F6(d:ak)(_:au):Prop:=d.status=.running/\∃b a,a.block=bo/\(∀e,aq P f d e=.go b e #[mk (.write a)])/\∀w1,WgLive L.tWg bo w1->∃g,Goes P f dj DC0 (F4 P dj L bo hD) g b w1
def F3(B:Nat)(e:ak)(b:au):Prop:=e.status=.running/\∀d:Nat,d<2147483648->WgAt L.tWg bo b (d*KK) 0 ->
 (d=B->∃a,aq P f e b=.go a (b.setCell (stA bo) (.int .u64 (d*KK+1))) #[rd (stA bo),wr (stA bo)]/\∃g,Goes P f dj DC0 (F6 P dj L bo hD) g a (b.setCell (stA bo) (.int .u64 (d*KK+1)))) /\
 (d≠B->∃a,aq P f e b=.go a b #[rd (stA bo)]/\∃g,Goes P f dj DC0 (λe _=>x e) g a b)
def RE(g:ak)(d:au):Prop:=g.status=.running/\∀b:Nat,b<2147483648->WgAt L.tWg bo d (b*KK) 0 ->
 ∃a,aq P f g d=.go a d #[rd (stA bo)]/\(b=0->∃e,Goes P f dj DC0 (Ao P dj L bo hD) e a d)/\(b≠0->∃e,Goes P f dj DC0 (F3 P dj L bo hD x b) e a d)
def RD(b:ak)(_:au):Prop:=b.status=.running/\∃a,(∀d,aq P f b d=.go a d #[mk .disable])/\∀w1,WgLive L.tWg bo w1->∃e,Goes P f dj DC0 (λb _=>x b) e a w1
end
def rb(L:WgLink)(b:Nat)(e:aK)(d:p aK)(g:ak):Prop:=
 ∃a:Array aa,g=G ((base L.wait).at ⟨a,[]⟩ [.code (L7 L),.inLoop (L7 L),.inBlock 0]) (e::d)/\a.size=84/\a[0]?=h (.pointer (h ⟨b,0,q⟩))
set_option maxRecDepth 100000 in
def aeO{L}(H:WgLib P L){dj:au->au->Prop}{bo}(d:∀{e w1},WgLive L.tWg bo e->dj e w1->WgLive L.tWg bo w1){s}(e)(b:WgLive L.tWg bo e):
  Goes P f dj DC0 (RD P dj L bo (rb L bo s ah)) 6 (G ((base L.wait).at ⟨#[.pointer (h ⟨bo,0,q⟩),K,K,K,K,K,K,K,K,K,K,K,K,K,K,K,K,K,K,K,K,K,K,K,K,K,K,K,K,K,K,K,K,K,K,K,K,K,K,K,K,K,K,K,K,K,K,K,K,K,K,K,K,K,K,K,K,K,K,K,K,K,K,K,K,K,K,K,K,K,K,K,K,K,K,K,K,K,K,K,K,K,K,K],[]⟩ [.code (body_wait L)]) (s::ah)) e:=by
 lib_facts
 unfold rb;simp only[L7,body_wait,waitFn,h4]
 repeat (u_c aw d b)
 u_cond f d b
 repeat (u_c aw d b)
 u_reg d b
 refine Goes.stop (λi g=>?_);clear g;refine⟨a,_,λe=>stepG_mark0 .disable E a a (by k_ne) a H.f_disable (x_disable_n L) (x_disable_b L) (x_disable_x L) (x_disable_f L),λe b=>⟨6,?_⟩⟩
 walk_nrm
 u_c aF d b
 repeat (u_c aw d b)
 u_c stepG_block d b
 u_c stepG_loop d b
 exact Goes.stop λ_ _=>⟨_,a,a,a⟩
end
section
open Go.Conc Go.RowKit Go.Conc.Lib Go.ConcR.Gen
open Go.ConcN (WgLive)
open Go.ConcN.Gen
open Go.ConcR (KK WgAt stA smA rd wr mk DC0)
set_option maxRecDepth 100000 in
def aeN{L:WgLink}(H:WgLib P L){dj:au->au->Prop}{bo:Nat}(e:∀{i w1},WgLive L.tWg bo i->dj i w1->WgLive L.tWg bo w1){hN:aK}{hM:Act}{gk:Array ap}{hR:Nat}{hY:p Nat}{hT:p Item}(v:ak)(a6:rb L bo (hN.at hM (.inRegion gk (hR::hY)::hT)) ah v)(i:au)(b:WgLive L.tWg bo i):
  ∃bb,Goes P f dj DC0 (RE P dj L bo (G (hN.at (hM.put ((gk[hR]?).bind (·.dst)) (.tuple #[])) (.inRegion gk hY::hT)) ah) (rb L bo (hN.at hM (.inRegion gk (hR::hY)::hT)) ah)) bb v i:=by
 lib_facts
 obtain⟨a5,rfl,bc,D⟩:=a6;obtain⟨bm,bn,bp,bq,br,bs,bt,bu,bw,bx,F,I,J,bP,K,O,bC,Q,R,S,T,bQ,U,V,bB,W,X,bL,Y,Z,aa,ab,bO,ae,bJ,bE,ag,ai,aj,aN,bG,bH,an,ao,aq,bF,bz,ar,av,ax,az,aA,aB,aD,N,aE,aG,aH,bM,aI,bK,aJ,aL,aM,aO,bR,bA,bD,aP,aQ,aR,aS,aT,aU,aV,aW,aX,a0,z,a1,a2,a3,a4,bI,rfl⟩:=array84 a5 bc;simp only[kf,mr,eV]at D;subst D;refine⟨30,?_⟩;unfold rb;simp only[L7,body_wait,waitFn,h4]
 u_c stepG_block e b
 repeat (u_c aw e b)
 u_reg e b
 u_op e b
 u_op e b
 u_op e b
 u_call H.f_uLoad (nm_uLoad L) uLoadFn e b
 repeat (u_c aw e b)
 u_reg e b
 u_op e b
 u_c aF e b
 repeat (u_c aw e b)
 u_reg e b
 u_op e b
 u_op e b
 u_op e b
 refine Goes.stop (λbd B=>?_);replace b:=e b B;clear B;refine⟨a,λn ba g=>?_⟩;rcases n9 n with rfl|x
 .replace g:WgAt L.tWg bo bd 0 0:=M;refine⟨_,stepG_load_atomic (v:=0) a a (by k_ne) a H.f_loadU64 (x_loadU64_n L) (x_loadU64_b L) (x_loadU64_x L) .u64 (x_loadU64_f L) a g.cellSt,λ_=>⟨80,?_⟩,λa'=>absurd a a'⟩;clear g
  walk_nrm
  u_op e b
  u_c aF e b
  u_c stepG_ret' e b
  u_leave1 H.f_uLoad e b
  u_op e b
  u_c aF e b
  repeat (u_c aw e b)
  u_reg e b
  u_op e b
  u_op e b
  u_op e b
  u_op e b
  u_c aF e b
  repeat (u_c aw e b)
  u_reg e b
  u_op e b
  u_op e b
  u_op e b
  u_op e b
  u_c aF e b
  repeat (u_c aw e b)
  u_reg e b
  u_op e b
  u_op e b
  u_c aF e b
  repeat (u_c aw e b)
  u_cond f e b
  repeat (u_c aw e b)
  u_cond f e b
  repeat (u_c aw e b)
  u_reg e b
  refine Goes.stop (λo l=>?_);clear l;refine⟨a,_,λi=>stepG_mark0 .enable E a a (by k_ne) a H.f_enable (x_enable_n L) (x_enable_b L) (x_enable_x L) (x_enable_f L),λi b=>⟨20,?_⟩⟩
  walk_nrm
  u_c aF e b
  repeat (u_c aw e b)
  u_reg e b
  u_op e b
  u_conv H.underlying_tWgP H.room_tWg (Go.ConcN.Gen.WgLive.cell0 b).choose_spec e b
  refine Goes.stop (λo l=>?_);clear l;refine⟨a,_,λi=>stepG_markAt .acquire E a a (by k_ne) a H.f_acquire (x_acquire_n L) (x_acquire_b L) (x_acquire_x L) (x_acquire_f L) EY,λi b=>⟨40,?_⟩⟩
  walk_nrm
  u_c aF e b
  repeat (u_c aw e b)
  u_reg e b
  u_op e b
  u_op e b
  u_op e b
  u_op e b
  u_op e b
  u_op e b
  u_op e b
  u_op e b
  u_skip e b
  u_skip e b
  u_op e b
  u_c aF e b
  repeat (u_c aw e b)
  u_cond m e b
  u_c stepG_skip e b
  u_c stepG_ret' e b
  u_leave0 H.f_wait e b
  grind[Goes.stop]
 obtain⟨j,d⟩:∃j:Int,(n:Int)*KK=j:=⟨_,rfl⟩;have a7:j / 4294967296=(n:Int):=NV
 have a8:bits .and .u64 j 2147483648=0:=by rw[<-d];have:=Go.ConcN.st_flag n 0 y y;simpa[KK]using this
 have a9:bits .and .u64 j 2147483647=0:=by rw[<-d];have:=Go.ConcN.st_waiters n 0 y y;simpa[KK]using this
 have a_:IntKind.i32.wrap (n:Int)=(n:Int):=by grind[IntKind.wrap_i32]
 have w1:IntKind.u64.wrap (j+1)=j+1:=by rw[IntKind.wrap_u64,<-d];simp only[KK];omega
 have bg:decide ((n:Int)<0)=m:=lG y;have bh:decide (0<(n:Int))=f:=fq y;have bj:((n:Int)==0)=m:=M;have bk:decide ((n:Int)=0)=m:=lG y;rw[d]at g;refine⟨_,stepG_load_atomic (v:=j) a a (by k_ne) a H.f_loadU64 (x_loadU64_n L) (x_loadU64_b L) (x_loadU64_x L) .u64 (x_loadU64_f L) a g.cellSt,λs=>absurd s y,λ_=>⟨80,?_⟩⟩;clear g
 walk_nrm
 u_op e b
 u_c aF e b
 u_c stepG_ret' e b
 u_leave1 H.f_uLoad e b
 u_op e b
 u_c aF e b
 repeat (u_c aw e b)
 u_reg e b
 u_op e b
 u_op e b
 u_op e b
 u_op e b
 u_c aF e b
 repeat (u_c aw e b)
 u_reg e b
 u_op e b
 u_op e b
 u_op e b
 u_op e b
 u_c aF e b
 repeat (u_c aw e b)
 u_reg e b
 u_op e b
 u_op e b
 u_c aF e b
 repeat (u_c aw e b)
 u_cnd m e b
 u_c stepG_skip e b
 repeat (u_c aw e b)
 u_reg e b
 u_op e b
 u_op e b
 u_op e b
 u_op e b
 u_op e b
 u_op e b
 u_call H.f_uCas (nm_uCas L) uCasFn e b
 repeat (u_c aw e b)
 u_reg e b
 u_op e b
 u_c aF e b
 repeat (u_c aw e b)
 u_reg e b
 u_op e b
 u_op e b
 u_op e b
 u_op e b
 u_op e b
 refine Goes.stop (λo l=>?_);replace b:=e b l;clear l;refine⟨a,λt w g=>⟨λu=>?_,λu=>?_⟩⟩
 .subst u;rw[d]at g⊢;refine⟨_,(stepG_cas_hit (v:=j) (n:=j+1) a a (by k_ne) a H.f_casU64 (x_casU64_n L) (x_casU64_b L) (x_casU64_x L) .u64 (x_casU64_f L) a a a g.cellSt (g.thaw 0)).trans oX,90,?_⟩;replace b:WgLive L.tWg bo (o.setCell (stA bo) (.int .u64 (j+1))):=⟨_,_,g.setSt _⟩
  clear g
  walk_nrm
  u_op e b
  u_c aF e b
  u_c stepG_ret' e b
  u_leave1 H.f_uCas e b
  u_c aF e b
  repeat (u_c aw e b)
  u_cond f e b
  repeat (u_c aw e b)
  u_reg e b
  u_op e b
  u_op e b
  u_op e b
  u_op e b
  u_c aF e b
  repeat (u_c aw e b)
  u_cond f e b
  repeat (u_c aw e b)
  u_reg e b
  u_op e b
  u_op e b
  u_op e b
  u_conv H.underlying_tPU32 H.room_tU32 (Go.ConcN.Gen.WgLive.cell1 b).choose_spec e b
  refine Goes.stop (λo l=>?_);clear l;refine⟨a,_,⟨bo,1,q⟩,a,λi=>stepG_markAt .write E a a (by k_ne) a H.f_raceWrite (x_raceWrite_n L) (x_raceWrite_b L) (x_raceWrite_x L) (x_raceWrite_f L) (ad:=⟨bo,1,q⟩) (by simp[Act.eval]),λi b=>⟨60,?_⟩⟩
  walk_nrm
  u_c aF e b
  repeat (u_c aw e b)
  u_reg e b
  u_op e b
  u_c aF e b
  repeat (u_c aw e b)
  u_reg e b
  u_op e b
  u_op e b
  u_op e b
  u_op e b
  u_skip e b
  u_op e b
  u_c aF e b
  repeat (u_c aw e b)
  u_cond m e b
  u_c stepG_skip e b
  repeat (u_c aw e b)
  u_reg e b
  u_op e b
  u_op e b
  u_op e b
  u_op e b
  refine Goes.stop (λbf C=>?_);replace b:=e b C;clear C;refine⟨a,a,λ⟨bl,g⟩=>stepG_semacquire_wait a a a H.f_semacquire (x_semacquire_n L) (x_semacquire_b L) (x_semacquire_x L) (x_semacquire_f L) (by simp[Act.eval,smA]) g.cellSm,λr=>?_⟩;refine⟨_,(stepG_semacquire (n:=1) a a (by k_ne) a H.f_semacquire (x_semacquire_n L) (x_semacquire_b L) (x_semacquire_x L) (x_semacquire_f L) (by simp[Act.eval,smA]) r.cellSm (by k_ne) (r.thaw 1)).trans oX,40,?_⟩;replace b:WgLive L.tWg bo (bf.setCell (smA bo) (.int .u32 0)):=⟨_,_,r.setSm 0⟩
  clear r
  walk_nrm
  u_c aF e b
  repeat (u_c aw e b)
  u_reg e b
  u_op e b
  u_op e b
  u_op e b
  u_call H.f_uLoad (nm_uLoad L) uLoadFn e b
  repeat (u_c aw e b)
  u_reg e b
  u_op e b
  u_c aF e b
  repeat (u_c aw e b)
  u_reg e b
  u_op e b
  u_op e b
  u_op e b
  refine Goes.stop (λbN A=>?_);replace b:=e b A;clear A;refine⟨a,λg=>⟨_,stepG_load_atomic (v:=0) a a (by k_ne) a H.f_loadU64 (x_loadU64_n L) (x_loadU64_b L) (x_loadU64_x L) .u64 (x_loadU64_f L) a g.cellSt,40,?_⟩⟩;clear g
  walk_nrm
  u_op e b
  u_c aF e b
  u_c stepG_ret' e b
  u_leave1 H.f_uLoad e b
  u_op e b
  u_op e b
  u_c aF e b
  repeat (u_c aw e b)
  u_cond f e b
  repeat (u_c aw e b)
  u_reg e b
  refine Goes.stop (λo l=>?_);clear l;refine⟨a,_,λi=>stepG_mark0 .enable E a a (by k_ne) a H.f_enable (x_enable_n L) (x_enable_b L) (x_enable_x L) (x_enable_f L),λi b=>⟨20,?_⟩⟩
  walk_nrm
  u_c aF e b
  repeat (u_c aw e b)
  u_reg e b
  u_op e b
  u_conv H.underlying_tWgP H.room_tWg (Go.ConcN.Gen.WgLive.cell0 b).choose_spec e b
  refine Goes.stop (λo l=>?_);clear l;refine⟨a,_,λi=>stepG_markAt .acquire E a a (by k_ne) a H.f_acquire (x_acquire_n L) (x_acquire_b L) (x_acquire_x L) (x_acquire_f L) EY,λi b=>⟨40,?_⟩⟩
  walk_nrm
  u_c aF e b
  repeat (u_c aw e b)
  u_reg e b
  u_op e b
  u_c aF e b
  repeat (u_c aw e b)
  u_cond m e b
  u_c stepG_skip e b
  u_c stepG_ret' e b
  u_leave0 H.f_wait e b
  grind[Goes.stop]
 refine⟨_,stepG_cas_miss (v:=(t:Int)*KK) (old:=j) (n:=j+1) a a (by k_ne) a H.f_casU64 (x_casU64_n L) (x_casU64_b L) (x_casU64_x L) .u64 (x_casU64_f L) a a a g.cellSt (g.thaw 0) NV,30,?_⟩;clear g
 walk_nrm
 u_op e b
 u_c aF e b
 u_c stepG_ret' e b
 u_leave1 H.f_uCas e b
 u_c aF e b
 repeat (u_c aw e b)
 u_cond m e b
 u_c stepG_skip e b
 u_c stepG_inBlock e b
 u_c stepG_inLoop e b
 exact Goes.stop λ_ _=>⟨_,a,by simp,by simp⟩
end
section
open Go.Conc Go.Conc.Lib
open Go.ConcN (WgLive)
open Go.ConcR (KK WgAt stA smA rd wr mk DC0 Payload)
def fE(b:av)(a:Nat)(d w1:au):Prop:=WgLive b a d->WgLive b a w1
def fE.refl{ty}{bo}(a):fE ty bo a a:=id
def fE.trans{ty}{bo}{a j s}(b:fE ty bo a j)(d:fE ty bo j s):fE ty bo a s:=λe=>d (b e)
def nV(b:au->au->Prop)(a:ak->au->Prop)(d:ak)(e:au):Prop:=∀w1,b e w1->a d w1
def Goes.ez{P}{eR}{e:au->au->Prop}{z:au->au->Array aT->Prop}{a:ak->au->Prop}(aR:∀l n o,e l n->e n o->e l o):
  ∀{k:Nat} {g:ak} {j:au},Goes P eR e z a k g j->Goes P eR e z (nV e a) k g j
 |0,g,j,d=>λw1 i w2 b=>d w2 (aR _ _ _ i b)
 |k+1,g,j,d=>by
  rcases d with d|⟨r,d⟩
  .exact .inl λw1 i w2 b=>d w2 (aR _ _ _ i b)
  refine .inr ⟨r,λw1 i=>?_⟩;have b:=d w1 i;cases p:aq P eR g w1 with
  |go t u s=>
   rw[p,goes_go]at b;rw[goes_go];exact⟨b.1,Goes.ez aR b.2⟩
  |_=>rw[p]at b;exact b.elim
structure k3(bo:Nat)(ed:a6->Prop):Prop where
 rely:∀b az,ed b->cX b az->ed az
 heap:∀b,ed b->∃n,bc n b
 jd:∀b,ed b->¬b.own bo/\(∀L∈b.m,bo∉L.al)/\∀t,b.u bo t=q
section
variable {P:aI}{L:WgLink}{bo:Nat}{ed:a6->Prop}
def io(b:av)(a:Nat)(e:a6->Prop)(d:a6):Prop:=e d/\WgLive b a d.a
def k3.hF(O:k3 bo ed){b}(a:ed b):gr b:=(O.heap b a).choose_spec.mem
def k3.set(O:k3 bo ed){b}(j:ed b)(e)(p:e.block=bo)(ab):cX b {b with a:=b.a.setCell e ab}:=by
 obtain⟨r,s,t⟩:=O.jd b j;have g:∀d,d≠bo->(b.a.setCell e ab).heap[d]?=b.a.heap[d]?:=λd i=>by have:=(aside_setCell b.a e ab).block d M;omega
 refine⟨a,a,a,Nat.le_of_eq (aside_setCell b.a e ab).size.symm,λd i=>g d M,λd k o n=>?_,(aside_setCell b.a e ab).os,(aside_setCell b.a e ab).tape,(aside_setCell b.a e ab).output⟩;have l:d≠bo:=M;show(b.a.setCell e ab).cell? _=_;rw[nj (g d l) k];exact O.hF j d k o n
def k3.next(O:k3 bo ed){ty}{b e}(a:io ty bo ed b)(ba:(aj.aG P ty bo).rely b e):io ty bo ed e:=⟨O.rely b e a.1 ba.1,ba.2 a.2⟩
def k3.jk(O:k3 bo ed){ty}{b}(a:io ty bo ed b):(aj.aG P ty bo).rely b b:=⟨cX.eo (O.hF a.1),id⟩
def k3.goes(O:k3 bo ed){ty}{g:ak->a6->Prop}{Stop:ak->au->Prop}(o:∀C b,io ty bo ed b->nV (fE ty bo) Stop C b.a->dw (aj.aG P ty bo) (dU bo) g C b){k}{C}{b}(i:io ty bo ed b)(l:Goes P f (fE ty bo) DC0 Stop k C b.a):dw (aj.aG P ty bo) (dU bo) g C b:=by refine dw.goes (r:=aj.aG P ty bo) (dj:=fE ty bo) (z:=DC0) (Stop:=nV (fE ty bo) Stop) (io ty bo ed) (λb n d e=>O.next d e) (λb n _ e=>e.2) ?_ (λb d=>O.jk d) o k C b i (Goes.ez (λ_ _ _ p s=>p.trans s) l);rintro b j d t ⟨rfl,rfl⟩;exact⟨a,.inl (.aZ (O.heap b d.1).choose_spec)⟩
end
set_option maxRecDepth 100000 in
def Ts{P}{L}(H:WgLib P L){bo}:Frame.enter P L.add #[.pointer (h ⟨bo,0,q⟩),.int .i64 1] .normal=(base L.add).at ⟨#[.pointer (h ⟨bo,0,q⟩),.int .i64 1,K,K,K,K,K,K,K,K,K,K,K,K,K,K,K,K,K,K,K,K,K,K,K,K,K,K,K,K,K,K,K,K,K,K,K,K,K,K,K,K,K,K,K,K,K,K,K,K,K,K,K,K,K,K,K,K,K,K,K,K,K,K,K,K,K,K,K,K,K,K,K,K,K,K,K,K,K,K,K,K,K,K,K,K,K,K,K,K,K,K,K,K,K,K,K,K,K,K,K,K,K,K,K,K,K,K,K,K,K,K,K,K,K,K,K],[]⟩ [.code (Go.ConcR.Gen.body_add L)]:=
 (enter_at (c:=Go.ConcR.Gen.body_add L) _ H.f_add b3).trans b3
set_option maxRecDepth 100000 in
def Tt{P}{L}(H:WgLib P L){bo}:Frame.enter P L.wait #[.pointer (h ⟨bo,0,q⟩)] .normal=(base L.wait).at ⟨#[.pointer (h ⟨bo,0,q⟩),K,K,K,K,K,K,K,K,K,K,K,K,K,K,K,K,K,K,K,K,K,K,K,K,K,K,K,K,K,K,K,K,K,K,K,K,K,K,K,K,K,K,K,K,K,K,K,K,K,K,K,K,K,K,K,K,K,K,K,K,K,K,K,K,K,K,K,K,K,K,K,K,K,K,K,K,K,K,K,K,K,K,K],[]⟩ [.code (Go.ConcR.Gen.body_wait L)]:=
 (enter_at (c:=Go.ConcR.Gen.body_wait L) _ H.f_wait b3).trans b3
section
variable [Payload]{P:aI}{L:WgLink}{J:hK}{ed:a6->Prop}{D k:Nat}{val:Nat->Nat->aa}
def RY(H:WgLib P L)(O:k3 J.f ed){w}{Next:ak->a6->Prop}{hN:aK}{hM}{gk}{hR}{hY}{hT}{ah}(E:∀b,io L.tWg J.f ed b->dw (aj.aG P L.tWg J.f) (dU J.f) (wJ P L.tWg J D val w Next) (G (hN.at (hM.put ((gk[hR]?).bind (·.dst)) (.tuple #[])) (.inRegion gk hY::hT)) ah) b){b}(g:io L.tWg J.f ed b):
  dw (aj.aG P L.tWg J.f) (dU J.f) (Ae P L.tWg J D val w Next) (G (Frame.enter P L.add #[.pointer (h ⟨J.f,0,q⟩),.int .i64 1] .normal) (hN.at hM (.inRegion gk (hR::hY)::hT)::ah)) b:=by
 have C:∀i b,io L.tWg J.f ed b->An P (fE L.tWg J.f) L J.f (G (hN.at (hM.put ((gk[hR]?).bind (·.dst)) (.tuple #[])) (.inRegion gk hY::hT)) ah) i b.a->dw (aj.aG P L.tWg J.f) (dU J.f) (Af P L.tWg J D val w Next) i b:=by rintro i b g ⟨n,d,p,r⟩;refine⟨.leaf,n,d,p,λk l=>?_⟩;have j:=O.next g l;obtain⟨v,o⟩:=r k.a j.2;exact O.goes (λi b g e=>by obtain rfl:=e b.a (.refl _);grind) j o
 have z:∀i b,io L.tWg J.f ed b->nV (fE L.tWg J.f) (F1 P (fE L.tWg J.f) L J.f (G (hN.at (hM.put ((gk[hR]?).bind (·.dst)) (.tuple #[])) (.inRegion gk hY::hT)) ah)) i b.a->dw (aj.aG P L.tWg J.f) (dU J.f) (Ab P L.tWg J D val w Next) i b:=by
  rintro i b g e;refine⟨.leaf,(e b.a (.refl _)).1,λk l x y s=>?_⟩;have j:=O.next g l;obtain⟨d,n,v,o⟩:=(e k.a l.2).2 x y s;have A:io L.tWg J.f ed {k with a:=k.a.setCell (stA J.f) (.int .u64 ((x+1)*KK))}:=⟨O.rely _ _ j.1 (O.set j.1 _ rfl _),⟨_,_,s.setSt _⟩⟩;refine⟨d,n,O.goes (λi b g e=>?_) A o⟩
  rcases e b.a (.refl _)with e|e
  .obtain⟨n,d,t,p,r,u⟩:=e;refine .step n λk l=>⟨d,k,_,r k.a,.inr ⟨a,t,p,.inl a⟩,?_⟩
   have j:=O.next g l;obtain⟨v,o⟩:=u k.a j.2;exact O.goes (λi b g e=>C i b g (e b.a (.refl _))) j o
  grind
 have s:=RZ (P:=P) (L:=L) H (dj:=fE L.tWg J.f) (bo:=J.f) (λe B=>B e) (hN:=hN) (hM:=hM) (gk:=gk) (hR:=hR) (hY:=hY) (hT:=hT) (ah:=ah) b.a g.2;rw[Ts H];refine O.goes (λi b g e=>?_) g s;obtain⟨n,d,p,r⟩:=e b.a (.refl _);refine⟨.leaf,n,d,p,λk l=>?_⟩;have j:=O.next g l;obtain⟨v,o⟩:=r k.a j.2;exact O.goes z j o
section
variable (P L J ed)
def fe(b a:ak)(d:a6):Prop:=io L.tWg J.f ed d/\∃e,Goes P f (fE L.tWg J.f) DC0 (λa _=>a=b) e a d.a
def wI(e:aK)(a:p aK)(b:ak)(d:a6):Prop:=io L.tWg J.f ed d/\∃g,Goes P f (fE L.tWg J.f) DC0 (λb _=>rb L J.f e a b) g b d.a
end
variable {hN:aK}{hM:Act}{gk:Array ap}{hR:Nat}{hY:p Nat}{hT:p Item}{ah:p aK}
omit [Payload]in
def R7(H:WgLib P L)(O:k3 J.f ed){s x:ak->a6->Prop}(E:∀C b,fe P L J ed (G (hN.at (hM.put ((gk[hR]?).bind (·.dst)) (.tuple #[])) (.inRegion gk hY::hT)) ah) C b->s C b)(N:∀C b,wI P L J ed (hN.at hM (.inRegion gk (hR::hY)::hT)) ah C b->x C b){C}{b}(g:wI P L J ed (hN.at hM (.inRegion gk (hR::hY)::hT)) ah C b):
  dw (aj.aG P L.tWg J.f) (dU J.f) (re P L.tWg J s x) C b:=by
 generalize v:hN.at hM (.inRegion gk (hR::hY)::hT)=T at *;generalize aN:G (hN.at (hM.put ((gk[hR]?).bind (·.dst)) (.tuple #[])) (.inRegion gk hY::hT)) ah=n at E;have K:∀C b,io L.tWg J.f ed b->nV (fE L.tWg J.f) (F2 P (fE L.tWg J.f) L J.f n) C b.a->dw (aj.aG P L.tWg J.f) (dU J.f) (Ac P L.tWg J s) C b:=by intro C b i g;obtain⟨l,d,t,u⟩:=g b.a (.refl _);exact⟨.leaf,l,d,t,λj e=>E _ _ ⟨O.next i e,u j.a (O.next i e).2⟩⟩
 have F:∀C b,io L.tWg J.f ed b->nV (fE L.tWg J.f) (Ao P (fE L.tWg J.f) L J.f n) C b.a->dw (aj.aG P L.tWg J.f) (dU J.f) (wK P L.tWg J s) C b:=by intro C b i g;obtain⟨l,d,t,u⟩:=g b.a (.refl _);refine⟨.leaf,l,d,t,λj e=>?_⟩;obtain⟨p,k⟩:=u j.a (O.next i e).2;exact O.goes K (O.next i e) k
 have Q:∀C b,io L.tWg J.f ed b->nV (fE L.tWg J.f) (F5 P (fE L.tWg J.f) L J.f n) C b.a->dw (aj.aG P L.tWg J.f) (dU J.f) (Ah P L.tWg J s) C b:=by intro C b i g;refine⟨.leaf,(g b.a (.refl _)).1,λj e o=>?_⟩;obtain⟨d,l,p,k⟩:=(g j.a e.2).2 o;exact⟨d,l,O.goes F (O.next i e) k⟩
 have M:∀C b,io L.tWg J.f ed b->nV (fE L.tWg J.f) (F4 P (fE L.tWg J.f) L J.f n) C b.a->dw (aj.aG P L.tWg J.f) (dU J.f) (oZ P L.tWg J s) C b:=by intro C b i g;refine⟨.leaf,(g b.a (.refl _)).1,(g b.a (.refl _)).2.1,λj e=>⟨(g j.a e.2).2.2.1,λo=>?_⟩⟩;obtain⟨d,l,p,k⟩:=(g j.a e.2).2.2.2 o;exact⟨d,l,O.goes Q (b:={j with a:=j.a.setCell (smA J.f) (.int .u32 0)}) ⟨O.rely _ _ (O.next i e).1 (O.set (O.next i e).1 _ rfl _),⟨_,_,o.setSm 0⟩⟩ k⟩
 have S:∀C b,io L.tWg J.f ed b->nV (fE L.tWg J.f) (F6 P (fE L.tWg J.f) L J.f n) C b.a->dw (aj.aG P L.tWg J.f) (dU J.f) (oZ P L.tWg J s) C b:=by
  intro C b i g;obtain⟨l,d,y,t,u,D⟩:=g b.a (.refl _);refine .step l λj e=>⟨d,j,_,u j.a,.inr ⟨a,y,t,.inr a⟩,?_⟩
  obtain⟨p,k⟩:=D j.a (O.next i e).2;exact O.goes M (O.next i e) k
 have R:∀r C b,io L.tWg J.f ed b->nV (fE L.tWg J.f) (F3 P (fE L.tWg J.f) L J.f n (rb L J.f T ah) r) C b.a->dw (aj.aG P L.tWg J.f) (dU J.f) (Ag P L.tWg J s x r) C b:=by
  intro B C b i g;refine⟨.leaf,(g b.a (.refl _)).1,λj e r w o=>⟨λz=>?_,λz=>?_⟩⟩
  .obtain⟨d,l,p,k⟩:=((g j.a e.2).2 r w o).1 z;exact⟨d,l,O.goes S (b:={j with a:=j.a.setCell (stA J.f) (.int .u64 (r*KK+1))}) ⟨O.rely _ _ (O.next i e).1 (O.set (O.next i e).1 _ rfl _),⟨_,_,o.setSt _⟩⟩ k⟩
  obtain⟨d,l,p,k⟩:=((g j.a e.2).2 r w o).2 z;exact⟨d,l,N _ _ ⟨O.next i e,p,k⟩⟩
 obtain⟨i,p,k⟩:=g;refine O.goes (λC b i g=>?_) i k;obtain⟨p,o⟩:=aeN (P:=P) (L:=L) H (dj:=fE L.tWg J.f) (bo:=J.f) (λg U=>U g) (hN:=hN) (hM:=hM) (gk:=gk) (hR:=hR) (hY:=hY) (hT:=hT) (ah:=ah) C (by rw[v];exact g b.a (.refl _)) b.a i.2;rw[v,aN]at o;refine O.goes (λC b i g=>?_) i o;refine⟨.leaf,(g b.a (.refl _)).1,λj e r w o=>?_⟩;obtain⟨d,l,t,u⟩:=(g j.a e.2).2 r w o;refine⟨d,l,λA=>?_,λI=>?_⟩
 .obtain⟨p,k⟩:=t A;exact O.goes F (O.next i e) k
 obtain⟨p,k⟩:=u I;exact O.goes (R r) (O.next i e) k
omit [Payload]in
def aeM(H:WgLib P L)(O:k3 J.f ed){s}{i:ak->a6->Prop}(N:∀d b,wI P L J ed s ah d b->i d b){b}(a:io L.tWg J.f ed b):
  dw (aj.aG P L.tWg J.f) (dU J.f) (Ad P L.tWg J i) (G (Frame.enter P L.wait #[.pointer (h ⟨J.f,0,q⟩)] .normal) (s::ah)) b:=by have p:=aeO (P:=P) (L:=L) H (dj:=fE L.tWg J.f) (bo:=J.f) (λg o=>o g) (s:=s) (ah:=ah) b.a a.2;rw[Tt H];refine O.goes (λd b a g=>?_) a p;obtain⟨l,e,n,r⟩:=g b.a (.refl _);exact⟨.leaf,l,e,n,λk j=>N _ _ ⟨O.next a j,r k.a (O.next a j).2⟩⟩
end
end
section
open Go.Conc Go.RowKit Go.Conc.Lib Go.ConcR.Gen
open Go.ConcN (WgLive Has RW DWs AtR0 EvW)
open Go.ConcN.Gen
open Go.ConcR (KK WgAt stA smA rd wr mk DC0 Payload)
section
variable {dj:au->au->Prop}{z:au->au->Array aT->Prop}{Stop O:ak->au->Prop}
def Goes.hH(l:∀a,dj a a)(v:∀b a,Stop b a->∃i t,aq P m b a=.go i a #[t])(s:∀g b a,O b a->¬Goes P m dj z Stop g b a):
  ∀p g b a,Goes P m dj DC0 O p b a->¬Goes P m dj z Stop g b a
 |0,g,b,a,k,j=>s g b a (k a (l a)) j
 |p+1,g,b,a,k,j=>by
  rcases k with k|⟨_,k⟩
  .grind
  have e:=k a (l a);cases n:aq P m b a with
  |go i d u=>
   rw[n,goes_go]at e;obtain⟨⟨rfl,rfl⟩,o⟩:=e;have r:¬Stop b d:=λw=>by grind
   cases g with
   |zero=>exact r (j d (l d))
   |succ g=>
    rcases j with j|⟨_,j⟩
    .grind
    have k1:=j d (l d);rw[n,goes_go]at k1;exact Goes.hH l v s p g i d o k1.2
  |_=>rw[n]at e;exact e.elim
def Goes.hE(r:∀b,dj b b)(y:∀d b,Stop d b->∃k w,aq P m d b=.go k b #[w])(s:∀e d b,O d b->Goes P m dj z Stop e d b->∀w1,dj b w1->Stop d w1):
  ∀o e d b,Goes P m dj DC0 O o d b->Goes P m dj z Stop e d b->Goes P m dj DC0 Stop o d b
 |0,e,d,b,l,j=>s e d b (l b (r b)) j
 |o+1,e,d,b,l,j=>by
  rcases l with l|⟨v,l⟩
  .exact .inl (s e d b (l b (r b)) j)
  refine .inr ⟨v,λw1 n=>?_⟩;have g:=l w1 n;cases p:aq P m d w1 with
  |go k i x=>
   rw[p,goes_go]at g;rw[goes_go];obtain⟨⟨rfl,rfl⟩,t⟩:=g;have u:¬Stop d i:=λv=>by grind
   refine⟨⟨a,a⟩,?_⟩;cases e with
   |zero=>exact absurd (j i n) u
   |succ e=>
    rcases j with j|⟨_,j⟩
    .grind
    have k1:=j i n;rw[p,goes_go]at k1;exact Goes.hE r y s o e k i t k1.2
  |_=>rw[p]at g;exact g.elim
end
variable [Payload]{L:WgLink}{bo N m9 l:Nat}{val:aa}{s:aK}
def RM(P:aI)(d:ak)(_:au):Prop:=∃b,∀a,aq P m d a=.go b a #[mk .disable]
def RN(P:aI)(L:WgLink)(a g n e i:Nat)(d:aa)(k:ak)(b:au):Prop:=
 (WgLive L.tWg a b/\Has g (i-1) d b)/\∃j,(∀b,aq P m k b=.go j b #[mk (.releaseMerge (stA a))])/\∀b,WgLive L.tWg a b/\Has g (i-1) d b->∃l,Goes P m (RW L.tWg a g n e (i-1)) DC0 (RM P) l j b
set_option maxRecDepth 100000 in
def Tc(H:WgLib P L)(d)(b:WgLive L.tWg bo d/\Has N (l-1) val d):
  Goes P m (RW L.tWg bo N k m9 (l-1)) DC0 (RN P L bo N k m9 l val) 23 (G ((baseD L.done).at ⟨#[.pointer (h ⟨bo,0,q⟩),K,K,K],[]⟩ [.code (body_done L)]) (s::ah)) d:=by
 lib_facts
 simp only[body_done,body_add,doneFn,addFn,h4]
 u_reg kn_rely b
 u_op kn_rely b
 u_in kn_rely b
 refine goes_call a a (by k_ne) a H.f_add (nm_add L) a ⟨by u_nil,?_⟩
 walk_nrmf addFn
 repeat (u_c aw kn_rely b)
 u_cond f kn_rely b
 repeat (u_c aw kn_rely b)
 u_reg kn_rely b
 u_op kn_rely b
 u_op kn_rely b
 u_c aF kn_rely b
 repeat (u_c aw kn_rely b)
 u_cond f kn_rely b
 u_reg kn_rely b
 u_op kn_rely b
 u_conv H.underlying_tWgP H.room_tWg (Go.ConcN.Gen.WgLive.cell0 b.1).choose_spec kn_rely b
 refine Goes.stop (λg e=>?_);replace b:=kn_rely b e;clear e;refine⟨b,_,λd=>stepG_markAt .releaseMerge E a a (by k_ne) a H.f_relMerge (x_relMerge_n L) (x_relMerge_b L) (x_relMerge_x L) (x_relMerge_f L) EY,λd b=>⟨10,?_⟩⟩
 walk_nrm
 u_c aF kn_rely b
 repeat (u_c aw kn_rely b)
 u_reg kn_rely b
 exact Goes.stop λg e=>⟨_,λd=>stepG_mark0 .disable E a a (by k_ne) a H.f_disable (x_disable_n L) (x_disable_b L) (x_disable_x L) (x_disable_f L)⟩
def Tb(H:WgLib P L){o}(x:s.mode=.returning)(aR:QuitsD P o 0 (G s ah))(b)(p:WgLive L.tWg bo b/\Has N (l-1) val b):
  Goes P m (RW L.tWg bo N k m9 (l-1)) DC0 (AtR0 P L.tWg bo N k m9 l val) 23 (G ((baseD L.done).at ⟨#[.pointer (h ⟨bo,0,q⟩),K,K,K],[]⟩ [.code (body_done L)]) (s::ah)) b:=by
 have I:=doneN (Own:=λ_ _=>False) (Rd:=λ_ _=>False) (Low:=m9) (n:=k) H x aR b p;have u:∀i b,AtR0 P L.tWg bo N k m9 l val i b->∃j y,aq P m i b=.go j b #[y]:=λi b g=>by obtain⟨_,_,j,B,_⟩:=g;grind
 have R:(mk (.releaseMerge (stA bo)):aT)≠mk .disable:=wq;refine Goes.hE (λb=>.refl b) u ?_ _ _ _ _ (Tc H b p) I;intro r i b g d w1 n;obtain⟨p,A,B,z⟩:=g;have w:AtR0 P L.tWg bo N k m9 l val i w1∨∃v,Goes P m (RW L.tWg bo N k m9 (l-1)) (DWs bo (λ_ _=>False) (λ_ _=>False) N k l) (AtR0 P L.tWg bo N k m9 l val) v A w1:=by
  cases r with
  |zero=>exact .inl (d w1 n)
  |succ r=>
   rcases d with d|⟨_,d⟩
   .grind
   grind[goes_go]
 rcases w with g|⟨v,g⟩
 .exact g
 exfalso;obtain⟨Q,F⟩:=z w1 (kn_rely p n);refine Goes.hH (λb=>.refl b) u ?_ _ _ _ _ F g;rintro t D w4 ⟨O,C⟩ d;have e:∀b,¬AtR0 P L.tWg bo N k m9 l val D b:=λb E=>by obtain⟨_,_,J,M,_⟩:=E;grind
 cases t with
 |zero=>exact e w4 (d w4 (.refl w4))
 |succ t=>
  rcases d with d|⟨_,d⟩
  .exact e w4 (d w4 (.refl w4))
  have k1:=d w4 (.refl w4);rw[C w4,goes_go]at k1;have:=(k1.1.2 _ (Array.mem_singleton.2 a)).2.1;exact this a
end
section
open Go.RowKit
open Go.Conc (G solo crowd AtRel Past EvL Leavers)
def a6.bA(b:au):a6:={m:=[],u:=λa d=>b.cell? ⟨a,d,q⟩,a:=b,own:=λa=>a<b.heap.size}
def bc.bA(d):bc [] (a6.bA d):=⟨λ_ _ _ b=>b,rfl,by simp,by simp[a6.bA],by simp[a6.bA],λe a=>⟨a,by simp[a6.bA]⟩⟩
def acA{n}{s}(e:mi P n s ab b)(l:P.inits.idxOf? n=q)(i)(r:∀a g j,b.u a g=h j->i.cell? ⟨a,g,q⟩=h j):∃d,aq P f (G s []) i=.ended (.done ab) i d/\∀k∈d,∃a g j,k=⟨.cell ⟨a,g,q⟩,m,m⟩/\b.u a g=h j:=by
 obtain⟨fn,t,o⟩:=e.fn;obtain⟨w,v⟩:=o i r;refine⟨seen P s.fn ((results fn s.tmps).events P i #[]),?_,λk u=>v k (Go.Conc.mem_seen u)⟩;have p:P.inits.idxOf? s.fn=q:=by rw[e.jq];exact l
 simp[G,aq,unwind,doReturn,e.mode,e.defers,e.kind,t,w,p,GStep.after]
abbrev uo:=Nat×av×aa
abbrev mI(a:p uo):p an:=a.map λb=>.J (ee b.1 b.2.1 b.2.2)
def a6.cT(a:p uo)(d:au):a6:={m:=a.map λe=>⟨.pointer (h ⟨e.1,0,q⟩),[e.1]⟩,u:=λb g=>if b∈a.map (·.1)then q else d.cell? ⟨b,g,q⟩,a:=d,own:=λb=>b<d.heap.size/\b∉a.map (·.1)}
def bc.cT{gs}{u}(C:(gs.map (·.1)).Nodup)(y:∀d∈gs,u.heap[d.1]?=h (.cells #[d.2.2] d.2.1 (0,0))):bc (mI gs) (a6.cT gs u):=by
 have D:∀d∈gs,d.1<u.heap.size:=λd t=>(jh.1 (y d t)).1;have l:∀(e:Nat) L,(a6.cT gs u).m[e]?=h L->∃d,gs[e]?=h d/\L=⟨.pointer (h ⟨d.1,0,q⟩),[d.1]⟩:=λe L n=>by simp[a6.cT,nf,rn]at n;grind
 refine⟨λi z J s=>?_,by simp[a6.cT],λe F L aE g=>?_,λe o L v j w i b k=>?_,λL n i b=>?_,λi b=>⟨b.1,λL n x=>?_⟩⟩
 .simp only[a6.cT]at s;split at s
  .cases s
  exact s
 .obtain⟨d,j,rfl⟩:=l e L g;simp[mI,nf,j,lH,eV]at aE;subst aE;have t:=b_ j;refine⟨λi=>if i=d.1 then h (.cells #[d.2.2] d.2.1 (0,0))else q,⟨a,bs a,λi b=>bm b⟩,λi z b=>?_,λi=>?_,λi b z=>?_⟩
  .simp only at b;split at b
   .rename_i r;cases b;rw[r];exact y d t
   grind
  .by_cases r:i=d.1<;>simp[r]
  rw[gH]at b;subst b;exact bs (ho.2 ⟨d,t,a⟩)
 .obtain⟨d,p,rfl⟩:=l e L j;obtain⟨E,I,rfl⟩:=l o v w;rw[gH]at b k;have r:d.1=E.1:=b.symm.trans k;have A:(gs.map (·.1))[e]?=h d.1:=M;have B:(gs.map (·.1))[o]?=h d.1:=M;grind[List.getElem?_inj]
 .obtain⟨e,g⟩:=AN n;obtain⟨d,p,rfl⟩:=l e L g;rw[gH]at b;subst b;exact D d (b_ p)
 obtain⟨e,g⟩:=AN n;obtain⟨d,p,rfl⟩:=l e L g;rw[gH]at x;subst x;exact b.2 (ho.2 ⟨d,b_ p,a⟩)
def bc.jf{gs}(d:bc (mI gs) b){l}(g:l∈gs):b.a.heap[l.1]?=h (.cells #[l.2.2] l.2.1 (0,0)):=by
 obtain⟨a,k⟩:=AN g;have aE:(mI gs)[a]?=h (.J (ee l.1 l.2.1 l.2.2)):=M;have e:a<c b.m:=by rw[d.len];grind
 obtain⟨i,⟨_,j,_⟩,n,_⟩:=d.box a _ _ aE (bK e);grind
def bl.jh{p}{args}{gs}(j:bl (aj.aV P) p args (mI gs) res (λ_=>mI gs))(x:P.inits.idxOf? p=q){g}(Q:(gs.map (·.1)).Nodup)(W:∀l∈gs,g.heap[l.1]?=h (.cells #[l.2.2] l.2.1 (0,0)))(L:b6 (mI gs) (a6.cT gs g) B args){fw:aa->au->Prop}(aN:∀u o b,bz (mI gs) b o (res u)->Below g.heap.size g b.a->∀D,fw o (b.a.at D)):
  ∃S last t n y,runNT P (S+1) (solo (G (Frame.enter P p B.toArray .normal) []) g) #[]=(.ended t n,y)/\runN P S (solo (G (Frame.enter P p B.toArray .normal) []) g)=.next last /\
   step P last=.ended t n/\Go.Conc.Good P fw last t n y:=by
 have T:=bc.cT Q W;have key:=j.2 (a6.cT gs g) B L T (λao b=>∃u o i,ao=G i []/\mi P p i o b/\bz (mI gs) b o (res u)/\Below g.heap.size g b.a) []
  (λu i o b r s w e=>.stop ⟨u,o,i,rfl,r,s,⟨e.os,e.tape,e.output,e.size,λU M=>by
   by_cases A:U∈gs.map (·.1)
   .obtain⟨l,X,rfl⟩:=ho.1 A;rw[w.jf X,W l X]
   .exact e.a7 U ⟨M,A⟩⟩⟩)
 have ai:AM.jE (λ_=>False)=λ_=>False:=by funext d;cases d<;>rfl
 obtain⟨v,ar,av,aq,b,V,y,az,r,s,w,e,ab,ae,ax,⟨u,o,i,rfl,k1,ag,ak⟩⟩:=key.aV (λ_=>False) #[G (Frame.enter P p B.toArray .normal) []] q #[] (λ_=>0) T.mem rfl (Go.Conc.leavers_one P _)
  (by rw[ai];exact Go.Conc.past_nil.mono (gX _)) ⟨λ_ j=>j.elim,λ_ j=>j.elim,λ_ j=>j.elim,λ_ j=>j.elim⟩ (λaB=>by intro u x;simp[Trace.act?]at x)
 have an:=Go.Conc.beside_ends (P:=P) (Shun:=AM.jE ar) (B:=b.a.heap.size) (D:=λ_ _ _=>False) (Post:=fw) (λ_ _ _ j=>j.elim) (sl:=V) (n:=0) w e ab (Go.Conc.Goes.stop λw1 C=>by
  obtain⟨D,rfl⟩:=C;obtain⟨K,I,J⟩:=acA k1 x (b.a.at D) (λF t Y R=>s F t Y R);refine⟨a,o,K,I,λA ah=>?_,aN u o b ag ak D⟩;obtain⟨F,t,Y,rfl,R⟩:=J A ah;refine Go.Conc.evL_cell _ _ (λad=>?_) (gr.lt s R);have:=ae.u F ad t
  grind)
 obtain⟨E,last,t,n,aw,N,aA,O,Z⟩:=an;refine⟨v+E,last,t,n,aw,?_,?_,O,Z⟩
 .rw[show v+E+1=v+(E+1) by omega];exact(D6 v (E+1) r).trans N
 have A:=runNT_fst P v (crowd #[G (Frame.enter P p B.toArray .normal) []] g q) #[];have H:(runNT P v (crowd #[G (Frame.enter P p B.toArray .normal) []] g q) #[]).1=.next (crowd av b.a V):=by have:runNT P v (crowd #[G (Frame.enter P p B.toArray .normal) []] g q) #[]=_:=r;grind
 grind[Go.Conc.solo_eq_crowd,runN_add]
def Rd.cT{gs}{n}(R:∀a∈gs,n.heap[a.1]?=h (.cells #[a.2.2] a.2.1 (0,0)))(v:∀a∈gs,∃A z,a.2.2=.iface A z){ab}{o}{i k}{b:Nat->p N}(F:∀(g j:Nat)d,(b g)[j]?=h d->∃kd x,d=N.int kd x)(J:Rd (a6.bA n).u ab (.S o i k b)):Rd (a6.cT gs n).u ab (.S m i k b):=by
 obtain⟨T,C,B,l,rfl,s,t,Q,K,M⟩:=J.jX;refine .h1 s t Q K λg I j d e=>?_;obtain⟨z,r,y⟩:=M g I j d e;obtain⟨kd,x,rfl⟩:=F g j d e;cases y with
 |int w=>
  refine⟨_,?_,.int w⟩;have r:n.cell? ⟨B,l+g*i+j,q⟩=h (.int kd x):=r;show(if B∈gs.map (·.1)then q else n.cell? _)=_;rw[bm,r];intro u;obtain⟨a,D,rfl⟩:=ho.1 u;obtain⟨A,z,E⟩:=v a D;simp[aL,R a D,E]at r;grind
end
section
open Go.ChangeShapes Go.WideShapes Go.ChangeAt Go.RowKit
def ab7{H:Type}{a:av×aa->H}{x}{N}{os}{s}{fn}{b}{i:p PathCond}{ry JC handsOn again}{r:au->Array aa->Prop}(Z:∀d g args,d.heap=g.heap->r d args->r g args)(own:ownKnob N.prog.godebug=q)(I:os.Started)(W:N.prog.funcs[s]?=h fn)(K:∃(d:au) (j:Tape) (e:Input),d.os=os/\(d.forCall j e).Shaped N.prog/\e.vars=[]/\Input.okWide N.prog (d.forCall j e) .any d.heap.size s e /\
   ((b.pre a N.prog fn i ry (d.forCall j e).memory e.args/\r (d.forCall j e).memory e.args)/\sizedMet a N.prog fn (OpenSpec.ofChange b) ry (d.forCall j e).memory e.args)/\x.holds N.prog (lone (Frame.enter N.prog s e.args .normal) [] (d.forCall j e)))(M:∀(l:au) (base:Nat) (args:Array aa) (n o:p (DataW H)) (w:p MemPlace),
   (∀(y:Nat) A u,fn.params[y]?=h A->args[y]?=h u->Value.okWide N.prog l .any base A u) ->
   DataW.Whole a N.prog fn.params.toList b.vars ry l args.toList n o w->l.ShapedOpen N.prog->r l args ->
   ∃v last t g k,runNT N.prog (v+1) (Conc.solo (Conc.G (Frame.enter N.prog s args .normal) []) l) #[]=(.ended t g,k)/\runN N.prog v (Conc.solo (Conc.G (Frame.enter N.prog s args .normal) []) l)=.next last /\
    step N.prog last=.ended t g/\Conc.Good N.prog (λu O=>b.post a N.prog fn ry JC handsOn again l args u O) last t g k):
  ReturnsInLeavingWide x N os s .any (λd args=>(b.pre a N.prog fn i ry d args/\r d args)/\sizedMet a N.prog fn (OpenSpec.ofChange b) ry d args) (b.post a N.prog fn ry JC handsOn again):=by refine returnsInLeavingWide_of_good own I K ?_;intro d j e _ V _ U S ad;obtain⟨_,_,_,X,R,_,_,_,_,Q⟩:=U;have J:X=fn:=uG (R.symm.trans W);subst J;obtain⟨⟨⟨n,o,w,C,L⟩,F⟩,ab⟩:=S;have T:=DataW.Whole.of_heap (w':=d.forCall j e) oX C;obtain⟨v,last,t,g,k,z,Y,E,B⟩:=M (d.forCall j e) d.heap.size e.args n o w Q T V (Z (d.forCall j e).memory (d.forCall j e) e.args rfl F);exact⟨v,last,t,g,k,z,Y,E,B.mono λu D=>ChangeSpec.post_blind D⟩
def aez(i){a}{b}{s}(d)(kinds)(e)(j)(iz)(D:s.holds a b)(A:∀z∈d,(s.withDomain z).holds a b)(B:s.wfByText b=f)(x:∀z∈d,(s.withDomain z).wfByText b=f)(v:s.laidByTextAt i a kinds e)(g:s.start=.entering)(l:s.noBlocks=m/\s.again=m)(n:a.checked.prog.mainIs=h (j.1,j.2.toList))(E:(!j.1&&j.2.isEmpty&&!iz)=m)(p:∀k fn,a.checked.prog.funcNamed s.func=h k->a.checked.prog.funcs[k]?=h fn->iz=a.checked.prog.looks []/\∀(y:Nat) t,fn.params[y]?=h t->a.checked.prog.wantsStandIn t=m)(C:f=s.goesBy a.checked.prog):
  Claim7.holds a (.plain b) {stood:={row:=s,standIns:=[],harness:=j,looks:=iz},kinds:=[],alts:=d,goes:=f,laidByText:=f,laidKinds:=kinds,laidTests:=e,laidLooks:=i}:=by
 have o:∀r:OpenClaim,Claim7.isSixth {stood:={row:=r,standIns:=[],harness:=j,looks:=iz},kinds:=[]}=m:=λr=>by exact cU
 refine⟨Claim7.tied_new_at i kinds e (Claim7.new_of_sixth D j iz g l n (o s) p) B,λz u=>?_,v,(λw=>by cases w),C⟩;exact Claim7.tied_new_at i kinds e (Claim7.new_of_sixth (A z u) j iz g l n (o _) p) (x z u)
end
namespace R1
def xY(b:bD)(a:Nat):Int:=(ds b a-97) % 256
def pO(b:bD)(a:Nat):Bool:=(xY b (a-1)+2*xY b (a-2)+3*xY b (a-3)) % 5==0
def lP(b:bD)(a:Nat):Nat->Nat
 |0=>min (a+8) (c b)
 |d+1=>if c b<=a+(7-d)then c b else if pO b (a+(7-d))then a+(7-d)else lP b a d
def en(b:bD)(a:Nat):Nat:=lP b a 5
def Ia(o)(a)(d:a<c o):∀b,b<=5->a<lP o a b/\lP o a b<=c o/\lP o a b<=a+8
 |0,_=>by simp only[lP];omega
 |b+1,e=>by
  simp only[lP];split
  .omega
  split
  .omega
  exact Ia o a d b y
theorem rJ(o)(a)(b:a<c o):a<en o a/\en o a<=c o/\en o a<=a+8:=Ia o a b 5 y
def lg(a:bD):Nat->Nat->p Nat
 |0,_=>[]
 |d+1,b=>if b<c a then en a b::lg a d (en a b)else[]
def SW(a:bD):p Nat:=lg a (c a) 0
def iA(b:bD):Nat->Nat->p bD
 |0,_=>[]
 |d+1,a=>if a<c b then(b.drop a).take (en b a-a)::iA b d (en b a)else[]
def cl(a:bD):p bD:=iA a (c a) 0
def iN(a:p bD):Option bD:=if fJ a.flatten&&(cl a.flatten==a)then h a.flatten else q
def cC(a:bD):Bool:=decide (1<=c a)&&decide (c a<=8)&&d6 a
def gi(d:bD):Int:=d.foldl (λb a=>27*b+((a.toNat:Int)-97) % 256+1) 0
def cF(a:Int):Bool:=decide (1<=a)&&decide (a<=99)
def d8(a:Int)(b:bD):Int:=(gi b*(2*a+1)+a*7919) % 999999999989
def e8(a:Nat):Nat:=if a<1∨8<a then 0 else if a<=2 then 2 else if a<=4 then 4 else 8
def fI(a:bD):bD:=if cC a then a++aY (e8 (c a)-c a) 46 else[]
def fk(a:bD):bD:=(a.reverse.dropWhile (·==46)).reverse
def hI(a:bD):Option bD:=if cC (fk a)&&(fI (fk a)==a)then h (fk a)else q
abbrev cY:=Int×bD
abbrev cb:=Int×p cY
def right(b:Int)(a:cY):Bool:=match hI a.2 with|some d=>d8 b d==a.1|none=>m
def Ek(b:p Int):Bool:=(aC (c b)).all λa=>a==0||decide (b.getD (a-1) 0<b.getD a 0)
def ib(b:Int)(a:cb):Bool:=
 decide (1<=a.1)&&decide (a.1<=99)&&cF b&&decide (1<=c a.2)&&decide (c a.2<=4)&&a.2.all (right b)&&Ek (a.2.map (·.1))
def iL(a:Int)(d:cY):Option bD:=match hI d.2 with|some b=>if cF a&&(d8 a b==d.1)then h b else q|none=>q
def fP(b:Int)(e:cb)(d:Int):Option bD:=match e.2.find? (λa=>a.1==d)with|some a=>iL b a|none=>q
def hH(b:cb)(a:p Int):cb:=(b.1,b.2.filter λd=>a.contains d.1)
def fC(e:p cY)(a:cY):p cY:=match e with
 |[]=>[a]
 |b::d=>if a.1<b.1 then a::b::d else b::fC d a
def jY(a e:Int)(b:p bD):cb:=(a,b.foldl (λg d=>fC g (d8 e d,fI d)) [])
abbrev fd:=Int×Int
def fU(a:fd):Bool:=decide (0<=a.1)&&decide (a.1<999999999989)&&decide (1<=a.2)&&decide (a.2<=99)
def eb(e:p fd)(a:fd):p fd:=match e with
 |[]=>[a]
 |b::d=>if b.1<a.1 then b::eb d a else a::(b::d).filter (λg=>!(g.1==a.1))
def iT(b:p fd)(d:Int):Int:=match b.find? (λa=>a.1==d)with|some a=>a.2|none=>0
def dH(b:p cb):p fd:=b.flatMap λa=>a.2.map λd=>(d.1,a.1)
def eA(a:p cb):p fd:=if(dH a).all fU then(dH a).foldl eb []else[]
abbrev m8:=bD×p Int
abbrev eI:=Int×p m8
def kS(b:Int)(a:c6):m8:=(a.1,(cl a.2).map (d8 b))
def fT(a b:Int)(d:p c6):eI:=(a,d.map (kS b))
def e1(d:Int)(e:p fd)(a:p bD)(b:bD):p bD:=if iT e (d8 d b)==0&&!a.contains b then a++[b]else a
def fS(b:Int)(e:p c6)(d:p fd):p bD:=(e.flatMap λa=>cl a.2).foldl (e1 b d) []
def df(b:Int)(a:p cb)(d:Int):Option bD:=a.findSome? λe=>fP b e d
def qI{b}(e:d6 b=f):∀a∈b,97<=a.toNat/\a.toNat<=122:=by intro a d;have:=aZ.1 e a d;simpa[ju]using this
def BW:∀(e:bD) (a d:Int)(i:Nat),(∀b∈e,97<=b.toNat/\b.toNat<=122)->0<=a->a<d->1<=d ->
  0<=e.foldl (λa b=>27*a+((b.toNat:Int)-97) % 256+1) a/\e.foldl (λa b=>27*a+((b.toNat:Int)-97) % 256+1) a<d*27 ^ c e
 |[],a,d,_,_,k,j,_=>by grind
 |b::e,a,d,i,g,k,j,p=>by obtain⟨o,l⟩:=g b E;have:=BW e (27*a+((b.toNat:Int)-97) % 256+1) (d*27) i (λn r=>g n M) y y y;grind[Int.mul_assoc]
def Lq:∀{k:Nat},k<=8->(27:Int) ^ k<=282429536481:=by
 intro k a
 match k,a with
 |0,_|1,_|2,_|3,_|4,_|5,_|6,_|7,_|8,_=>decide
def xE{b:bD}(d:cC b=f):0<=gi b/\gi b<282429536481:=by simp[cC,cp,bA]at d;obtain⟨e,a⟩:=BW b 0 1 0 (qI d.2) y y y;have:=Lq d.1.2;rw[Int.one_mul]at a;exact⟨e,Int.lt_of_lt_of_le a this⟩
def SU:∀a:Fin 200,a.val≠0->Nat.gcd 999999999989 a.val=1:=md
def aaY{x:Nat}{P s a}(b:P=(x:Int))(g:P ∣ s*a)(j:0<s)(l:s<P)(i:Nat.gcd x a.natAbs=1):False:=by
 subst b;have e:x ∣ s.natAbs*a.natAbs:=by have:=Int.natAbs_dvd_natAbs.2 g;grind[Int.natAbs_mul,Int.natAbs_natCast]
 have d:x ∣ s.natAbs:=Nat.Coprime.dvd_of_dvd_mul_right i e;have k:=Nat.le_of_dvd y d;omega
def Tp{a b P:Int}(d:a % P=b % P):P ∣ a-b:=Int.dvd_of_emod_eq_zero (by rw[Int.sub_emod,d,Int.sub_self,Int.zero_emod])
def pc(b:bD):Int:=b.foldr (λa d=>27*d+((a.toNat:Int)-97) % 256+1) 0
def HQ:∀a:bD,0<=pc a
 |[]=>by simp[pc]
 |b::a=>by have:=HQ a;simp[pc,List.foldr_cons]at *;omega
def HP:∀{R bd:bD},(∀a∈R,97<=a.toNat/\a.toNat<=122)->(∀a∈bd,97<=a.toNat/\a.toNat<=122)->pc R=pc bd->R=bd
 |[],[],_,_,_=>rfl
 |[],s::bd,_,b,d|s::bd,[],b,_,d=>by have:=HQ bd;simp[pc,List.foldr_cons,List.foldr_nil]at *;omega
 |a::R,s::bd,g,b,d=>by have k:=g a E;have l:=b s E;have i:=HP (R:=R) (bd:=bd) (λe j=>g e M) (λe j=>b e M);simp[pc,List.foldr_cons]at d i;grind[UInt8.toNat_inj]
def SO{a d}(g:cC a=f)(i:cC d=f)(k:gi a=gi d):a=d:=by
 have j:∀a,gi a=pc a.reverse:=λa=>by simp[gi,pc,List.foldr_reverse]
 simp[cC,cp]at g i;rw[j,j]at k;exact List.reverse_inj.1 (HP (λe b=>qI g.2 e (List.mem_reverse.1 b)) (λe b=>qI i.2 e (List.mem_reverse.1 b)) k)
def yI(n:cF i=f){j k}(o:cC j=f)(r:cC k=f)(g:d8 i j=d8 i k):j=k:=by
 refine SO o r ?_;simp[cF,cp,bA]at n;obtain⟨s,l⟩:=xE o;obtain⟨p,d1⟩:=xE r;have key:∀d e:Int,0<=d->0<=e->d<282429536481->d>e->(d*(2*i+1)+i*7919) % 999999999989=(e*(2*i+1)+i*7919) % 999999999989->False:=by intro d e z w v u g;have b:=Tp g;rw[show(d*(2*i+1)+i*7919)-(e*(2*i+1)+i*7919)=(d-e)*(2*i+1) by grind]at b;have t:(2*i+1).natAbs<200:=y;exact aaY (x:=999999999989) a b y y (SU ⟨_,t⟩ M)
 rcases Int.lt_trichotomy (gi j) (gi k)with b|b|b
 .exact(key _ _ p s d1 b g.symm).elim
 .exact b
 exact(key _ _ s p l b g).elim
theorem adg{a}(i:d6 a=f)(k):fk (a++aY k 46)=a:=by
 have j:∀k,List.dropWhile (·==46) ((aY k (46:UInt8))++a.reverse)=a.reverse:=by
  intro k;induction k with
  |zero=>
   simp[List.replicate_zero,qb];cases l:a.reverse with
   |nil=>rfl
   |cons b n=>
    have g:b∈a:=List.mem_reverse.1 M;have:=qI i b g;have d:(b==46)=m:=by simp[eY];rintro rfl;grind
    simp[d]
  |succ k e=>simpa[List.replicate_succ]using e
 unfold fk;grind
def abl{a}(b:cC a=f):hI (fI a)=h a:=by
 have e:d6 a=f:=by simp[cC,cp]at b;exact b.2
 have g:fI a=a++aY (e8 (c a)-c a) 46:=by simp[fI,b]
 have d:fk (fI a)=a:=by grind[adg]
 simp[hI,d,b]
def jA(a:p cY)(b d:Nat):p cY:=(a.set b (a.getD d (0,[]))).set d (a.getD b (0,[]))
def nE(a:p cY)(b d:Nat):Bool:=decide ((a.getD b (0,[])).1<(a.getD d (0,[])).1)
def i':Nat->p cY->Nat->p cY
  |0,b,_=>b
  |d+1,b,a=>if(a-1) / 2=a then b else if nE b a ((a-1) / 2)=f then i' d (jA b ((a-1) / 2) a) ((a-1) / 2)else b
def js(b:p cY)(a d:Nat):Nat:=if 2*a+2<d/\nE b (2*a+2) (2*a+1)=f then 2*a+2 else 2*a+1
def g9:Nat->p cY->Nat->Nat->p cY
  |0,a,_,_=>a
  |e+1,a,b,d=>if d<=2*b+1 then a else if nE a (js a b d) b=f then g9 e (jA a b (js a b d)) (js a b d) d else a
def hJ(a:p cY)(b:cY):p cY:=i' (c a+1) (a++[b]) (c a)
def hd(a:p cY):p cY:=g9 (c a) (jA a 0 (c a-1)) 0 (c a-1)
def kY:Nat->p cY->p cY
  |0,_=>[]
  |b+1,a=>if c a=0 then[]else(hd a).getD (c a-1) (0,[])::kY b ((hd a).take (c a-1))
def l_(a:p cY):p cY:=kY (c a) (a.foldl hJ [])
theorem pL(d)(e w):c (jA d e w)=c d:=by simp[jA]
def M9:∀a b d,c (i' a b d)=c b
  |0,_,_=>rfl
  |a+1,b,d=>by unfold i';split;rfl;split;rw[M9 a,pL];rfl
def Il:∀a b d e,c (g9 a b d e)=c b
  |0,_,_,_=>rfl
  |a+1,b,d,e=>by unfold g9;split;rfl;split;rw[Il a,pL];rfl
def Lv(d)(l):c (hJ d l)=c d+1:=by simp[hJ,M9]
theorem Ln(d):c (hd d)=c d:=by simp[hd,Il,pL]
def adk{d}(b:e<c d)(g:w<c d){l}:l∈jA d e w->l∈d:=by intro a;unfold jA at a;grind
def DR(l):hJ [] l=[l]:=cU
def DS(a l):hJ [a] l=if l.1<a.1 then[l,a]else[a,l]:=FQ
def Lu(a j l):hJ [a,j] l=if l.1<a.1 then[l,j,a]else[a,j,l]:=FQ
def abD(a j s l):hJ [a,j,s] l=if l.1<j.1 then(if l.1<a.1 then[l,a,s,j]else[a,l,s,j])else[a,j,s,l]:=FQ
def DQ(a){d ba}{l}(e:c d=k+1)(b:hd d=ba++[l])(g:c ba=k):kY (a+1) d=l::kY a ba:=by rw[kY,bm y,b];grind
def abw(a):kY 1 [a]=[a]:=cU
def Lo(b j):kY 2 [b,j]=[b,j]:=by rw[DQ 1 (ba:=[j]) (l:=b) (k:=1) a cU a,abw]
def Lp(b j s):kY 3 [b,j,s]=if j.1<s.1 then[b,j,s]else[b,s,j]:=by rw[DQ 2 (ba:=if j.1<s.1 then[j,s]else[s,j]) (l:=b) (k:=2) a (by simp[hd,g9,jA,js,nE];split<;>rfl) (by split<;>rfl)];split<;>rw[Lo]
def abx(d j s b):kY 4 [d,j,s,b]=d::kY 3 (if s.1<j.1 then(if s.1<b.1 then[s,j,b]else[b,j,s])else if j.1<b.1 then[j,b,s]else[b,j,s]):=by rw[DQ 3 (ba:=if s.1<j.1 then(if s.1<b.1 then[s,j,b]else[b,j,s])else if j.1<b.1 then[j,b,s]else[b,j,s]) (l:=d) (k:=3) a ?_ (by split<;>split<;>rfl)];by_cases e:s.1<j.1<;>by_cases g:s.1<b.1<;>by_cases i:j.1<b.1<;>simp[hd,g9,jA,js,nE,e,g,i]
theorem abH(d)(s:c d<=4)(j:d.Pairwise λa b=>a.1≠b.1):l_ d=d.foldl fC []:=by
  match d,s with
  |[],_=>rfl
  |[a],_=>exact cU
  |[a,b],_=>
    simp at j;simp[l_,List.foldl,DR,DS,fC,fp,gI];split<;>simp[Lo]
  |[a,b,e],_=>
    simp at j;obtain⟨⟨x,w⟩,y⟩:=j;simp[l_,List.foldl,DR,DS,fC,fp,gI];by_cases o:b.1<a.1<;>by_cases i:e.1<a.1<;>by_cases p:e.1<b.1<;>first|omega |
      (have n:(a.1<b.1)=¬(b.1<a.1):=by grind
       have k:(a.1<e.1)=¬(e.1<a.1):=M;have l:(b.1<e.1)=¬(e.1<b.1):=M
       simp[o,i,p,n,k,l,Lu,Lp,fC])
  |[a,b,e,g],_=>
    simp at j;obtain⟨⟨x,w,y⟩,⟨C,D⟩,B⟩:=j;simp[l_,List.foldl,DR,DS,fC,fp,gI];by_cases o:b.1<a.1<;>by_cases i:e.1<a.1<;>by_cases p:e.1<b.1<;>by_cases r:g.1<a.1<;>by_cases A:g.1<b.1<;>by_cases v:g.1<e.1<;>first|omega |
      (have n:(a.1<b.1)=¬(b.1<a.1):=by grind
       have k:(a.1<e.1)=¬(e.1<a.1):=M;have l:(b.1<e.1)=¬(e.1<b.1):=M;have t:(a.1<g.1)=¬(g.1<a.1):=M;have z:(b.1<g.1)=¬(g.1<b.1):=M;have u:(e.1<g.1)=¬(g.1<e.1):=M
       simp[o,i,p,r,A,v,n,k,l,t,z,u,Lu,abD,abx,Lp,fC])
def yJ{a:Type}[BEq a][LawfulBEq a]:∀(L b:p a),L.Nodup->(∀d∈L,d∈b)->c L<=c b
 |[],b,_,_=>gX _
 |e::L,b,o,j=>by
  obtain⟨n,l⟩:=List.nodup_cons.1 o;have i:=j e ir;have:=yJ L (b.erase e) l λd g=>by have:d≠e:=λk=>n (k▸g);exact(List.mem_erase_of_ne this).2 (j d (mt _ g))
  have k:=List.length_erase_of_mem i;have:=List.length_pos_of_mem i;simp[fp];omega
def A5:∀{k l:p Int},k.Pairwise (· < ·)->l.Pairwise (· < ·)->(∀e,e∈k↔e∈l)->k=l
 |[],[],_,_,_=>rfl
 |[],i::l,_,_,a=>by have:=(a i).2 ir;cases this
 |g::k,[],_,_,a=>by have:=(a g).1 ir;cases this
 |g::k,i::l,v,w,a=>by
  obtain⟨s,o⟩:=iF.1 v;obtain⟨t,r⟩:=iF.1 w;have d:=(a g).1 ir;have b:=(a i).2 ir;simp[e4]at d b;have u:g=i:=by
   rcases d with d|d
   .exact d
   rcases b with b|b
   .exact b.symm
   have:=s i b;have:=t g d;omega
  subst u;rw[A5 o r λe=>?_];have n:=a e;simp[e4]at n;constructor
  .intro C;have:=s e C;rcases n.1 (.inr C)with j|j
   .omega
   exact j
  intro C;have:=t e C;rcases n.2 (.inr C)with j|j
  .omega
  exact j
section
variable {r:aj V}
def Br:bL:=λargs a=>match args,a with
 |[.q (.aq (.c (.V b)))],[]=>h (bj (fQ b),[],[])
 |_,_=>q
def ady:bM r 63 Br:=by intro args g b d a e _;unfold Br at e;grind[WL]
def xq:bL:=λargs a=>match args,a with
 |[.q (.aq (.c (.V b)))],[]=>h (bj (fJ b),[],[])
 |_,_=>q
def t64:bM r 64 xq:=by intro args g b d a e _;unfold xq at e;grind[XH]
def Bs:bL:=λargs d=>match args,d with
 |[.q (.aq (.c (.V a))),.q (.aq (.c (.V b)))],[]=>h (bj (lc a b),[],[a≠[],b≠[]])
 |_,_=>q
def adz:bM r 65 Bs:=by
 intro args i e g d b a;unfold Bs at b;split at b
 .cases b;exact TZ _ _ a.1 a.2
 grind
def H7:p (Nat×bL):=(63,Br)::(64,xq)::(65,Bs)::HX
def lO:a9 r H7:=a9.cons ady (a9.cons t64 (a9.cons adz qn))
def cq(b:p c6)(a:Nat):bD:=(b.getD a ([],[])).1
def lz(b:p c6)(a:Nat):bD:=(b.getD a ([],[])).2
def kx(o)(e):(o.getD e bF.I).1=cq o e:=rfl
def tW(o)(e):(o.getD e bF.I).2=lz o e:=rfl
def i1(b:p c6)(a:Nat):Bool:=fQ (cq b a)&&fJ (lz b a)&&(a==0||aW (cq b (a-1)) (cq b a))&&(aC a).all λd=>!lc (cq b d) (cq b a)
def dP(a:p c6):Bool:=(aC (c a)).all (i1 a)&&decide (c a<=6)
def fN{b:Nat->Bool}:(aC k).all b=f↔∀a,a<k->b a=f:=M
def yX{b}(a:fQ b=f):b≠[]:=by rintro rfl;exact cU
def zz{o}(b:e<c o)(d:i1 o e=m):dP o=m:=by
 cases a:dP o with
 |false=>rfl
 |true=>
  simp only[dP,cp]at a;grind
def XK(o):Z r 32 [bF.S o] [] (bj (dP o)) []:=by
 refine Z.K func32 rfl λz=>?_;have D:=z.S 0 a;refine ca lO a v (g.eh (λb=>b<=c o/\∀e,e<b->i1 o e=f) (λb:Nat=>[(0,bF.S o),(3,S b)]) (λ_=>[]) (λb=>c o-b) 0 a FS ⟨by omega,by omega⟩ a ?_);rintro b ⟨w,x⟩;by_cases u:b<c o
 .by_cases j:fQ (cq o b)=f
  .by_cases I:fJ (lz o b)=f
   .by_cases k:b=0∨aW (cq o (b-1)) (cq o b)=f
    .apply g.cj [(0,bF.S o),(3,S b),(4,S 0)] []
     .intro b2;by_cases l:b=0
      .refine a' lO [(8,f),(16,f),(24,f),(29,m)] a ?_ (b2 _ _ a ?_)
       .simp[-al,u,kx,tW,j,I];omega
       simp[bu]
      have C:=k.resolve_left l;have s:a8 .i64 ((b:Int)-1):=cU;have A:((b:Int)-1).toNat=b-1:=y;refine a' lO [(8,f),(16,f),(24,f),(29,f),(42,m)] a PW (b2 _ _ a ?_);simp[bu]
     ·
      have B:i1 o b=(aC b).all (λe=>!lc (cq o e) (cq o b)):=by
       rcases k with rfl|C
       .simp[i1,j,I]
       simp[i1,j,I,C]
      refine g.eh (λe=>e<=b/\∀n,n<e->lc (cq o n) (cq o b)=m) (λe:Nat=>[(0,bF.S o),(3,S b),(4,S e)]) (λ_=>[]) (λe=>b-e) 0 a FS ⟨by omega,by omega⟩ a ?_;rintro e ⟨J,F⟩;by_cases i:e<b
      .have d:fQ (cq o e)=f:=by have:=x e i;simp only[i1,cp]at this;exact this.1.1.1
       cases p:lc (cq o e) (cq o b)with
       |true=>
        refine a' lO [(47,f),(60,f)] a ?_ (g.bV (g.dN (bW.zero a ?_)))
        .simp[-al,u,i,kx,p,yX j,yX d];omega
        have:i1 o b=m:=M;simp[zz u this]
       |false=>
        refine a' lO [(47,f),(60,m)] a ?_ (g.again (e+1) a ?_ ?_ ?_ a)
        .simp[-al,u,i,kx,p,yX j,yX d,a8];omega
        .simp[bu]
        .grind
        omega
      have i:e=b:=y;subst i;refine a' lO [(47,m)] a E (g.bu a a ?_);exact ca lO a cU (g.again (e+1) a FS M y a)
    have l:b≠0:=λt=>k (.inl t);have C:aW (cq o (b-1)) (cq o b)=m:=M;have s:a8 .i64 ((b:Int)-1):=cU;have A:((b:Int)-1).toNat=b-1:=y;refine a' lO [(8,f),(16,f),(24,f),(29,f),(42,f)] a PW (g.bV (bW.zero a ?_));simp[U,zz u (by simp[i1,l,C])]
   refine a' lO [(8,f),(16,f),(24,m)] a ?_ (g.bV (bW.zero a ?_))
   .simp[-al,u,kx,tW,j,I]
   simp[U,zz u (by simp[i1,I])]
  refine a' lO [(8,f),(16,m)] a ?_ (g.bV (bW.zero a ?_))
  .simp[-al,u,kx,j]
  simp[U,zz u (by simp[i1,j])]
 refine a' lO [(8,m)] a bV (g.bu a a ?_);refine ca lO a v (g.aw a ?_);simp only[U,dP];grind
end
section
open Go.Proofs Go.Conc.Lib
def q2:WgLink:={add:=228,done:=230,wait:=232,relMerge:=261,disable:=262,enable:=263,inBubble:=264,associate:=265,fatal:=266,uOr:=267,uAdd:=268,raceRead:=269,uLoad:=270,uStore:=271,disassociate:=272,semrelease:=273,acquire:=275,isAssociated:=276,uCas:=277,raceWrite:=278,semacquire:=279,orU64:=296,addU64:=297,loadU64:=298,storeU64:=299,casU64:=302,tWgP:=325,tUP:=199,tAssoc:=327,tWg:=291,tAU:=289,tU64:=282,tUint:=222,tU32:=280,tPU32:=331,tPAU:=359,tPU64:=361,tNoCopy:=285,tANoCopy:=286,tAlign64:=287}
def wl:WgLib V q2 where
 f_add:=Tryz.func228.trans (eM h b3)
 f_done:=Tryz.func230.trans (eM h b3)
 f_wait:=Tryz.func232.trans (eM h b3)
 f_relMerge:=Tryz.func261.trans (eM h b3)
 f_disable:=Tryz.func262.trans (eM h b3)
 f_enable:=Tryz.func263.trans (eM h b3)
 f_inBubble:=Tryz.func264.trans (eM h b3)
 f_associate:=Tryz.func265.trans (eM h b3)
 f_fatal:=Tryz.func266.trans (eM h b3)
 f_uOr:=Tryz.func267.trans (eM h b3)
 f_uAdd:=Tryz.func268.trans (eM h b3)
 f_raceRead:=Tryz.func269.trans (eM h b3)
 f_uLoad:=Tryz.func270.trans (eM h b3)
 f_uStore:=Tryz.func271.trans (eM h b3)
 f_disassociate:=Tryz.func272.trans (eM h b3)
 f_semrelease:=Tryz.func273.trans (eM h b3)
 f_acquire:=Tryz.func275.trans (eM h b3)
 f_isAssociated:=Tryz.func276.trans (eM h b3)
 f_uCas:=Tryz.func277.trans (eM h b3)
 f_raceWrite:=Tryz.func278.trans (eM h b3)
 f_semacquire:=Tryz.func279.trans (eM h b3)
 f_orU64:=Tryz.func296.trans (eM h b3)
 f_addU64:=Tryz.func297.trans (eM h b3)
 f_loadU64:=Tryz.func298.trans (eM h b3)
 f_storeU64:=Tryz.func299.trans (eM h b3)
 f_casU64:=Tryz.func302.trans (eM h b3)
 underlying_tWgP:=Tryz.underlying325
 runUnderlying_tWgP:=Tryz.runUnderlying325
 sizeOf_tWgP:=Tryz.sizeOf325
 isAgg_tWgP:=Tryz.isAgg325
 zeroValue_tWgP:=Tryz.zeroValue325
 underlying_tUP:=Tryz.underlying199
 runUnderlying_tUP:=Tryz.runUnderlying199
 sizeOf_tUP:=Tryz.sizeOf199
 isAgg_tUP:=Tryz.isAgg199
 zeroValue_tUP:=Tryz.zeroValue199
 underlying_tI32:=Tryz.underlying327
 runUnderlying_tI32:=Tryz.runUnderlying327
 sizeOf_tI32:=Tryz.sizeOf327
 isAgg_tI32:=Tryz.isAgg327
 zeroValue_tI32:=Tryz.zeroValue327
 underlying_tWg:=Tryz.underlying291
 runUnderlying_tWg:=Tryz.runUnderlying291
 sizeOf_tWg:=Tryz.sizeOf291
 isAgg_tWg:=Tryz.isAgg291
 zeroValue_tWg:=Tryz.zeroValue291
 underlying_tAU:=Tryz.underlying289
 runUnderlying_tAU:=Tryz.runUnderlying289
 sizeOf_tAU:=Tryz.sizeOf289
 isAgg_tAU:=Tryz.isAgg289
 zeroValue_tAU:=Tryz.zeroValue289
 underlying_tU64:=Tryz.underlying282
 runUnderlying_tU64:=Tryz.runUnderlying282
 sizeOf_tU64:=Tryz.sizeOf282
 isAgg_tU64:=Tryz.isAgg282
 zeroValue_tU64:=Tryz.zeroValue282
 underlying_tSh:=Tryz.underlying222
 runUnderlying_tSh:=Tryz.runUnderlying222
 sizeOf_tSh:=Tryz.sizeOf222
 isAgg_tSh:=Tryz.isAgg222
 zeroValue_tSh:=Tryz.zeroValue222
 underlying_tU32:=Tryz.underlying280
 runUnderlying_tU32:=Tryz.runUnderlying280
 sizeOf_tU32:=Tryz.sizeOf280
 isAgg_tU32:=Tryz.isAgg280
 zeroValue_tU32:=Tryz.zeroValue280
 underlying_tPU32:=Tryz.underlying331
 runUnderlying_tPU32:=Tryz.runUnderlying331
 sizeOf_tPU32:=Tryz.sizeOf331
 isAgg_tPU32:=Tryz.isAgg331
 zeroValue_tPU32:=Tryz.zeroValue331
 underlying_tPAU:=Tryz.underlying359
 runUnderlying_tPAU:=Tryz.runUnderlying359
 sizeOf_tPAU:=Tryz.sizeOf359
 isAgg_tPAU:=Tryz.isAgg359
 zeroValue_tPAU:=Tryz.zeroValue359
 underlying_tPU64:=Tryz.underlying361
 runUnderlying_tPU64:=Tryz.runUnderlying361
 sizeOf_tPU64:=Tryz.sizeOf361
 isAgg_tPU64:=Tryz.isAgg361
 zeroValue_tPU64:=Tryz.zeroValue361
 underlying_t0:=Tryz.underlying0
 runUnderlying_t0:=Tryz.runUnderlying0
 sizeOf_t0:=Tryz.sizeOf0
 isAgg_t0:=Tryz.isAgg0
 zeroValue_t0:=Tryz.zeroValue0
 underlying_t3:=Tryz.underlying3
 runUnderlying_t3:=Tryz.runUnderlying3
 sizeOf_t3:=Tryz.sizeOf3
 isAgg_t3:=Tryz.isAgg3
 zeroValue_t3:=Tryz.zeroValue3
 underlying_t4:=Tryz.underlying4
 runUnderlying_t4:=Tryz.runUnderlying4
 sizeOf_t4:=Tryz.sizeOf4
 isAgg_t4:=Tryz.isAgg4
 zeroValue_t4:=Tryz.zeroValue4
 underlying_t9:=Tryz.underlying9
 runUnderlying_t9:=Tryz.runUnderlying9
 sizeOf_t9:=Tryz.sizeOf9
 isAgg_t9:=Tryz.isAgg9
 zeroValue_t9:=Tryz.zeroValue9
 underlying_t20:=Tryz.underlying20
 runUnderlying_t20:=Tryz.runUnderlying20
 sizeOf_t20:=Tryz.sizeOf20
 isAgg_t20:=Tryz.isAgg20
 zeroValue_t20:=Tryz.zeroValue20
 underlying_t21:=Tryz.underlying21
 runUnderlying_t21:=Tryz.runUnderlying21
 sizeOf_t21:=Tryz.sizeOf21
 isAgg_t21:=Tryz.isAgg21
 zeroValue_t21:=Tryz.zeroValue21
 room_tWg:=b3
 room_tU32:=b3
end
end R1
def b6.imp{i g}{bh a}(j:∀e,bz n b e i->bz n b e g)(k:∀B,b6 n b B bh->b6 n b B a):∀B,b6 n b B (i::bh)->b6 n b B (g::a)
 |[],d=>d.elim
 |e::B,d=>⟨j e d.1,k B d.2⟩
abbrev xT(a:c6):z:=.q (.agg [.c (.V a.1),.c (.V a.2)])
abbrev r9(a:p c6)(b:Bool):z:=.Q [.aq (.c (.S m 2 (c a) (bF.fn a))),.aq (.c (.bool b))]
namespace R1
variable {r:aj V}
def sP:bL:=λargs d=>match args,d with
 |[e],[]=>match j2 2 e with
  |none=>q
  |some (a,b)=>h (bj (dP (bF.af a b)),[],[bF.bW a b])
 |_,_=>q
def t32:bM r 32 sP:=by
 intro args k e g d a b;unfold sP at a;split at a
 .split at a
  .cases a
  rename_i l n i;cases a;exact(XK _ ).args (λ_ B=>b6.imp (λ_=>bF.cE i b) (λ_ j=>j) B)
 grind
def H8:p (Nat×bL):=(32,sP)::H7
def SP:a9 r H8:=a9.cons t32 lO
end R1
def c1.a0(a:c1 α)(d)(l):bu (c d+1) (cg (c d) (a.fn d) (λb=>[a.a8 l].getD b [])) (a.fn (d++[l])):=by intro b e;unfold cg c1.fn gB;grind
@[simp] theorem bu.same{a:Nat->p N}:bu k a a:=λ_ _=>rfl
@[simp] theorem bu.nil{a b:Nat->p N}:bu 0 a b:=λe d=>by omega
namespace R1
variable {r:aj V}
def H9:p (Nat×bL):=H8
def SQ:a9 r H9:=SP
end R1
def kF.f'{args}(i:kF args n)(l:Nat){ah}(d:args[l]?=h (.q (.agg ah)))(j:Nat){o}{p}(b:ah[j]?=h (O.c (.S o p k T))):k<=9223372036854775807:=by obtain⟨r,t,g⟩:=i.at d;obtain⟨B,_,a⟩:=g;obtain⟨s,_,e⟩:=bN.get a b;cases e<;>omega
namespace R1
def kL{R:Nat->Bool}(a:e<k)(b:R e=m):(aC k).all R=m:=M
def iJ{R:Nat->Bool}(b:∀a,a<e->R a=f)(g:R e=f):∀a,a<e+1->R a=f:=λa d=>by grind
end R1
def dL.put(a b:Int):dL->dL
 |.nil=>.ax .nil a b .nil
 |.ax d l g e=>if a<l then .ax (d.put a b) l g e else if l<a then .ax d l g (e.put a b)else .ax d a b e
def dL.af:dL->p (Int×Int)
 |.nil=>[]
 |.ax a d e b=>a.af++(d,e)::b.af
def dL.find(a:Int):dL->Int
 |.nil=>0
 |.ax d b g e=>if a=b then g else if a<b then d.find a else e.find a
namespace R1
theorem abL{d}{b}(g:∀a∈d,a.1<b.1):eb d b=d++[b]:=by
 induction d with
 |nil=>rfl
 |cons j i e=>
  simp[eb];grind
def Lz{d a}{b}(i:∀e∈d,e.1<b.1):eb (d++a) b=d++eb a b:=by
 induction d with
 |nil=>rfl
 |cons j d g=>
  simp[uF,eb];grind
def abO{d ba}{b}(g:∀a∈ba,b.1<a.1):eb (d++ba) b=eb d b++ba:=by
 have l:ba.filter (λi=>!(i.1==b.1))=ba:=sr.2 λa k=>by grind
 induction d with
 |nil=>
  cases ba with
  |nil=>rfl
  |cons e ba=>
   have:=g e ir;simp[qb,eb];grind
 |cons e d j=>
  simp[uF,eb];grind
abbrev dL.fq(a:dL):Prop:=a.af.Pairwise λb d=>b.1<d.1
theorem DV{g j}:∀{o:dL},dL.fq o->(o.put g j).af=eb o.af (g,j)
 |.nil,_=>rfl
 |.ax d e i ba,r=>by
  obtain⟨t,p,u⟩:=nd.1 r;have s:=iF.1 p;have n:∀a∈d.af,a.1<e:=λa b=>u a b (e,i) ir;simp[dL.put,dL.af];split
  .rename_i k;simp[dL.af];rw[DV (o:=d) t,abO (ba:=(e,i)::ba.af)];grind
  split
  .rename_i _ k;simp[dL.af];rw[DV (o:=ba) s.2,Lz (d:=d.af) λa b=>by grind];simp[eb];grind
  have l:g=e:=y;subst l;simp[dL.af];rw[Lz (d:=d.af) λa b=>n a b];simp only[eb];rw[bm E,sA,bm E,sr.2 λa b=>by grind]
theorem abQ{d}{b}(k:d.Pairwise λe a=>e.1<a.1):(eb d b).Pairwise (λe a=>e.1<a.1)/\∀g∈eb d b,g=b∨g∈d:=by
 induction d with
 |nil=>simp[eb]
 |cons a o i=>
  obtain⟨l,j⟩:=iF.1 k;obtain⟨n,ce⟩:=i j;simp[eb];grind[List.pairwise_cons]
def CP{k}:∀{o:dL},dL.fq o->o.find k=iT o.af k
 |.nil,_=>rfl
 |.ax b d r p,n=>by obtain⟨i,e,j⟩:=nd.1 n;have g:=iF.1 e;have t:∀a∈b.af,a.1<d:=λa l=>j a l (d,r) ir;simp[dL.find,dL.af];have s:=CP (k:=k) (o:=b) i;have ce:=CP (k:=k) (o:=p) g.2;unfold iT at *;grind
end R1
namespace R1
section
variable {r:aj V}
def mQ(b:c6)(a:p c6×Bool)(d:bD):p c6×Bool:=if a.2=f then a else if aW d b.1=f then a else(a.1++[b],f)
def y3(d:c6)(a:p c6×Bool)(b:c6):p c6×Bool:=if b.1=d.1 then a else(a.1++[b],a.2)
def r5(b:c6)(a:p c6×Bool)(d:c6):p c6×Bool:=y3 b (mQ b a d.1) d
def mR(a:c6)(b:p c6):p c6×Bool:=b.foldl (r5 a) ([],m)
def lq(b:p c6)(a:c6):p c6:=if(mR a b).2=f then(mR a b).1 else(mR a b).1++[a]
theorem pj{o}(b:e<c o):o[e]=(cq o e,lz o e):=by have a:o.getD e ([],[])=o[e]:=M;simp only[cq,lz,a]
def abG{a}{o}(b:e<c o):mR a (o.take (e+1))=r5 a (mR a (o.take e)) (cq o e,lz o e):=by rw[w6,bK b,pj b];simp[mR]
def Lw(a)(uJ)(C):(mQ a uJ C).1.length<=c uJ.1+1:=z8
def abF(a)(uJ)(C):(y3 a uJ C).1.length<=c uJ.1+1:=by unfold y3;grind
def Lx(b):∀e(a:p c6×Bool),(e.foldl (r5 b) a).1.length<=c a.1+2*c e
 |[],a=>by simp
 |d::g,a=>by
  have i:=Lx b g (r5 b a d);have j:=Lw b a d.1;have k:=abF b (mQ b a d.1) d;simp only[iI,fp];have:(r5 b a d).1.length<=c a.1+2:=by unfold r5;omega
  omega
abbrev xV(b:Nat)(a:p c6):z:=.q (.aq (.r b 2 (c a) (bF.fn a)))
abbrev nh(a:p c6):an:=.r 105 2 (c a) (bF.fn a)
def WV(o)(ae)(F:c o<=4000000):Z r 103 [bF.S o,xT ae] [] (xV 0 (lq o ae)) [nh (lq o ae)]:=by
 refine Z.K func103 rfl λD=>?_;refine a0 a v (g.bO 5 105 2 a a ?_);let O:Nat->p c6×Bool:=λe=>mR ae (o.take e);have t:∀e,e<=c o->(O e).1.length<=8000000:=by intro e l;have:=Lx ae (o.take e) ([],m);simp at this;show(mR ae (o.take e)).1.length<=_;unfold mR;omega
 refine g.cc (λe=>e<=c o) (λe:Nat=>[(0,bF.S o),(3,aH 0 0),(7,S e),(5,xV 1 (O e).1),(6,bj (O e).2)]) (λe=>[.cells 105 [.c (.V ae.1),.c (.V ae.2)],nh (O e).1]) (λe=>c o-e) 0 a ?_ a ?_ y ?_
 .simp[bu,O,mR]
 .simp[bu,O,mR]
 intro e l;by_cases u:e<c o
 .have A:O (e+1)=r5 ae (O e) (cq o e,lz o e):=abG u;have z:=t e l;generalize O e=b at *;have B:=Lw ae b (cq o e);apply g.cj [(0,bF.S o),(3,aH 0 0),(7,S e),(5,xV 1 (mQ ae b (cq o e)).1),(6,bj (mQ ae b (cq o e)).2)] [.cells 105 [.c (.V ae.1),.c (.V ae.2)],nh (mQ ae b (cq o e)).1]
  .intro b2;cases s:b.2 with
   |true=>
    have k:mQ ae b (cq o e)=b:=z8;rw[k]at b2;refine bR [(12,f),(15,f),(1000009,f)] a g4 (b2 _ _ a ?_);exact bw
   |false=>
    cases x:aW (cq o e) ae.1 with
    |true=>
     have k:mQ ae b (cq o e)=b:=z8;rw[k]at b2;refine bR [(12,f),(15,m),(25,m),(1000009,f)] a ?_ (b2 _ _ a ?_)
     .simp[-al,u,kx,x]
     exact bw
    |false=>
     have k:mQ ae b (cq o e)=(b.1++[ae],f):=z8;rw[k]at b2;refine bR [(12,f),(15,m),(25,f),(1000009,f)] a ?_ (g.bg _ a ?_ (b2 _ _ a ?_))
     .simp[-al,u,kx,x,qC];omega
     .exact Qt
     exact Qt
  have w:O (e+1)=y3 ae (mQ ae b (cq o e)) (cq o e,lz o e):=A;generalize mQ ae b (cq o e)=i at *;by_cases n:cq o e=ae.1
  .have j:O (e+1)=i:=by rw[w];exact bs n
   refine bR [(38,m)] a ?_ (g.b5 (e+1) a ?_ a ?_ ?_ ?_)
   .simp[-al,u,kx,n,a8];omega
   .simp_all
   .simp_all
   .omega
   omega
  have j:O (e+1)=(i.1++[(cq o e,lz o e)],i.2):=by rw[w];exact bm n
  refine bR [(38,f)] a ?_ (g.b5 (e+1) a ?_ a ?_ ?_ ?_)
  .simp[-al,u,kx,n,a8,qC];omega
  .exact PR
  .exact PR
  .omega
  omega
 have:e=c o:=y;subst this;have C:O (c o)=mR ae o:=M;have z:=t (c o) (bB _);refine a7 [(12,m)] a E (g.bu a a ?_);have d:lq o ae=if(O (c o)).2=f then(O (c o)).1 else(O (c o)).1++[ae]:=hz;cases s:(O (c o)).2 with
 |true=>
  rw[s,bs a]at d;refine a7 [(46,f)] a E (g.bg [.cells 105 [.c (.V ae.1),.c (.V ae.2)],nh (lq o ae)] a dD (g.aS [1] a dD ?_));grind
 |false=>
  rw[s,bm E]at d;refine a7 [(46,m)] a ?_ (g.bg [.cells 105 [.c (.V ae.1),.c (.V ae.2)],nh (lq o ae)] a ?_ (g.aS [1] a ?_ ?_))
  .simp[qC];omega
  .exact O6
  .exact O6
  grind
end
end R1
def bu.app0{b a:Nat->p N}:bu k (cg 0 b a) a:=λd _=>by simp[cg]
namespace R1
variable {r:aj V}
def Ba:bL:=λargs g=>match args,g with
 |[i,.q (.agg [.c (.V a),.c (.V b)])],[]=>match j2 2 i with
  |none=>q
  |some (d,e)=>h (xV 0 (lq (bF.af d e) (a,b)) ,[ nh (lq (bF.af d e) (a,b))],[bF.bW d e,c ((bF.af d e))<=4000000])
 |_,_=>q
def adl:bM r 103 Ba:=by
 intro args k g i e a b;unfold Ba at a;split at a
 .split at a
  .cases a
  rename_i l n j;cases a;exact(WV _ _ (b.2)).args (λ_ B=>b6.imp (λ_=>bF.cE j b.1) (b6.imp (λ_ d=>d) (λ_ d=>d)) B)
 cases a
def H_:p (Nat×bL):=(103,Ba)::H9
def sT:a9 r H_:=a9.cons adl (SQ)
def jB(a:p c6)(b d:bD):p c6×Bool:=
 if dP a=f/\fQ b=f/\fJ d=f then(if dP (lq a (b,d))=f then(lq a (b,d),f)else(a,m))else([],m)
abbrev aeu(d:Nat)(a:p c6)(b:Bool):z:=.Q [.aq (.r d 2 (c a) (bF.fn a)),.aq (.c (.bool b))]
def M2{o}(a:dP o=f):c o<=6:=by simp only[dP,cp,bA]at a;omega
def Jf(o)(b l):Z r 59 [bF.S o,b1 b,b1 l] [] (aeu 0 (jB o b l).1 (jB o b l).2) [nh (jB o b l).1]:=by
 refine Z.K func59 rfl λs=>?_;have d:¬(dP o=f/\fQ b=f/\fJ l=f)->jB o b l=([],m):=λp=>bm p;cases e:dP o with
 |false=>
  rw[d M];refine a' sT [(10,m)] a ?_ ?_
  .simp[bF.E,bF.U,e]
  exact Fj
 |true=>
  have t:=M2 e;cases i:fQ b with
  |false=>
   rw[d M];refine a' sT [(10,f),(14,m)] a ?_ ?_
   .simp[bF.E,bF.U,e,i]
   exact Fj
  |true=>
   cases n:fJ l with
   |false=>
    rw[d M];refine a' sT [(10,f),(14,f),(19,m)] a ?_ ?_
    .simp[bF.E,bF.U,e,i,n]
    exact Fj
   |true=>
    have j:jB o b l=if dP (lq o (b,l))=f then(lq o (b,l),f)else(o,m):=bs ⟨e,i,n⟩;cases k:dP (lq o (b,l))with
    |true=>
     rw[k,bs a]at j;rw[j];refine a' sT [(10,f),(14,f),(19,f),(29,f)] a ?_ (g.bg [nh (lq o (b,l))] a ?_ (g.aS [0] a ?_ ?_))
     .simp[bF.E,bF.U,e,i,n,k];omega
     .simp[bF.E]
     .simp[bF.E]
     grind
    |false=>
     rw[k,bm E]at j;rw[j];refine a' sT [(10,f),(14,f),(19,f),(29,m)] a ?_ (g.bg [nh (lq o (b,l)),nh o] a ?_ (g.aS [1] a ?_ ?_))
     .simp[bF.E,bF.U,e,i,n,k,qC];omega
     .simp[bF.E,bu.app0]
     .simp[bu.app0]
     grind
def XL(o)(b l):Z r 59 [bF.S o,b1 b,b1 l] [] (r9 (jB o b l).1 (jB o b l).2) []:=
 (Jf o b l).b2 a E a
def Bq:bL:=λargs g=>match args,g with
 |[i,.q (.aq (.c (.V d))),.q (.aq (.c (.V e)))],[]=>match j2 2 i with
  |none=>q
  |some (a,b)=>h (r9 (jB (bF.af a b) d e).1 (jB (bF.af a b) d e).2,[],[bF.bW a b])
 |_,_=>q
def t59:bM r 59 Bq:=by
 intro args k g i e a d;unfold Bq at a;split at a
 .split at a
  .cases a
  rename_i l n j;cases a;exact(XL _ _ _ ).args (λ_ B=>b6.imp (λ_=>bF.cE j d) (b6.imp (λ_ b=>b) (b6.imp (λ_ b=>b) (λ_ b=>b))) B)
 cases a
def H':p (Nat×bL):=(59,Bq)::H_
def SR:a9 r H':=a9.cons t59 (sT)
end R1
def tK(a:p N)(d:Nat):Nat×(Nat->p N):=match c' d a with|some (.S _ _ e b)=>(e,b)|_=>(0,λ_=>[])
def aB:c1 Int:={bl:=1,a8:=λb=>[.int .i64 b],cp:=λa=>tf a 0,I:=0,inv:=λ_=>rfl,len:=λ_=>rfl}
def bS:c1 bD:={bl:=1,a8:=λb=>[.V b],cp:=λa=>v6 a 0,I:=[],inv:=λ_=>rfl,len:=λ_=>rfl}
namespace R1
def bI:c1 cY:={bl:=2,a8:=λb=>[.int .i64 b.1,.V b.2],cp:=λa=>(tf a 0,v6 a 1),I:=(0,[]),inv:=λ_=>rfl,len:=λ_=>rfl}
def e6:c1 fd:={bl:=2,a8:=λb=>[.int .i64 b.1,.int .i64 b.2],cp:=λa=>(tf a 0,tf a 1),I:=(0,0),inv:=λ_=>rfl,len:=λ_=>rfl}
abbrev lr(a:cb):N:=.S m 2 (c a.2) (bI.fn a.2)
def a2:c1 cb:={bl:=2,a8:=λb=>[.int .i64 b.1,lr b],cp:=λa=>(tf a 0,bI.af (tK a 1).1 (tK a 1).2),I:=(0,[]),inv:=λb=>by show(b.1,bI.af (c b.2) (bI.fn b.2))=b;rw[bI.E],len:=λ_=>rfl}
def cy:c1 m8:={bl:=2,a8:=λd=>[.V d.1,.S m 1 (c d.2) (aB.fn d.2)],cp:=λa=>(v6 a 0,aB.af (tK a 1).1 (tK a 1).2),I:=([],[]),inv:=λb=>by show(b.1,aB.af (c b.2) (aB.fn b.2))=b;rw[aB.E],len:=λ_=>rfl}
def bk:c1 eI:={bl:=2,a8:=λd=>[.int .i64 d.1,.S m 2 (c d.2) (cy.fn d.2)],cp:=λa=>(tf a 0,cy.af (tK a 1).1 (tK a 1).2),I:=(0,[]),inv:=λb=>by show(b.1,cy.af (c b.2) (cy.fn b.2))=b;rw[cy.E],len:=λ_=>rfl}
def a3:c1 (Int×Int):=e6
abbrev fG(a:cb):z:=.q (.agg [.c (.int .i64 a.1),.c (lr a)])
abbrev xR(a:Option bD):z:=.q (.agg [.c (.V (a.getD [])),.c (.bool a.isSome)])
end R1
end Go.AM
