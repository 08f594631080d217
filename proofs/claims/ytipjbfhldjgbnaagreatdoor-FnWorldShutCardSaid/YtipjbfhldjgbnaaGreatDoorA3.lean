/- Part 3. No condition. -/
import Derived.Test.YtipjbfhldjgbnaaGreatDoorA2
import Derived.Laws.Externs
import Derived.Lib.Builder
import Derived.Conc.Beside
import Derived.Conc.CrowdRun
import Derived.Conc.WgGenN2
import Derived.Conc.WgGenN3
import Derived.Conc.LeavingOf
import Derived.Below
import Derived.ProofKit
import Derived.OpenShut
import Derived.OpenVars
import Derived.LaidMore
import Derived.Lay
import Derived.SevenTiedAt
set_option linter.all false
set_option maxHeartbeats 8000000
open Go.Proofs
open Go.Proofs.Tryz
open Go.Conc (G)
open List renaming length → c, range → aB, replicate → aY, getD_eq_getElem?_getD → al
open Go renaming Value → Z, TypeId → aq, Event → aT, undef → K, World → au, Frame → aL, FuncId → a3, execOp → ac, Operand → aA, Program → aI, Goroutine → ak, stepG → ar, Oper → ap
open Option renaming some → f, none → p
open Bool renaming true → m, false → v
open Nat renaming beq → af, ble → ay
open Go.Region renaming wanted → aU
open Go.World renaming cell? → aM
open Go.Op renaming bytesLess → aW
open Go.Sem renaming events_bind → aF
open Go.Result renaming evThen_ok → aK
open Go.Instr renaming sliceBounds → aX
open Go.Proofs.Tryz renaming prog → T
open Go.MemAct renaming ofEvent → aN
open Go.Conc renaming stepG_seq → ax, stepG_region_end → aE
namespace Go.AM
variable {j z:Nat}{h:Int}{d i e u:Nat}{W:aq}{H:Z->(Nat->Option Obj)->Prop}{L:Array Bool}{bD:Mem}{D:Nat}{P:aI}{bq:ak->a5->Prop}{r:Code}{B:ak}{s:ap}{b:a5}{o:aq}{aa:Z}{k X:aA}{α:Type}{η:aA->y}{ι:Type}{l:n an}{F:bI}{all:n ap}{dn:Array aq}{cap:n O}{cR:n y}{lc:Nat->Option Obj}{ai:n aL}{bg:n (Nat×Bool)}{V:Nat->n O}{cP:aA}{gs:Array ak}{aS:n Nat}{cg:n Prop}{off:Nat}{op:BinOp}{aH:Array ap}{ab:n Prop}{bs:n ap}{az:a5}{ty:aq}{val:Nat->Nat->Z}{A:n Z}{bj:au}{ah:Array aA}{ao de:n an}{res:ι->y}{aO:ι->n an}
variable {CT:n (Nat×bK)}{av:n ik}{be:fv}{ad:n (Nat×bv)}{a4:bv}
section
variable {q:ag P}{bc:n (Nat×bv)}{ad:aq}{I:Bool}{v1:Z}{bP:Option (Nat×Nat)}{ah:n UInt8}{h:Nat}
def Jq{P}{i s}{o}{h}:∀(A:n Z)a(g:Array Z)d(b:Array aT),d.heap[i]?=f (.cells g o h)->h.2<=s+a->s+a+c A<=g.size->(∀e∈A,e.oneCell'=m) ->
  ∀k∈(storeCells ⟨i,s,p⟩ A a).events P d b,k∈b∨∃l,a<=l/\l<a+c A/\k=t1 i (s+l)
 |[],_,_,_,_,_,_,_,_=>λk q=>.inl cQ
 |e::j,a,g,d,b,B,F,I,r=>λk q=>by
  have bp:s+a<g.size:=N;have t:d.cell? ⟨i,s+a,p⟩=f g[s+a]:=Ob;have C:d.frozen? ⟨i,s+a,p⟩=v:=by obtain⟨y,D⟩:=h;simp[World.frozen?,B,AK,dv];grind
  have u:(store (⟨i,s+a,p⟩:Addr) e).run P d=.ok () (d.setRow i (g.setIfInBounds (s+a) e)):=N3;have w:(store (⟨i,s+a,p⟩:Addr) e).events P d b=b.push (t1 i (s+a)):=by rw[events_store P d b _ e _ (r e E),t];exact hu
  simp[storeCells,aF,gQ,u,w,aK]at q;rcases Jq j (a+1) (g.setIfInBounds (s+a) e) _ _ (setRow_heap _ _ _ _ _ _ B) x N (λz M=>r z N) k q with J|⟨l,Q,K,rfl⟩
  .grind
  grind
def m5.at{L}{i B cap}{e:Nat->Option Obj}(s:m5 P l b d ad W I v1 (f (B,cap)) ah h L i e):
  B≠i/\c ah<=cap/\0<cap/\cap<=9223372036854775807/\h<=c ah/\(∃g,c (fR ah++g)=cap/\e B=f (.cells (fR ah++g).toArray W (0,h)))/\(∀r,(e r).isSome=m↔r=i∨r=B)/\B∈L.al:=by
 obtain⟨u,w,_,_,j,k,n,o,q,a,t⟩:=s.gb;have:u=i:=by rw[s.v]at w;grind
 subst this;obtain⟨g,a,x⟩:=a;exact⟨j,k,n,o,q,⟨g,a,x⟩,t,(s.al B).2 N⟩
def acR{L}(a:b.t[d]?=f L):b.t.set d L=b.t:=m4
def m5.cf{L}{i B cap}{g:Nat->Option Obj}(s:bd l b)(t:l[d]?=f (.J (eI ad W I v1 (f (B,cap)) ah h)))(e:m5 P l b d ad W I v1 (f (B,cap)) ah h L i g){o0}{pt}{ul}{bj}(A:c (fR o0++ul)=cap)(M:c o0<=cap)(E:pt<=c o0)(R:bj.heap.size=b.a.heap.size)(n:∀a,a≠B->bj.heap[a]?=b.a.heap[a]?)(U:bj.heap[B]?=f (.cells (fR o0++ul).toArray W (0,pt)))(u:bj.os=b.a.os)(K:bj.tape=b.a.tape)(C:bj.output=b.a.output):
  bd (l.set d (.J (eI ad W I v1 (f (B,cap)) o0 pt))) {b with a:=bj}/\cN l b (l.set d (.J (eI ad W I v1 (f (B,cap)) o0 pt))) {b with a:=bj}:=by
 obtain⟨j,w,q,r,y,⟨T,z,S⟩,bz,O⟩:=e.at;obtain⟨J,F⟩:=s.cf (d:=d) (j7:=eI ad W I v1 (f (B,cap)) o0 pt) (cp:=L) (bj:=bj) t e.t rfl x
  (λa k D=>n a N) (λa k=>.inl k)
  ⟨λa=>if a=B then f (.cells (fR o0++ul).toArray W (0,pt))else g a,⟨i,e.v,e.cell,(show(if i=B then _ else g i)=_ from(bl λo=>j o.symm).trans e.cH),j,M,q,r,E,⟨ul,A,by simp⟩,λa=>by
   grind⟩,λa Q k=>by
   by_cases o:a=B
   .grind
   .simp only[o,dh]at k;rw[n a o];exact e.heap _ _ k,λa=>by
   rw[e.al a]
   grind⟩ u K C
 rw[acR e.t]at J F;grind
def a0.ij{z}(t:s.op=.call {callee:=.builtin .append,args:=#[k,X],argTypes:=#[o,z]}){a4}(ab:P.underlying o=f (.slice W))(O:P.underlying z=f .string)(aa:P.info? W=f a4)(Z:a4.size=1){B cap}(r:l[d]?=f (.J (eI ad W I v1 (f (B,cap)) ah h)))(S:η k=cM (jK (f (B,cap)) j))(R:c ah=j){b}(T:η X=aw (.T b))(aM:j+c b<=cap):
  a0 P s η l (cM (jK (f (B,cap)) (j+c b))) (l.set d (.J (eI ad W I v1 (f (B,cap)) (ah++b) h))):=by
 intro i Y q u;subst R;obtain⟨L,aO,aC,w⟩:=eI.row (P:=P) q r;obtain⟨ar,au,av,ax,C,⟨g,az,D⟩,aA,aj⟩:=w.at;have y:=u k;rw[S]at y;have y:=Rd.bp y;have Q:=u X;rw[T]at Q;have Q:=b8 Q;generalize H:Y X=aJ at Q;cases Q with
 |@T e _ ae aK=>
 have ak:e.size=c b:=by rw[<-ae,nd];rfl
 have A:=w.heap _ _ D;have aL:(fR ah++g).toArray.size=cap:=N;have ai:=Lib.run_append_room_stringF (P:=P) i.a o z s.type W a4 ab O aa Z B (c ah) cap _ _ A C e x N;have G:((fR ah++g).toArray.toList.take (c ah)++Lib.strCells e++(fR ah++g).toArray.toList.drop (c ah+e.size))=fR (ah++b)++g.drop (c b):=by
  have F:(fR ah++g).take (c ah)=fR ah:=Fi;have J:(fR ah++g).drop (c ah+e.size)=g.drop (c b):=by rw[List.drop_append,Nr,List.drop_eq_nil_of_le N,ak];simp
  have K:Lib.strCells e=fR b:=by simp[Lib.strCells,fR,ae]
  rw[List.toList_toArray,F,J,K,ae4]
 rw[G,ak]at ai;have ag:c g=cap-c ah:=Fi;have aH:c (fR (ah++b)++g.drop (c b))=cap:=Fi;have aI:(i.a.setRow B (fR (ah++b)++g.drop (c b)).toArray).heap[B]?=f (.cells (fR (ah++b)++g.drop (c b)).toArray W (0,h)):=setRow_heap i.a B _ _ W _ A;obtain⟨V,an⟩:=w.cf (pt:=h) (bj:=i.a.setRow B (fR (ah++b)++g.drop (c b)).toArray) q r aH N N (setRow_size _ _ _) (λE aq=>setRow_other i.a B E _ aq) aI rfl rfl rfl;refine⟨.value (.slice (f ⟨B,0,p⟩) (c ah+c b) cap),_,?_,Rd.val a,V,an,?_⟩
 .rw[lj t,y,H];simp[cI,d_];have aN:(Builtin.append_ #[o,z] s.type #[jK (f (B,cap)) (c ah),.string e]).run P i.a=_:=ai;exact hu
 rw[lj t,y,H];refine jm λaD n=>?_;have M:=Lib.run_firstCells_string (P:=P) i.a 1 e;have ao:=run_storeCells_atF P B (c ah) W (0,h) (Lib.strCells e) 0 _ i.a A N N (Lib.strCells_oneCell e);have aE:c ah+e.size<=cap:=x;have aP:(Builtin.firstCells 1 e.size (.string e)).events P i.a #[]=#[]:=rfl;simp[jK,Builtin.append_,run_underlying ab,run_underlying O,sizeOf,typeInfo,aa,Z,Builtin.lenOf,aE,M,aP,gQ,ao]at n;rcases Jq (Lib.strCells e) 0 _ i.a _ A N N (Lib.strCells_oneCell e) aD n with aQ|⟨aR,aF,aG,rfl⟩
 .grind
 exact ow (ca w.t) aj (w.E _ aj _)
def a0.il{z}(g:s.op=.call {callee:=.builtin .append,args:=#[k,X],argTypes:=#[o,z]}){a4}(u:P.underlying o=f (.slice W))(r:P.underlying z=f .string)(q:P.info? W=f a4)(B:η k=cM (jK p 0))(A:η X=aw (.T [])):a0 P s η l (cM (jK p 0)) l:=by
 refine .aW λw n x h=>?_;have e:=h k;rw[B]at e;have e:=Rd.bp e;have d:=h X;rw[A]at d;have d:=b8 d;generalize t:n X=C at d;cases d with
 |@T b _ E D=>
 have i:b.size=0:=by have:c b.data.toList=0:=N;rw[nd]at this;exact this
 have j:=Lib.run_firstCells_string (P:=P) w.a a4.size b;rw[i]at j;have y:(Builtin.firstCells a4.size 0 (.string b)).events P w.a #[]=#[]:=rfl;refine⟨.slice p 0 0,?_,Rd.val a,?_⟩
 .rw[lj g,e,t];simp[jK,Builtin.append_,run_underlying u,run_underlying r,sizeOf,typeInfo,q,Builtin.lenOf,i,j]
 rw[lj g,e,t];simp[jK,Builtin.append_,run_underlying u,run_underlying r,sizeOf,typeInfo,q,Builtin.lenOf,i,j,y]
def SH{t}{fn}{ab}(ai:P.underlying o=f (.slice W))(B:P.funcs[t]?=f fn)(Q:(fn.name== "runtime.NumGoroutine")=v)(aj:fn.body.isNone=m)(R:Extern.findNext fn=p)(G:Extern.find fn=f (Extern.BytealgMakeNoZero.makeNoZero ab #[o]))(D:s.op=.call {callee:=.value cP,args:=#[k],argTypes:=dn})(aA:η cP=.p (.R (.c (.fn (.func t) [] []))))(X:η k=.p (.R (.c (.int .i64 j))))(aK:0<j)(T:j<=140737488355328)(C:l[d]?=f (.J (eI ad W I v1 p ah h))):
  ∀b g,bd l b->(∀ar,bx l b (g ar) (η ar))->∃(F:{aM:Nat×Nat // j<=aM.2}) (u:a5) (J:Z),(ac g s).run P b.a=.ok (.value J) u.a/\bx (l.set d (.J (eI ad W I v1 (f F.1) [] 0))) u J (cM (jK (f F.1) j)) /\
   bd (l.set d (.J (eI ad W I v1 (f F.1) [] 0))) u/\cN l b (l.set d (.J (eI ad W I v1 (f F.1) [] 0))) u/\du b ((ac g s).events P b.a #[]):=by
 intro b g aP E;obtain⟨L,ak,aG,n⟩:=eI.row (P:=P) aP C;have y:g cP=.func (.func t) #[] #[]:=by
  have i:=E cP;rw[aA]at i;have i:=b8 i;generalize g cP=J at i;cases i with
  |fn aJ e aR ak aH aI aE aF d1 d2=>
   grind
 have ag:g k=.int .i64 j:=by have i:=E k;rw[X]at i;have i:=b8 i;generalize g k=J at i;cases i;rfl
 obtain⟨e,i,K,M⟩:=Lib.run_makeNoZero (P:=P) b.a ab o W ai j x;have M:=M (by simp[maxLen];omega);have av:(callFunc t #[.int .i64 j]).run P b.a=.ok (.value (.slice (f ⟨b.a.heap.size,0,p⟩) j e.size)) (b.a.drew.drew.alloc (.cells e W)):=by rw[run_callFunc_extern B Q aj R G,i];rfl
 let bj:au:=b.a.drew.drew.alloc (.cells e W);have V:bj.heap[b.a.heap.size]?=f (.cells e W (0,0)):=lZ b.a.drew.drew _;have aq:bj.heap.size=b.a.heap.size+1:=by show(b.a.drew.drew.heap.push _).size=_;simp
 obtain⟨A,aa,aN,aO,aQ⟩:=n.gb;have aC:A=ak:=by rw[n.v]at aa;grind
 subst aC;have O:=aP.lt L (ca n.t) A n.mem;have aw:b.a.heap.size≠A:=x;obtain⟨ae,t2⟩:=aP.cf (d:=d) (j7:=eI ad W I v1 (f (b.a.heap.size,e.size)) [] 0) (cp:=⟨L.v,[A,b.a.heap.size]⟩) (bj:=bj) C n.t rfl x
  (λq z R=>iR b.a.drew.drew _ z) (λq z=>by
   simp at z;rcases z with rfl|rfl
   .exact .inl n.mem
   grind)
  ⟨λq=>if q=A then f (.cells #[if I then L.v else .pointer p,v1] ad (0,0))else if q=b.a.heap.size then f (.cells e W (0,0))else p,⟨A,n.v,n.cell,by simp,aw,by simp,by omega,by simp[maxLen]at M;omega,by simp,⟨e.toList,by simp[fR],by exact hu⟩,λq=>by
   grind⟩,λq aL z=>by
   by_cases w:q=A
   .subst w;simp[dH]at z;have:bj.heap[q]?=b.a.heap[q]?:=iR b.a.drew.drew _ O;rw[this,<-z];exact n.heap _ _ n.cH
   grind,λq=>by grind⟩ rfl rfl rfl
 refine⟨⟨(b.a.heap.size,e.size),K⟩,_,_,?_,Rd.val rfl,ae,t2,?_⟩
 .simp[ac,D,resolve,Deferred.ofValue,invoke,y,ag,av,bj,jK]
 intro a az;simp[ac,D,resolve,Deferred.ofValue,invoke,y,ag]at az;have H:a∈(callFunc t #[.int .i64 j]).events P b.a #[]:=N;have ax:fn.name≠ "runtime.NumGoroutine":=N;have aD:fn.body=p:=by simpa using aj
 have key:∀r:Array aT,∀w∈(Extern.BytealgMakeNoZero.makeNoZero ab #[o] #[.int .i64 j]).events P b.a r,w∈r∨∃Y,w=⟨.mark Y,v,m⟩/\Go.Conc.Neutral Y:=by
  intro r w G;change w∈Sem.events P (underlying _ >>= _) _ _ at G;have i:¬(j:Int)<0:=x;have K:¬(281474976710656:Int)<(j:Int):=x;have ao:w∈(askRoom (grownCap b.a j 0 W)).events P b.a.drew r:=by simpa[run_underlying ai,i,K,Question.forced,newRow,grownCap]using G
  grind[Go.Conc.events_askRoom]
 have:a∈(Extern.BytealgMakeNoZero.makeNoZero ab #[o] #[.int .i64 j]).events P b.a ((#[]:Array aT).push ⟨.mark (.extern t),v,m⟩):=by have w:callFunc t #[.int .i64 j]=callFunc t #[.int .i64 j]:=rfl;simpa[callFunc,B,ax,aD,R,G,i]using H
 rcases key _ _ this with an|⟨Y,rfl,S⟩
 .simp at an;subst an;exact .inr ⟨t,rfl⟩
 exact .inl S
def SI{O av}(ck:s.op=.call {callee:=.builtin .unsafeString,args:=#[k,X],argTypes:=#[O,av]})(K:P.underlying O=f (.pointer W))(H:P.cellsOf W=1){B cap}(u:l[d]?=f (.J (eI ad W I v1 (f (B,cap)) ah h)))(ab:η k=cM (.pointer (f ⟨B,0,p⟩)))(ag:η X=aw (.int .i64 (c ah))):
  a0 P s η l (aw (.T ah)) (l.set d (.J (eI ad W I v1 (f (B,cap)) ah (c ah)))):=by
 intro b o t M;obtain⟨L,aV,aU,R⟩:=eI.row (P:=P) t u;obtain⟨aL,r,aN,aO,aQ,⟨S,C,Z⟩,aR,aG⟩:=R.at;have Q:=M k;rw[ab]at Q;have Q:=Rd.bp Q;have aj:o X=.int .i64 (c ah):=by have y:=M X;rw[ag]at y;have y:=b8 y;generalize o X=aW at y;cases y;rfl
 have Y:=R.heap _ _ Z;have ak:ac o s=(do pure (.value (<-Builtin.unsafeString_ #[O,av] s.type #[o k,o X]))):=RO;have aa:(fR ah++S).toArray.size=cap:=N;by_cases D:ah=[]
 .subst D;have az:=Lib.run_unsafeString_none (P:=P) b.a O av s.type (f ⟨B,0,p⟩);obtain⟨w,V⟩:=R.cf (o0:=[]) (pt:=0) (ul:=S) (bj:=b.a) t u C r E rfl (λ_ _=>rfl) N rfl rfl rfl;refine⟨.value (.string .empty),_,hu,Rd.T a E,w,V,?_⟩;rw[ak,Q,aj];exact PC
 .have e:∀i k,ah[i]?=f k->b.a.cell? ((⟨B,0,p⟩:Addr).add i)=f (.int .u8 k.toNat):=by
   intro i k T;rw[gQ];simp[aM,Y,cV];have au:=(cO.1 T).1;have:(fR ah)[i]?=f (.int .u8 k.toNat):=by simp[fR,T]
   grind
  have an:b.a.shape? B=f (W,cap):=by simp[World.shape?,Y];grind
  have az:=Lib.run_unsafeString_row (P:=P) b.a O av s.type W K H B cap an ah D r x e;have ae:c ah≠0:=N;have F:(b.a.freeze ⟨B,0,p⟩ (c ah)).heap[B]?=f (.cells (fR ah++S).toArray W (0,c ah)):=by simp[World.freeze,ae,dh,AU,dH,Y,lJ];grind
  obtain⟨w,V⟩:=R.cf (o0:=ah) (pt:=c ah) (ul:=S) (bj:=b.a.freeze ⟨B,0,p⟩ (c ah)) t u C r (bE _) Ae (λaS ar=>by
   simp only[World.freeze,ae,dh,AU]
   grind) F Ae Ae Ae
  refine⟨.value (.string ⟨ah.toArray⟩),_,?_,Rd.T E x,w,V,?_⟩
  .rw[ak,Q,aj];simp only[cI,d_,az];rfl
  rw[ak,Q,aj];refine jm λq z=>?_;have aC:¬(c ah:Int)<0:=x;have aH:¬(9223372036854775807:Int)<(c ah:Int):=x;have ax:=Lib.liesAt_bytes (P:=P) H (cap / P.cellsOf W) (c ah) N;have aA:IntKind.i64.max=9223372036854775807:=rfl;have J:=Lib.run_loadBytes (P:=P) b.a ah ⟨B,0,p⟩ .empty e;have aE:∀(G:n UInt8) (A:Nat) (j:ByteArray) (g:Array aT),(∀i k,G[i]?=f k->b.a.cell? ⟨B,A+i,p⟩=f (.int .u8 k.toNat))->∀q∈(loadBytes ⟨B,A,p⟩ j (c G)).events P b.a g,q∈g∨∃i,q=pH B i:=by
   intro G;induction G with
   |nil=>intro A j g _ q z;exact .inl (by simpa[loadBytes]using z)
   |cons X G ai=>
    intro A j g H q z;have ao:=H 0 X a;simp only[kf]at ao;have aP:(load ⟨B,A,p⟩).run P b.a=.ok (.int .u8 X.toNat) b.a:=by grind[run_load]
    simp only[fp,loadBytes,aF,aP,aK,CC ao,gQ]at z;rcases ai (A+1) _ _ (λi k T=>by have:=H (i+1) k N;grind) q z with aq|aq
    .grind
    grind
  have aI:(variablesAt ⟨B,0,p⟩ W (c ah)).run P b.a=.ok m b.a:=by simp[variablesAt,an,ax]
  have aD:∀g,(variablesAt ⟨B,0,p⟩ W (c ah)).events P b.a g=g:=λg=>by simp[variablesAt,an,ax]
  have aJ:q∈(loadBytes ⟨B,0,p⟩ .empty (c ah)).events P b.a #[]:=by change q∈Sem.events P (asInt (.int .i64 (c ah:Int)) >>= _) _ _ at z;simpa[asInt,asIntOf,aA,aC,aH,ae,elemOf,run_underlying K,aI,aD,J]using z
  rcases aE ah 0 .empty #[] (λi k T=>by grind[gQ]) q aJ with aq|⟨i,rfl⟩
  .grind
  exact qt (ca R.t) aG
end
section
variable {q:ag P}{S:n (Nat×bv)}{ad:aq}{B:Bool}{v1:Z}{bP:Option (Nat×Nat)}{ah:n UInt8}{e:Nat}
def a0.exact{i}{h}(j:η k=cM aa)(n:∀(a:aA->Z) g,a k=aa->(ac a s).run P g=.ok (.value i) g/\(ac a s).events P g #[]=#[])(t:∀l e,bx l e i h):a0 P s η l h l:=by refine .aW λe a r d=>?_;have b:=d k;rw[j]at b;have b:=Rd.bp b;obtain⟨o,q⟩:=n a e.a b;grind
def a0.fJ(g:s.op=.call {callee:=.builtin .len,args:=#[k],argTypes:=dn})(e:dn[0]?=f o)(d:P.underlying o=f (.slice W)){a}{r}(i:η k=cM (.slice a j r))(h:j<=9223372036854775807):a0 P s η l (aw (.int .i64 j)) l:=
  .exact i (λn q b=>by constructor<;>simp[ac,g,resolve,invoke,builtin,Builtin.len_,b,run_underlying d,goInt,e]) (λ_ _=>Rd.int m3)
def a0.gY(g:s.op=.call {callee:=.builtin .cap,args:=#[k],argTypes:=dn})(e:dn[0]?=f o)(d:P.underlying o=f (.slice W)){a}{r}(i:η k=cM (.slice a j r))(h:r<=9223372036854775807):a0 P s η l (aw (.int .i64 r)) l:=
  .exact i (λn q b=>by constructor<;>simp[ac,g,resolve,invoke,builtin,Builtin.cap_,b,run_underlying d,goInt,e]) (λ_ _=>Rd.int m3)
def a0.h6(g:s.op=.call {callee:=.builtin .unsafeSliceData,args:=#[k],argTypes:=dn}){r}(d:η k=cM (.slice p j r)):a0 P s η l (cM (.pointer p)) l:=
  .exact d (λh i b=>by
    have e:Builtin.unsafeSliceData_ dn s.type #[.slice p j r]=pure (.pointer p):=rfl
    constructor<;>simp[ac,g,resolve,invoke,builtin,b,e]) (λ_ _=>Rd.val a)
def a0.h7(i:s.op=.call {callee:=.builtin .unsafeSliceData,args:=#[k],argTypes:=dn}){b}{r}(h:η k=cM (.slice (f b) j r))(e:r≠0):a0 P s η l (cM (.pointer (f b))) l:=
  .exact h (λo q d=>by
    obtain⟨n,rfl⟩:=Nat.exists_eq_succ_of_ne_zero e;have g:Builtin.unsafeSliceData_ dn s.type #[.slice (f b) j (n+1)]=pure (.pointer (f b)):=rfl
    constructor<;>simp[ac,i,resolve,invoke,builtin,d,g]) (λ_ _=>Rd.val a)
def a0.jc(C:s.op=.slice o k p (f X) p)(D:P.underlying o=f (.slice W)){a4}(q:P.info? W=f a4){g}{n h:Nat}(M:η k=cM (.slice (f g) j n))(K:η X=aw (.int .i64 h))(z:h<=j)(t:j<=n)(E:n≠0)(J:g.add 0=g):a0 P s η l (cM (.slice (f g) h n)) l:=by
  refine .aW λF y e w=>?_;have i:=w k;rw[M]at i;have i:=Rd.bp i;have B:y X=.int .i64 h:=by have b:=w X;rw[K]at b;have b:=b8 b;generalize y X=N at b;cases b;rfl
  have r:((p:Option Z)=p/\(p:Option Int)=p)∨∃h x,(p:Option Z)=f (.int h x)/\(p:Option Int)=f x:=.inl ⟨rfl,rfl⟩;have e:(f (Value.int .i64 h)=p/\(f (h:Int))=p)∨∃A x,f (Value.int .i64 h)=f (.int A x)/\(f (h:Int))=f x:=.inr ⟨_,_,rfl,rfl⟩;have u:U (ji j p (f (h:Int))):=by simp[ji,z]
  obtain⟨d,_,_⟩:=v6 (P:=P) (kp:=m) t r e u F.a;have I:=vc (P:=P) (kp:=m) t r e u F.a;simp only[bU,c5]at d;refine⟨.slice (f g) h n,?_,Rd.val a,?_⟩
  · simp[ac,C,i,B,Instr.sliceAt,run_underlying D,Instr.slice,d,sizeOf,typeInfo,q,E,J]
  · simp[ac,C,i,B,Instr.sliceAt,run_underlying D,Instr.slice,d,I,sizeOf,typeInfo,q,E]
def a0.iH{h}(i:s.op=.call {callee:=.builtin .copy,args:=#[k,X],argTypes:=#[o,h]})(q:P.underlying o=f (.slice W)){a4}(e:P.info? W=f a4){g}{r}(t:η k=cM (.slice (f g) 0 r))(n:η X=cM (.slice p 0 0)):a0 P s η l (aw (.int .i64 0)) l:=by
  refine .aW λw u j a=>?_;have d:=a k;rw[t]at d;have d:=Rd.bp d;have b:=a X;rw[n]at b;have b:=Rd.bp b;refine⟨.int .i64 0,?_,Rd.int lC,?_⟩<;>
  simp[ac,i,resolve,invoke,builtin,Builtin.copy_,d,b,run_underlying q,sizeOf,typeInfo,e,Builtin.lenOf,Builtin.firstCells,storeCells,goInt]
def a0.jU{u i}(ck:s.op=.call {callee:=.builtin .unsafeString,args:=#[k,X],argTypes:=#[u,i]})(t:η k=cM (.pointer p))(r:η X=aw (.int .i64 ((0:Nat):Int))):a0 P s η l (aw (.T [])) l:=by
  refine .dw λb e q h=>?_;have g:=h k;rw[t]at g;have g:=Rd.bp g;have j:e X=.int .i64 0:=by have d:=h X;rw[r]at d;have d:=b8 d;generalize e X=w at d;cases d;rfl
  have n:ac e s=(do pure (.value (<-Builtin.unsafeString_ #[u,i] s.type #[e k,e X]))):=RO;have o:=Lib.run_unsafeString_none (P:=P) b.a u i s.type p;refine⟨.string .empty,?_,Rd.T a E,?_⟩
  · rw[n,g,j]
    simp only[cI,d_,o];rfl
  · rw[n,g,j]
    exact PC
def a0.iv(A:l[d]?=f (.J (eI ad W B v1 bP ah e))){h dst}(t:s.op=.convert h dst k)(z:P.underlying h=f (.pointer ad))(x:P.underlying dst=f .unsafePointer){u}(a:P.info? ad=f u)(w:u.size≠0)(C:η k=aD d 0):a0 P s η l (aD d 0) l:=by
  refine .aW λn o i j=>?_;obtain⟨L,b,lc,bb⟩:=eI.row (P:=P) i A;have g:=j k;rw[C]at g;have y:=bb.ptr g;have r:n.a.shape? b=f (ad,2):=NZ;have q:=Lib.run_to_unsafe (P:=P) n.a ⟨b,0,p⟩ z x a w r E;refine⟨o k,by simp[ac,t,y,q],g,?_⟩;have:(convert h dst (.pointer (f ⟨b,0,p⟩))).events P n.a #[]=#[]:=by simp[convert,run_underlying z,run_underlying x,Conv.unsafePointer,Conv.seenAt,viewAt,cellsIn,r,sizeOf,typeInfo,a,w]
  simp[ac,t,y,q,this]
def a0.im(A:l[d]?=f (.J (eI ad W B v1 bP ah e))){h dst}(t:s.op=.convert h dst k)(z:P.underlying h=f .unsafePointer)(x:P.underlying dst=f (.pointer ad)){u}(a:P.info? ad=f u)(C:u.size≠0)(q:liesAt P P.depth ad (2 / P.cellsOf ad) 0 ad 1=m)(D:η k=aD d 0):a0 P s η l (aD d 0) l:=by
  refine .aW λn o i j=>?_;obtain⟨L,b,lc,bb⟩:=eI.row (P:=P) i A;have g:=j k;rw[D]at g;have y:=bb.ptr g;have w:n.a.shape? b=f (ad,2):=NZ;have r:=Lib.run_from_unsafe (P:=P) n.a ⟨b,0,p⟩ z x a w q;refine⟨o k,by simp[ac,t,y,r],g,?_⟩;have:(convert h dst (.pointer (f ⟨b,0,p⟩))).events P n.a #[]=#[]:=by simp[convert,run_underlying z,run_underlying x,Conv.unsafePointer,Conv.seenAt,viewAt,variablesAt,w,sizeOf,typeInfo,a,C,q]
  simp[ac,t,y,r,this]
def a0.jD{h}{fn}(t:P.funcs[h]?=f fn)(q:(fn.name== "runtime.NumGoroutine")=v)(d:fn.body.isNone=m)(e:Extern.findNext fn=p)(u:Extern.find fn=f Extern.AbiNoEscape.same)(g:s.op=.call {callee:=.value cP,args:=#[k],argTypes:=dn})(D:η cP=.p (.R (.c (.fn (.func h) [] [])))){n}(N:η k=n):a0 P s η l n l:=by
  refine .dw λj a B i=>?_;have r:a cP=.func (.func h) #[] #[]:=by
    have b:=i cP;rw[D]at b;have b:=b8 b;generalize a cP=M at b;cases b with
    |fn A y F I K J w x d1 d2=>
      grind
  have C:(callFunc h #[a k]).run P j.a=.ok (.value (a k)) j.a:=by rw[run_callFunc_extern t q d e u];rfl
  have E:=IO (P:=P) t q d e u #[a k] (λ_ _=>rfl) j.a #[];refine⟨a k,?_,by grind,λz o=>?_⟩
  · simp[ac,g,resolve,Deferred.ofValue,invoke,r,C]
  · simp[ac,g,resolve,Deferred.ofValue,invoke,r,E]at o
    subst o;exact .inr ⟨_,rfl⟩
end
def DN{a l:Type}{e:a->l}:∀{g:n a},(g.map e).Nodup->∀{b d:a},b∈g->d∈g->e b=e d->b=d
 |[],_,_,_,r,_,_=>by grind
 |t::s,j,b,d,o,q,k=>by
  simp only[mr,List.nodup_cons]at j;rcases fr.1 o with i|i<;>rcases fr.1 q with h|h
  .grind
  .grind
  .grind
  exact DN j.2 i h k
def qQ{bY}{a}(d:bY≠.bo)(b:jU a=m):jU (bY::a)=m:=by cases bY<;>first|exact b|grind
section
variable {q:ag P}
def g.bU{aP l}(h:∀j b d,aP j b d->l j b d):∀{av:n ik}{j:Exit}{b:bI}{d:n an},g q D aP av j b d->g q D l av j b d
 |[],j,b,d,a=>h j b d a
 |.code k::av,.normal,b,d,a=>b2.mono a λ_ _ _ a=>g.bU h a
 |.code k::av,.exit _,b,d,a=>g.bU (av:=av) h a
 |.code k::av,.ret,b,d,a=>g.bU (av:=av) h a
 |.code k::av,.panic _,b,d,a=>g.bU (av:=av) h a
 |.code k::av,.goto _,b,d,a=>g.bU (av:=av) h a
 |.code k::av,.outgrown,b,d,a=>g.bU (av:=av) h a
 |.blk id::av,.exit o,b,d,a=>by
  simp only[g]at a⊢;split
  .rename_i j;rw[br j]at a;exact g.bU (av:=av) h a
  rename_i j;rw[bl j]at a;exact g.bU (av:=av) h a
 |.blk id::av,.normal,b,d,a=>g.bU (av:=av) h a
 |.blk id::av,.ret,b,d,a=>g.bU (av:=av) h a
 |.blk id::av,.panic _,b,d,a=>g.bU (av:=av) h a
 |.blk id::av,.goto _,b,d,a=>g.bU (av:=av) h a
 |.blk id::av,.outgrown,b,d,a=>g.bU (av:=av) h a
 |.aj i e::av,.normal,b,d,a=>fc.mono a λ_ _ a=>g.bU h a
 |.aj i e::av,.exit _,b,d,a=>g.bU (av:=av) h a
 |.aj i e::av,.ret,b,d,a=>g.bU (av:=av) h a
 |.aj i e::av,.panic _,b,d,a=>g.bU (av:=av) h a
 |.aj i e::av,.goto _,b,d,a=>g.bU (av:=av) h a
 |.aj i e::av,.outgrown,b,d,a=>g.bU (av:=av) h a
def g.fL{id}{Q:bI->n an->Prop}{d r i}(a:iP id d=p)(b:iP id r=f i)(k:g q D be i .normal F l):
  g q D (wn Q (g q D be r)) (.code (.exit id)::d) .normal F l:=
 g.bU (λj e h o=>by cases j<;>exact o) (g.bt (q:=q) (D:=D) (AF:=be) (Q:=Q) (F:=F) (l:=l) a b k)
end
section
variable {q:ag P}
def g.bh{fn}{t}{ao:ι->n an}(e)(aS){ai}{o}{i}(h:U ab)(bT:∀u,u<t->aS[u]?=f u)(j:fn.results.toList=[.cell o ty]:=by exact rfl)(bp:b1 ad ty=f i:=by exact rfl)(z:i.agg=m:=by exact rfl)(s:look F o=aD d 0:=by exact rfl)(gG:c9 d l=f (.cells W ai):=by exact rfl)(w:af (c ai) i.size=m:=by exact rfl)(r:ei d aS=v:=by exact rfl)(ae:kq (.p (.agg ai)) (e' aS (res e))=f ab:=by exact rfl)(I:hN (c aS) (res e)=m:=by exact rfl)(S:dy aS l=f (ao e):=by exact rfl)(B:l9 (ao e)=m:=by exact rfl)(jn:e_ aS=m:=by exact rfl):
  g q D (λaj F aO=>∃u,uz ad fn t (res u) (ao u) aj F aO) (.code .ret::av) .normal F l:=
 g.ret ⟨e,.inl a,aS,d,W,ai,o,ty,i,ab,p,nofun,j,bp,z,di w,s,er gG,KJ r,ae,h,I,S,B,jn,bT⟩
def g.cv{fn}{h}{ao:ι->n an}(e)(aS){ai}{o bz}{i}{k}(z:U ab)(bT:∀u,u<h->aS[u]?=f u)(s:fn.results.toList=[.cell o ty,.tmp bz]:=by exact rfl)(bp:b1 ad ty=f i:=by exact rfl)(j:i.agg=m:=by exact rfl)(bc:look F o=aD d 0:=by exact rfl)(S:look F bz=.p k:=by exact rfl)(gG:c9 d l=f (.cells W ai):=by exact rfl)(w:af (c ai) i.size=m:=by exact rfl)(r:ei d aS=v:=by exact rfl)(ae:kq (.ae [.agg ai,k]) (e' aS (res e))=f ab:=by exact rfl)(I:hN (c aS) (res e)=m:=by exact rfl)(bb:dy aS l=f (ao e):=by exact rfl)(B:l9 (ao e)=m:=by exact rfl)(jn:e_ aS=m:=by exact rfl):
  g q D (λaj F aO=>∃u,uz ad fn h (res u) (ao u) aj F aO) (.code .ret::av) .normal F l:=
 g.ret ⟨e,.inl a,aS,d,W,ai,o,ty,i,ab,f (bz,k),λ_ t=>by cases t;exact S,s,bp,j,di w,bc,er gG,KJ r,ae,z,I,bb,B,jn,bT⟩
def Y.bm(aV:bn P ad){d}{fn}{args}{res}(j:P.funcs[d]?=f fn)(i:(fn.name== "runtime.NumGoroutine")=v)(b:fn.body=f r)(h:ay args.length fn.ntmps=m)(n:kF args l->g q fn.ntmps (λk e a=>∃_:Unit,uz ad fn l.length res ao k e a) [.code r] .normal (h3 0 args) l):Y q d args l res ao:=
 (bk.bB (ι:=Unit) (ao:=λ_=>ao) (res:=λ_=>res) aV j i b h n).toY
end
section
variable {q:ag P}
def g.jE{I:ι->y}{e:ι->n an}(Q:dx q D all s F l I e)(T:fg D s.dst=m)(S:∀o,g q D be (.aj all bs::av) .normal (fW s.dst (I o) F) (e o)):g q D be (.aj all (s::bs)::av) .normal F l:=by
  intro V J t d E j h C idx i a x;cases idx with
  |nil=>exact a.elim
  |cons R idx=>
  refine Q V J t d E j h C R idx i a.1 λo X z u w b=>?_;refine S o z _ ?_ w E j h C idx i a.2 λK k A r U M O B=>x K k A r U M O (b.trans B);cases N:s.dst with
  |none=>exact t.mono b d.len
  |some W=>exact(t.mono b d.len).put (lg T W N) u
def dx.gj[q.b8]{bl}(aL:bk q bl cR [] res aO){aa}(aT:oZ all F s=m)(bu:s.op=.call {callee:=.value cP,args:=ah,argTypes:=dn})(V:gR (bF F cP)=f (bl,cap))(bs:p1 l (ah.toList.map (bF F)++e4 cap) aa)(bL:l3 aa (gr [] cR)=f ab)(a2:U ab)(aX:g7 0 cR=m)(bI:∀t,yx (res t)=m)(a1:∀t,qR (aO t)=m):dx q D all s F l res (λt=>l++aO t):=by
  intro b w ba aw i a4 ai bM bH idx g aW bp;have an:=eO ba cP;unfold gR at V;split at V
  case h_2=>cases V
  case h_1 vf u2 he=>
    cases V;rw[he]at an;have bD:=b8 an;generalize Q:w.eval cP=bU at bD;cases bD with
    |fn bn J aZ ax bS bm e y bW bA=>
      have aN:bn=[]:=jF aZ;subst aN;have bP:b6 l b J (e4 cap):=qo (λt r br=>⟨bm t,y t N,bA t r br⟩) ax;have G:b6 l b (ah.toList.map w.eval++J) (ah.toList.map (bF F)++e4 cap):=(na (eO ba) ah.toList).append bP;generalize bG:ah.toList.map w.eval++J=A at G;obtain⟨⟨fn,aM,aA,bQ⟩,T⟩:=aL;have aD:∀aE,(ac w.eval s).run P aE=.ok (.enter bl A.toArray) aE:=λaE=>by grind[mT]
      have av:∀aE,(ac w.eval s).events P aE #[]=#[]:=λaE=>(mT bu aM aA bQ Q aE).2;refine .next a λk a3=>?_;have W:=q.bO a3;have u:=aw.rely W;have aH:=ba.rely W aw;have bK:b6 l k A (ah.toList.map (bF F)++e4 cap):=G.mono W.aY.ext aw.len;obtain⟨R,au,bE,a7,bw,a8,bV,bx⟩:=bs k A u bK;let M:a5:={k with t:=[],E:=au,own:=λi=>k.own i∨∃L∈k.t,i∈L.al}
      have aV:bd [] M:=by
        refine⟨a8,a,by simp,by grind,by grind,λi g=>⟨?_,by grind⟩⟩;rcases g with g|⟨d,Y,g⟩
        · exact(u.own i g).1
        · exact u.lt d Y i g
      have aQ:eY k M:=by refine⟨rfl,a7,λi g s=>bw i (λaG=>by grind) s,a8,λi g=>?_⟩;grind
      have bY:b6 [] M A cR:=by have bc:=tm bL a2 bx;exact(b6.sub (aS:=[]) (l:=l) (ao:=[]) (b:={k with E:=au}) (lD:=[]) rfl rfl bc aX).mono (l:=[]) (b:={k with t:=[],E:=au}) (ao:=[]) (az:=M) ⟨λ_ _ _ x=>x,λz R L aG bo=>by grind⟩ rfl
      refine⟨_,k,_,tN aW (j4 aT _ _ _ aH) g (aD k.a),⟨⟨l,l,u,u,.refl _ _⟩,du.seen (by rw[av];exact .nil)⟩,.aU aQ (T M A bY aV bM _ λt bT o bX a0 aC K a9=>?_)⟩;refine uP (ai:=ai) (r:=i.N w (.inRegion all.toArray (bH::idx)::a4)) K a0 λC bb=>?_;have X:=K.rely bb;have S:=a9.trans bb.aY;have bO:=aC.mono bb.aY.ext K.len
      classical
      let Z:Mem:=λi s=>if R i then k.E i s else C.E i s;have bz:∀i,(k.own i∨∃L∈k.t,i∈L.al)->C.own i:=λi g=>by rw[S.own];exact g
      have ad:n2 C {C with E:=Z}:=by
        refine⟨a,a,a,λi s o Q=>?_,λi s o Q=>?_⟩
        · grind
        grind
      refine .b4 ag.b8.ok ad ?_;have ae:∀i s o,Z i s=f o->C.E i s=f o:=ad.e8;let B:a5:={C with E:=Z,t:=k.t++C.t,own:=k.own}
      have ak:∀i s o,k.E i s=f o->Z i s=f o:=λi s o Q=>by
        by_cases n:R i
        · grind
        · simp[Z,n,dh];exact S.mem i s o (a7 i s o Q)
      have aj:∀i,i<k.a.heap.size->∀s,Z i s=k.E i s:=λi g s=>by
        by_cases n:R i
        · grind
        · simp[Z,n,dh]
          rw[S.bG i g N s];grind
      have bN:c C.t=c (aO t):=X.len;have aF:fm l k (l++aO t) B:=by
        refine⟨ak,λz R L aG bo=>⟨R,L,?_,?_,.refl _ _⟩⟩
        · grind
        grind
      have aP:k.a.heap.size<=C.a.heap.size:=S.size;have bC:∀z d,(k.t++C.t)[z]?=f d->(z<c k.t/\k.t[z]?=f d)∨(c k.t<=z/\C.t[z-c k.t]?=f d):=λz d x=>by grind
      have aU:bd (l++aO t) B:=by
        refine⟨λi s o Q=>X.mem i s o (ae i s o Q),by simp[B,u.len,bN],?_,?_,?_,?_⟩
        · intro z R d aG Y
          rcases bC z d Y with⟨ar,e⟩|⟨aq,e⟩
          · rw[kH (by rw[<-u.len];exact ar)]at aG
            exact(u.box z R d aG e).ck aF u.len λj n=>⟨S.a6 j (.inr ⟨d,ca e,n⟩),aj j (u.lt d (ca e) j n)⟩
          · rw[hr (by rw[<-u.len];exact aq),<-u.len]at aG
            have aK:=X.box _ R d aG e;rcases La (a1 t) R (ca aG)with⟨H,rfl⟩|rfl
            · obtain⟨bj,bf,bg,bh,bR⟩:=aK
              refine⟨bj,bf,bg,bh,λj n s=>?_⟩;grind
            · trivial
        · intro z a6 E I aI aJ j O a'
          rcases bC z E aI with⟨ar,e⟩|⟨aq,e⟩<;>rcases bC a6 I aJ with⟨bt,y⟩|⟨bq,y⟩
          · exact u.a3 z a6 E I e y j O a'
          · exact absurd a' ((X.own j (bz j (.inr ⟨E,ca e,O⟩))).2 I (ca y))
          · exact absurd O ((X.own j (bz j (.inr ⟨I,ca y,a'⟩))).2 E (ca e))
          · have:=X.a3 _ _ E I e y j O a';omega
        · intro d Y j n
          rcases gl.1 Y with x|x
          · exact eE (u.lt d x j n) aP
          · exact X.lt d x j n
        · intro j n
          refine⟨eE (u.own j n).1 aP,λd Y=>?_⟩;rcases gl.1 Y with x|x
          · exact(u.own j n).2 d x
          · exact(X.own j (bz j (.inl n))).2 d x
      have aR:eY {C with E:=Z} B:=by refine⟨rfl,λ_ _ _ x=>x,λ_ _ _=>rfl,λi s o Q=>X.mem i s o (ae i s o Q),λj n=>?_⟩;grind
      have a_:dd l k (l++aO t) B:=by
        refine⟨aP,λj n=>S.a6 j (.inl n),ak,λj n _ s=>aj j n s,λd Y j n=>?_,aF.box,S.os,S.tape,S.output,a⟩;rcases gl.1 Y with x|x
        · grind
        · rcases S.bW d x j n with e|⟨bJ,e,_⟩
          · grind
          grind
      refine .aU aR ?_;have bB:=qw (i:=i) (w:=w) (h:=a4) all.toArray bH idx o;rw[aW]at bB;simp[oc]at bB;rw[bB];exact bp t o B (Y8 (bI t) bO) aU (W.aY.trans a_)
def g.gj[q.b8]{e:Type}{cP}{ah}{dn}{k}{cap}{cR}{a:e->y}{b:e->n an}(A:bk q k cR [] a b){r}(w:oZ all F s=m)(i:s.op=.call {callee:=.value cP,args:=ah,argTypes:=dn})(B:gR (bF F cP)=f (k,cap))(h:p1 l (ah.toList.map (bF F)++e4 cap) r){ab}(o:l3 r (gr [] cR)=f ab)(u:U ab)(x:g7 0 cR=m)(t:∀d,yx (a d)=m)(z:∀d,qR (b d)=m)(C:fg D s.dst=m)(j:∀d,g q D be (.aj all bs::av) .normal (fW s.dst (a d) F) (l++b d)):g q D be (.aj all (s::bs)::av) .normal F l:=.jE (dx.gj A w i B h o u x t z) C j
def g.iB[q.b8]{k}(y:bk q k cR [] res aO)(z i){n}{h}(t:oZ all F s=m)(d:s.op=.call {callee:=.value cP,args:=ah,argTypes:=dn})(B:gR (bF F cP)=f (k,cap))(A:(ah.toList.map (bF F)++e4 cap)[i]?=f (cM n))(b:AD l z n h j V)(o:l3 ((ah.toList.map (bF F)++e4 cap).set i (aw (.C v h j V))) (gr [] cR)=f ab)(u:U ab)(w:g7 0 cR=m)(r:∀a,yx (res a)=m)(x:∀a,qR (aO a)=m)(C:fg D s.dst=m)(e:∀a,g q D be (.aj all bs::av) .normal (fW s.dst (res a) F) (l++aO a)):g q D be (.aj all (s::bs)::av) .normal F l:=
  g.gj y t d B ((p1.refl _ _).step i z A b) o u w r x C e
end
section
variable {q:ag P}
theorem dx.ff{z:ι->y}{a:ι->n an}(M:s.guard=p)(E:eC P D s F l z a):dx q D all s F l z a:=by intro T A C b Q S B O R r k o j;refine rB k o (iZ M) λJ e=>?_;have g:=b.rely e;obtain⟨w,N,d,x,h,i,K,t,u,I⟩:=E J A (C.rely e b) g;exact⟨N,d,x,h,i,⟨⟨l,a w,g,t,u⟩,I⟩,j w x d K t (e.aY.trans (u.too' g))⟩
def dx.eZ{E}(K:bk q E cR de res aO)(aS)(ag:s.guard=p)(e:s.op=.call {callee:=.value cP,args:=ah,argTypes:=dn})(h:gR (bF F cP)=f (E,cap))(Y:∀g A,b6 l g A (ah.toList.map (bF F)++e4 cap)->b6 l g A (gr aS cR))(ak:g7 (c aS) cR=m)(an:dy aS l=f de)(R:ew de=m)(ai:∀a,ew (aO a)=m)(w:e_ aS=m)(ao:∀a,ay (c aS) (c (aO a))=m):
  dx q D all s F l (λa=>e' (aS++gL (c l) (c (aO a)-c aS)) (res a)) (λa=>c' aS (aO a) l):=by
 intro g S J o ar ab U aq au y n r k;have M:=eO J cP;unfold gR at h;split at h
 case h_2=>cases h
 case h_1 vf u2 he=>
  cases h;rw[he]at M;have C:=b8 M;generalize Q:S.eval cP=X at C;cases C with
  |fn W b u d V i Z j ae x=>
   have aj:=jF u;subst aj;have aa:b6 l g b (e4 cap):=qo (λa T t=>⟨i a,j a N,x a T t⟩) d;have ad:=Y g _ ((na (eO J) ah.toList).append aa);obtain⟨fn,O,I,B⟩:=K.1;exact A' n r (iZ ag) o (λz=>(mT e O I B Q z).1) (λz=>(mT e O I B Q z).2) K ad ak an R ai w (λa=>fe (ao a)) k
def dx.dp{e}(r:bk q e cR de res aO)(aS)(h:s.guard=p)(d:s.op=.call {callee:=.value cP,args:=ah,argTypes:=dn})(u:gR (bF F cP)=f (e,cap))(g:lb (ah.toList.map (bF F)++e4 cap)=gr aS cR)(j:g7 (c aS) cR=m)(k:dy aS l=f de)(t:ew de=m)(i:∀a,ew (aO a)=m)(b:e_ aS=m)(n:∀a,ay (c aS) (c (aO a))=m):
  dx q D all s F l (λa=>e' (aS++gL (c l) (c (aO a)-c aS)) (res a)) (λa=>c' aS (aO a) l):=.eZ r aS h d u (λ_ _ o=>g▸u1 o) j k t i b n
def dx.b0{e}(t:bk q e cR de res aO)(aS)(i:s.guard=p)(d:s.op=.call {callee:=.value cP,args:=ah,argTypes:=dn})(u:gR (bF F cP)=f (e,cap))(g:l3 (ah.toList.map (bF F)++e4 cap) (gr aS cR)=f ab)(h:U ab)(k:g7 (c aS) cR=m)(n:dy aS l=f de)(w:ew de=m)(j:∀a,ew (aO a)=m)(b:e_ aS=m)(r:∀a,ay (c aS) (c (aO a))=m):
  dx q D all s F l (λa=>e' (aS++gL (c l) (c (aO a)-c aS)) (res a)) (λa=>c' aS (aO a) l):=.eZ t aS i d u (λ_ _ o=>tm g h o) k n w j b r
def eC.fF(I:j6 P s k X W a4){aH h}{U}{d:Nat->n O}(R:a4.size=h)(ae:bF F k=aw (.C m aH 0 V))(ax:bF F X=aw (.C U h z d))(j:0<z)(i:z*a4.bytes<=140737488355328)(aL:∀C,C<z->∀ah∈d C,nw ah=m):
  eC P D s F l (ι:={E:fl×n Z // ek h z d E.2}) (λE=>cM (cY E.1.1 z)) (λE=>l++[.J (cm W h E.1.1 z E.1.2)]):=by
 intro b az M g;obtain⟨a0,t2,C,cd,aq,e,aE,G,y⟩:=I.op;have K:=eO M k;rw[ae]at K;have aa:=Rd.fX (h:=aH) (gb:=a4.size) (.inr a) (b8 K);have t:=eO M X;rw[ax]at t;have t:=b8 t;obtain⟨aZ,aI,A,S,aX,aJ,av,aT,aM⟩:=aa.b3;have aP:=av a;subst aP;rw[S]at aa;have aC:Rd b.E (az.eval X) (.C U a4.size z d):=N;obtain⟨r,ab,Y,q,aA,aS,aQ,aR⟩:=v5 (P:=P) (ty:=s.type) e aE G y I.elem g aa aC x N I.bytes;have aK:=vb (P:=P) (ty:=s.type) e aE G y I.elem g aa aC x N I.bytes;have aj:cf 0 V d=d:=by funext C;simp[cf]
 rw[R,cV,aj]at q;rw[R]at aQ;rw[cV]at aA aR;have aD:ek h z d r:=⟨q.len,q.bJ,λC e aU ah u=>by
  obtain⟨aV,ad,aF⟩:=q.rd C e aU ah u
  grind[vo]⟩
 have Q:∀k∈r,dY k=m:=λk ae=>by
  obtain⟨w,ar,rfl⟩:=hq ae;have ao:0<h:=N;have aO:=q.len;have e:w / h<z:=sy N;have L:w / h*h+w % h=w:=uF w h;have u:w % h<c (d (w / h)):=by rw[q.bJ _ e];exact qc _ ao
  obtain⟨aV,ad,aF⟩:=aD.bY _ e _ _ (bG u);rw[L,bG ar]at ad;cases ad;exact(aF b.E).cell
 let o:au:=b.a.drew.alloc (.cells (r++ab).toArray W);have aG:ey (l++[.J (cm W h (.row b.a.heap.size Y) z r)]) {b with a:=o,t:=b.t++[⟨.nilFunc,[b.a.heap.size]⟩]} (.J (cm W h (.row b.a.heap.size Y) z r)) ⟨.nilFunc,[b.a.heap.size]⟩:=by
  refine⟨λB=>if B=b.a.heap.size then f (.cells (r++ab).toArray W (0,0))else p,⟨a,Q,q.len,aA,aS,ab,aQ,a⟩,λB s T=>?_,λB=>?_,λB T s=>?_⟩
  .by_cases ai:B=b.a.heap.size
   .subst ai;simp only[dH]at T;cases T;exact lZ b.a.drew _
   grind
  .by_cases ai:B=b.a.heap.size<;>simp[ai]
  simp at T;subst T;cases j:b.E b.a.heap.size s with
  |none=>rfl
  |some aW=>have:=g.block j;omega
 have aN:o.heap.size=b.a.heap.size+1:=NU;have H:bd l {b with a:=o}/\cN l b l {b with a:=o}:=
  g.cX x (λag i=>iR b.a.drew _ i) (λag i s=>rfl) (λag i s aW j=>by have:=g.block j;omega) a a a
 obtain⟨ak,an⟩:=H.1.b2 H.2 rfl g aG (λag i=>by grind);refine⟨⟨(.row b.a.heap.size Y,r),aD⟩,.value (.slice (f ⟨b.a.heap.size,0,p⟩) z Y),_,_,?_,.inl a,Rd.val a,ak,an,?_⟩
 .rw[lj aq,S];simp[aR];rfl
 grind[lj,jm]
def g.fF{k X}{W}{a4}(B:j6 P s k X W a4){x h z}{o}{d a:Nat->n O}(y:a4.size=h)(C:bF F k=aw (.C m x 0 d))(u:bF F X=aw (.C o h z a))(i:0<z)(e:z*a4.bytes<=140737488355328)(t:∀r,r<z->∀w∈a r,nw w=m)(A:s.guard=p)(E:fg D s.dst=m)(j:∀b:{b:fl×n Z // ek h z a b.2},g q D be (.aj all bs::av) .normal (fW s.dst (cM (cY b.1.1 z)) F) (l++[.J (cm W h b.1.1 z b.1.2)])):g q D be (.aj all (s::bs)::av) .normal F l:=
 g.cJ _ _ A E (eC.fF B y C u i e t) j
def g.fj(W)(h)(i:g q D be (.code r::av) .normal F (l++[.J (cm W h (.nil p) 0 [])])):g q D be (.code r::av) .normal F l:=by refine g.aU (λj o b a=>?_) i;obtain⟨k,d⟩:=a.b2 (bY:=.J (cm W h (.nil p) 0 [])) (L:=⟨.nilFunc,[]⟩) (.refl _ _) rfl a ⟨λ_=>p,⟨rfl,by simp,by simp,rfl,rfl⟩,by simp,by simp,by simp⟩ E;exact⟨{j with t:=j.t++[⟨.nilFunc,[]⟩]},rfl,⟨b.size,b.defers.imp λ_ e=>e.mono d.ext,λn=>(b.aK n).mono d.ext a.len⟩,k,d⟩
end
def F_(h:Z)(e g:Nat)(a:Nat->n O)(d b:O):Prop:=b=d∨(d=.val h/\b=.C v e g a)
def bd.fB{aO fb}{h}{bP}{ah}(q:bd (aO++[.J (cm W h bP j ah)]) b)(aw:ek h j V ah){s}{eL}{z o}{B lV:Nat->n O}(y:aO[s]?=f (.q eL z o B))(aU:fb=aO.set s (.q eL z o lV))(az:ko (c fb) fb=m)(ab:∀k,k<o->c (lV k)=c (B k))(Z:∀k,k<o->∀(u:Nat) (K:O),(lV k)[u]?=f K->∃x,(B k)[u]?=f x/\F_ (cY bP j) h j V x K):
  ∃r:a5,bd fb r/\eY b r/\(∀aj M,bx (aO++[.J (cm W h bP j ah)]) b aj M->hN (c fb) M=m->bx fb r aj M)/\∀{l:n an} {w:a5},dd l w (aO++[.J (cm W h bP j ah)]) b->l.length<=c fb->dd l w fb r:=by
 have G:=(cO.1 y).1;have aG:(aO++[an.J (cm W h bP j ah)])[c aO]?=f (.J (cm W h bP j ah)):=E
 obtain⟨L,ce,ar,au,ao,S,aJ,aK⟩:=cm.fM aG V (λk g=>⟨aw.et k g,λaT u x aV t aI=>by
  obtain⟨aW,aN,aQ⟩:=aw.bY k g u x t
  grind⟩) b q
 obtain⟨D,F⟩:=q.cc (ce:=ce) (bj:=b.a) (ec:=.M) (cp:=⟨L.v,[]⟩) aG ar rfl (bE _) (λ_ _ _=>rfl) (λi _ e ad=>ao i e ad) au S E rfl rfl rfl C;have Q:(aO++[an.J (cm W h bP j ah)]).set (c aO) .M=aO++[.M]:=E;rw[Q]at D F;have ax:(aO++[an.M])[s]?=f (.q eL z o B):=N;have aR:=D.len;have R:=bG (l:=b.t.set (c aO) ⟨L.v,[]⟩) (i:=s) N;generalize(b.t.set (c aO) ⟨L.v,[]⟩)[s]'_=ss at R;have H:=D.box s _ ss ax R;have ae:fJ (.q eL z o B) ss (.q eL z o lV) ss:=⟨λ_=>rfl,bE _⟩
 have aS:(b.t.set (c aO) ⟨L.v,[]⟩).set s ss=b.t.set (c aO) ⟨L.v,[]⟩:=m4;obtain⟨aq,I⟩:=D.cc (ce:=ce) (bj:=b.a) (ec:=.q eL z o lV) (cp:=ss) ax R ae (bE _) (λ_ _ _=>rfl) (λ_ _ _ _=>rfl) (λ_ _ _ aF=>aF) S
  (λi e=>⟨.inl e,D.lt ss (ca R) i e⟩) a a a (by
   rcases H with⟨dN,eJ⟩|⟨i,T,A,ak,dN,eJ,jQ,U,X,av,Y⟩
   .exact .inl ⟨dN,eJ⟩
   .refine .inr ⟨i,T,A,ak,dN,eJ,jQ,U,X,⟨av.len,λk g=>by rw[ab k g];exact av.bJ k g,λk g u K t=>?_⟩,Y⟩;obtain⟨x,aE,aA⟩:=Z k g u K t;obtain⟨aM,ag,ai⟩:=av.rd k g u x aE;refine⟨aM,ag,?_⟩;rcases aA with rfl|⟨rfl,rfl⟩
    .exact ai
    grind[Rd.bp])
 have aD:(aO++[an.M]).set s (.q eL z o lV)=fb++[.M]:=N;rw[aD]at aq I;have J:=F.trans I;refine⟨_,aq.drop (bs:=[.M]) az,⟨a,au,λi e ad=>ao i (e L (ca ar)) ad,S,λi e=>?_⟩,λaj M aL aa=>(aL.mono J.ext q.len).drop (bs:=[.M]) aa,λ{l w} aP ae=>(aP.trans (J.too' q)).drop (bs:=[.M]) ae⟩;rcases e with e|⟨cp,aC,e⟩
 .exact .inl e
 have aH:=hh aC;grind
def bk.fB{P:aI}{d:Type}{I:ag P}{K}{args}{l}{b:d->y}{aO fb:d->n an}{W h j}{bP:d->fl}{ah:d->n Z}{k:Nat->n O}(M:bk I K args l b (λa=>aO a++[.J (cm W h (bP a) j (ah a))]))(ab:∀a,ek h j k (ah a))(Q){eL}{R q:Nat}{r:d->Nat->n O}{lV:Nat->n O}(ad:∀a,(aO a)[Q]?=f (.q eL R q (r a)))(X:∀a,fb a=(aO a).set Q (.q eL R q lV))(aa:∀a,ko (c (fb a)) (fb a)=m)(V:∀a,hN (c (fb a)) (b a)=m)(Y:∀a,c l<=c (fb a))(aj:∀a g,g<q->c (lV g)=c (r a g))(ak:∀a g,g<q->∀(N:Nat) (S:O),(lV g)[N]?=f S->∃J,(r a g)[N]?=f J/\F_ (cY (bP a) j) h j k J S):bk I K args l b fb:=by refine⟨M.1,λae A D B U w z=>M.2 ae A D B U w λa x T ai C e o F=>?_⟩;obtain⟨E,s,i,t,u⟩:=o.fB (ab a) (ad a) (X a) (aa a) (aj a) (ak a);exact .aU i (z a x T E (C.mono i.mem) (t T _ e (V a)) s (u F (Y a)))
def SU(aV:bn P ad){parts}(t:s.op=.buildSlice o j parts){h}{V}(g:rW ad η o j parts.toList=f (h,V)){e}(r:b1 ad o=f e)(ae:e.desc=.slice W){ρ:aA->Z}(M:∀ar,bx l b (ρ ar) (η ar)):
  ∃q:n Z,e1 b.E h j (λe=>V.getD e []) q/\j<=16777216/\0<h/\(ac ρ s).run P b.a=.ok (.value (.slice (f ⟨b.a.heap.size,0,p⟩) j j)) (b.newRow W q).a/\(ac ρ s).events P b.a #[]=#[]:=by
 unfold rW at g;simp[r,ae]at g
 .skip
  cases w:b1 ad W with
  |none=>grind
  |some d=>
   simp[w]at g;cases B:af d.size 0 with
   |true=>grind
   |false=>
    simp[B]at g;cases G:ay (j*d.size) 16777216 with
    |false=>grind
    |true=>
     simp[G]at g;cases aa:pF η parts.toList with
     |none=>grind
     |some T=>
      simp[aa]at g;cases aq:rM (λh=>f (h*d.size,d.size)) T (aY (j*d.size) Q.any)with
      |none=>grind
      |some D=>
       simp[aq]at g;cases H:h4 D with
       |none=>grind
       |some aF=>
        simp[H]at g;cases ab:rH d.size j aF with
        |none=>grind
        |some ai=>
         simp only[ab,eW,lK]at g;obtain⟨rfl,rfl⟩:=g;have aL:d.size≠0:=λaC=>by rw[aC]at B;cases B
         have aD:=fe G;obtain⟨ao,k,NP,aH,aI,a,ag,aJ,aK⟩:=(aV W d w).dc;have an:k.cells.size=d.size:=by have:=eN List.length ag;grind
         have ak:∀i∈k.cells.toList,dY i=m:=by intro i L;have ah:lL i∈k.cells.toList.map lL:=k_.2 ⟨i,L,rfl⟩;rw[ag]at ah;obtain⟨aM,_,I⟩:=k_.1 ah;exact(Rd.ft (bD:=b.E) I.symm).cell
         have y:∀aE,(∀i∈(aB aE).map (λu=>k.cells[u % k.cells.size]!),dY i=m):=by grind[Nat.mod_lt]
         have au:∀A:n Z,(∀i∈A,dY i=m)->bO l b A (aY (c A) Q.any):=by
          intro A;induction A with
          |nil=>intro _;trivial
          |cons i A O=>intro L;exact⟨L i E,O λaG z=>L aG N⟩
         obtain⟨R,S⟩:=y4 (l:=l) (b:=b) M aa;have aP:bO l b ((Array.range (j*d.size)).map (λu=>k.cells[u % k.cells.size]!)).toList (aY (j*d.size) Q.any):=by have:=au _ (y (j*d.size));simpa using this
         obtain⟨q,U,X⟩:=yl (l:=l) (b:=b) (vU:=λh=>f (h*d.size,d.size)) (λh aN K=>K) aq R S aP;have nP:=rJ H X;obtain⟨az,C⟩:=B0 (bD:=b.E) (A:=q.toList) ab (by simpa using nP.cM) nP.e0;refine⟨q.toList,C,fM (uC j x) aD,by omega,?_,?_⟩
         rotate_left
         .exact Ry
         have z:=(aV o e r).run_underlying (J:=b.a);rw[ae]at z;have av:(zeroValue W).run P b.a=.ok k b.a:=N';have F:Instr.fill (λh=>f (h*d.size,d.size)) ((Array.range (j*d.size)).map (λu=>k.cells[u % k.cells.size]!)) (parts.map λ(e,Y)=>(e,ρ Y)).toList=f q:=by simpa using U
         by_cases ax:j*d.size=0
         .have aw:j=0:=by grind[Nat.mul_eq_zero]
          subst aw;have aj:Array.range 0=#[]:=rfl;simp[aj]at F;simp[ac,t,Instr.buildSlice,z,(aV W d w).bk,aj,F,Go.newRow,a5.newRow]
         rw[show ac ρ s=(do pure (.value (<-Instr.buildSlice o j (parts.map λ(e,Y)=>(e,ρ Y))))) by simp[ac,t]];simp only[Instr.buildSlice,cI,z,c7,(aV W d w).bk,ax,dh,av,show¬j*d.size>2 ^ 24 by omega,sK,F,d_];simp[Go.newRow,a5.newRow]
section
variable {q:ag P}
def g.gQ(aV:bn P ad){parts}(C:s.op=.buildSlice o j parts){h}{V}{e}(u:b1 ad o=f e)(M:e.desc=.slice W)(r:rW ad (bF F) o j parts.toList=f (h,V))(S:s.guard=p)(U:fg D s.dst=m)(w:g q D be (.aj all bs::av) .normal (fW s.dst (cz (c l) (.C j h 0 j)) F) (l++[.q W h j (λe=>V.getD e [])])):g q D be (.aj all (s::bs)::av) .normal F l:=by
 refine g.cJ (ι:=Unit) (λ_=>cz (c l) (.C j h 0 j)) (λ_=>l++[.q W h j (λe=>V.getD e [])]) S U (λb A O i=>?_) λ_=>w;obtain⟨n,y,I,E,B,K⟩:=SU (l:=l) (b:=b) (ρ:=A.eval) aV C r u M (λX=>eO O X);have aG:ey (l++[.q W h j (λe=>V.getD e [])]) {b with a:=(b.newRow W n).a,t:=b.t++[⟨.slice (f ⟨b.a.heap.size,0,p⟩) 0 j,[b.a.heap.size]⟩]} (.q W h j (λe=>V.getD e [])) ⟨.slice (f ⟨b.a.heap.size,0,p⟩) 0 j,[b.a.heap.size]⟩:=by
  refine .inr ⟨b.a.heap.size,j,n,[],a,by rw[h2];exact lZ b.a _,by rw[h2];exact y.len,bE _,by omega,y,λs=>?_⟩;cases k:b.E b.a.heap.size s with
  |none=>rfl
  |some T=>have:=i.block k;omega
 have z:bd l {b with a:=(b.newRow W n).a}/\cN l b l {b with a:=(b.newRow W n).a}:=
  i.cX (by simp[a5.newRow]) (λt d=>iR b.a _ d) (λt d s=>rfl) (λt d s T k=>by have:=i.block k;omega) a a a
 obtain⟨R,Q⟩:=z.1.b2 z.2 rfl i aG (λt d=>by simp at d;subst d;exact⟨bE _,by simp[a5.newRow]⟩);refine⟨(),.value (.slice (f ⟨b.a.heap.size,0,p⟩) j j),{b with a:=(b.newRow W n).a,t:=b.t++[⟨.slice (f ⟨b.a.heap.size,0,p⟩) 0 j,[b.a.heap.size]⟩]},_,B,.inl rfl,?_,R,Q,by rw[K];exact .nil⟩;refine⟨.slice (f ⟨b.a.heap.size,0,p⟩) 0 j,⟨_,_,j,j,a,bE _,by simp,by omega,a,λ_=>⟨_,a,by simp⟩⟩,by simp,λY J N x r=>?_⟩;simp at r;obtain⟨_,_,rfl,_⟩:=r;exact⟨bE _,λ_=>⟨_,by show(b.t++[_])[c l]?=_;rw[<-i.len,w8],a⟩⟩
end
def u6(l i j:Nat)(g:Nat->n O):Q->Q×n Prop
 |.S b (.C h a e d)=>match af b l with
  |true=>match af a i with
   |true=>(.c (.C v i d (hA e g)),[h=j,e+d<=j])
   |false=>(.S b (.C h a e d),[])
  |false=>(.S b (.C h a e d),[])
 |k=>(k,[])
def pm(g e h:Nat)(a:Nat->n O):n Q->n Q×n Prop
 |[]=>([],[])
 |i::l=>match u6 g e h a i with
  |(b,j)=>match pm g e h a l with
   |(d,k)=>(b::d,gD j k)
def Cc(h g i:Nat)(a:Nat->n O):E1->E1×n Prop
 |.R j=>match u6 h g i a j with|(b,e)=>(.R b,e)
 |.agg d=>match pm h g i a d with|(k,e)=>(.agg k,e)
def Cb(g e h:Nat)(a:Nat->n O):y->y×n Prop
 |.p j=>match Cc g e h a j with|(b,i)=>(.p b,i)
 |d=>(d,[])
def u7(e d g:Nat)(a:Nat->n O):bI->bI×n Prop
 |[]=>([],[])
 |(o,i)::l=>match Cb e d g a i with
  |(h,j)=>match u7 e d g a l with
   |(b,k)=>((o,h)::b,gD j k)
def iL(g j k:Nat)(b:Nat->n O):Nat->n an->n an×n Prop
 |_,[]=>([],[])
 |i,d::r=>match iL g j k b (i+1) r with
  |(a,h)=>match af i g with
   |true=>(.M::a,h)
   |false=>match d with
    |.cells l e=>match pm g j k b e with|(o,q)=>(.cells l o::a,gD q h)
    |d=>(d::a,h)
section
variable {b7:a5}{W h:Nat}
structure mg(l:n an)(b:a5)(d h j:Nat)(V:Nat->n O)(ao:n an)(b7:a5):Prop where
 a6:∀aa w,cx l b aa w->cx ao b7 aa w
 e2:∀aa gb s z,cx l b aa (.S d (.C j gb s z))->gb=h->s+z<=j->Rd b7.E aa (.C v h z (hA s V))
def mg.cF(g:mg l b d h j V ao b7){aa}{w}(k:U (u6 d h j V w).2)(i:cx l b aa w):cx ao b7 aa (u6 d h j V w).1:=by
 unfold u6 at k⊢;split
 .rename_i q B o s z;split
  .rename_i a;split
   .rename_i e;simp[a,e]at k;have a:=di a;have e:=di e;subst a;obtain⟨rfl,n⟩:B=j/\s+z<=j:=k;exact g.e2 aa _ _ _ i e n
   exact g.a6 aa _ i
  exact g.a6 aa _ i
 exact g.a6 aa _ i
def mg.gv(i:mg l b d h j V ao b7):∀{A:n Z}{a:n Q},U (pm d h j V a).2->bO l b A a->bO ao b7 A (pm d h j V a).1
 |[],[],_,_=>trivial
 |[],_::_,_,e=>e.elim
 |_::_,[],_,e=>e.elim
 |o::A,k::a,g,e=>by simp only[pm]at g⊢;rw[U.Y]at g;exact⟨i.cF g.1 e.1,i.gv g.2 e.2⟩
def mg.p(e:mg l b d h j V ao b7){k}(a:U (Cc d h j V k).2)(g:ez l b aa k):ez ao b7 aa (Cc d h j V k).1:=by
 cases k with
 |R q=>exact e.cF a g
 |agg n=>obtain⟨A,o,i⟩:=g;exact⟨A,o,e.gv a i⟩
def mg.da(k:mg l b d h j V ao b7)(a:c b.t=c l)(i:fm l b ao b7){aa}{I}(g:U (Cb d h j V I).2)(e:bx l b aa I):bx ao b7 aa (Cb d h j V I).1:=by
 cases I with
 |p o=>exact k.p g e
 |ae n=>exact e.mono i a
 |any=>trivial
def mg.b9(q:mg l b d h j V ao b7)(g:c b.t=c l)(n:fm l b ao b7):∀{F:bI}{o:Nat}{k:Z},U (u7 d h j V F).2->bx l b k (look F o)->bx ao b7 k (look (u7 d h j V F).1 o)
 |[],_,_,_,_=>trivial
 |(r,s)::t,o,k,i,a=>by
  simp only[u7]at i⊢;rw[U.Y]at i;simp[look]at a⊢;cases e:af r o with
  |true=>rw[e]at a;exact q.da g n i.1 a
  |false=>rw[e]at a;exact q.b9 g n i.2 a
theorem B':∀{l:n an}{e u:Nat},(iL d h j V e l).1[u]?=match l[u]? with
  |none=>p
  |some a=>f (match af (e+u) d with|true=>.M|false=>match a with|.cells i b=>.cells i (pm d h j V b).1|a=>a)
 |[],e,u=>by simp[iL]
 |a::g,e,0=>by simp[iL,kf,nc];grind
 |a::g,e,u+1=>by have k:=B' (l:=g) (e:=e+1) (u:=u);have o:e+1+u=e+(u+1):=x;rw[o]at k;simp[iL,oa];grind
def H9:∀{l:n an}{e u:Nat}{g:aq}{a:n Q},U (iL d h j V e l).2->l[u]?=f (.cells g a)->e+u≠d->U (pm d h j V a).2
 |[],e,u,_,_,_,b,_=>by grind
 |o::k,e,0,g,a,i,b,q=>by simp at b;subst b;simp[iL]at i;grind[Nat.eq_of_beq_eq_true,U.Y]
 |o::k,e,u+1,g,a,i,b,q=>by simp at b;refine H9 (l:=k) (e:=e+1) (u:=u) ?_ b x;simp[iL]at i;grind[U.Y]
theorem Ca:∀{l:n an}{e:Nat},(iL d h j V e l).1.length=c l
 |[],_=>rfl
 |g::a,e=>by simp[iL];have b:=Ca (l:=a) (e:=e+1);grind
def bd.bC(r:bd l b)(aG:l[d]?=f (.q W h j V))(aq:U (iL d h j V 0 l).2):
  ∃o:a5,o.a=b.a/\bd (iL d h j V 0 l).1 o/\cN l b (iL d h j V 0 l).1 o/\mg l b d h j V (iL d h j V 0 l).1 o:=by
 have y:d<c l:=(cO.1 aG).1;have ae:b.t[d]?=f (b.t[d]'(by rw[r.len];exact y)):=bG _;generalize b.t[d]'N=L at ae;have aZ:=r.box _ _ L aG ae;obtain⟨ce,av,aw,ax,az⟩:∃ce:Mem,(∀k e q,b.E k e=f q->ce k e=f q)/\(∀k,k∉L.al->∀e,ce k e=b.E k e)/\(∀k e q,ce k e=f q->b.a.cell? ⟨k,e,p⟩=f q) /\
   (∀q n e I,cx l b q (.S d (.C j n e I))->n=h->e+I<=j->Rd ce q (.C v h I (hA e V))):=by
  rcases aZ with⟨rfl,rfl⟩|⟨k,ak,A,a8,rfl,hw,aU,aV,aT,aK,a4⟩
  .refine⟨b.E,λ_ _ _ S=>S,λ_ _ _=>rfl,r.mem,λq n e I J s aF=>?_⟩;obtain⟨au,⟨aO,aj,Z,ak,X,t,u,G,aI,aP⟩,_,aL⟩:=J;grind[Rd.dL]
  let ce:Mem:=λz e=>if z=k then A[e]? else b.E z e;have aN:∀z e q,b.E z e=f q->ce z e=f q:=λz e q X=>by grind
  refine⟨ce,aN,λz aS e=>N,λz e q X=>?_,λq n e I J s aF=>?_⟩
  .by_cases s:z=k
   .subst s;simp[ce,dH]at X;simp[aM,hw];grind
   simp[ce,s,dh]at X;exact r.mem z e q X
  subst s;obtain⟨au,⟨aO,aj,Z,a3,X,t,u,G,aI,aP⟩,_,aL⟩:=J;obtain⟨cp,D,aH⟩:=(aL _ _ _ _ aG).2 rfl;rw[ae]at D;cases D;rw[aI]at aH;cases aH;rw[X];have ag:∀i,i<I->∀F R,(hA e V i)[F]?=f R->∃aC,A[(e+i)*n+F]?=f aC/\Rd b.E aC R:=λi g F R w=>by rw[yY]at w;exact aK.rd (e+i) x F R w
  refine .C k (e*n) (λi F=>(A[(e+i)*n+F]?).getD K) t x E (λi g=>by rw[yY];exact aK.bJ _ x) (λa6=>N) (λi g F R w=>N) (λi g F R w=>?_);obtain⟨aC,aD,aE⟩:=ag i g F R w;rw[aD];exact aE.mono aN
 obtain⟨O,aA⟩:=r.cc (ce:=ce) (bj:=b.a) (ec:=.M) (cp:=⟨L.v,[]⟩) aG ae C (bE _) (λ_ _ _=>rfl) (λk _ T e=>aw k T e) av ax E rfl rfl rfl C;let o:a5:=⟨b.t.set d ⟨L.v,[]⟩,ce,b.a,b.own⟩
 have ag:∀i M,l[i]?=f M->i≠d->(iL d h j V 0 l).1[i]?=f (match M with|.cells W aa=>.cells W (pm d h j V aa).1|k=>k):=λi M g aW=>by grind[B',Nat.eq_of_beq_eq_true]
 have aJ:(iL d h j V 0 l).1[d]?=f .M:=by
  rw[B',aG];have:af (0+d) d=m:=by rw[cV];exact sL d
  grind
 have r9:cN (l.set d .M) o (iL d h j V 0 l).1 o:=by
  refine⟨bE _,λ_ _ _=>rfl,λ_ _ _ S=>S,λ_ _ _ _=>rfl,λcp D k T=>.inr ⟨cp,D,T⟩,λi M cp g D=>?_,a,a,a,a⟩;by_cases s:i=d
  .subst s;rw[io y]at g;cases g;exact⟨.M,cp,aJ,D,a⟩
  rw[j_ (λS=>s S.symm)]at g;refine⟨_,cp,ag i M g s,D,?_⟩;cases M<;>first|exact fJ.refl _ _|rfl
 have ad:=aA.trans r9;have ab:mg l b d h j V (iL d h j V 0 l).1 o:=⟨λq aO J=>J.mono ad.ext r.len,λq n e I J s aF=>az q n e I J s aF⟩
 refine⟨o,a,⟨O.mem,by rw[Ca,<-r.len];grind,λi M cp g D=>?_,O.a3,O.lt,O.own⟩,ad,ab⟩;by_cases s:i=d
 .subst s;rw[aJ]at g;cases g;trivial
 have Q:i<c l:=by grind[Ca]
 have ah:=bG Q;have a1:b.t[i]?=f cp:=N;have a2:=r.box i _ cp ah a1;have Y:=O.box i _ cp (by rw[j_ (λS=>s S.symm)];exact ah) D;have B:=ag i _ ah s;rw[g]at B;have B:=ry B;generalize aR:l[i]=ai at *;cases ai with
 |cells eL aa=>
  subst B;obtain⟨k,A,t,u,G,aP⟩:=a2;obtain⟨z,aX,H,aQ,_,a0⟩:=Y;rw[t]at H;cases H;exact⟨k,A,t,u,ab.gv (H9 aq ah x) G,a0⟩
 |w=>subst B;exact Y
 |J=>subst B;exact Y
 |M=>subst B;trivial
 |loop a_ a9 J=>
  subst B;obtain⟨ar,tmps,fn,an,t,u,G,aP,ao⟩:=Y;exact⟨ar,tmps,fn,an,t,u,G,λa7=>(aP a7).mono r9.ext O.len,ao⟩
 |bo=>subst B;exact Y
 |q=>subst B;exact Y
end
section
variable {q:ag P}{dF:bI}
def g.bC(d){W h j}{a:Nat->n O}{ab dr}(t:c9 d l=f (.q W h j a))(C:u7 d h j a F=(dF,ab))(A:iL d h j a 0 l=(ao,dr))(u:U ab)(E:U dr)(x:g q D be (.code r::av) .normal dF ao):g q D be (.code r::av) .normal F l:=by refine g.aU (λI w k e=>?_) x;obtain⟨y,s,b,i,z⟩:=e.bC (er t) N;rw[A]at b i z;refine⟨y,s,⟨k.size,k.defers.imp λ_ B=>B.mono i.ext,λo=>?_⟩,b,i⟩;have:=z.b9 e.len i.ext (F:=F) (o:=o) N (k.aK o);grind
end
def bd.e3{aO}{h}{bP}{ah}(i:bd (aO++[.J (cm W h bP j ah)]) b)(t:ek h j V ah)(I:ko (c aO) aO=m):
  ∃g:a5,bd aO g/\eY b g/\Rd g.E (cY bP j) (.C v h j V)/\∀{e:n an} {k:a5},dd e k (aO++[.J (cm W h bP j ah)]) b->e.length<=c aO->dd e k aO g:=by
 have aG:(aO++[an.J (cm W h bP j ah)])[c aO]?=f (.J (cm W h bP j ah)):=E
 obtain⟨L,ce,A,z,w,x,T,R⟩:=cm.fM aG V (λu l=>⟨t.et u l,λS O D U r N=>by
  obtain⟨X,Y,Q⟩:=t.bY u l O D r
  grind⟩) b i
 obtain⟨y,o⟩:=i.cc (ce:=ce) (bj:=b.a) (ec:=.M) (cp:=⟨L.v,[]⟩) aG A rfl (bE _) (λ_ _ _=>rfl) (λq _ d s=>w q d s) z x E rfl rfl rfl C;have B:(aO++[an.J (cm W h bP j ah)]).set (c aO) .M=aO++[.M]:=E;rw[B]at y o;refine⟨_,y.drop (bs:=[.M]) I,⟨a,z,λq d s=>w q (d L (ca A)) s,x,λq d=>?_⟩,R,λ{e k} K J=>(K.trans (o.too' i)).drop (bs:=[.M]) J⟩;rcases d with d|⟨cp,F,d⟩
 .exact .inl d
 have M:=hh F;grind
def bk.e3{P:aI}{b:Type}{C:ag P}{D}{args}{l}{aO:b->n an}{W h}{j:b->Nat}{d:b->fl}{k:b->n Z}{V:b->Nat->n O}(E:bk C D args l (λa=>cM (cY (d a) (j a))) (λa=>aO a++[.J (cm W h (d a) (j a) (k a))]))(K:∀a,ek h (j a) (V a) (k a))(M:∀a,ko (c (aO a)) (aO a)=m)(J:∀a,c l<=c (aO a)):bk C D args l (λa=>aw (.C v h (j a) (V a))) aO:=by refine⟨E.1,λQ A y w I s u=>E.2 Q A y w I s λa t F R x e i B=>?_⟩;obtain⟨z,o,g,q,r⟩:=i.e3 (K a) (M a);have N:F=cY (d a) (j a):=Rd.bp e;exact .aU g (u a t F z (x.mono g.mem) (by rw[N];exact q) o (r B (J a)))
section
variable {q:ag P}
def iE.cK{y}{bg}{res}{bs:ι->n an}(o:iE q y bg l res λa=>aO a++bs a)(g:∀a,c (aO a)=c l)(I:∀a (j:Nat)(w:an),(aO a)[j]?=f w->As (c (aO a)) l j w):iE q y bg l res aO:=by
 intro K A j D e h;obtain⟨fn,tmps,B,x,r,s,E⟩:=o K A j D e h;refine⟨fn,tmps,B,x,r,s,λz C k t=>E z C k λa i b u=>?_⟩;have J:eY i (i.cut (c (aO a))):=⟨rfl,λ_ _ _ o=>o,λ_ _ _=>rfl,b.mem,λx d=>d.imp id λ⟨L,F,d⟩=>⟨L,hh F,d⟩⟩
 exact .aU J (t a _ (e.gZ (g a).symm (I a) b) (u.drop (Nat.le_of_eq (g a).symm)))
end
section
variable {q:ag P}
def g.e5(o d){ai}{gE}(h:look F o=aD d 0)(a:c9 d l=f (.cells W ai))(e:h4 ai=f gE)(b:g q D be (.aj all bs::av) .normal ((o,aw (.Q gE))::F) (c'.cu d .M l)):g q D be (.aj all bs::av) .normal F l:=by grind[mU,g.hg,bZ.freeze]
def iD.cons{a}{o}{b}(j:look F o=b)(g:iD F a):iD F ((o,b)::a):=by
 intro i k l h d;simp only[look];cases e:af o h with
 |false=>exact g _ _ _ _ d
 |true=>
  exact uj
end
section
variable {q:ag P}
def SE{i:aL}{h}{w}{bs}{X}(I:i.kind≠.early)(x:aH[e]?=f s)(M:aU s (yielded aH w.tmps)=m)(o:bd l b)(Y:∀d,bd l d->(ac w.eval s).run P d.a=.ok (.enter X A.toArray) d.a/\du d ((ac w.eval s).events P d.a #[]))(aj:bk q X cR de res aO)(ax:b6 l b A (gr aS cR))(aq:g7 (c aS) cR=m)(C:dy aS l=f de)(K:ew de=m)(ab:∀g,ew (aO g)=m)(u:e_ aS=m)(t:∀g,c aS<=c (aO g))(E:∀g B az,bx (c' aS (aO g) l) az B (e' (aS++gL (c l) (c (aO g)-c aS)) (res g))->bd (c' aS (aO g) l) az->dd l b (c' aS (aO g) l) az->cc q bq (G (i.N (w.put s.dst B) (.inRegion aH bs::h)) ai) az):
  cc q bq (G (i.N w (.inRegion aH (e::bs)::h)) ai) b:=by obtain⟨_,Q⟩:=aj;refine .next a λd y=>?_;have k:=q.bO y;have j:=o.rely k;obtain⟨z,S⟩:=v9 (kR:=d.t) C j.len;obtain⟨W,n⟩:=j.sub C S K u;have au:=ax.mono k.aY.ext o.len;have aa:b6 de {d with t:=z,own:=oS d z} A cR:=(au.sub (b:=d) C S aq).mono (l:=de) (b:={d with t:=z}) (ao:=de) (az:={d with t:=z,own:=oS d z}) ⟨λ_ _ _ E=>E,λaA Z L aG F=>⟨Z,L,aG,F,.refl _ _⟩⟩ W.len;refine⟨_,d,_,tN x M I (Y d j).1,⟨⟨l,l,j,j,.refl _ _⟩,du.seen (Y d j).2⟩,.aU n (Q _ A aa W bq _ λg ar B av J H N ah=>?_)⟩;refine uP (ai:=ai) (r:=i.N w (.inRegion aH (e::bs)::h)) N J λaw T=>?_;have V:=N.rely T;have U:=ah.trans T.aY;obtain⟨R,ag,ad,an,ae,aP,ak,O⟩:=frame j C S u (ab g) V U (t g) (H.mono T.aY.ext N.len);refine .aU (eY.cO j V U ag aP ak O) ?_;have D:=qw (i:=i) (w:=w) (h:=h) aH e bs B;rw[x]at D;simp[oc]at D;rw[D];exact E g B R ad an (k.aY.trans ae)
def ee.cell(aV:bn P ad){d o B}{W}{aa}{e}(r:c9 d l=f (.J (ee B W aa)))(g:b1 ad o=f e)(w:dY aa=m)(u:hf e [.c (.val aa)]=f (.R (.c (.val aa)))){b}(bQ:bd l b):
  (loadVar o ⟨B,0,p⟩).run P b.a=.ok aa b.a/\du b ((loadVar o ⟨B,0,p⟩).events P b.a #[]):=by
 have aG:=er r;have z:d<c b.t:=h0;have n:=bG z;generalize b.t[d]=L at n;obtain⟨y,⟨D,q,R⟩,I,J,O⟩:=bQ.box d _ L aG n;have t:=I B _ q;have Q:=(J B).2 N
 have F:bO l b [aa] [.c (.val aa)]:=⟨Rd.val w,C⟩;obtain⟨K,E,x⟩:=tJ (b:=b) (l:=l) (P:=P) (aV o e g) (i:=B) (off:=0) (A:=[aa]) (ai:=[.c (.val aa)]) (aj:=.R (.c (.val aa))) (λs S h=>by
  simp[aM,t]
  grind) F u
 have M:=Rd.bp x;subst M;refine⟨E,λk a=>?_⟩;obtain⟨s,h,rfl⟩:=pp (aV o e g) (j:=1) (λs h=>⟨K,by simp[aM,t];grind⟩) (by have:=sf u;grind) k a;exact qt (ca n) Q
def aJ.eE(aV:bn P ad){o B}(d){k}{e}(K:oZ all F s=m)(t:s.op=.load o k)(N:bF F k=aw (.val (.pointer (f ⟨B,0,p⟩))))(r:c9 d l=f (.J (ee B W aa)))(n:b1 ad o=f e)(A:dY aa=m)(M:hf e [.c (.val aa)]=f (.R (.c (.val aa)))):
  aJ q D all s F l (aw (.val aa)) l:=by
 intro U C x j Q S E O T w i u h;refine rB i u (j4 K _ _ _ x) λz y=>?_;have b:=j.rely y;have g:=eO x k;rw[N]at g;have g:=Rd.bp (b8 g);obtain⟨I,J⟩:=ee.cell aV r n A M b;have R:ac C.eval s=(do pure (.value (<-loadVar o ⟨B,0,p⟩))):=by simp[ac,t,g,Instr.loadAt,Instr.sureAddr]
 refine⟨.value aa,z,aa,by simp_all,.inl a,⟨⟨l,l,b,b,.refl _ _⟩,?_⟩,h aa z (Rd.val A) b y.aY⟩;simp_all
def NL(o)(a)(b):Builtin.ssaWrapNilChk_ #[o] o #[.pointer (f a),strVal "",strVal b]=pure (.pointer (f a)):=rfl
def n1(P:aI)(g:n an)(b:aq)(e:Z)(name:String)(h:a3)(i:Z):Prop:=∀a,bd g a->∀d,(Go.method (d+1) b e name).run P a.a=.ok (h,i) a.a/\du a ((Go.method (d+1) b e name).events P a.a #[])
def n1.ptr{g}{name}{j}{e}{z}{q}(k:P.info? g=f e)(i:e.methods.find? (·.name==name)=f z)(n:z.path=#[])(o:z.func=f (j,m))(r:P.underlying g=f (.pointer q)):n1 P l g aa name j aa:=by
 intro t s u;have h:∀d,(typeInfo g).run P d=.ok e d:=λd=>by simp[typeInfo,k]
 have b:∀d,(underlying g).run P d=.ok (.pointer q) d:=λd=>by simp[underlying,r]
 unfold Go.method;constructor
 .simp only[cI,h,i,n,o,c7,follow,d_,receiverAt,b];rfl
 have:∀a,((do pure (j,<-receiverAt g (.val aa) m (if z.path.isEmpty then f ((name.splitOn ".").getLastD name)else p))):Sem (a3×Z)).events P t.a a=a:=λa=>by simp[receiverAt,b,Place.get]
 simp[aF,cI,h,i,n,o,c7,aK,follow,d_,Sem.events_pure,receiverAt,b,events_typeInfo,events_underlying,Place.get];exact .nil
def n1.deref(aV:bn P ad){B}{g}{name}{t}{e}{z}{u}(q:P.info? g=f e)(j:e.methods.find? (·.name==name)=f z)(s:z.path=#[])(w:z.func=f (t,v))(D:P.underlying g=f (.pointer o))(r:c9 d l=f (.J (ee B W aa)))(y:b1 ad o=f u)(E:dY aa=m)(C:hf u [.c (.val aa)]=f (.R (.c (.val aa)))):n1 P l g (.pointer (f ⟨B,0,p⟩)) name t aa:=by
 intro J n F;have h:∀b,(typeInfo g).run P b=.ok e b:=λb=>by simp[typeInfo,q]
 have i:∀b,(underlying g).run P b=.ok (.pointer o) b:=λb=>by simp[underlying,D]
 obtain⟨x,A⟩:=ee.cell aV r y E C n;have I:z.path.isEmpty=m:=N;unfold Go.method;constructor
 .simp only[cI,h,j,s,w,c7,follow,d_,receiverAt,i,Place.get];simp[NL,asAddr,x]
 intro k a;refine A k ?_;simp[aF,cI,h,j,s,w,c7,aK,follow,d_,Sem.events_pure,receiverAt,i,events_typeInfo,events_underlying,Place.get]at a;simpa[NL,asAddr,x]using a
def CS{a:aA->Z}{k}{b}{name}(e:s.op=.call {callee:=.invoke k name,args:=b,argTypes:=dn}){i}{d}(l:a k=.iface i d):
  ac a s=callMethod (.iface i d) name (b.toList.map a).toArray:=by
 have g:#[a k]++b.map a=(.iface i d::b.toList.map a).toArray:=N;have h:(Value.iface i d::b.toList.map a).toArray.extract 1 (Value.iface i d::b.toList.map a).toArray.size=(b.toList.map a).toArray:=N;have j:ac a s=invoke (.fn (.method name) #[]) (#[a k]++b.map a):=by simp[ac,e];rfl
 rw[j,g];show callMethod (.iface i d) name ((Value.iface i d::b.toList.map a).toArray.extract 1 (Value.iface i d::b.toList.map a).toArray.size)=_;rw[h]
def g.ds{an}{name}{ar}{aA z}(aj:bk q ar cR de res aO)(aS)(V:n1 P l an aA name ar z)(H:oZ all F s=m){k}{t}(y:s.op=.call {callee:=.invoke k name,args:=t,argTypes:=dn})(aa:bF F k=aw (.cl an (.val aA)))(Y:dY z=m)(aN:lb (aw (.val z)::t.toList.map (bF F))=gr aS cR)(aE:g7 (c aS) cR=m)(aP:dy aS l=f de)(X:ew de=m)(aC:∀h,ew (aO h)=m)(W:e_ aS=m)(aF:∀h,ay (c aS) (c (aO h))=m)(R:fg D s.dst=m)(aL:∀h,g q D be (.aj all bs::av) .normal (fW s.dst (e' (aS++gL (c l) (c (aO h)-c aS)) (res h)) F) (c' aS (aO h) l)):g q D be (.aj all (s::bs)::av) .normal F l:=by
 intro b E O j aH ab u aG idx w d S;cases idx with
 |nil=>exact d.elim
 |cons aX idx=>
 have Q:=eO O k;rw[aa]at Q;have Q:=b8 Q;generalize aq:E.eval k=aU at Q;cases Q with
 |@cl _ aT _ K aK=>
  have Z:=Rd.bp K;subst Z;obtain⟨fn,G,a,aW⟩:=aj.1;have ax:fn.name≠ "runtime.NumGoroutine":=N;have au:fn.body≠p:=N;obtain⟨ae,ak⟩:∃ae,P.types.size+Made.depth=ae+1:=⟨P.types.size+Made.depth-1,by exact cQ⟩
  have az:∀r,(program:Sem aI).run P r=.ok P r:=λr=>by simp
  have aV:∀r i,(program:Sem aI).events P r i=i:=λr i=>by simp
  have aM:b6 l b (z::t.toList.map E.eval) (gr aS cR):=by rw[<-aN];exact u1 (l:=l) (b:=b) ⟨Rd.val Y,na (eO O) t.toList⟩
  refine SE (aS:=aS) w d.1 (j4 H _ _ _ O) j (A:=z::t.toList.map E.eval) (λah aD=>?_) aj aM aE aP X aC W (λh=>fe (aF h)) λh aU ag n x o=>?_
  .obtain⟨ao,ad⟩:=V ah aD ae;constructor
   .rw[CS y aq];simp[callMethod,az,ak,ao,callFunc,G,ax,au]
   intro J e;refine ad J ?_;rw[CS y aq]at e;simpa[callMethod,az,aV,ak,ao,callFunc,G,ax,au]using e
  refine aL h ag _ ?_ x aH ab u aG idx w d.2 λL C ai I aQ aJ M B=>S L C ai I aQ aJ M (o.trans B);cases T:s.dst with
  |none=>exact O.mono o j.len
  |some aR=>exact(O.mono o j.len).put (lg R aR T) n
def a0.dV{k}(g:s.op=.nilCheck k){h}(i:η k=aw (.val (.pointer (f h)))):a0 P s η l (aw (.val (.pointer (f h)))) l:=by refine .aW λn d j b=>?_;have a:=b k;rw[i]at a;have e:=Rd.bp (b8 a);exact⟨d k,by simp[ac,g,e],a,by simp[ac,g,e]⟩
def a0.e_(aV:bn P ad){k}(t:s.op=.load o k){cap ae h}{ah}{A}{aj}(F:η k=aw (.val (.pointer (f ⟨i,off,p⟩))))(az:off=e*h+ae)(D:l[d]?=f (.J (cm W h (.row i cap) j ah)))(ag:ek h j V ah)(y:b1 ad o=f A)(M:hf A ((fU ae (V e)).map Q.c)=f aj)(ab:e<j):a0 P s η l (.p aj) l:=by
 refine .dw λb I bQ E=>?_;have G:=E k;rw[F]at G;have G:=Rd.bp (b8 G);have ao:d<c b.t:=h0;have C:=bG ao;generalize b.t[d]=L at C;obtain⟨ai,a,an,H,S⟩:=bQ.box d _ L D C;obtain⟨av,aA,X,ax⟩:=cm.lookup a;have aa:=(H i).2 N;have au:=an i _ X;let B:Nat->Z:=λg=>ah.getD (e*h+g) K;have J:∀g r,(fU ae (V e))[g]?=f r->ah[e*h+(ae+g)]?=f (B (ae+g))/\Rd b.E (B (ae+g)) r:=by intro g r n;rw[rK,qb]at n;obtain⟨u,aq,ar⟩:=ag.bY e ab (ae+g) r n;grind
 have aP:=Ec (l:=l) (b:=b) (B:=B) (bg:=fU ae (V e)) (z:=ae) (λg r n=>(J g r n).2);have R:∀g u,((aB (c (fU ae (V e)))).map λg=>B (ae+g))[g]?=f u->b.a.cell? ⟨i,off+g,p⟩=f u:=by
  intro g u n;simp[ng]at n;by_cases T:g<c (fU ae (V e))
  .simp[T]at n;subst n;have ak:=(J g _ (bG T)).1;simp[aM,au];grind
  grind
 obtain⟨u,U,Y⟩:=tJ (b:=b) (l:=l) (P:=P) (aV o A y) (i:=i) (off:=off) (aj:=aj) R aP M;have w:ac I s=(do pure (.value (<-loadVar o ⟨i,off,p⟩))):=RJ;refine⟨u,by rw[w];simp[U],Y,λx q=>?_⟩;rw[w]at q;have O:x∈(loadVar o ⟨i,off,p⟩).events P b.a #[]:=by simpa[U]using q
 obtain⟨g,n,rfl⟩:=pp (aV o A y) (j:=c (fU ae (V e))) (λg n=>⟨_,R g (B (ae+g)) N⟩) (by have:=sf M;grind) x O;exact qt (ca C) aa
def a0.jX(aV:bn P ad){k}(y:s.op=.slice o k p (f X) p){e}(D:b1 ad o=f e)(I:e.desc=.slice W)(K:b1 ad W=f a4){cap}{kd}{z}(O:η k=aw (.val (.slice (f ⟨i,0,p⟩) j cap)))(M:η X=aw (.int kd z))(A:j<=cap)(Q:0<=z)(u:z<=j):a0 P s η l (aw (.val (.slice (f ⟨i,0,p⟩) z.toNat cap))) l:=by
 refine .aW λb r C d=>?_;have h:=d k;rw[O]at h;have h:=Rd.bp (b8 h);have n:kM η p=f p:=rfl;have B:kM η (f X)=f (f z):=by simp[kM,M]
 have q:U (ji j p (f z)):=⟨Q,u⟩;obtain⟨w,R,N⟩:=v6 (P:=P) (kp:=m) A (kh d n) (kh d B) q b.a;have t:=(aV o e D).run_underlying (J:=b.a);rw[I]at t;have x:(aX m j cap p (f (r X)) p).run P b.a=.ok (0,z.toNat,cap) b.a:=w;have F:=vc (P:=P) (kp:=m) A (kh d n) (kh d B) q b.a;have E:∀g,(aX m j cap p (f (r X)) p).events P b.a g=g:=F;refine⟨_,?_,Rd.val a,?_⟩
 .simp[ac,y,h,Instr.sliceAt,t,Instr.slice,x,(aV W a4 K).bk,gQ]
 simp[ac,y,h,Instr.sliceAt,t,Instr.slice,x,E]
def L3{b}:∀{A:n Z}{d:n O},c A=c d->∀g:Nat->Z,(∀a,a<c A->A[a]?=f (g a))->(∀a(e:O),d[a]?=f e->Rd b.E (g a) e)->bO l b A (d.map Q.c)
 |[],[],_,_,_,_=>trivial
 |[],_::_,h,_,_,_=>by grind
 |_::_,[],h,_,_,_=>by grind
 |q::A,e::d,h,g,j,i=>⟨by have:=j 0 E;cases this;exact i 0 e rfl,L3 N (λa=>g (a+1)) (λa k=>by grind) λa o k=>i (a+1) o N⟩
def a0.gg(aV:bn P ad){k}{h}(t:s.op=.typeAssert k h o v){e}(i:b1 ad o=f e)(u:vv e.desc=v){ai}(F:η k=aw (.cG o ai)):a0 P s η l (.p (.agg (ai.map Q.c))) l:=by
 refine .aW λd q C n=>?_;have b:=n k;rw[F]at b;replace b:=b8 b;generalize r:q k=K at b;have x:=(aV o e i).run_underlying (J:=d.a);have M:∀w,e.desc≠.interface w:=by intro w y;rw[y]at u;cases u
 cases b with
 |@cG I A ai j z E D=>
  have g:(Instr.typeAssert (.iface o (.agg A.toArray)) h o v).run P d.a=.ok (.agg A.toArray) d.a/\(Instr.typeAssert (.iface o (.agg A.toArray)) h o v).events P d.a #[]=#[]:=by
   constructor
   .unfold Instr.typeAssert;simp only[cI,x,c7];cases B:e.desc<;>first|simp|simp
   unfold Instr.typeAssert;simp only[x,aF,aK,events_underlying];cases B:e.desc<;>first|simp|simp
  exact⟨.agg A.toArray,by simp[ac,t,r,cI,g.1,c7,d_],⟨A,a,L3 j z E D⟩,by simp[ac,t,r,aF,g.1,g.2,aK,Sem.events_pure]⟩
def g.h5(aV:bn P ad)(d){o B}{k}{b}{e}(ao:s.op=.store o k X)(w:b1 ad o=f e)(T:e.size=1)(I:bF F k=aw (.val (.pointer (f ⟨B,0,p⟩))))(J:bF F X=aw (.val b))(U:b.cells=#[b])(V:dY b=m)(n:c9 d l=f (.J (ee B W aa)))(ai:s.guard=p)(A:fg D s.dst=m)(R:g q D be (.aj all bs::av) .normal (fW s.dst .any F) (l.set d (.J (ee B W b)))):g q D be (.aj all (s::bs)::av) .normal F l:=by
 refine g.cJ (ι:=Unit) (λ_=>.any) (λ_=>l.set d (.J (ee B W b))) ai A (λj ak aP bQ=>?_) λ_=>R;have H:=eO aP k;rw[I]at H;have H:=Rd.bp (b8 H);have x:=eO aP X;rw[J]at x;have x:=Rd.bp (b8 x);have n:=er n;have Z:d<c j.t:=h0;have G:=bG Z;generalize j.t[d]=L at G;obtain⟨an,⟨y,z,aq⟩,ax,ab,ag⟩:=bQ.box d _ L n G;have Q:=(ab B).2 N;have M:=ax B _ z;have O:∀S∈[b],S.oneCell'=m:=λS au=>by have:dY S=m:=N;exact this
 have ae:=run_storeCells_at P B 0 W [b] 0 #[aa] j.a M E O;have aA:∀h,h≠B->(j.a.setRow B #[b]).heap[h]?=j.a.heap[h]?:=λh r=>setRow_other j.a B h _ r;have aC:=setRow_heap j.a B #[aa] #[b] W (0,0) M;obtain⟨aj,ah⟩:=bQ.cf (d:=d) (j7:=ee B W b) (cp:=L) (bj:=j.a.setRow B #[b]) n G rfl E
  (λh r ar=>aA h N) (λh r=>.inl r)
  ⟨λh=>if h=B then f (.cells #[b] W (0,0))else p,⟨y,by simp,λh r=>by grind⟩,λh s r=>by grind,λh=>by grind⟩ a a a
 have t:ac ak.eval s=(do storeVar o ⟨B,0,p⟩ b;pure .skip):=by simp[ac,ao,H,x,Instr.storeAt,Instr.sureAddr]
 have Y:=ae;refine⟨(),.skip,_,K,?_,.inr ⟨a,a⟩,C,aj,ah,?_⟩
 .rw[t];simp[storeVar,(aV o e w).bk,U,T,Y]
 intro u i;rw[t]at i;have az:u∈(storeCells ⟨B,0,p⟩ [b] 0).events P j.a #[]:=by simp[storeVar,aF,(aV o e w).bk,T,U,aK,events_sizeOf,d',hs,dh,cI,c7,Sem.events_pure]at i;simpa[Y]using i
 rcases nn [b] 0 #[aa] j.a #[] M E O u az with aD|⟨aE,_,_,rfl⟩
 .grind
 exact ow (ca G) Q (ag B Q _)
def g.jH(o d)(C h){I}(H:look F o=aD d 0)(k:c9 d l=f (.cells W [.c (.C m I 0 V)]))(z:∀i b,g q D be (.code r::av) .normal ((o,cM (.pointer (f ⟨i,0,p⟩)))::F) (l.set d (.J (ee i W (cY (.nil b) 0)))++[.J (cm C h (.nil b) 0 [])])):g q D be (.code r::av) .normal F l:=by
 refine b2.e4 (ι:=Nat×Option Addr) (dF:=λs=>(o,cM (.pointer (f ⟨s.1,0,p⟩)))::F) (ao:=λs=>l.set d (.J (ee s.1 W (cY (.nil s.2) 0)))++[an.J (cm C h (.nil s.2) 0 [])]) (λt ai x bQ=>?_) λs=>z s.1 s.2;have k:=er k;have X:d<c t.t:=h0;have w:=bG X;generalize t.t[d]=L at w;obtain⟨i,A,rfl,ae,O,ad⟩:=bQ.box d _ L k w
 match A,O with
 |[aa],⟨S,_⟩=>
  obtain⟨b,J,aP,rfl,_,_,ab,_,_⟩:=(show Rd t.E aa (.C m I 0 V)from S).b3;have T:=ab a;subst T;obtain⟨G,B⟩:=bQ.cc (ce:=t.E) (bj:=t.a) (ec:=.J (ee i W (cY (.nil b) 0))) (cp:=⟨.pointer (f ⟨i,0,p⟩),[i]⟩) k w rfl (bE _) (λ_ _ _=>rfl) (λ_ _ _ _=>rfl) (λ_ _ _ U=>U) bQ.mem (λn e=>⟨.inl e,bQ.lt _ (ca w) n e⟩) rfl rfl rfl
   ⟨λn=>if n=i then f (.cells #[.slice b 0 0] W (0,0))else p,⟨rfl,by simp[cY],λn e=>by grind⟩,λn Y e=>by grind,λn=>by by_cases y:n=i<;>simp[y],λn e Y=>by grind⟩
  obtain⟨R,N⟩:=G.b2 (bY:=.J (cm C h (.nil b) 0 [])) (L:=⟨.nilFunc,[]⟩) (.refl _ _) rfl G ⟨λ_=>p,⟨rfl,by simp,by simp,rfl,rfl⟩,by simp,by simp,by simp⟩ E;have u:=B.trans N;refine⟨(i,b),{t with t:=t.t.set d ⟨.pointer (f ⟨i,0,p⟩),[i]⟩++[⟨.nilFunc,[]⟩]},rfl,⟨x.size,x.defers.imp λ_ j=>j.mono u.ext,λM=>?_⟩,R,u⟩;simp only[look];cases e:af o M with
  |false=>exact(x.aK M).mono u.ext bQ.len
  |true=>
   have y:=di e;subst y;have j:=x.aK o;rw[H]at j;obtain⟨_,ah,ag,K,Q,Z⟩:=(j:cx l t _ (.ptr d 0));rw[w]at K;cases K;cases Q;rw[Z];exact Rd.val a
theorem aJ.ff{j:Type}{k}{ao}(t:s.guard=p)(w:eC P D s F l (λ_:j=>k) λ_=>ao):aJ q D all s F l k ao:=λy o u g r i b n x a e h d=>dx.ff t w y o u g r i b n x a e h λ_=>d
section
variable {k:Nat->y}{b7:Bool->Bool->n an}{cL I:Nat}
abbrev ns(a:Bool->Bool->n an)(d b:Nat):(Nat->Bool)->n an:=λy=>a (y d) (y b)
def b4.hR(cS:af cL e=v)(dq:af I e=v)(h:∀a b,aJ q D all s (dA all F k e) (b7 a b) (k e) (b7 a b)):b4 q D all F k (ns b7 cL I) e s:=by intro y _ _;have d:dk e y cL=y cL:=Fc;have g:dk e y I=y I:=Fb;grind
def b4.cD(aV:bn P ad)(iQ:a9 q CT)(t:∀w i,hB ad CT [] all (dA all F k e) (b7 w i) s=f (k e,p,cg):=by intro w i;cases w<;>cases i<;>rfl)(cS:af cL e=v:=by rfl)(dq:af I e=v:=by rfl)(ck:U cg:=by simp only[U,a_];omega):b4 q D all F k (ns b7 cL I) e s:=.hR cS dq λw i=>aJ.eval aV iQ (t w i) ck
def b4.a'(aV:bn P ad:=by exact ba)(iQ:a9 q CT:=by first|assumption|exact a9.nil)(t:∀w i,hB ad CT [] all (dA all F k e) (b7 w i) s=f (k e,p,[]):=by intro w i;cases w<;>cases i<;>rfl)(cS:af cL e=v:=by rfl)(dq:af I e=v:=by rfl):b4 q D all F k (ns b7 cL I) e s:=.cD (cg:=[]) aV iQ t cS dq C
def b4.hf(cS:af cL e=v)(dq:af I e=v)(h:en all cL e=m)(g:en all I e=m)(i:aJ q D all s (dA all F k e) (b7 v v) (k e) (b7 v v)):b4 q D all F k (ns b7 cL I) e s:=by intro y _ d;have a:dk e y cL=y cL:=Fc;have b:dk e y I=y I:=Fb;grind
def b4.fg(dq:af I cL=v)(d:en all I cL=m)(g:aJ q D all s (dA all F k cL) (b7 v v) (k cL) (b7 m v)):b4 q D all F k (ns b7 cL I) cL s:=by intro y _ e;have a:dk cL y cL=m:=Ad;have b:dk cL y I=y I:=Fb;grind
def b4.fh(cS:af cL I=v)(e:en all I cL=m)(g:aJ q D all s (dA all F k I) (b7 m v) (k I) (b7 m m)):b4 q D all F k (ns b7 cL I) I s:=by intro y aV d;have a:dk I y cL=y cL:=Fc;have b:dk I y I=m:=Ad;grind
end
end
inductive dJ where
 |nil
 |aw (d:dJ) (w i:Int) (bb:dJ)
def eA(j:aq):dJ->Z->(Nat->Option Obj)->Prop
 |.nil,k,a=>k=.pointer p/\∀i,a i=p
 |.aw q l i r,k,a=>∃h o n e b,k=.pointer (f ⟨h,0,p⟩)/\(a7 .i64 l/\a7 .i64 i)/\eA j q o e/\eA j r n b/\a h=f (.cells #[.int .i64 l,.int .i64 i,o,n] j (0,0))/\e h=p/\b h=p /\
   (∀d g,e d=f g->b d=p/\a d=f g)/\(∀d g,b d=f g->a d=f g)/\∀d g,a d=f g->d=h∨e d=f g∨b d=f g
def eA.cell{o}(a:eA W o aa lc):dY aa=m:=by
 cases o with
 |nil=>rw[a.1];rfl
 |aw=>obtain⟨_,_,_,_,_,rfl,_⟩:=a;rfl
section
def bd.hU{ad:Nat->Prop}(n:bd l b)(C:az.a=b.a)(M:az.E=b.E)(F:az.own=b.own)(S:c az.t=c ao)(X:c l<=c ao)(z:∀a,a<c l->¬ad a->ao[a]?=l[a]?/\az.t[a]?=b.t[a]?)(T:∀a d,(ad a∨c l<=a)->az.t[a]?=f d->∀e∈d.al,∃x L,ad x/\b.t[x]?=f L/\e∈L.al)(J:∀a h L d,(ad a∨c l<=a)->(ad h∨c l<=h)->az.t[a]?=f L->az.t[h]?=f d->∀e∈L.al,e∈d.al->a=h)(box:∀a s L,ad a->l[a]?=f s->b.t[a]?=f L->∃t d,ao[a]?=f t/\az.t[a]?=f d/\fJ s L t d)(ok:fm l b ao az->∀a s L,(ad a∨c l<=a)->ao[a]?=f s->az.t[a]?=f L->ey ao az s L):bd ao az/\cN l b ao az:=by
 have K:=n.len;have Q:∀(a:Nat) s (L:Loc),l[a]?=f s->b.t[a]?=f L->∃t d,ao[a]?=f t/\az.t[a]?=f d/\fJ s L t d:=λa s L aG i=>by
  by_cases y:ad a
  .grind
  obtain⟨j,o⟩:=z a (cO.1 aG).1 y;exact⟨s,L,j.trans aG,o.trans i,.refl _ _⟩
 have D:fm l b ao az:=⟨λe N R y=>M▸y,Q⟩
 have u:∀(a:Nat) (d:Loc),az.t[a]?=f d->(ad a∨c l<=a)∨(a<c l/\¬ad a/\b.t[a]?=f d):=λa d y=>by grind
 have I:∀(a:Nat) (d:Loc),az.t[a]?=f d->∀e∈d.al,∃(x:Nat) (L:Loc),b.t[x]?=f L/\e∈L.al:=λa d y e g=>by grind
 have Y:∀(a h:Nat) (L d:Loc),(ad a∨c l<=a)->¬ad h->az.t[a]?=f L->b.t[h]?=f d->∀e∈L.al,e∈d.al->False:=λa h L d j o i k e g w=>by obtain⟨x,A,B,q,O⟩:=T a L j i e g;exact o (n.a3 x h A d q k e O w▸B)
 refine⟨⟨λe N R y=>?_,S,λa s L aG i=>?_,λa h L d i k e g w=>?_,λL i e g=>?_,λe g=>?_⟩,⟨?_,?_,D.mem,?_,λd k e g=>?_,Q,?_,?_,?_,F⟩⟩
 .rw[M]at y;rw[C];exact n.mem e N R y
 .rcases u a L i with j|⟨j,o,W⟩
  .grind
  rw[(z a j o).1]at aG;exact(n.box a s L aG W).ck D K λe _=>⟨by rw[C],λN=>by rw[M]⟩
 .rcases u a L i with j|⟨_,j,o⟩<;>rcases u h d k with V|⟨_,V,U⟩
  .grind
  .grind
  .grind
  exact n.a3 a h L d o U e g w
 .obtain⟨a,r,rfl⟩:=hq i;obtain⟨x,A,B,q⟩:=I a _ (bG r) e g;rw[C];exact n.lt A (ca B) e q
 .rw[F]at g;refine⟨C▸(n.own e g).1,λL i E=>?_⟩;obtain⟨a,r,rfl⟩:=hq i;obtain⟨x,A,B,q⟩:=I a _ (bG r) e E;exact(n.own e g).2 A (ca B) q
 .grind
 .grind
 .grind
 .obtain⟨a,r,rfl⟩:=hq k;obtain⟨x,A,B,q⟩:=I a _ (bG r) e g;grind
 all_goals rw[C]
def bd.j6(s:bd l b){A h}{L e}{bB}{o}(aG:l[d]?=f A)(ae:b.t[d]?=f L)(aa:fJ A L h e)(Y:c o=bB.length)(sub:∀w∈e::o,∀x∈w.al,x∈L.al)(U:(e::o).Pairwise λw F=>∀x∈w.al,x∉F.al)(ok:∀k:a5,k.a=b.a->k.E=b.E->k.t=b.t.set d e++o->ey (l.set d h++bB) k h e/\∀(D:Nat) u B,bB[D]?=f u->o[D]?=f B->ey (l.set d h++bB) k u B):
  bd (l.set d h++bB) {b with t:=b.t.set d e++o}/\cN l b (l.set d h++bB) {b with t:=b.t.set d e++o}:=by
 have T:=s.len;have X:d<c l:=(cO.1 aG).1;have Z:=iG.1 U;have q:∀g n,(g=d∨c l<=g)->(b.t.set d e++o)[g]?=f n->(g=d/\n=e)∨(c l<=g/\o[g-c l]?=f n):=λg n i j=>by grind
 refine bd.hU (ad:=λg=>g=d) s a a a N E (λg i C=>N) (λg n i j W S=>N) (λg z n V i t j r W S ab=>?_) (λg u n i y j=>?_) (λQ g u n i y j=>?_)
 .rcases q g n i j with⟨cS,rfl⟩|⟨cS,dq⟩<;>rcases q z V t r with⟨R,rfl⟩|⟨R,O⟩
  .omega
  .grind
  .grind
  obtain⟨I,J⟩:=cO.1 dq;obtain⟨K,M⟩:=cO.1 O;exact FI
 .grind
 grind
def iu:dJ->Nat->Q
 |.nil,_=>.c .bb
 |.aw ..,a=>.aV a
def hj(a:aq):dJ->n an
 |.nil=>[]
 |.aw e b d g=>[.J (eA a (.aw e b d g))]
def my(a:n Nat):dJ->Z->(Nat->Option Obj)->n Loc
 |.nil,_,_=>[]
 |.aw ..,d,b=>[⟨d,a.filter λe=>(b e).isSome⟩]
def jk:dJ->Nat->n an->n an
 |.nil,_,a=>a
 |.aw ..,b,a=>a.set b .M
def bd.gA(bQ:bd l b){lt cu}{o q:Int}(aG:l[d]?=f (.J (eA W (.aw lt o q cu)))):
  ∃g,g.a=b.a/\(∃i L,b.t[d]?=f L/\L.v=.pointer (f ⟨i,0,p⟩)/\g.t[d]?=f ⟨L.v,[i]⟩)/\bd (l.set d (.cells W [.c (.int .i64 o),.c (.int .i64 q),iu lt (c l),iu cu (c l+c (hj W lt))])++(hj W lt++hj W cu)) g /\
   cN l b (l.set d (.cells W [.c (.int .i64 o),.c (.int .i64 q),iu lt (c l),iu cu (c l+c (hj W lt))])++(hj W lt++hj W cu)) g:=by
 have ar:d<c l:=(cO.1 aG).1;have Y:d<c b.t:=h0;have E:=bG Y;generalize b.t[d]=L at E;obtain⟨I,⟨i,D,B,h,x,z,⟨Z,y⟩,s,t,aj,ae,aP,U,ag,ah⟩,aa,J,ad⟩:=bQ.box d _ L aG E;have aq:=bQ.len;have Q:i∈L.al:=(J i).2 N;refine⟨{b with t:=b.t.set d ⟨.pointer (f ⟨i,0,p⟩),[i]⟩++(my L.al lt D h++my L.al cu B x)},rfl,⟨i,L,E,z,N⟩,bQ.j6 aG E (show _=_ from z.symm) ?_ ?_ ?_ λg V e k=>?_⟩
 .cases lt<;>cases cu<;>rfl
 .intro bD e X A;rcases fr.1 e with rfl|e
  .grind
  rcases gl.1 e with e|e
  .cases lt with
   |nil=>cases e
   |aw=>rw[my,gY]at e;grind
  cases cu with
  |nil=>cases e
  |aw=>rw[my,gY]at e;grind
 .refine iG.2 ⟨λbD e X A au=>?_,?_⟩
  .rw[gY]at A;subst A;rcases gl.1 e with e|e
   .cases lt with
    |nil=>cases e
    |aw=>rw[my,gY]at e;grind
   cases cu with
   |nil=>cases e
   |aw=>rw[my,gY]at e;grind
  cases lt<;>cases cu<;>simp[my,qe,h2,uH,iG,List.Pairwise.nil,gY,forall_eq,sF,false_implies,implies_true,a_]
  exact Fg
 have H:∀X n,h X=f n->I X=f n:=λX n j=>(U X n j).2;have ab:ey (l.set d (.cells W [.c (.int .i64 o),.c (.int .i64 q),iu lt (c l),iu cu (c l+c (hj W lt))])++(hj W lt++hj W cu)) g (.J (eA W lt)) ⟨D,L.al.filter λX=>(h X).isSome⟩:=
  ⟨h,s,λX n j=>by grind,λX=>⟨λj=>(kJ.1 j).2,λj=>kJ.2 ⟨(J X).2 Fg,j⟩⟩,λX A n=>by rw[e];grind⟩
 have ai:ey (l.set d (.cells W [.c (.int .i64 o),.c (.int .i64 q),iu lt (c l),iu cu (c l+c (hj W lt))])++(hj W lt++hj W cu)) g (.J (eA W cu)) ⟨B,L.al.filter λX=>(x X).isSome⟩:=
  ⟨x,t,λX n j=>by grind,λX=>⟨λj=>(kJ.1 j).2,λj=>kJ.2 ⟨(J X).2 Fg,j⟩⟩,λX A n=>by rw[e];grind⟩
 have F:=s.cell;have w:=t.cell;have K:g.a.heap[i]?=f (.cells (List.toArray [.int .i64 o,.int .i64 q,D,B]) W (0,0)):=N;have M:∀n,g.E i n=p:=λn=>by rw[e];grind
 have R:∀u,(b.t.set d ⟨.pointer (f ⟨i,0,p⟩),[i]⟩++(my L.al lt D h++my L.al cu B x))[c l+u]?=(my L.al lt D h++my L.al cu B x)[u]?:=λu=>by grind
 have r:∀u,(l.set d (.cells W [.c (.int .i64 o),.c (.int .i64 q),iu lt (c l),iu cu (c l+c (hj W lt))])++(hj W lt++hj W cu))[c l+u]?=(hj W lt++hj W cu)[u]?:=λu=>by grind
 refine⟨⟨i,_,a,K,⟨Rd.int Z,Rd.int y,?_,?_,C⟩,M⟩,?_⟩
 .cases lt with
  |nil=>rw[s.1];exact Rd.bb
  |aw=>exact⟨λS aG=>by have G:=(r 0).symm.trans aG;cases G;rfl,_,by rw[k];exact R 0,rfl,F⟩
 .cases cu with
  |nil=>rw[t.1];exact Rd.bb
  |aw=>
   cases lt with
   |nil=>exact⟨λS aG=>by rw[r]at aG;cases aG;rfl,_,by rw[k];exact R 0,rfl,w⟩
   |aw=>exact⟨λS aG=>by rw[r]at aG;cases aG;rfl,_,by rw[k];exact R 1,rfl,w⟩
 intro ao ak an T O;cases lt<;>cases cu<;>simp only[hj,my,qe,h2,uH,List.getElem?_nil]at T O
 .cases T
 .grind
 .grind
 grind
def HT(s:bd l b){o}(j:cx l b aa (iu o e))(k:o≠.nil->l[e]?=f (.J (eA W o))):
  ∃h d,eA W o aa h/\(∀g i,h g=f i->b.a.heap[g]?=f i)/\(∀g,g∈d↔(h g).isSome=m)/\(∀g∈d,∀i,b.E g i=p)/\(match o with|.nil=>d=[]|.aw ..=>b.t[e]?=f ⟨aa,d⟩):=by
 cases o with
 |nil=>
  have j:Rd b.E aa .bb:=j;cases j;exact⟨λ_=>p,[],⟨a,λ_=>rfl⟩,by simp,by simp,by simp,a⟩
 |aw=>
  obtain⟨_,L,q,rfl,_⟩:=j;obtain⟨h,r,t,n,u⟩:=s.box e _ L (k nofun) q;exact⟨h,L.al,r,t,n,u,q⟩
def rU:dJ->Nat->Z->n Loc->n Loc
 |.nil,_,_,a=>a
 |.aw ..,b,d,a=>a.set b ⟨d,[]⟩
def bd.cZ(s:bd l b){lt cu}{F i}(aG:l[d]?=f (.cells W [.c (.int .i64 F),.c (.int .i64 i),iu lt e,iu cu u]))(I:lt≠.nil->l[e]?=f (.J (eA W lt)))(J:cu≠.nil->l[u]?=f (.J (eA W cu)))(G:lt≠.nil->cu≠.nil->e≠u):
  ∃q,q.a=b.a/\(∃L,b.t[d]?=f L/\∃U,q.t[d]?=f U/\U.v=L.v)/\bd (jk cu u (jk lt e (l.set d (.J (eA W (.aw lt F i cu)))))) q/\cN l b (jk cu u (jk lt e (l.set d (.J (eA W (.aw lt F i cu)))))) q:=by
 have aU:d<c l:=(cO.1 aG).1;have aT:=s.len;have O:d<c b.t:=x;have ab:=bG O;generalize b.t[d]=L at ab;obtain⟨o,A,rfl,aK,t,aL⟩:=s.box d _ L aG ab
 match A,t with
 |[aD,aC,M,R],⟨ae,ag,aP,az,_⟩=>
 obtain⟨r,B,ai,aE,aF,aH,X⟩:=HT s aP I;obtain⟨T,C,d1,d2,d3,d4,e6⟩:=HT s az J;have ae:Rd b.E aD (.int .i64 F):=ae;have ag:Rd b.E aC (.int .i64 i):=ag;cases ae with|int an=>
 cases ag with|int ao=>
 have aR:o∉B:=λk=>by
  cases lt with
  |nil=>grind
  |aw=>have:=s.a3 d e _ _ ab X o E k;grind
 have aS:o∉C:=λk=>by
  cases cu with
  |nil=>grind
  |aw=>have:=s.a3 d u _ _ ab e6 o E k;grind
 have aO:∀h∈B,h∉C:=λh k aA=>by
  cases lt with
  |nil=>grind
  |aw=>
   cases cu with
   |nil=>grind
   |aw=>exact G nofun nofun (s.a3 e u _ _ X e6 h k aA)
 have y:r o=p:=by cases k:r o with|none=>rfl|some z=>grind
 have aQ:T o=p:=by cases k:T o with|none=>rfl|some z=>grind
 have aw:∀h z,r h=f z->T h=p:=λh z k=>by
  cases t:T h with
  |none=>rfl
  |some K=>grind
 have ok:∀V q,q.a=b.a->q.E=b.E->ey V q (.J (eA W (.aw lt F i cu))) ⟨.pointer (f ⟨o,0,p⟩),o::(B++C)⟩:=λV q ak aj=>by
  refine⟨λh=>if h=o then f (.cells #[.int .i64 F,.int .i64 i,M,R] W (0,0))else(r h).or (T h),⟨o,M,R,r,T,a,⟨an,ao⟩,ai,d1,br a,y,aQ,λh z k=>⟨aw h z k,N⟩,λh z k=>?_,λh z k=>?_⟩,λh z k=>?_,λh=>?_,λh D z=>?_⟩
  .have:h≠o:=N;dsimp only;rw[bl this,k];cases t:r h with
   |none=>rfl
   |some K=>grind
  .by_cases Z:h=o
   .grind
   dsimp only at k;rw[bl Z]at k;cases t:r h with
   |none=>grind
   |some K=>grind
  .rw[ak];by_cases Z:h=o
   .grind
   dsimp only at k;rw[bl Z]at k;cases t:r h with
   |none=>grind
   |some K=>grind
  .grind
  rw[aj];grind
 refine⟨{b with t:=rU cu u R (rU lt e M (b.t.set d ⟨.pointer (f ⟨o,0,p⟩),o::(B++C)⟩))},rfl,?_⟩
 classical
 have aX:lt≠.nil->e<c l/\e≠d:=λk=>⟨(cO.1 (I k)).1,λZ=>by grind⟩
 have aM:cu≠.nil->u<c l/\u≠d:=λk=>⟨(cO.1 (J k)).1,λZ=>by grind⟩
 have ar:b.t[d]?=f ⟨.pointer (f ⟨o,0,p⟩),[o]⟩:=ab;let ad:Nat->Prop:=λn=>n=d∨(lt≠.nil/\n=e)∨(cu≠.nil/\n=u);have Q:∀n,(jk cu u (jk lt e (l.set d (.J (eA W (.aw lt F i cu))))))[n]?=if n=d then f (.J (eA W (.aw lt F i cu)))else if(lt≠.nil/\n=e)∨(cu≠.nil/\n=u)then f .M else l[n]?:=λn=>by cases lt<;>cases cu<;>simp[jk,rv,rq]<;>grind
 have Y:∀n,(rU cu u R (rU lt e M (b.t.set d ⟨.pointer (f ⟨o,0,p⟩),o::(B++C)⟩)))[n]?=if n=d then f ⟨.pointer (f ⟨o,0,p⟩),o::(B++C)⟩else if cu≠.nil/\n=u then f ⟨R,[]⟩else if lt≠.nil/\n=e then f ⟨M,[]⟩else b.t[n]?:=λn=>by cases lt<;>cases cu<;>simp[rU,rv,rq]<;>grind
 have aaR:∀S e d,c (jk S e d)=c d:=λS e d=>by cases S<;>simp[jk]
 have aaS:∀S e au d,c (rU S e au d)=c d:=λS e au d=>by cases S<;>simp[rU]
 have aI:∀h∈B,lt≠.nil/\b.t[e]?=f ⟨M,B⟩:=λh D=>by grind
 have aJ:∀h∈C,cu≠.nil/\b.t[u]?=f ⟨R,C⟩:=λh D=>by grind
 refine⟨⟨_,ar,_,(Y d).trans (br a),a⟩,bd.hU (ad:=ad) s a a a N N (λn w aV=>N) (λn ah w j h D=>?_) (λn aN ah ax w aq j aa h D aW=>?_) (λn av ah w g j=>?_) (λ_ n av ah w g j=>?_)⟩
 .rw[Y]at j;split at j
  .cases j;rcases fr.1 D with rfl|D
   .grind
   rcases gl.1 D with D|D
   .grind
   grind
  have:n<c b.t∨c b.t<=n:=d6 _ _;grind
 .rw[Y]at j aa;grind
 .rw[Q,Y];rcases w with rfl|⟨k,rfl⟩|⟨k,rfl⟩
  .rw[ar]at j;cases j;rw[aG]at g;cases g;exact⟨_,_,br a,br a,a⟩
  .have H:b.t[n]?=f ⟨M,B⟩:=N;rw[I k]at g;rw[H]at j;cases g;cases j;grind[fJ]
  have H:b.t[n]?=f ⟨R,C⟩:=N;rw[J k]at g;rw[H]at j;cases g;cases j;grind[fJ]
 rw[Q]at g;rw[Y]at j;split at g
 .grind
 split at g
 .cases g;trivial
 grind
def eK:dJ->O
 |.nil=>.bb
 |.aw d a b e=>.Q [.int .i64 a,.int .i64 b,eK d,eK e]
def eA.rd{W}{bD}:∀{o:dJ}{r:Z}{e:Nat->Option Obj},eA W o r e->(∀d A b i,e d=f (.cells A b i)->∀n q,A[n]?=f q->bD d n=f q)->Rd bD r (eK o)
 |.nil,_,_,g,_=>by rw[g.1];exact .bb
 |.aw J t u N,_,e,⟨s,F,E,x,R,y,⟨C,B⟩,k,l,I,_,_,z,D,_⟩,j=>by
  subst y;have O:=k.rd (bD:=bD) λd A b i g=>j d A b i (z d _ g).2;have M:=l.rd (bD:=bD) λd A b i g=>j d A b i (D d _ g);have Q:=j s _ _ _ I;refine Rd.Q s 0 (λh=>[Value.int .i64 t,.int .i64 u,F,E].getD h K) (λh w a=>?_) (λh w a=>?_)
  .match h,a with
   |0,_|1,_|2,_|3,_=>grind
  .match h,a with
   |0,a=>cases a;exact Rd.int C
   |1,a=>cases a;exact Rd.int B
   |2,a=>grind
   |3,a=>grind
def bd.gm(h:bd l b){o}(aG:l[d]?=f (.J (eA W o))):
  ∃j,j.a=b.a/\j.t=b.t/\(∀L,b.t[d]?=f L->Rd j.E L.v (eK o))/\bd (l.set d .M) j/\cN l b (l.set d .M) j:=by
 have N:d<c l:=(cO.1 aG).1;have M:=h.len;have x:=bG (show d<c b.t by omega);generalize b.t[d]=L at x;obtain⟨w,T,E,K,Q⟩:=h.box d _ L aG x;let i:Mem:=λe g=>match w e with|some (.cells A _ _)=>A[g]?|_=>b.E e g
 have D:∀e,e∉L.al->∀g,i e g=b.E e g:=λe t g=>by grind
 have O:∀e g u,b.E e g=f u->i e g=f u:=λe g u r=>by grind
 have z:cN l b (l.set d .M) {b with E:=i}:=by
  refine⟨bE _,λ_ _ _=>rfl,O,λe _ F g=>D e (F L (ca x)) g,λn k e t=>.inr ⟨n,k,t⟩,λy B n q k=>?_,a,a,a,a⟩;by_cases s:d=y
  .subst s;rw[aG]at q;cases q;exact⟨.M,n,by grind,k,a⟩
  exact⟨B,n,by grind,k,.refl _ _⟩
 refine⟨{b with E:=i},rfl,rfl,λn k=>?_,⟨λe g u r=>?_,by grind,λy B n q k=>?_,h.a3,h.lt,h.own⟩,z⟩
 .rw[x]at k;cases k;exact T.rd λe A C U t g V X=>by grind
 .by_cases t:e∈L.al
  .have r:i e g=f u:=r;cases I:w e with
   |none=>grind
   |some S=>
    have R:=E e S I;simp[i,I]at r;split at r
    .rename_i A C U s;cases s;show b.a.cell? _=_;simp[aM,R,r]
    grind
  exact h.mem e g u ((D e t g).symm.trans r)
 by_cases s:d=y
 .subst s;rw[io N]at q;cases q;trivial
 rw[j_ s]at q;exact(h.box y B n q k).ck z.ext M λe t=>⟨a,λg=>D e (λJ=>s (h.a3 d y L n x k e J t)) g⟩
end
section
variable {q:ag P}
def bZ.gz{d}{o}{i}(e:bZ D l b F d)(h:c b.t=c l)(a:cN l b ao az)(n:bx ao az (d.tmps.getD o K) i):bZ D ao az ((o,i)::F) d:=
 ⟨e.size,e.defers.imp λ_ g=>g.mono a.ext,λj=>by
  simp only[look];cases k:af o j with
  |false=>exact(e.aK j).mono a.ext h
  |true=>grind[Nat.eq_of_beq_eq_true]⟩
def g.gA(o d){W}{lt cu}{n i}(B:look F o=.p (.R (.aV d)))(e:c9 d l=f (.J (eA W (.aw lt n i cu))))(j:g q D be (.code r::av) .normal ((o,aD d 0)::F) (l.set d (.cells W [.c (.int .i64 n),.c (.int .i64 i),iu lt (c l),iu cu (c l+c (hj W lt))])++(hj W lt++hj W cu))):g q D be (.code r::av) .normal F l:=by refine g.aU (λM K s b=>?_) j;have w:=s.aK o;rw[B]at w;obtain⟨_,L,C,y,_⟩:=w;obtain⟨k,h,⟨E,J,a,u,z⟩,A,t⟩:=b.gA (er e);rw[C]at a;cases a;have x:d<c l:=(cO.1 (er e)).1;refine⟨k,h,s.gz b.len t ⟨λI aG=>?_,_,E,z,u,y.trans u⟩,A,t⟩;rw[kH N,io x]at aG;cases aG;rfl
def g.cZ(o d e u){W}{lt cu}{a i}(S:look F o=aD d 0)(n:c9 d l=f (.cells W [.c (.int .i64 a),.c (.int .i64 i),iu lt e,iu cu u]))(z:lt≠.nil->c9 e l=f (.J (eA W lt)))(A:cu≠.nil->c9 u l=f (.J (eA W cu)))(N:lt≠.nil->cu≠.nil->e≠u)(C:g q D be (.code r::av) .normal ((o,.p (.R (.aV d)))::F) (jk cu u (jk lt e (l.set d (.J (eA W (.aw lt a i cu))))))):g q D be (.code r::av) .normal F l:=by
 refine g.aU (λaa Z I k=>?_) C;have K:=I.aK o;rw[S]at K;obtain⟨_,L,ad,V,Q,ae⟩:=K;obtain⟨E,x,⟨O,j,w,T,y⟩,R,J⟩:=k.cZ (er n) (λh=>er (z h)) (λh=>er (A h)) N;rw[V]at j;cases j;have M:d<c l:=(cO.1 (er n)).1;have s:(jk cu u (jk lt e (l.set d (.J (eA W (.aw lt a i cu))))))[d]?=f (.J (eA W (.aw lt a i cu)))∨(jk cu u (jk lt e (l.set d (.J (eA W (.aw lt a i cu))))))[d]?=f .M:=by
  have ab:(l.set d (.J (eA W (.aw lt a i cu))))[d]?=f (.J (eA W (.aw lt a i cu))):=io M;have Y:∀t B b,b[d]?=f (.J (eA W (.aw lt a i cu)))∨b[d]?=f .M->(jk t B b)[d]?=f (.J (eA W (.aw lt a i cu)))∨(jk t B b)[d]?=f .M:=λt B b h=>by
   cases t with
   |nil=>exact h
   |aw=>simp[jk,rv];grind
  grind
 refine⟨E,x,I.gz k.len J ⟨λX aG=>?_,w,T,?_,?_⟩,R,J⟩
 .rcases s with s|s<;>(rw[s]at aG;cases aG;rfl)
 .grind
 exact hu
def g.gm(o d){W}{s}(w:look F o=.p (.R (.aV d)))(h:c9 d l=f (.J (eA W s)))(b:g q D be (.code r::av) .normal ((o,aw (eK s))::F) (c'.cu d .M l)):g q D be (.code r::av) .normal F l:=by rw[mU]at b;refine g.aU (λA z j a=>?_) b;have n:=j.aK o;rw[w]at n;obtain⟨_,L,y,t,_⟩:=n;obtain⟨i,e,_,x,u,k⟩:=a.gm (er h);exact⟨i,e,j.gz a.len k (show Rd _ _ _ from t▸x L y),u,k⟩
end
section
variable {q:ag P}{aP:fv}{aj:Exit}
def n3(h:Nat)(aP:fv):fv:=λk j g=>∃d a,(∀e i,bZ h g e j i->bd g e->∃b:a5,b.a=e.a/\bZ h a b d i/\bd a b/\cN g e a b)/\aP k d a
theorem n3.of(d:aP aj F l):n3 D aP aj F l:=⟨F,l,λe g b a=>⟨e,rfl,b,a,.refl _ _⟩,d⟩
def n3.step{d}(u:∀b e,bZ D l b F e->bd l b->∃a:a5,a.a=b.a/\bZ D ao a d e/\bd ao a/\cN l b ao a)(y:n3 D aP aj d ao):n3 D aP aj F l:=by obtain⟨q,g,k,B⟩:=y;refine⟨q,g,λb e s n=>?_,B⟩;obtain⟨z,h,w,j,o⟩:=u b e s n;obtain⟨t,i,x,A,r⟩:=k z e w j;exact⟨t,i.trans h,x,A,o.trans r⟩
theorem n3.freeze(o d){W}{ai}{gE}(i:look F o=aD d 0)(b:c9 d l=f (.cells W ai))(g:h4 ai=f gE)(e:n3 D aP aj ((o,aw (.Q gE))::F) (c'.cu d .M l)):n3 D aP aj F l:=by rw[mU]at e;exact .step (λk j h a=>bZ.freeze o d i b g h a) e
def dc.iZ(K:dc q D r (n3 D aP) F l):dc q D r aP F l:=by
 intro T I R t J N n E s d o;refine K T I R t J N n E s d λA U C g b x O a h=>?_;obtain⟨j,k,S,x⟩:=x;obtain⟨e,Q,M,z,y⟩:=S g b O a;have B:=y.too' a;have i:=o A j k e b x M z (h.trans B);have w:eY g e:=.of a z Q B;cases A<;>first
  |exact i.elim
  |exact .aU w i
  |exactλpre=>.aU w (i pre)
  |exactλpre u=>.aU w (i pre u)
def dc.bf(d)(ao){dr}(o:iT F d=f ab)(J:U ab)(b:jp l ao=f dr)(u:U dr)(M:dc q D r aP d ao):dc q D r aP F l:=by intro y w K a i x k B t e s;have n:=jT b u;have A:=(n y a).2.1;exact M y w ((K.le (eH o J)).al n a) (n y a).1 i x k B t e λC E h z j N I b g=>s C E h z j N I b ((A.too' a).trans g)
def dc.jN{k}{ab}{assign body}{g}{pj}{d:ι->n an}(o:∀e h,bZ D l e F h->bd l e->∃i:n Z,h.eval k=.func (.func g) #[] i.toArray/\b6 l e i pj)(r:bk q g (.p (.R (.aV (c l)))::pj) (l++[.loop D F {state:=.ready,pending:=p,fn:=0,tmps:=#[],params:=ab,assign:=assign,body:=body,defers:=0}]) res d)(a:∀b,∃fX,(d b)[c l]?=f (.loop D F fX)/\fX.state≠.busy/\∃j,y6 fX.pending=f j/\aP j F ((d b).set (c l) .M++[.bo])):dc q D (.rangeFunc k ab assign body) aP F l:=
 dc.rangeFunc (fX:=λb=>(a b).choose) o r (λb=>⟨(a b).choose_spec.1,(a b).choose_spec.2.1⟩) λb=>(a b).choose_spec.2.2
def bk.je{d}{fn}{args}{ao:ι->n an}(B:P.funcs[d]?=f fn)(x:(fn.name== "runtime.NumGoroutine")=v)(h:fn.body=f r)(u:ay args.length fn.ntmps=m)(y:dc q fn.ntmps r (n3 fn.ntmps λw k b=>∃j,k7 P fn l.length (res j) (ao j) w k b) (h3 0 args) l):bk q d args l res ao:=
 bk.gy B x h (fe u) λC s d z t A e o i a g=>dc.iZ y C s d z t A e o i a g
def k7.cells(aV:bn P ad){fn}{d}{res}(aS)(e:tH ad fn.results.toList aS F res=f ab)(k:U ab)(j:dy aS l=f ao)(i:l9 ao=m)(h:e_ aS=m)(g:∀b,b<d->aS[b]?=f b):k7 P fn d res ao .ret F l:=by refine⟨.inl a,aS,?_⟩;unfold tH at e;grind[o6.fe]
end
def yi:Q->Option Z
 |.c (.val a)=>f a
 |_=>p
def ve:n Q->Option (n Z)
 |[]=>f []
 |a::d=>match yi a with
  |some e=>match ve d with
   |some b=>f (e::b)
   |none=>p
  |none=>p
def yj:y->Option Z
 |.p (.R b)=>yi b
 |.p (.agg a)=>match ve a with
  |some d=>f (.agg d.toArray)
  |none=>p
 |_=>p
def s8:n y->Option (n Z)
 |[]=>f []
 |a::d=>match yj a with
  |some e=>match s8 d with
   |some b=>f (e::b)
   |none=>p
  |none=>p
section
variable {q:ag P}
def JA{d}:∀{a:Q},cx l b aa a->yi a=f d->aa=d
 |.c (.val h),g,e=>by cases e;exact Rd.bp g
theorem JB:∀{e:n Q}{A a:n Z},bO l b A e->ve e=f a->A=a
 |[],[],a,_,g=>by cases g;rfl
 |[],_::_,_,d,_=>d.elim
 |_::_,[],_,d,_=>d.elim
 |j::k,q::A,a,d,g=>by
  simp[ve]at g;cases h:yi j with
  |none=>grind
  |some r=>
   cases i:ve k with
   |none=>grind
   |some o=>
    simp[h,i]at g;subst g;rw[JA d.1 h,JB d.2 i]
def Yu{g}:∀{d:y},bx l b aa d->yj d=f g->aa=g
 |.p (.R i),e,a=>JA e a
 |.p (.agg h),⟨A,j,e⟩,a=>by simp[yj]at a;grind[JB]
def CQ:∀{e:n y}{A a:n Z},b6 l b A e->s8 e=f a->A=a
 |[],[],a,_,g=>by cases g;rfl
 |[],_::_,_,d,_=>d.elim
 |_::_,[],_,d,_=>d.elim
 |j::k,q::A,a,d,g=>by
  simp[s8]at g;cases h:yj j with
  |none=>grind
  |some r=>
   cases i:s8 k with
   |none=>grind
   |some o=>
    simp[h,i]at g;subst g;rw[Yu d.1 h,CQ d.2 i]
def h1(P:aI)(h:Nat)(e:ap)(g:bI)(i:n an)(d:a3)(args:n Z):Prop:=∀j b,bZ h i j g b->∀a,(ac b.eval e).run P a=(callFunc d args.toArray).run P a/\(ac b.eval e).events P a #[]=(callFunc d args.toArray).events P a #[]
def h1.ee{a}{args}(e:s.op=.call {callee:=.value (.func a),args:=ah,argTypes:=dn})(i:s8 (ah.toList.map (bF F))=f args):h1 P D s F l a args:=by
 intro n b h o;have j:=CQ (na (eO h) ah.toList) i;have d:ah.map b.eval=args.toArray:=N;have g:b.eval (.func a)=.func (.func a) #[] #[]:=rfl;have k:ac b.eval s=callFunc a args.toArray:=by simp[ac,e,resolve,g,Deferred.ofValue,invoke,d]
 grind
def h1.invoke{q}{h}{name}{e}{n t}{args}(j:s.op=.call {callee:=.invoke k name,args:=h,argTypes:=dn})(x:bF F k=aw (.val (.iface e n)))(w:s8 (h.toList.map (bF F))=f args)(d:∀a,(Go.method (P.types.size+Made.depth) e n name).run P a=.ok (q,t) a/\∀b,(Go.method (P.types.size+Made.depth) e n name).events P a b=b):h1 P D s F l q (t::args):=by
 intro z y r a;have g:=eO r k;rw[x]at g;have g:=Rd.bp (b8 g);have i:=CQ (na (eO r) h.toList) w;have o:∀a,(program:Sem aI).run P a=.ok P a:=λa=>by simp
 have u:∀a b,(program:Sem aI).events P a b=b:=λa b=>by simp
 rw[CS j g,i];constructor
 .simp[callMethod,o,(d a).1]
 simp[callMethod,o,u,(d a).1,(d a).2]
structure jB(P:aI)(ae:a3)(aj:Array Z->Sem Z):Prop where
 fn:∃fn,P.funcs[ae]?=f fn/\(fn.name== "runtime.NumGoroutine")=v/\fn.body.isNone=m/\Extern.findNext fn=p/\Extern.find fn=f aj
def jB.run{d}{g:Array Z->Sem Z}(q:jB P d g){args}{e}(n:(g args).run P e=.ok aa bj):(callFunc d args).run P e=.ok (.value aa) bj/\∀a,(callFunc d args).events P e a=(g args).events P e (a.push ⟨.mark (.extern d),v,m⟩):=by
 obtain⟨fn,l,o,j,b,k⟩:=q.fn;have h:fn.name≠ "runtime.NumGoroutine":=N;have i:fn.body=p:=ds;constructor
 .rw[run_callFunc_extern l o j b k,n];rfl
 intro a;simp[callFunc,l,h,i,b,k,n]
def eC.ext{B:ι->y}{d:ι->n an}{r}{q:Array Z->Sem Z}{args}(N:h1 P D s F l r args)(J:jB P r q)(k:∀g,bd l g->∃i b o,(q args.toArray).run P g.a=.ok o b.a/\bx (d i) b o (B i)/\bd (d i) b/\cN l g (d i) b/\∀j,∀e∈(q args.toArray).events P g.a j,e∈j∨h5 g e):eC P D s F l B d:=by
 intro g C I w;obtain⟨t,u⟩:=N g C I g.a;obtain⟨i,b,o,M,x,z,A,O⟩:=k g w;obtain⟨K,E⟩:=J.run M;refine⟨i,.value o,b,o,t.trans K,.inl a,x,z,A,λe h=>?_⟩;rw[u,E]at h;rcases O _ e h with k|k
 .simp at k;subst k;exact .inr ⟨r,a⟩
 grind
def eC.ei{h}{e:Array Z->Sem Z}{args}{k}(n:h1 P D s F l h args)(i:jB P h e)(j:∀d,(e args.toArray).run P d=.ok aa d)(r:∀d a,(e args.toArray).events P d a=a)(o:∀b,bx l b aa k):eC P D s F l (λ_:Unit=>k) λ_=>l:=
 .ext n i λb g=>⟨(),b,aa,j b.a,o b,g,.refl _ _,λa q t=>.inl N⟩
def eC.g6{u}{h:Array Z->Sem Z}{args}{aa:Nat->Z}{k:Nat->y}{bz}(J:h1 P D s F l u args)(A:jB P u h)(I:∀o,(h args.toArray).run P o=.ok (aa o.heap.size) (o.alloc (.cells #[bz] W)))(Q:∀o i,(h args.toArray).events P o i=i)(K:∀q l d,bx l d (aa q) (k q)):
  eC P D s F l k λq=>l++[.J (ee q W bz)]:=
 .ext J A λd g=>by
  have t:cN l d l {d with a:=d.a.alloc (.cells #[bz] W)}:=⟨by simp,λe b _=>iR _ _ b,λ_ _ _ w=>w,λ_ _ _ _=>rfl,λL C e b=>.inr ⟨L,C,b⟩,λM bY L j r=>⟨bY,L,j,r,.refl _ _⟩,rfl,rfl,rfl,rfl⟩
  have O:∀s,d.E d.a.heap.size s=p:=λs=>by
   cases n:d.E d.a.heap.size s with
   |none=>rfl
   |some aa=>exact absurd (g.block n) (xd _)
  have j:=(g.cX (bj:=d.a.alloc (.cells #[bz] W)) (ce:=d.E) E (λe b=>iR d.a _ b) (λe b s=>rfl) (λe b s aa n=>by have:=g.block n;omega) a a a).1;obtain⟨z,x⟩:=j.b2 (bY:=.J (ee d.a.heap.size W bz)) (L:=⟨.pointer (f ⟨d.a.heap.size,0,p⟩),[d.a.heap.size]⟩) t rfl g
   ⟨λe=>if e=d.a.heap.size then f (.cells #[bz] W (0,0))else p,⟨rfl,by simp,λe b=>by grind⟩,λe s b=>by
    by_cases h:e=d.a.heap.size
    .subst h;simp[dH]at b;grind[lZ]
    grind,λe=>by by_cases h:e=d.a.heap.size<;>simp[h],λe b s=>by grind⟩
   (λe b=>by simp_all)
  exact⟨d.a.heap.size,_,_,I d.a,K _ _ _,z,x,λi B w=>.inl N⟩
def ee.own{B}(i:c9 d l=f (.J (ee B W aa)))(bQ:bd l b):b.a.heap[B]?=f (.cells #[aa] W (0,0))/\b.a.cell? ⟨B,0,p⟩=f aa/\(∀a,h5 b ⟨.cell ⟨B,a,p⟩,v,v⟩)/\∀a,h5 b ⟨.cell ⟨B,a,p⟩,m,v⟩:=by have aG:=er i;have k:d<c b.t:=h0;have e:=bG k;generalize b.t[d]=L at e;obtain⟨n,⟨s,h,t⟩,q,r,o⟩:=bQ.box d _ L aG e;have j:=q B _ h;have g:=(r B).2 N;exact⟨j,by simp[aM,j],λa=>qt (ca e) g,λa=>ow (ca e) g (o B g _)⟩
def ee.cf{d B}{W}{aa bz}(g:c9 d l=f (.J (ee B W aa)))(bQ:bd l b):bd (l.set d (.J (ee B W bz))) {b with a:=b.a.setRow B #[bz]}/\cN l b (l.set d (.J (ee B W bz))) {b with a:=b.a.setRow B #[bz]}:=by
 have g:=er g;have r:d<c b.t:=h0;have k:=bG r;generalize b.t[d]=L at k;obtain⟨o,⟨i,j,C⟩,n,t,y⟩:=bQ.box d _ L g k;have z:=(t B).2 N;have q:=n B _ j;have s:∀e,e≠B->(b.a.setRow B #[bz]).heap[e]?=b.a.heap[e]?:=λe h=>setRow_other b.a B e _ h;have x:=setRow_heap b.a B #[aa] #[bz] W (0,0) q;have w:b.t.set d L=b.t:=m4;have D:=bQ.cf (d:=d) (j7:=ee B W bz) (cp:=L) (bj:=b.a.setRow B #[bz]) g k a E
  (λe h u=>s e N) (λe h=>.inl h)
  ⟨λe=>if e=B then f (.cells #[bz] W (0,0))else p,⟨i,by simp,λe h=>by grind⟩,λe A h=>by grind,λe=>by grind⟩ a a a
 grind
def eC.g7{n}{i:Array Z->Sem Z}{args}{bz}{k}(d){B}(j:c9 d l=f (.J (ee B W bz)))(x:h1 P D s F l n args)(q:jB P n i)(w:∀h,h.cell? ⟨B,0,p⟩=f bz->(i args.toArray).run P h=.ok aa h/\∀a,∀b∈(i args.toArray).events P h a,b∈a∨b=⟨.cell ⟨B,0,p⟩,v,v⟩)(y:∀g,bx l g aa k):eC P D s F l (λ_:Unit=>k) λ_=>l:=
 .ext x q λg e=>by obtain⟨_,t,z,_⟩:=ee.own j e;obtain⟨r,o⟩:=w g.a t;exact⟨(),g,aa,r,y g,e,.refl _ _,λa b u=>(o a b u).imp id λA=>by grind⟩
def eC.iO{r}{o:Array Z->Sem Z}{args}{bz E6}{k}(d h){B n}{j}(g:c9 d l=f (.J (ee B W E6)))(t:c9 h l=f (.J (ee n j bz)))(I:h1 P D s F l r args)(y:jB P r o)(A:∀i,i.heap[B]?=f (.cells #[E6] W (0,0))->i.cell? ⟨n,0,p⟩=f bz->(o args.toArray).run P i=.ok aa (i.setRow B #[bz])/\∀b,∀a∈(o args.toArray).events P i b,a∈b∨a=⟨.cell ⟨n,0,p⟩,v,v⟩∨a=⟨.cell ⟨B,0,p⟩,m,v⟩)(K:∀l q,bx l q aa k):eC P D s F l (λ_:Unit=>k) λ_=>l.set d (.J (ee B W bz)):=
 .ext I y λq e=>by obtain⟨u,_,_,E⟩:=ee.own g e;obtain⟨_,C,J,_⟩:=ee.own t e;obtain⟨z,N⟩:=A q.a u C;obtain⟨x,w⟩:=ee.cf (bz:=bz) g e;refine⟨(),_,aa,z,K _ _,x,w,λb a M=>?_⟩;grind
def g.c0{M:ι->y}{b:ι->n an}(T:oZ all F s=m)(N:fg D s.dst=m)(U:eC P D s F l M b)(V:∀j,g q D be (.aj all bs::av) .normal (fW s.dst (M j) F) (b j)):g q D be (.aj all (s::bs)::av) .normal F l:=by
 intro ai R I i S A t O idx h a z;cases idx with
 |nil=>exact a.elim
 |cons ah idx=>
 refine rB h a.1 (j4 T _ _ _ I) λag u=>?_;have e:=i.rely u;have B:=I.rely u i;obtain⟨j,ae,k,ab,x,d,Q,J,K,ad⟩:=U ag R B e;have w:=K.too' e;refine⟨ae,k,ab,x,d,⟨⟨l,b j,e,J,K⟩,ad⟩,?_⟩;refine V j k _ ?_ J S A t O idx h a.2 λW o C r X Y d E=>z W o C r X Y d ((u.aY.trans w).trans E);cases aa:s.dst with
 |none=>exact B.mono w e.len
 |some Z=>exact(B.mono w e.len).put (lg N Z aa) Q
def g.iN(o){ad}{ai}(y:look F o=aw (.cl ad (.Q ai)))(k:∀n:Addr,g q D be (.code r::av) .normal ((o,cM (.iface ad (.pointer (f n))))::F) l):g q D be (.code r::av) .normal F l:=by
 refine b2.e4 (ι:=Addr) (dF:=λn=>(o,cM (.iface ad (.pointer (f n))))::F) (ao:=λ_=>l) (λC t e j=>?_) k;have b:=e.aK o;rw[y]at b;have b:=b8 b;generalize x:t.tmps.getD o K=I at b;cases b with
 |@cl _ s _ h z=>
  cases h with
  |Q u d E A B=>
   refine⟨⟨u,d,p⟩,C,a,⟨e.size,e.defers,λs=>?_⟩,j,.refl _ _⟩;simp only[look];cases i:af o s with
   |false=>exact e.aK s
   |true=>
    have w:=di i;subst w;rw[x];exact Rd.val a
def g.g5(o){ad}{k}(j:look F o=aw (.cl ad (.val k)))(i:g q D be (.aj all bs::av) .normal ((o,cM (.iface ad k))::F) l):g q D be (.aj all bs::av) .normal F l:=by
 refine fc.le i λl u w s b=>?_;simp[look];cases h:af o s with
 |false=>exact b
 |true=>
  have n:=di h;subst n;rw[j]at b;have d:=b;cases d with
  |@cl _ t _ e r=>
   obtain rfl:=Rd.bp e;exact Rd.val a
def g.hL(o d)(N:look F o=aD d 0)(i:c9 d l=f (.cells W [.c .bb]))(w:∀b,g q D be (.code r::av) .normal ((o,cM (.pointer (f ⟨b,0,p⟩)))::F) (l.set d (.J (ee b W (.pointer p))))):g q D be (.code r::av) .normal F l:=by
 refine b2.e4 (ι:=Nat) (dF:=λb=>(o,cM (.pointer (f ⟨b,0,p⟩)))::F) (ao:=λb=>l.set d (.J (ee b W (.pointer p)))) (λn O t bQ=>?_) w;have i:=er i;have C:d<c n.t:=h0;have s:=bG C;generalize n.t[d]=L at s;obtain⟨b,A,rfl,S,K,U⟩:=bQ.box d _ L i s
 match A,K with
 |[R],⟨x,_⟩=>
  have x:=x;cases x;obtain⟨M,k⟩:=bQ.cc (ce:=n.E) (bj:=n.a) (ec:=.J (ee b W (.pointer p))) (cp:=⟨.pointer (f ⟨b,0,p⟩),[b]⟩) i s rfl (bE _) (λ_ _ _=>rfl) (λ_ _ _ _=>rfl) (λ_ _ _ B=>B) bQ.mem (λj e=>⟨.inl e,bQ.lt _ (ca s) j e⟩) rfl rfl rfl
   ⟨λj=>if j=b then f (.cells #[.pointer p] W (0,0))else p,⟨rfl,by simp,λj e=>by grind⟩,λj J e=>by grind,λj=>by by_cases u:j=b<;>simp[u],λj e J=>by grind⟩
  refine⟨b,{n with t:=n.t.set d ⟨.pointer (f ⟨b,0,p⟩),[b]⟩},rfl,⟨t.size,t.defers.imp λ_ h=>h.mono k.ext,λz=>?_⟩,M,k⟩;simp only[look];cases e:af o z with
  |false=>exact(t.aK z).mono k.ext bQ.len
  |true=>
   have u:=di e;subst u;have h:=t.aK o;rw[N]at h;obtain⟨_,T,Q,y,I,E⟩:=(h:cx l n _ (.ptr d 0));rw[s]at y;cases y;cases I;rw[E];exact Rd.val a
end
section
variable {q:ag P}
def vG:n Q->Option (n Z)
 |[]=>f []
 |.c (.int a b)::e=>match vG e with
  |some d=>f (.int a b::d)
  |none=>p
 |_=>p
def KT:∀{e:n Q}{A b:n Z}{q:a5},bO l q A e->vG e=f b->A=b/\∀d h,bO d h b e
 |[],[],b,_,_,g=>by cases g;exact⟨a,λ_ _=>trivial⟩
 |[],_::_,_,_,i,_=>i.elim
 |_::_,[],_,_,i,_=>i.elim
 |.c (.int t u)::w,x::A,b,q,i,g=>by
  simp only[vG]at g;cases k:vG w with
  |none=>rw[k]at g;cases g
  |some y=>
   rw[k]at g;cases g;obtain⟨j,r⟩:=i;obtain⟨rfl,s⟩:=KT r k;have j:Rd q.E x (.int t u):=j;cases j with
   |int o=>exact⟨rfl,λd h=>⟨Rd.int o,s d h⟩⟩
def eC.hv{b}{ai}{i}(o:s.op=.makeFunc (.func b) #[k] #[])(w:bF F k=.p (.agg ai))(h:vG ai=f i):
  eC P D s F l (λ_:{_u:Unit // ∀a j,bO a j i ai}=>aw (.val (.func (.func b) #[.agg i.toArray] #[]))) λ_=>l:=by
 intro q r t g;have n:=eO t k;rw[w]at n;obtain⟨A,u,d⟩:=n;obtain⟨rfl,e⟩:=KT d h;refine⟨⟨(),e⟩,.value (.func (.func b) #[.agg A.toArray] #[]),q,_,?_,.inl rfl,Rd.val rfl,g,.refl _ _,?_⟩
 .simp only[ac,o,Instr.makeFunc];simp[u]
 have:(ac r.eval s).events P q.a #[]=#[]:=by simp only[ac,o,Instr.makeFunc];rfl
 rw[this];exact .nil
def Md(ck:s.op=.call {callee:=.value cP,args:=#[k],argTypes:=dn}){b}{fn}(I:P.funcs[b]?=f fn)(h:(fn.name== "runtime.NumGoroutine")=v)(g:fn.body.isNone=v){a:Act}{e}(B:a.eval cP=.func (.func b) #[e] #[])(d):
  (ac a.eval s).run P d=.ok (.enter b [e,a.eval k].toArray) d/\(ac a.eval s).events P d #[]=#[]:=by
 have r:fn.name≠ "runtime.NumGoroutine":=N;have i:fn.body≠p:=N;constructor
 .exact OV
 exact OV
def aJ.gV(R:∀l A i,bZ D l A F i->aU s (yielded all.toArray i.tmps)=m)(d:s.op=.call {callee:=.value cP,args:=#[k],argTypes:=dn}){I}{ai}{j}{X res}(V:bF F cP=aw (.val (.func (.func I) #[.agg j.toArray] #[])))(Z:∀n b,bO n b j ai)(W:BY (bF F k)=X)(N:Y q I [.p (.agg ai),X] [] res [])(r:g7 0 [.p (.agg ai),X]=m)(t:gr [] [.p (.agg ai),X]=[.p (.agg ai),X])(ab:e' [] res=res):aJ q D all s F l res l:=by
 intro A i o x ae U ag ad ah z w y u;have M:=eO o cP;rw[V]at M;have O:=Rd.bp (b8 M);obtain⟨fn,K,J,E⟩:=N.1;have Q:=HQ (eO o k);rw[W]at Q;have T:b6 l A [.agg j.toArray,i.eval k] (gr [] [.p (.agg ai),X]):=by rw[t];exact⟨⟨j,a,Z _ _⟩,Q,C⟩
 refine GJ (aS:=[]) (de:=[]) (aO:=[]) w y (R _ _ _ o) x (λB=>(Md d K J E O B).1) (λB=>(Md d K J E O B).2) N T r a a a a (bE _) ?_;intro aa b e g h;have S:c' [] [] l=l:=by simp[c']
 rw[S]at e g h;refine u aa b ?_ g h;simpa[ab,gL]using e
def dx.cU(ai:∀l h b,bZ D l h F b->aU s (yielded all.toArray b.tmps)=m)(e:s.op=.call {callee:=.value cP,args:=ah,argTypes:=dn}){I}(g:gR (bF F cP)=f (I,cap))(O:bk q I cR l res aO)(W:l3 (ah.toList.map (bF F)++e4 cap) cR=f ab)(ae:U ab):dx q D all s F l res aO:=by
 intro h b y r ak Z S aj an A o t n;have M:=eO y cP;unfold gR at g;split at g
 case h_2=>cases g
 case h_1 vf u2 he=>
  cases g;rw[he]at M;have J:=b8 M;generalize Q:b.eval cP=V at J;cases J with
  |fn j a w d T i X k ad z=>
   have ag:j=[]:=jF w;subst ag;have Y:b6 l h a (e4 cap):=qo (λx R u=>⟨i x,k x N,z x R u⟩) d;have aa:b6 l h (ah.toList.map b.eval++a) cR:=tm W ae ((na (eO y) ah.toList).append Y);obtain⟨fn,K,E,C⟩:=O.1;exact GK o t (ai _ _ _ y) r (λB=>(mT e K E C Q B).1) (λB=>(mT e K E C Q B).2) O aa n
def g.hk(d){o}(aG:l[d]?=f o)(A:∀L,fJ o L .M L)(n:g q D be (.code r::av) .normal F (l.set d .M)):g q D be (.code r::av) .normal F l:=by
 refine g.aU (λb E k bQ=>?_) n;have s:d<c b.t:=h0;have i:=bG s;generalize b.t[d]=L at i;have x:b.t.set d L=b.t:=by
  apply qg;intro z;by_cases t:d=z
  .subst t;rw[io s,i]
  rw[j_ t]
 obtain⟨u,h⟩:=bQ.cc (ce:=b.E) (bj:=b.a) aG i (A L) (bE _) (λ_ _ _=>rfl) (λ_ _ _ _=>rfl) (λ_ _ _ y=>y) bQ.mem (λw e=>⟨.inl e,bQ.lt L (ca i) w e⟩) rfl rfl rfl C;rw[x]at u h;exact⟨b,a,⟨k.size,k.defers.imp λ_ j=>j.mono h.ext,λB=>(k.aK B).mono h.ext bQ.len⟩,u,h⟩
def g.cW(d){b}(aG:c9 d l=f b)(e:∀L,fJ b L .M L)(a:g q D be (.code r::av) .normal F (l.set d .M)):g q D be (.code r::av) .normal F l:=.hk d (er aG) e a
def g.eP{r}:∀d{b:n an},g q D be (.code r::av) .normal F (b++aY d .M)->g q D be (.code r::av) .normal F b
 |0,b,a=>by simpa using a
 |d+1,b,a=>by refine g.fj 0 1 (g.hk (c b) (w8) bm (g.eP d ?_));rw[List.set_append_right _ _ (bE _)];simpa[List.replicate_succ]using a
end
section
variable {q:ag P}{r:Type}{k:r->Nat->y}{bq:r->(Nat->Bool)->n an}{fd:r->(Nat->Bool)->Prop}
def eD(r:ag P)(q:Nat)(a:n ap)(o:bI){h:Type}(i:h->Nat->y)(k:h->(Nat->Bool)->n an)(d:h->(Nat->Bool)->Prop)(e:Nat)(s:ap):Prop:=
 ∀g (y:Nat->Bool),d g y->(∀b,en a e b=m->y b=m)->(∀b,(b=e∨en a b e=m)->y b=v)->dx r q a s (dA a o (i g) e) (k g y) (λj:{l:h // (∀b,y b=m->i l b=i g b)/\d l (dk e y)}=>i j.1 e) (λj=>k j.1 (dk e y))
def un{P}(i:ag P)(g:Nat)(b:n ap)(e:bI){d:Type}(k:d->Nat->y)(h:d->(Nat->Bool)->n an)(a:d->(Nat->Bool)->Prop):n ap->Nat->Prop
 |[],_=>True
 |l::o,j=>eD i g b e k h a j l/\un i g b e k h a o (j+1)
theorem un.get{all}:∀{h:n ap}{g:Nat},un q D all F k bq fd h g->∀d b,h[d]?=f b->eD q D all F k bq fd (g+d) b
 |[],_,_,d,b,e=>by grind
 |i::j,g,e,0,b,a=>by simp at a;subst a;exact e.1
 |i::j,g,e,d+1,b,a=>by have:=un.get e.2 d b N;grind
def g.g'{id}(J:P.follows Departure.mixedOrders=m)(t:r->Nat->y)(k:r->(Nat->Bool)->n an)(a:r->(Nat->Bool)->Prop)(o:r)(I:a o λ_=>v)(K:k o (λ_=>v)=l)(x:kU aH.toList=m)(z:od aH.toList 0=m)(A:ou D aH.toList=m)(j:un q D aH.toList F t k a aH.toList 0)(C:∀d y,a d y->(∀h,h<c aH.toList->y h=m)->g q D be av .normal (nt aH.toList F (t d)) (k d y)):g q D be (.code (.region id aH m)::av) .normal F l:=by
 have:=b2.reg (q:=q) (D:=D) (F:=F) (l:=l) J (all:=aH.toList) (c aH.toList) t k a o I K x z A (bE _)
  (λh b e=>absurd e (n'.2 b)) (λd y _ _ h b e=>absurd e (n'.2 b))
  (λd y h w s i _ E B u=>by have b:=j.get h w i;rw[cV]at b;exact b d y s (Bd u h w i B) (Gw u E))
  (aP:=g q D be av) (λd y s M=>by rw[sH];exact .nil (C d y s M)) id
 exact ub
theorem eD.of(J:∀a (y:Nat->Bool),fd a y->(∀d,en all e d=m->y d=m)->(∀d,(d=e∨en all d e=m)->y d=v)->fd a (dk e y)/\aJ q D all s (dA all F (k a) e) (bq a y) (k a e) (bq a (dk e y))):eD q D all F k bq fd e s:=by intro a y I i j M A E o B K h g idx b n r l;obtain⟨C,t⟩:=J a y I i j;exact t M A E o B K h g idx b n r λN z u w x=>l ⟨a,λ_ _=>rfl,C⟩ N z u w x
def eD.hH(S:∀j (y:Nat->Bool),fd j y->(∀a,en all e a=m->y a=m)->(∀a,(a=e∨en all a e=m)->y a=v) ->
  ∃(h:Type) (M:h->Go.AM.y) (b:h->n an),dx q D all s (dA all F (k j) e) (bq j y) M b/\∀a,∃i,((∀I,y I=m->k i I=k j I)/\fd i (dk e y))/\M a=k i e/\b a=bq i (dk e y)):eD q D all F k bq fd e s:=by intro j y U u w W N Q A O T t r idx g z B x;obtain⟨h,M,b,V,J⟩:=S j y U u w;refine V W N Q A O T t r idx g z B λa X K d l o=>?_;obtain⟨i,R,C,E⟩:=J a;rw[C]at d;rw[E]at d l o;exact x ⟨i,R⟩ X K d l o
end
section
variable {q:ag P}{k:Option ι->Nat->y}{b:Option ι->Bool->Bool->Bool->n an}{aj ae I:Nat}
abbrev mo(g:Option ι->Bool->Bool->Bool->n an)(d e b:Nat):Option ι->(Nat->Bool)->n an:=λa y=>g a (y d) (y e) (y b)
abbrev mi(a:Type)(d:Nat):Option a->(Nat->Bool)->Prop:=λb y=>b.isSome=y d
def eD.aW(l:af z e=v)(i:af aj e=v)(j:af ae e=v)(o:af I e=v)(n:∀a d g h,aJ q D all s (dA all F (k a) e) (b a d g h) (k a e) (b a d g h)):
  eD q D all F k (mo b aj ae I) (mi ι z) e s:=by grind[eD.of,nQ]
def eD.jM(o:af z e=v)(g:af aj e=v)(h:af ae e=v)(t:af I e=v)(r:en all e z=m)(n:∀a i j l,aJ q D all s (dA all F (k (f a)) e) (b (f a) i j l) (k (f a) e) (b (f a) i j l)):
  eD q D all F k (mo b aj ae I) (mi ι z) e s:=by
 refine eD.of λd y w aV _=>⟨?_,?_⟩
 .grind [nQ]
 show aJ q D all s _ (b d (y aj) (y ae) (y I)) _ (b d (dk e y aj) (dk e y ae) (dk e y I));rw[nQ g,nQ h,nQ t];have u:=aV z r;cases d with
 |none=>grind
 |some a=>exact n _ _ _ _
def eD.jL(aV:bn P ad)(iQ:a9 q CT)(ck:U cg)(t:∀B w i r,hB ad CT [] all (dA all F (k B) e) (b B w i r) s=f (k B e,p,cg):=by intro B w i r;cases B<;>cases w<;>cases i<;>cases r<;>rfl)(pv:af z e=v:=by rfl)(cS:af aj e=v:=by rfl)(dq:af ae e=v:=by rfl)(u:af I e=v:=by rfl):eD q D all F k (mo b aj ae I) (mi ι z) e s:=.aW pv cS dq u λB w i r=>aJ.eval aV iQ (t B w i r) ck
def eD.fS(aV:bn P ad:=by exact ba)(iQ:a9 q CT:=by first|assumption|exact a9.nil)(t:∀B w i r,hB ad CT [] all (dA all F (k B) e) (b B w i r) s=f (k B e,p,[]):=by intro B w i r;cases B<;>cases w<;>cases i<;>cases r<;>rfl)(pv:af z e=v:=by rfl)(cS:af aj e=v:=by rfl)(dq:af ae e=v:=by rfl)(u:af I e=v:=by rfl):eD q D all F k (mo b aj ae I) (mi ι z) e s:=.jL (cg:=[]) aV iQ C t pv cS dq u
def eD.dX(aV:bn P ad:=by exact ba)(iQ:a9 q CT:=by first|assumption|exact a9.nil)(t:∀u w i r,hB ad CT [] all (dA all F (k (f u)) e) (b (f u) w i r) s=f (k (f u) e,p,[]):=by intro u w i r;cases w<;>cases i<;>cases r<;>rfl)(pv:af z e=v:=by rfl)(cS:af aj e=v:=by rfl)(dq:af ae e=v:=by rfl)(h:af I e=v:=by rfl)(B:en all e z=m:=by rfl):eD q D all F k (mo b aj ae I) (mi ι z) e s:=.jM pv cS dq h B λu w i r=>aJ.x aV iQ (t u w i r)
def eD.iP(l:af aj z=v)(n:af ae z=v)(C:af I z=v)(j:en all aj z=m)(o:en all I z=m)(x:∀e g,g=z∨en all g z=m∨k (f e) g=k p g)(t:∀i,dx q D all s (dA all F (k p) z) (b p v i v) (λe=>k (f e) z) (λe=>b (f e) v i v)):eD q D all F k (mo b aj ae I) (mi ι z) z s:=by
 refine eD.hH λh y B aV d=>?_;have r:=d z (.inl a);have u:=d aj (.inr j);have w:=d I (.inr o);have A:h=p:=by
  cases h with
  |none=>rfl
  |some e=>grind
 grind[wu,nQ]
def eD.g1(j:af z aj=v)(h:af ae aj=v)(r:af I aj=v)(e:en all aj z=m)(t:en all I aj=m)(n:∀a d,aJ q D all s (dA all F (k (f a)) aj) (b (f a) v d v) (k (f a) aj) (b (f a) m d v)):eD q D all F k (mo b aj ae I) (mi ι z) aj s:=by
 refine eD.of λg y o aV i=>?_;have l:=aV z e;cases g with
 |none=>grind
 |some a=>
  grind[nQ,wu]
def eD.g2(g:af z ae=v)(e:af aj ae=v)(i:af I ae=v)(h:en all I ae=m)(j:∀a d,aJ q D all s (dA all F (k a) ae) (b a d v v) (k a ae) (b a d m v)):eD q D all F k (mo b aj ae I) (mi ι z) ae s:=by grind[eD.of,nQ,wu]
def eD.g3(j:af z I=v)(g:af aj I=v)(h:af ae I=v)(d:en all I z=m)(r:en all I aj=m)(t:en all I ae=m)(o:∀a,aJ q D all s (dA all F (k (f a)) I) (b (f a) m m v) (k (f a) I) (b (f a) m m m)):eD q D all F k (mo b aj ae I) (mi ι z) I s:=by
 refine eD.of λe y n aV i=>?_;have l:=aV z d;cases e with
 |none=>grind
 |some a=>
  grind[nQ,wu]
end
def Rd.jO{o}{h}(y:Rd bD aa (.C o h j V)):∃l a n b,aa=.slice l j a/\j<=a/\a<=9223372036854775807/\(0<j->l=f ⟨n,b,p⟩)/\(∀d,d<j->c (V d)=h)/\∀d,d<j->∀k e,(V d)[k]?=f e->∃w,bD n (b+d*h+k)=f w/\Rd bD w e:=by
 cases y with
 |@C l _ a _ _ _ n b A x r z s q t u=>exact⟨l,a,n,b,rfl,x,r,q,s,λd g k e i=>⟨_,t d g k e i,u d g k e i⟩⟩
def Rd.hV{n}{cap h}(e:j<=cap)(g:cap<=9223372036854775807)(r:0<j->n=f ⟨i,off,p⟩)(q:∀a,a<j->c (V a)=h)(t:∀a,a<j->∀b d,(V a)[b]?=f d->∃o,bD i (off+a*h+b)=f o/\Rd bD o d):Rd bD (.slice n j cap) (.C v h j V):=by refine .C i off (λa b=>(bD i (off+a*h+b)).getD K) e g (λs=>by cases s) q r (λa k b d l=>N) λa k b d l=>?_;grind
section
variable {q:ag P}{I:n ik}
end
section
variable {q:ag P}{k:Option ι->Nat->y}{b:Option ι->Bool->Bool->Bool->n an}{r w I:Nat}
def eD.iR(l:af r z=v)(n:af w z=v)(J:af I z=v)(E:en all r z=m)(K:en all I z=m)(ok:Bool->ι->Prop)(B:∀i d,ok i d->∀g,g=z∨en all g z=m∨(g=w/\i=v)∨k (f d) g=k p g)(x:∀i,dx q D all s (dA all F (k p) z) (b p v i v) (λd:{d // ok i d}=>k (f d.1) z) (λd=>b (f d.1) v i v)):eD q D all F k (mo b r w I) (mi ι z) z s:=by
 refine eD.hH λu y M aV e=>?_;have A:=e z (.inl a);have o:=e r (.inr E);have t:=e I (.inr K);have C:u=p:=by
  cases u with
  |none=>rfl
  |some d=>grind
 subst C;have key:=x (y w);refine⟨{d // ok (y w) d},λd=>k (f d.1) z,λd=>b (f d.1) v (y w) v,?_,λd=>⟨f d.1,⟨λg j=>?_,?_⟩,a,?_⟩⟩
 .show dx q D all s _ (b p (y r) (y w) (y I)) _ _;rw[o,t];exact key
 .rcases B _ d.1 d.2 g with h|h|⟨h,eJ⟩|h
  .subst h;rw[A]at j;cases j
  .have:=e g (.inr h);rw[this]at j;cases j
  .subst h;rw[eJ]at j;cases j
  exact h
 .show (f d.1).isSome=dk z y z;rw[zN];rfl
 show b (f d.1) v (y w) v=b (f d.1) (dk z y r) (dk z y w) (dk z y I);rw[m0 l,m0 n,m0 J,o,t]
end
section
open Go.Conc
def gk(d:a5):Prop:=∀a b e,d.E a b=f e->d.a.cell? ⟨a,b,p⟩=f e
def jC(a:Nat->Prop):Go.Loc->Prop
  |.cell b=>a b.block
  |.obj d=>a d
  |_=>False
structure gO(r:Nat->Prop)(b:a5):Prop where
  own:∀i,r i->¬b.own i
  t:∀i,r i->∀L∈b.t,i∉L.al
  E:∀i,r i->∀s,b.E i s=p
  lt:∀i,r i->i<b.a.heap.size
section
variable {r:Nat->Prop}
def gO.step(g:gO r b)(e:cN l b ao az):gO r az:=by
  refine⟨λd a=>by rw[e.own];exact g.own d a,λd a L j i=>?_,λd a o=>by rw[e.bG d (g.lt d a) (g.t d a)];exact g.E d a o,λd a=>eE (g.lt d a) e.size⟩;rcases e.bW L j d i with h|⟨n,k,h⟩
  · exact absurd (g.lt d a) (n'.2 h)
  · exact g.t d a n k h
theorem gO.aU(g:gO r b)(j:eY b az):gO r az:=by
  have h:∀d,r d->¬(az.own d∨∃L∈az.t,d∈L.al):=λd a e=>by
    rcases j.blk d e with e|⟨L,i,e⟩
    · exact g.own d a e
    · exact g.t d a L i e
  exact⟨λd a e=>h d a (.inl e),λd a L i e=>h d a (.inr ⟨L,i,e⟩),λd a k=>by rw[j.bG d (g.t d a)];exact g.E d a k,λd a=>by rw[j.a];exact g.lt d a⟩
def gO.b4(e:gO r b)(g:n2 b az):gO r az:=by
  refine⟨λd a=>by rw[g.own];exact e.own d a,λd a=>by rw[g.t];exact e.t d a,λd a h=>?_,λd a=>by rw[g.a];exact e.lt d a⟩;cases i:az.E d h with
  |none=>rfl
  |some j=>rw[<-g.e8 d h j i,e.E d a h]
def gO.at(a:gO r b)(d):gO r {b with a:=b.a.at d}:=⟨a.own,a.t,a.E,a.lt⟩
def gk.at(d:gk b)(a):gk {b with a:=b.a.at a}:=d
theorem gk.aU(a:eY b az):gk az:=λe g h d=>by rw[a.a];exact a.cell e g h d
def gk.b4(i:gk b)(d:n2 b az):gk az:=λa e g h=>by rw[d.a];exact i a e g (d.e8 a e g h)
def gk.lt(e:gk b){s}(d:b.E i s=f aa):i<b.a.heap.size:=by
  have:=e i s aa d;rcases d6 i b.a.heap.size with a|a
  · exact a
  · simp[aM,AS a]at this
def cU.at(d:gk b)(a):cU b {b with a:=b.a.at a}:=⟨rfl,rfl,rfl,bE _,λ_ _=>rfl,d,rfl,rfl,rfl⟩
def TU{n}(o:bd l b)(q:gO r b)(g:h5 b n){s}(aG:b.a.heap.size<=s):EvL (jC r) s n:=by
  obtain⟨t,wr,y⟩:=n;cases t with
  |cell k=>
    obtain⟨i,j,a⟩:=g;simp only at i j a;subst i;have key:¬r k.block/\k.block<b.a.heap.size:=by
      rcases a with a|⟨⟨L,h,a⟩,_⟩|⟨_,A,a⟩
      · exact a.elim
      · exact⟨λe=>q.t _ e L h a,o.lt L h _ a⟩
      · refine⟨λe=>?_,gk.lt o.mem a⟩
        rw[q.E _ e]at a;cases a
    exact evL_cell k wr key.1 (eE key.2 aG)
  |obj z=>
    obtain⟨i,j⟩:=g;simp only at i j;subst i;obtain⟨L,h,a⟩:=j.resolve_left id;refine⟨λe d u=>?_,by simp,by simp,?_⟩
    · simp[aN,MemAct.touch?]at d
      subst d;exact absurd a (q.t _ u L h)
    · simp[aN,MemAct.low,Loc.low]
      exact eE (o.lt L h _ a) aG
  |mark x=>
    simp[h5]at g;rcases g with rfl|⟨w,rfl⟩
    · exact⟨λe d=>by simp[aN,MemAct.touch?]at d,by simp,by simp,by simp[aN,MemAct.low]⟩
    · exact⟨λe d=>by simp[aN,MemAct.touch?]at d,by simp,by simp,by simp[aN,MemAct.low]⟩
  |_=>exact g.elim
end
def m'(b:Trace):Prop:=∀a,NoRelease a b
def m'.app{o}(e:m' o){B}{fn}{pos}{V}(i:∀d∈V,∀a,d.loc≠.mark (.release a)):m' (o++MemOp.ofEvents B fn pos V):=
  λa=>(e a).app λh b g=>by grind[Go.Conc.mem_ofEvents,Go.ConcR.loc_of_ofEvent]
def TV{a}(h:h5 b a)(g):a.loc≠.mark (.release g):=by intro d;obtain⟨loc,wr,j⟩:=a;simp only at d;subst d;rcases h with e|⟨i,e⟩<;>cases e
def KS{a:aT}(e:a.mute=m)(d):a.loc≠.mark (.release d):=by intro b;obtain⟨loc,wr,g⟩:=a;simp only at b;subst b;simp[Event.mute]at e
def k3(P:aI)(r:ak)(g:a5)(n:ak->a5->Prop):Prop:=
  ∀(k:Nat->Prop) b dE h (s:Nat->Nat),gk g->b[0]?=f r->Leavers P h b s->Past (jC k) g.a.heap.size h->gO k g->m' h ->
    ∃(l:Nat) (j:Nat->Prop) (i:Array ak) (d:ak) (a:a5) (o:Option (Nat×Nat)) (e:Trace) (q:Nat->Nat),
      runNT P l (crowd b g.a dE) h=(.next (crowd i a.a o),e)/\gk a/\i[0]?=f d/\Leavers P e i q/\Past (jC j) a.a.heap.size e/\gO j a/\m' e/\n d a
def ag.aJ(P):ag P:={b7:=m,rely:=λb a=>cU b a/\∃d,a={b with a:=b.a.at d},dq:=k3 P,bO:=λe=>e.1,dU:=True}
instance (P:aI):(ag.aJ P).b8:=⟨C⟩
theorem Eh{P}:∀b a {e h:Machine} {i g:Trace},runNT P b e i=(.next h,g)->runNT P (b+a) e i=runNT P a h g
  |0,a,e,h,i,g,d=>by simp[runNT]at d;grind
  |b+1,a,e,h,i,g,d=>by
    rw[show b+1+a=(b+a)+1 by omega];simp[runNT]at d⊢;cases k:stepT P e with
    |mk n j=>
      rw[k]at d;cases n with
      |next l=>exact Eh b a d
      |ended o q=>grind
def k3.trans{r:ak->a5->Prop}(C:k3 P B b r)(I:∀a d,r a d->k3 P a d bq):k3 P B b bq:=by intro x e dE S Q l g i j k n;obtain⟨t,F,w,a,d,z,R,W,D,h,V,O,U,J,E,T⟩:=C x e dE S Q l g i j k n;obtain⟨s,u,y,K,q,A,M,o,k1,N⟩:=I a d T F w z R W h V O U J E;exact⟨t+s,u,y,K,q,A,M,o,by grind[Eh],N⟩
def k3.j0{ad:ak->a5->Prop}(aA:B.status=.running)(S:∀(q:Nat->Prop) d C dE g (i:Nat->Nat),gk b->d[0]?=f B->Leavers P g d i->Past (jC q) b.a.heap.size g->gO q b->m' g ->
      ∃F G z e,runT P (crowd d (b.a.at C) dE) 0=(.next (crowd F z.a dE),e)/\gk z/\F[0]?=f G/\Leavers P (g++e) F i/\Past (jC q) z.a.heap.size (g++e)/\gO q z/\m' (g++e)/\ad G z):k3 P B b ad:=by
  intro q d dE g i;have key:∀X d C dE g (i:Nat->Nat),Go.ConcN.sumTo d.size i<=X->gk b->d[0]?=f B->Leavers P g d i->Past (jC q) b.a.heap.size g->gO q b->m' g ->
      ∃(Z:Nat) (W:Nat->Prop) (I:Array ak) (j:ak) (l:a5) (A:Option (Nat×Nat)) (Q:Trace) (Y:Nat->Nat),
        runNT P Z (crowd d (b.a.at C) dE) g=(.next (crowd I l.a A),Q)/\gk l/\I[0]?=f j/\Leavers P Q I Y/\Past (jC W) l.a.heap.size Q/\gO W l/\m' Q/\ad j l:=by
    intro X;induction X with
    |zero=>?_
    |succ X aq=>?_
    all_goals
      intro d C dE g i aG u r k s t n;have ar:∀B∈d,awake B:=by
        intro w aC;obtain⟨h,o,rfl⟩:=Array.mem_iff_getElem.1 aC;rcases ob h with rfl|ae
        · grind[awake_of]
        · exact awake_of ((k.old h _ ae (iF o)).status.elim .inl λw=>.inr (.inr w))
      obtain⟨h,w,d2,A,o,aP,ah⟩:=crowd_pick (P:=P) (w:=b.a.at C) (sl:=dE) ar ⟨0,B,r,aA⟩;rw[show(b.a.at C).at d2=b.a.at d2 from a]at ah;rcases ob h with rfl|ae
      · obtain⟨F,G,z,e,k1,L,aw,ab,ax⟩:=S q d d2 A g i u r k s t n
        exact⟨1,q,F,G,z,A,g++e,i,by simp[runNT,ah,k1],L,aw,ab,ax⟩
      · have T:=k.old h w ae o
        have au:(h==0)=v:=N;have H:h<d.size:=(je.1 o).1;cases aj:i h with
        |zero=>rw[aj]at T;rw[T.1]at aP;cases aP
        |succ D=>
          rw[aj]at T;rcases T with⟨aF,_⟩|⟨_,j,V,y,ao,aL⟩
          · grind
          have aJ:Go.ConcN.sumTo d.size (Go.ConcN.upd i h D)+(D+1)=Go.ConcN.sumTo d.size i+D:=by have:=Go.ConcN.sumTo_upd i D id H;simpa[aj]using this
          first
          | (exfalso;omega)
          | (have aH:=runT_crowd_go (P:=P) (sl:=A) (i:=h) o (by rw[au];exact ao (b.a.at d2))
             have aK:((d.map (woken P w j (b.a.at d2))).setIfInBounds h j).size=d.size:=E;obtain⟨Z,W,I,av,l,O,Q,Y,k1,L⟩:=aq ((d.map (woken P w j (b.a.at d2))).setIfInBounds h j) d2 A (g++MemOp.ofEvents h w.frame.fn w.frame.place V) (Go.ConcN.upd i h D) N u
              (by grind[woken_run])
              ⟨λU aM K R=>by
                by_cases ai:h=U
                · grind[Go.ConcN.upd_same,Deaf_own]
                · rw[sM ai,Array.getElem?_map]at R
                  obtain⟨aI,az,rfl⟩:=rp.1 R;have an:=k.old U aI K az;rw[woken_quitsD an,Go.ConcN.upd_ne i D (qf ai),Deaf_other g ai _ (λag M=>by grind[Go.Conc.mem_ofEvents])];exact an,λU K=>by
                rw[Deaf_other g (g':=h) N _ (λag M=>by grind[Go.Conc.mem_ofEvents])]
                exact k.above U N⟩
              (s.mute x y) t (n.app λaE aa aD=>KS (y aE aa) aD)
             exact⟨Z+1,W,I,av,l,O,Q,Y,by simp[runNT,ah,aH];exact k1,L⟩)
  intro u r k s t n;have:=key _ d b.a.drawn dE g i (bE _) u r k s t n
  rwa [show b.a.at b.a.drawn=b.a from a]at this
def _root_.Go.Conc.Leavers.own{d}{r}{o}{l:Nat->Nat}(k:Leavers P o gs l){aH}(g:∀b∈aH,b.g=0)(t:0<gs.size):Leavers P (o++aH) ((gs.map (woken P B d r)).setIfInBounds 0 d) l:=
  ⟨λi u e h=>by
    have n:0≠i:=x;rw[sM n,Array.getElem?_map]at h;obtain⟨s,q,rfl⟩:=rp.1 h;have j:=k.old i s e q;rw[woken_quitsD j,Deaf_other o x _ (λb a=>g b a)];exact j,λi e=>by
    rw[Deaf_other o (g':=0) N _ (λb a=>g b a)]
    exact k.above i N⟩
def cc.aJ{P:aI}{O:ak->a5->Prop}{B}{b}(E:cc (ag.aJ P) O B b):k3 P B b O:=by
  induction E with
  |stop E=>intro o k dE u t l g h i j n;exact⟨0,o,k,_,_,dE,u,t,a,l,g,h,i,j,n,E⟩
  |aU d _ r=>
    intro o k dE u t l g h i j n;have:=r o k dE u t (.aU d) g h (by rw[d.a];exact i) (j.aU d) n
    rwa [d.a]at this
  |b4 _ d _ r=>
    intro o k dE u t l g h i j n;have:=r o k dE u t (l.b4 d) g h (by rw[d.a];exact i) (j.b4 d) n
    rwa [d.a]at this
  |dq K _ r=>exact k3.trans K r
  |@step B b ab z W M F I _ r=>
    refine k3.trans (k3.j0 (ad:=λw A=>∃y,(ag.aJ P).rely b y/\w=ab y/\A=z y) M λo k q dE u t l g h i j x=>?_) λw A ⟨y,k1,Z,aa⟩=>by subst Z aa;exact r y k1
    have C:(ag.aJ P).rely b {b with a:=b.a.at q}:=⟨cU.at l q,q,rfl⟩;obtain⟨⟨ae,T,J,X,s⟩,S⟩:=I _ C;have V:=(je.1 g).1;have R:gO o {b with a:=b.a.at q}:=j.at q;exact⟨_,_,z {b with a:=b.a.at q},_,runT_crowd_go (P:=P) (sl:=dE) (i:=0) g (show ar P (0==0) B (b.a.at q)=_ from F _ C),X.mem,by grind,
      h.own (λY Q=>by grind[Go.Conc.mem_ofEvents]) V,((i.mono s.size).own λD N=>TU J R (S D N) s.size),R.step s,x.app λD N U=>TV (S D N) U,_,C,rfl,rfl⟩
inductive cl where
 |leaf
 |node (ae:a5->cl)
def cl.lt:cl->cl->Prop
 |_,.leaf=>False
 |d,.node a=>∃b,d=a b∨cl.lt d (a b)
def cl.fu:∀g:cl,Acc cl.lt g
 |.leaf=>⟨_,λ_ b=>b.elim⟩
 |.node d=>⟨_,λ_ ⟨e,a⟩=>a.elim (λa=>a▸cl.fu (d e)) λb=>(cl.fu (d e)).inv b⟩
def cl.dH:Nat->cl
 |0=>.leaf
 |a+1=>.node λ_=>cl.dH a
def cl.gx(j)(b:a5):cl.lt (cl.dH j) (cl.dH (j+1)):=⟨b,.inl a⟩
def w0(e:Nat)(d y:Nat->cl):Prop:=∃a,a<e/\cl.lt (d a) (y a)/\∀b,b≠a->d b=y b
def NE:∀b,WellFounded (w0 b)
 |0=>⟨λ_=>⟨_,λ_ ⟨e,g,_⟩=>absurd g (iH e)⟩⟩
 |b+1=>by
  have l:=NE b;have key:∀d:cl,∀y:Nat->cl,y b=d->Acc (w0 (b+1)) y:=by
   intro d;induction cl.fu d with
   |intro d _ q=>
    intro y;induction l.apply y with
    |intro y _ k=>
     intro r;refine⟨_,λo g=>?_⟩;obtain⟨e,n,j,h⟩:=g;rcases d6 e b with i|i
     .exact k o ⟨e,i,j,h⟩ N
     grind
  exact⟨λy=>key _ y a⟩
section
def gB(g:ag P)(k:a5->a5->Array aT->Prop)(j:ak->a5->Prop):cl->ak->a5->Prop
 |.leaf,e,d=>j e d
 |.node l,e,d=>j e d∨(∃a,(eY d a∨(g.dU/\n2 d a))/\gB g k j (l d) e a) ∨
   (e.status=.running/\∀h,g.rely d h->∃i a b,ar P g.b7 e h.a=.go i a.a b/\(kG h a b∨k h a b)/\gB g k j (l h) i a)
variable {q:ag P}{W:a5->a5->Array aT->Prop}{r:ak->a5->Prop}
def dt(d:ag P)(a:a5->a5->Array aT->Prop)(b:ak->a5->Prop)(e:ak)(h:a5):Prop:=∃g,gB d a b g e h
theorem dt.aU(d:eY b az)(a:dt q W bq B az):dt q W bq B b:=by obtain⟨e,a⟩:=a;exact⟨.node λ_=>e,.inr (.inl ⟨az,.inl d,a⟩)⟩
def dt.b4(a:q.dU)(e:n2 b az)(d:dt q W bq B az):dt q W bq B b:=by obtain⟨g,d⟩:=d;exact⟨.node λ_=>g,.inr (.inl ⟨az,.inr ⟨a,e⟩,d⟩)⟩
def dt.step(n:B.status=.running)(j:∀e,q.rely b e->∃g a d,ar P q.b7 B e.a=.go g a.a d/\(kG e a d∨W e a d)/\dt q W bq g a):dt q W bq B b:=by
 classical
 have h:∀e,∃k:cl,q.rely b e->∃g a d,ar P q.b7 B e.a=.go g a.a d/\(kG e a d∨W e a d)/\gB q W bq k g a:=by
  intro e;by_cases i:q.rely b e
  .obtain⟨g,a,d,cS,dq,k,l⟩:=j e i;exact⟨k,λ_=>⟨g,a,d,cS,dq,l⟩⟩
  exact⟨.leaf,λj=>absurd j i⟩
 exact⟨.node λe=>Classical.choose (h e),.inr (.inr ⟨n,λe i=>Classical.choose_spec (h e) i⟩)⟩
def dt.bind(d:dt q W bq B b)(i:∀B b,bq B b->dt q W r B b):dt q W r B b:=by
 obtain⟨j,d⟩:=d;induction j generalizing B b with
 |leaf=>exact i B b d
 |node o g=>
  rcases d with d|⟨k,a,e⟩|⟨h,d⟩
  .grind
  .rcases a with a|⟨gG,a⟩
   .exact .aU a (g _ e)
   exact .b4 gG a (g _ e)
  exact .step h λn l=>by grind
def cc.toW(r:∀B b o,¬q.dq B b o)(h:cc q bq B b):dt q W bq B b:=by
 induction h with
 |stop h=>exact⟨.leaf,h⟩
 |step t u s l i j _ d=>exact .step l λg e=>⟨_,_,_,i g e,.inl (j g e),d g e⟩
 |aU a _ d=>exact .aU a d
 |b4 k a _ d=>exact .b4 k a d
 |dq n _ _=>grind
def gB.bf(l:a5->Prop)(C:∀g b,eY g b->l g->l b)(A:q.dU->∀g b,n2 g b->l g->l b):∀{D:cl}{r:ak}{g:a5},gB q W bq D r g->l g ->
  (∃b,l b/\bq r b)∨(r.status=.running/\∃b,l b/\∀k,q.rely b k->∃h i d n,ar P q.b7 r k.a=.go h i.a d/\(kG k i d∨W k i d)/\gB q W bq n h i/\cl.lt n D)
 |.leaf,_,g,o,j=>.inl ⟨g,j,o⟩
 |.node E,r,g,o,j=>by
  rcases o with o|⟨b,x,y⟩|⟨I,o⟩
  .grind
  .have e:l b:=x.elim (λs=>C g b s j) λs=>A s.1 g b s.2 j;rcases gB.bf l C A y e with B|⟨B,i,F,J⟩
   .grind
   refine .inr ⟨B,i,F,λk z=>?_⟩;obtain⟨h,u,d,n,k1,t,w,K⟩:=J k z;exact⟨h,u,d,n,k1,t,w,g,.inr K⟩
  refine .inr ⟨I,g,j,λk z=>?_⟩;obtain⟨h,u,d,k1,t,w⟩:=o k z;exact⟨h,u,d,E k,k1,t,w,k,.inl a⟩
def dt.goes{df:au->au->Prop}{y:au->au->Array aT->Prop}{Stop:ak->au->Prop}(k:a5->Prop)(u:∀b d,k b->q.rely b d->k d)(o:∀b d,k b->q.rely b d->df b.a d.a)(A:∀b e,k b->∀j,y b.a j e->j=b.a/\(kG b b e∨W b b e))(w:∀b,k b->q.rely b b)(x:∀h b,k b->Stop h b.a->dt q W bq h b):
  ∀r h b,k b->Goes P q.b7 df y Stop r h b.a->dt q W bq h b
 |0,h,b,g,l=>x h b g (l b.a (o b b g (w b g)))
 |r+1,h,b,g,l=>by
  rcases l with l|⟨D,l⟩
  .grind
  refine .step D λd z=>?_;have i:=l d.a (o b d g z);have s:=u b d g z;cases t:ar P q.b7 h d.a with
  |go n j e=>
   rw[t,goes_go]at i;obtain⟨C,E⟩:=i;obtain⟨rfl,B⟩:=A d e s j C;exact⟨n,d,e,a,B,dt.goes k u o A w x r n d s E⟩
  |_=>rw[t]at i;exact i.elim
end
theorem cU.aU{l}(h:cU b {b with a:=l})(g:eY b az):cU az {az with a:=l}:=by
 refine⟨a,a,a,by rw[g.a];exact h.size,λd e=>by rw[g.a];exact h.a6 d (g.blk d e),λd i j k=>?_,by rw[g.a];exact h.os,by rw[g.a];exact h.tape,by rw[g.a];exact h.output⟩;have o:=g.cell d i j k;by_cases e:∃L∈b.t,d∈L.al
 .have:=h.a6 d (.inr e);simp only[aM]at o⊢;grind
 have:b.E d i=f j:=by rw[<-g.bG d (λL q n=>e ⟨L,q,n⟩)];exact k
 exact h.mem d i j this
def cU.b4{j}(d:cU b {b with a:=j})(a:n2 b az):cU az {az with a:=j}:=
 ⟨rfl,rfl,rfl,by rw[a.a];exact d.size,λe g=>by rw[a.a];exact d.a6 e (by rw[<-a.own,<-a.t];exact g),λe h i k=>d.mem e h i (a.e8 e h i k),by rw[a.a];exact d.os,by rw[a.a];exact d.tape,by rw[a.a];exact d.output⟩
def cU.ev(a:gk b):cU b b:=⟨rfl,rfl,rfl,bE _,λ_ _=>rfl,a,rfl,rfl,rfl⟩
def cU.fY{a}(d:cU b {b with a:=a}):cU {b with a:=a} {b with a:=a}:=cU.ev d.mem
def cU.trans{b h b7}(a:cU b h)(d:cU h b7):cU b b7:=
 ⟨d.t.trans a.t,d.E.trans a.E,d.own.trans a.own,fM a.size d.size,λg e=>by rw[d.a6 g (by rw[a.own,a.t];exact e),a.a6 g e],λg j k i=>d.mem g j k (by rw[a.E];exact i),d.os.trans a.os,d.tape.trans a.tape,d.output.trans a.output⟩
end
section
open Go.Conc
open Go.ConcN (fork_knows RelBy)
open Go.ConcR (stA smA)
def hS:Go.Loc->Option Nat
 |.cell a=>f a.block
 |.obj b=>f b
 |_=>p
def KB{d}(b:d.isMemory=m):∃a,hS d=f a:=by cases d<;>simp[Go.Loc.isMemory]at b<;>exact⟨_,rfl⟩
def ae0{d:MemAct}{e}{bY}(b:d.touch?=f e)(g:d.low bY)(a:hS e.loc=f i):i<bY:=by
 cases d with
 |access h=>
  simp[MemAct.touch?]at b;subst b;simp only at a;obtain⟨loc,wr,k⟩:=h;cases loc<;>simp[hS]at a<;>subst a<;>exact g
 |mark j=>
  cases j<;>simp[MemAct.touch?]at b<;>subst b<;>simp[hS]at a<;>subst a<;>exact g
 |_=>exact cQ
structure hF where
 bF:Nat->Prop
 bP:Nat
 f:Nat
 ag:Nat
 base:Nat
 aQ:Nat
def o_(d:hF)(g:Nat->Nat)(e:Touch):Prop:=
 (∃a,e.loc=.cell a/\a.block=d.f/\e.kind≠.plain)∨(∃b,hS e.loc=f b/\g b=0/\b≠d.f/\b≠d.ag/\¬d.bF b/\e.kind=.plain)
def n9(b:hF)(i:Nat->Nat)(j:Mem)(h:Nat)(a:Touch):Prop:=
 (∃e,a.loc=.cell e/\e.block=b.f/\a.kind=.atomic) ∨
 (a.kind=.plain/\((∃g,hS a.loc=f g/\i g=b.base+h)∨(∃d,a.loc=.cell ⟨b.ag,d,p⟩/\b.aQ*h<=d/\d<b.aQ*h+b.aQ)∨(a.write=v/\∃g d k,a.loc=.cell ⟨g,d,p⟩/\j g d=f k)))
structure fC(M:hF)(I:Nat->Nat)(ae:Nat->Mem)(o:Trace)(u bY:Nat):Prop where
 base:1<=M.base
 cY:I M.f=0
 db:I M.ag=0
 b6:M.ag≠M.f
 dY:¬M.bF M.f
 eA:¬M.bF M.ag
 ey:∀i,M.bF i->I i=0
 bH:∀k,k<u->∀i s aa,ae k i s=f aa->I i=0/\i≠M.ag/\i≠M.f/\¬M.bF i
 bP:M.bP<=o.size
 er:∀said,¬Race said o
 seen:∀op∈o,op.act.low bY
 old:∀e w,e<M.bP->touchAt o e=f w->w.loc.isMemory=m->Knows o 0 e∨(jC M.bF w.loc/\w.kind=.atomic)
 ed:∀k,k<u->∀e w,e<M.bP->touchAt o e=f w->w.loc.isMemory=m->Knows o (M.base+k) e∨(jC M.bF w.loc/\w.kind=.atomic)
 eK:∀e w i,e<M.bP->touchAt o e=f w->hS w.loc=f i->I i=0
 new:∀e w,M.bP<=e->touchAt o e=f w->w.loc.isMemory=m->(o.g? e=f 0/\o_ M I w)∨(∃k,k<u/\o.g? e=f (M.base+k)/\n9 M I (ae k) k w)
 ep:∀k,k<u->∀e w,M.bP<=e->touchAt o e=f w->o.g? e=f 0->w.write=m->∀i s aa,w.loc=.cell ⟨i,s,p⟩->ae k i s=f aa->Knows o (M.base+k) e
 over:∀e B,e<M.bP->o.g? e=f B->B≠0->o.counts e->∃h,o.g? h=f 0/\HappensBefore o e h
section
variable {M:hF}{I et:Nat->Nat}{ae:Nat->Mem}{o bz:Trace}{bY ec:Nat}
theorem zG{a}{B}(g:touchAt o e=f a)(b:o.g? e=f B):Knows o B e:=by
 obtain⟨h,d,_⟩:=touch_of g;have:h.g=B:=by simpa[Trace.g?,d]using b
 grind[knows_own]
def fC.low(j:fC M I ae o u bY){b}(g:touchAt o e=f b)(a:hS b.loc=f i):i<bY:=by obtain⟨k,h,d⟩:=touch_of g;exact ae0 d (j.seen k (uE h)) a
def fC.eL(d:fC M I ae o u bY)(e:∀b,b<bY->et b=I b)(aG:bY<=ec)(B:M.f<bY)(t:M.ag<bY)(C:∀b,M.bF b->b<bY)(D:∀h,h<u->∀b r s,ae h b r=f s->b<bY):fC M et ae o u ec:=by
 have F:∀k g,touchAt o k=f g->o_ M I g->o_ M et g:=λk g l a=>by
  rcases a with a|⟨b,a,i,z⟩
  .exact .inl a
  exact .inr ⟨b,a,by rw[e b (d.low l a)];exact i,z⟩
 have E:∀h k g,touchAt o k=f g->n9 M I (ae h) h g->n9 M et (ae h) h g:=λh k g l a=>by
  rcases a with a|⟨y,⟨b,a,i⟩|a⟩
  .exact .inl a
  .exact .inr ⟨y,.inl ⟨b,a,by rw[e b (d.low l a)];exact i⟩⟩
  exact .inr ⟨y,.inr a⟩
 refine⟨d.base,by rw[e _ B];exact d.cY,by rw[e _ t];exact d.db,d.b6,d.dY,d.eA,λb j=>by rw[e b (C b j)];exact d.ey b j,λh A b r s x=>by rw[e b (D h A b r s x)];exact d.bH h A b r s x,
  d.bP,d.er,λw q=>MemAct.low_mono aG (d.seen w q),d.old,d.ed,λk g b n l j=>by rw[e b (d.low l j)];exact d.eK k g b n l j,λk g n l I=>?_,d.ep,d.over⟩
 rcases d.new k g n l I with⟨a,i⟩|⟨h,a,i,z⟩
 .grind
 grind
def fC.fG(a:fC M I ae o u bY):M.bP<=(o++bz).size:=fM a.bP E
theorem oA(a:e<o.size):(o++bz).g? e=o.g? e:=by simp[Trace.g?,getElem?_append_old a]
def fC.fQ(n:fC M I ae o u bY)(bz):∀a h,a<M.bP->(o++bz).g? a=f h->h≠0->(o++bz).counts a->∃g,(o++bz).g? g=f 0/\HappensBefore (o++bz) a g:=by
 intro a h d b e j;have l:=eE d n.bP;rw[oA l]at b;obtain⟨g,k,i⟩:=n.over a h d b e ((counts_old l).1 j);have q:g<o.size:=by unfold Trace.g? at k;grind
 exact⟨g,by grind[oA],hb_app bz i⟩
def Mz{a:Nat->Prop}{d}(e:jC a d)(b:hS d=f i):a i:=by cases d<;>simp[hS]at b<;>subst b<;>exact e
def fC.eD(b:fC M I ae o u bY){k}(t:k<u){a i}{said}(aV:o_ M I i)(n:n9 M I (ae k) k a)(gG:a.loc=i.loc)(l:a.kind=.plain∨i.kind=.plain∨(said=m/\a.kind=.said/\i.kind=.said))(A:i.kind=.plain->i.write=m->∀d s aa,i.loc=.cell ⟨d,s,p⟩->ae k d s≠f aa)(z:a.write=m∨i.write=m):False:=by
 have x:=b.base;rcases n with⟨g,dN,eJ,jQ⟩|⟨X,⟨r,dN,eJ⟩|⟨s,dN,_⟩|⟨dN,d,s,aa,eJ,jQ⟩⟩
 .rcases aV with⟨e,aj,B,h⟩|⟨r,aj,B,h,_⟩
  .grind
  exact O5
 .rcases aV with⟨e,aj,B,h⟩|⟨j,aj,B,h,_⟩
  .rw[gG,aj]at dN;simp[hS,eW]at dN;rw[<-dN,B,b.cY]at eJ;omega
  grind
 .rcases aV with⟨e,aj,B,h⟩|⟨j,aj,B,h,q,_⟩
  .rw[<-gG,dN]at aj;cases aj;exact b.b6 B
  exact O5
 obtain⟨w,C,Q,y⟩:=b.bH k t d s aa jQ;rcases aV with⟨e,aj,B,h⟩|⟨j,aj,B,h,q,_,O⟩
 .grind
 grind
def fC.app0(t:fC M I ae o u bY)(C:∀a∈bz,a.g=0)(B:∀a∈bz,a.act.low bY)(y:∀a∈bz,∀b,a.act.touch?=f b->b.loc.isMemory=m->o_ M I b)(T:∀a∈bz,∀b,a.act.touch?=f b->b.kind=.plain->b.write=m->∀j,j<u->∀k s w,b.loc=.cell ⟨k,s,p⟩->ae j k s≠f w):fC M I ae (o++bz) u bY:=by
 have F:∀{d:Nat} {b:Touch},touchAt (o++bz) d=f b->(d<o.size/\touchAt o d=f b)∨(o.size<=d/\(o++bz).g? d=f 0/\∃a∈bz,a.act.touch?=f b):=by
  intro d b h;obtain⟨j,n,W⟩:=touch_of h;rcases getElem?_append_cases n with⟨bp,G⟩|⟨bp,N⟩
  .grind [touchAt_of]
  exact .inr ⟨bp,by simp[Trace.g?,n,C j N],j,N,W⟩
 refine⟨t.base,t.cY,t.db,t.b6,t.dY,t.eA,t.ey,t.bH,t.fG,λsaid=>?_,seen_app t.seen B,λd b bp h I=>?_,λj n d b bp h I=>?_,λd b k bp h q=>?_,λd b bp h I=>?_,λj n d b bp h x O k s w J E=>?_,t.fQ bz⟩
 .refine noRace_append (t.er said) C λd b h a g k q e=>?_;have V:k.loc.isMemory=m:=by rw[<-e.1];exact e.2.1
  have aV:=y a g k q V;rcases d6 d M.bP with bp|bp
  .rcases t.old d b bp h e.2.1 with bT|⟨av,L⟩
   .exact bT
   exfalso;obtain⟨X,r⟩:=KB e.2.1;have R:=Mz av r;rcases aV with⟨A,dN,eJ,jQ⟩|⟨H,dN,eJ,jQ,D,bD,S⟩
   .rw[e.1,dN]at r;simp[hS,eW]at r;rw[<-r,eJ]at R;exact t.dY R
   rw[e.1,dN]at r;grind
  rcases t.new d b bp h e.2.1 with⟨x,_⟩|⟨j,n,x,Q⟩
  .grind [zG]
  exact(t.eD n aV Q e.1 e.2.2.2 (λl i=>T a g k q l i j n) e.2.2.1).elim
 .have z:touchAt o d=f b:=FU;exact(t.old d b bp z I).imp (·.app bz) id
 .have z:touchAt o d=f b:=FU;exact(t.ed j n d b bp z I).imp (·.app bz) id
 .have z:touchAt o d=f b:=FU;exact t.eK d b k bp z q
 .rcases F h with⟨l,i⟩|⟨_,i,a,g,K⟩
  .rw[oA l];exact t.new d b bp i I
  grind
 rcases F h with⟨l,i⟩|⟨_,i,a,g,K⟩
 .rw[oA l]at x;exact(t.ep j n d b bp i x O k s w J E).app bz
 exfalso;rcases y a g b K hu with⟨A,dN,eJ,jQ⟩|⟨H,_,_,_,_,_,S⟩
 .rw[J]at dN;cases dN;exact(t.bH j n k s w E).2.2.1 eJ
 grind
def fC.h'(t:fC M I ae o u bY){k}(O:k<u)(V:∀l∈bz,l.g=M.base+k)(S:∀l∈bz,l.act.low bY)(ao:∀l∈bz,∀e,l.act.touch?=f e->e.loc.isMemory=m->n9 M I (ae k) k e):fC M I ae (o++bz) u bY:=by
 have Y:=t.base;have ab:∀{g:Nat} {e:Touch},touchAt (o++bz) g=f e->(g<o.size/\touchAt o g=f e)∨(o.size<=g/\(o++bz).g? g=f (M.base+k)/\∃l∈bz,l.act.touch?=f e):=by
  intro g e bc;obtain⟨x,A,P⟩:=touch_of bc;rcases getElem?_append_cases A with⟨bp,aa⟩|⟨bp,U⟩
  .grind [touchAt_of]
  exact .inr ⟨bp,by simp[Trace.g?,A,V x U],x,U,P⟩
 refine⟨t.base,t.cY,t.db,t.b6,t.dY,t.eA,t.ey,t.bH,t.fG,λsaid=>?_,seen_app t.seen S,λg e bp bc I=>?_,λx A g e bp bc I=>?_,λg e N bp bc J=>?_,λg e bp bc I=>?_,λx A g e bp bc y H N j n ag aP=>?_,t.fQ bz⟩
 .refine noRace_append (t.er said) V λg e bc l C N J i=>?_;have ah:N.loc.isMemory=m:=by rw[<-i.1];exact i.2.1
  have aV:=ao l C N J ah;obtain⟨ax,w⟩:=KB i.2.1;rcases d6 g M.bP with bp|bp
  .rcases t.ed k O g e bp bc i.2.1 with K|⟨T,Z⟩
   .exact K
   exfalso;have E:=Mz T w;rw[i.1]at w;rcases aV with⟨R,dN,eJ,jQ⟩|⟨an,⟨ar,dN,eJ⟩|⟨j,dN,_⟩|⟨dN,r,j,n,eJ,jQ⟩⟩
   .rw[dN]at w;simp[hS,eW]at w;rw[<-w,eJ]at E;exact t.dY E
   .rw[dN]at w;simp[eW]at w;rw[<-w]at E;rw[t.ey _ E]at eJ;omega
   .rw[dN]at w;simp[hS,eW]at w;rw[<-w]at E;exact t.eA E
   rw[eJ]at w;simp[hS,eW]at w;rw[<-w]at E;exact(t.bH k O r j n jQ).2.2.2 E
  rcases t.new g e bp bc i.2.1 with⟨y,F⟩|⟨x,A,y,aj⟩
  ·
   by_cases G:e.write=m/\∃r j n,e.loc=.cell ⟨r,j,p⟩/\ae k r j=f n
   .obtain⟨h,r,j,n,q,W⟩:=G;exact t.ep k O g e bp bc y h r j n q W
   exfalso;refine t.eD (said:=said) O F aV i.1.symm ?_ (λ_ ai r j n s aP=>G ⟨ai,r,j,n,s,aP⟩) i.2.2.1.symm;rcases i.2.2.2 with K|K|⟨h,q,W⟩
   .grind
   .grind
   grind
  by_cases L:x=k
  .grind [zG]
  exfalso;obtain⟨s,_,H,av⟩:=i;rcases aj with⟨R,dN,eJ,jQ⟩|⟨an,⟨g2,dN,eJ⟩|⟨j,dN,X,aw⟩|⟨dN,r,j,n,eJ,jQ⟩⟩
  .rcases aV with⟨Q,d,z,B⟩|⟨b3,⟨iK,d,z⟩|⟨j,d,_⟩|⟨d,r,j,n,z,B⟩⟩
   .grind
   .rw[<-s,dN]at d;simp[hS,eW]at d;rw[<-d,eJ,t.cY]at z;omega
   .rw[<-s,dN]at d;cases d;exact t.b6 eJ
   rw[<-s,dN]at z;cases z;exact(t.bH k O r j n B).2.2.1 eJ
  .rcases aV with⟨Q,d,z,B⟩|⟨b3,⟨iK,d,z⟩|⟨j,d,_⟩|⟨d,r,j,n,z,B⟩⟩
   .rw[s,d]at dN;simp[hS,eW]at dN;rw[<-dN,z,t.cY]at eJ;omega
   .grind
   .rw[s,d]at dN;simp[hS,eW]at dN;rw[<-dN,t.db]at eJ;omega
   rw[s,z]at dN;simp[hS,eW]at dN;rw[<-dN,(t.bH k O r j n B).1]at eJ;omega
  .rcases aV with⟨Q,d,z,B⟩|⟨b3,⟨iK,d,z⟩|⟨D,d,bq,ak⟩|⟨d,r,D,n,z,B⟩⟩
   .rw[<-s,dN]at d;cases d;exact t.b6 z
   .rw[<-s,dN]at d;simp[hS,eW]at d;rw[<-d,t.db]at z;omega
   .rw[<-s,dN]at d;cases d;rcases Nat.lt_or_gt_of_ne L with h|h
    .have:=xa M.aQ (show x+1<=k from h);grind
    have:=xa M.aQ (show k+1<=x from h);grind
   rw[<-s,dN]at z;cases z;exact(t.bH k O _ _ n B).2.1 a
  rcases aV with⟨Q,d,z,B⟩|⟨b3,⟨iK,d,z⟩|⟨D,d,bq,ak⟩|⟨d,aq,D,au,z,B⟩⟩
  .rw[<-s,eJ]at d;cases d;exact(t.bH x A r j n jQ).2.2.1 z
  .rw[<-s,eJ]at d;simp[hS,eW]at d;rw[<-d,(t.bH x A r j n jQ).1]at z;omega
  .rw[<-s,eJ]at d;cases d;exact(t.bH x A _ _ n jQ).2.1 a
  grind
 .have b:touchAt o g=f e:=FT;exact(t.old g e bp b I).imp (·.app bz) id
 .have b:touchAt o g=f e:=FT;exact(t.ed x A g e bp b I).imp (·.app bz) id
 .have b:touchAt o g=f e:=FT;exact t.eK g e N bp b J
 .rcases ab bc with⟨h,q⟩|⟨_,q,l,C,ad⟩
  .rw[oA h];exact t.new g e bp q I
  grind
 rcases ab bc with⟨h,q⟩|⟨_,q,_⟩
 .rw[oA h]at y;exact(t.ep x A g e bp q y H N j n ag aP).app bz
 grind
def fC.mute(b:fC M I ae o u bY){B}(z:∀h∈bz,h.g=B)(k:∀h∈bz,h.act.low bY)(t:∀h∈bz,h.act.touch?=p):fC M I ae (o++bz) u bY:=by
 have old:∀{d:Nat} {e:Touch},touchAt (o++bz) d=f e->d<o.size/\touchAt o d=f e:=by intro d e g;obtain⟨E,D,C⟩:=touch_of g;grind[touchAt_of]
 refine⟨b.base,b.cY,b.db,b.b6,b.dY,b.eA,b.ey,b.bH,b.fG,λsaid=>noRace_append (b.er said) z λd e _ h q j i _=>N,seen_app b.seen k,λd e a g I=>(b.old d e a (old g).2 I).imp (·.app bz) id,
  λn l d e a g I=>(b.ed n l d e a (old g).2 I).imp (·.app bz) id,λd e j a g i=>b.eK d e j a (old g).2 i,λd e a g I=>?_,λn l d e a g r w j x A s y=>?_,b.fQ bz⟩
 .rw[oA (old g).1];exact b.new d e a (old g).2 I
 rw[oA (old g).1]at r;exact(b.ep n l d e a (old g).2 r w j x A s y).app bz
def fC.gl(h:fC M I ae o u bY){k X}(Q:k.g=0/\k.act=.go (M.base+u))(D:X.g=M.base+u/\X.act=.start)(E:Deaf o 0=0)(w:Deaf o (M.base+u)=0)(T:∀e s t,ae u e s=f t->I e=0/\e≠M.ag/\e≠M.f/\¬M.bF e):fC M I ae (o++#[k,X]) (u+1) bY:=by
 have y:∀g∈#[k,X],g.act.touch?=p:=by
  intro g a;simp[List.mem_toArray,fr,sF,or_false]at a;rcases a with rfl|rfl
  .exact hu
  exact hu
 have K:∀g∈#[k,X],g.act.low bY:=by
  intro g a;simp[List.mem_toArray,fr,sF,or_false]at a;rcases a with rfl|rfl
  .exact hu
  exact hu
 have old:∀{i:Nat} {l:Touch},touchAt (o++#[k,X]) i=f l->i<o.size/\touchAt o i=f l:=by intro i l n;obtain⟨q,C,S⟩:=touch_of n;grind[touchAt_of]
 have j:∀q,q<u+1->∀e s t,ae q e s=f t->I e=0/\e≠M.ag/\e≠M.f/\¬M.bF e:=λq C e s t z=>by
  rcases d6 q u with b|b
  .exact h.bH q b e s t z
  grind
 refine⟨h.base,h.cY,h.db,h.b6,h.dY,h.eA,h.ey,j,h.fG,λsaid=>?_,seen_app h.seen K,λi l d n I=>(h.old i l d (old n).2 I).imp (·.app _) id,
  λq C i l d n I=>?_,λi l e d n r=>h.eK i l e d (old n).2 r,λi l d n I=>?_,λq C i l d n A R e s t O z=>?_,h.fQ _⟩
 .have F:o++#[k,X]=(o++#[k])++#[X]:=N;rw[F];refine noRace_append (g:=M.base+u) (noRace_append (g:=0) (h.er said) (λg a=>by grind) (λi l _ g a e r _=>N)) (λg a=>by grind) (λi l _ g a e r _=>?_);grind
 .rcases d6 q u with b|b
  .exact(h.ed q b i l d (old n).2 I).imp (·.app _) id
  obtain rfl:q=u:=x;exact(h.old i l d (old n).2 I).imp (fork_knows Q D E w) id
 .rw[oA (old n).1];rcases h.new i l d (old n).2 I with b|⟨q,b,J⟩
  .grind
  grind
 rw[oA (old n).1]at A;rcases d6 q u with b|b
 .exact(h.ep q b i l d (old n).2 A R e s t O z).app _
 obtain rfl:q=u:=x;exact fork_knows Q D E w (zG (old n).2 A)
def fC.jI(h:fC M I ae o u bY)(H:Deaf o 0=0)(z:NoRelease (stA M.f) o){bc}(F:o.act? bc=f (.mark (.acquire (stA M.f))))(C:o.g? bc=f 0)(E:o.heard bc)(K:∀d,d<u->∃j,RelBy (stA M.f) o (M.base+d) j/\j<bc):Past (jC λn=>M.bF n∨n=M.f) bY o:=by
 have B:∀d,d<u->∀a,o.g? a=f (M.base+d)->o.counts a->HappensBefore o a bc:=by
  intro d r a i l;obtain⟨j,s,Q⟩:=K d r;have S:HappensBefore o j bc:=.single (.inr ⟨.marked Q (.inr s.act) F (λU _ _=>z U),s.heard,E⟩);have L:a<=j:=Nat.le_of_not_lt λA=>s.after a A i l;rcases d6 a j with A|G
  .exact .trans (.single (.inl ⟨A,_,i,s.g⟩)) S
  grind
 have V:∀{t:Go.Loc},jC M.bF t->jC (λn=>M.bF n∨n=M.f) t:=λ{t} q=>by cases t<;>first|exact .inl q|exact q
 refine⟨h.er,λa g k I=>?_,λa T i O l=>?_,H,h.seen⟩
 .rcases d6 a M.bP with b|b
  .exact(h.old a g b k I).imp id λ⟨e,w⟩=>⟨V e,w⟩
  rcases h.new a g b k I with⟨e,_⟩|⟨d,r,i,aV⟩
  .grind [zG]
  rcases aV with⟨R,dN,eJ,jQ⟩|⟨bD,_⟩
  .exact .inr ⟨by rw[dN];exact .inr eJ,jQ⟩
  left;have l:o.counts a:=⟨g,k,I,.inl N⟩
  obtain⟨W,J,D⟩:=rp.1 C;exact⟨bc,W,J,D,.inr (B d r a i l)⟩
 rcases d6 a M.bP with b|b
 .exact h.over a T b i O l
 obtain⟨g,k,I,x⟩:=l;rcases h.new a g b k I with⟨e,_⟩|⟨d,r,y,aV⟩
 .grind
 exact⟨bc,C,B d r a y ⟨g,k,I,x⟩⟩
def fC.start{M}{o}{bY}{l:Nat->Mem}(d:Past (jC M.bF) bY o)(aV:M.bP=o.size)(h:1<=M.base)(g:M.ag≠M.f)(s:¬M.bF M.f)(q:¬M.bF M.ag):fC M (λ_=>0) l o 0 bY:=
 ⟨h,rfl,rfl,g,s,q,λ_ _=>rfl,λb a=>absurd a (iH b),by omega,d.clean,d.seen,λe j _ i k=>d.known e j i k,λb a=>absurd a (iH b),λ_ _ _ _ _ _=>rfl,
  λe j r i _=>by
   obtain⟨b,a,_⟩:=touch_of i
   grind,λb a=>absurd a (iH b),λe n _ t g u=>d.over e n t g u⟩
end
end
section
open Go.Conc
open Go.ConcN (WD CTag Mode Vc Ssum pend phi cnt WgLive PayAt Has RW DWs WSit RelBy sumTo upd upd_same upd_ne AtR0 get_map_set get_map_set_same norel_of Deaf_still)
open Go.ConcR (KK WgAt stA smA rd wr mk Payload g_of_ofEvents)
def ag.c9(P):ag P:={b7:=v,rely:=cU,dq:=λ_ _ _=>False,bO:=id,dU:=True}
def ag.aG(P)(d:aq)(a:Nat):ag P:={b7:=m,rely:=λe b=>cU e b/\(WgLive d a e.a->WgLive d a b.a),dq:=λ_ _ _=>False,bO:=λg=>g.1,dU:=False}
instance (P:aI):(ag.c9 P).b8:=⟨C⟩
def eL:a5->a5->Array aT->Prop:=λ_ _ _=>False
def dV(b:Nat):a5->a5->Array aT->Prop:=λg e a=>e=g/\∃d:Addr,d.block=b/\(a=#[mk (.read d)]∨a=#[mk (.write d)])
def p5:Nat->Go.Loc->Prop:=λ_ _=>False
variable [Payload]
structure Sf(O D eZ h:Nat)(A:Nat->Z)(J bj:au):Prop where
 tape:bj.tape=J.tape
 os:bj.os=J.os
 output:bj.output=J.output
 size:bj.heap.size=J.heap.size
 block:∀i,i≠O->bj.heap[i]?=J.heap[i]?
 bV:PayAt O D bj
 hI:∀s,(s<eZ∨eZ+h<=s)->bj.cell? ⟨O,s,p⟩=J.cell? ⟨O,s,p⟩
 new:∀e,e<h->bj.cell? ⟨O,eZ+e,p⟩=f (A e)
section
variable (P:aI)(ty:aq)(M:hF)(D:Nat)(val:Nat->Nat->Z)
def uq(a:Nat)(g:ak)(h:a5):Prop:=
 g.status=.running/\∀w1,cU h {h with a:=w1}->PayAt M.ag D w1->WgLive ty M.f w1 ->
  ∃d w2 b,ar P v g w1=.go d w2 b/\Sf M.ag D (M.aQ*a) M.aQ (val a) w1 w2/\(∀i∈b,∃e,i=⟨.cell ⟨M.ag,e,p⟩,m,v⟩/\M.aQ*a<=e/\e<M.aQ*a+M.aQ) /\
   ∃j,Goes P v (RW ty M.f M.ag D 0 (M.aQ*a)) Go.ConcR.DC0 (AtR0 P ty M.f M.ag D 0 (M.aQ*a+1) (val a 0)) j d w2
end
structure ho(ae:Nat->Nat)(bb:Mem)(B:Nat)(b:a5):Prop where
 blk:∀i,(b.own i∨∃L∈b.t,i∈L.al)->ae i=B/\i<b.a.heap.size
 E:∀i s aa,b.E i s=f aa->(ae i=B∨bb i s=f aa)/\i<b.a.heap.size
structure gj(M:hF)(ae:Nat->Nat)(Q:Nat->Mem)(u:Nat)(b:a5):Prop where
 blk:∀i,(b.own i∨∃L∈b.t,i∈L.al)->ae i=0/\i≠M.ag/\i≠M.f/\¬M.bF i/\i<b.a.heap.size
 E:∀i s aa,b.E i s=f aa->ae i=0/\i≠M.ag/\i≠M.f/\¬M.bF i/\i<b.a.heap.size
 bH:∀k,k<u->∀i s aa,Q k i s=f aa->b.E i s=f aa
structure lG(M:hF)(ae:Nat->Nat)(bb:Mem)(X:Nat)(J bj:au):Prop where
 size:J.heap.size<=bj.heap.size
 blk:∀i,i<J.heap.size->ae i=M.base+X->bj.heap[i]?=J.heap[i]?
 cell:∀i s aa,bb i s=f aa->J.cell? ⟨i,s,p⟩=f aa->bj.cell? ⟨i,s,p⟩=f aa
 bV:∀s,M.aQ*X<=s->s<M.aQ*X+M.aQ->bj.cell? ⟨M.ag,s,p⟩=J.cell? ⟨M.ag,s,p⟩
 os:bj.os=J.os
 tape:bj.tape=J.tape
 output:bj.output=J.output
omit [Payload]in
def lG.refl(M)(a:Nat->Nat)(d)(X)(J):lG M a d X J J:=⟨bE _,λ_ _ _=>rfl,λ_ _ _ _ b=>b,λ_ _ _=>rfl,rfl,rfl,rfl⟩
omit [Payload]in
def lG.at(M)(b:Nat->Nat)(e)(X)(J)(a):lG M b e X J (J.at a):=⟨bE _,λ_ _ _=>rfl,λ_ _ _ _ d=>d,λ_ _ _=>rfl,rfl,rfl,rfl⟩
structure rn(M:hF)(ae:Nat->Nat)(J bj:au):Prop where
 size:J.heap.size<=bj.heap.size
 blk:∀i,i<J.heap.size->ae i=0->i≠M.ag->i≠M.f->bj.heap[i]?=J.heap[i]?
 os:bj.os=J.os
 tape:bj.tape=J.tape
 output:bj.output=J.output
omit [Payload]in
def nk{a:au}(b:bj.heap[i]?=a.heap[i]?)(s):bj.cell? ⟨i,s,p⟩=a.cell? ⟨i,s,p⟩:=by simp[aM,b]
omit [Payload]in
def cU.eG{J}(e:cU b {b with a:=J})(o:J.heap.size<=bj.heap.size)(k:∀d,(b.own d∨∃L∈b.t,d∈L.al)->bj.heap[d]?=J.heap[d]?)(a:∀d g h,b.E d g=f h->J.cell? ⟨d,g,p⟩=f h->bj.cell? ⟨d,g,p⟩=f h)(l:bj.os=J.os)(n:bj.tape=J.tape)(q:bj.output=J.output):cU b {b with a:=bj}:=
 ⟨rfl,rfl,rfl,fM e.size o,λd i=>by show bj.heap[d]?=_;rw[k d i];exact e.a6 d i,λd g h j=>a d g h j (e.mem d g h j),l.trans e.os,n.trans e.tape,q.trans e.output⟩
section
variable {M:hF}{ae et:Nat->Nat}{Q:Nat->Mem}{X:Nat}{J:au}
omit [Payload]in
def ho.dj(k:ho ae (Q X) (M.base+X) b)(j:cU b {b with a:=J})(a:lG M ae (Q X) X J bj):cU b {b with a:=bj}:=by
 have l:=j.size;refine j.eG a.size (λe o=>?_) (λe g n q i=>?_) a.os a.tape a.output
 .obtain⟨d,h⟩:=k.blk e o;exact a.blk e (eE h l) d
 obtain⟨d,h⟩:=k.E e g n q;rcases d with d|d
 .rw[nk (a.blk e (eE h l) d) g];exact i
 exact a.cell e g n d i
omit [Payload]in
def ho.eL{h}{B}(g:ho ae h B b)(o:b.a.heap.size<=J.heap.size)(n:∀a,a<J.heap.size->et a=ae a):ho et h B b:=
 ⟨λa i=>let ⟨d,e⟩:=g.blk a i;⟨by grind,e⟩,λa j l k=>let ⟨d,e⟩:=g.E a j l k;⟨by grind,e⟩⟩
omit [Payload]in
def gj.dj(j:gj M ae Q u b)(i:cU b {b with a:=J})(a:rn M ae J bj):cU b {b with a:=bj}:=by
 have l:=i.size;refine i.eG a.size (λe o=>?_) (λe k r q n=>?_) a.os a.tape a.output
 .obtain⟨d,g,h,H,y⟩:=j.blk e o;exact a.blk e (eE y l) d g h
 obtain⟨d,g,h,H,y⟩:=j.E e k r q;rw[nk (a.blk e (eE y l) d g h) k];exact n
omit [Payload]in
def gj.eL(e:gj M ae Q u b)(o:b.a.heap.size<=J.heap.size)(n:∀a,a<J.heap.size->et a=ae a):gj M et Q u b:=
 ⟨λa i=>let ⟨d,g,h,H,y⟩:=e.blk a i;⟨by grind,g,h,H,y⟩,
  λa j l k=>let ⟨d,g,h,H,y⟩:=e.E a j l k;⟨by grind,g,h,H,y⟩,e.bH⟩
omit [Payload]in
def ho.rely{i}{B}(h:ho ae i B b)(g:b.a.heap.size<=J.heap.size):ho ae i B {b with a:=J}:=
 ⟨λa j=>let ⟨d,e⟩:=h.blk a j;⟨d,eE e g⟩,λa k n l=>let ⟨d,e⟩:=h.E a k n l;⟨d,eE e g⟩⟩
omit [Payload]in
def gj.rely(e:gj M ae Q u b)(i:b.a.heap.size<=J.heap.size):gj M ae Q u {b with a:=J}:=
 ⟨λa j=>let ⟨d,g,h,H,y⟩:=e.blk a j;⟨d,g,h,H,eE y i⟩,λa k n l=>let ⟨d,g,h,H,y⟩:=e.E a k n l;⟨d,g,h,H,eE y i⟩,e.bH⟩
omit [Payload]in
theorem ho.aU{e}{B}(a:ho ae e B b)(h:eY b az):ho ae e B az:=by
 refine⟨λi r=>by rw[h.a];exact a.blk i (h.blk i r),λi g j bc=>?_⟩;rw[h.a];by_cases r:∃L∈b.t,i∈L.al
 .obtain⟨d,k⟩:=a.blk i (.inr r);grind
 exact a.E i g j RM
omit [Payload]in
def ho.b4{h}{B}(e:ho ae h B b)(a:n2 b az):ho ae h B az:=
 ⟨λd j=>by rw[a.a];exact e.blk d (by rw[<-a.own,<-a.t];exact j),λd g i k=>by rw[a.a];exact e.E d g i (a.e8 d g i k)⟩
omit [Payload]in
theorem gj.aU(a:gj M ae Q u b)(h:eY b az):gj M ae Q u az:=by
 refine⟨λi r=>by rw[h.a];exact a.blk i (h.blk i r),λi d e bc=>?_,λj g i d e bc=>h.mem _ _ _ (a.bH j g i d e bc)⟩;rw[h.a];by_cases r:∃L∈b.t,i∈L.al
 .exact a.blk i (.inr r)
 exact a.E i d e RM
def l0(d:Nat->Nat)(b e:Nat):Nat->Nat:=λa=>if a<b then d a else e
omit [Payload]in
theorem lo{b:Nat->Nat}{a B}(d:i<a):l0 b a B i=b i:=by simp[l0,d]
omit [Payload]in
theorem Dg{b:Nat->Nat}{a B}(d:a<=i):l0 b a B i=B:=by simp[l0,n'.2 d]
omit [Payload]in
def ho.step{k}{B}(h:ho ae k B b)(G:bd ao az)(e:cN l b ao az):ho (l0 ae b.a.heap.size B) k B az:=by
 refine⟨λa d=>?_,λa q s j=>?_⟩
 .rcases d with d|⟨L,W,d⟩
  .rw[e.own]at d;obtain⟨g,r⟩:=h.blk a (.inl d);exact⟨by grind[lo],eE r e.size⟩
  have i:=G.lt L W a d;rcases e.bW L W a d with g|⟨o,n,g⟩
  .grind [Dg]
  obtain⟨k1,aP⟩:=h.blk a (.inr ⟨o,n,g⟩);grind[lo]
 have i:=gk.lt G.mem j;rcases d6 a b.a.heap.size with g|g
 .rw[lo g];by_cases d:∃L∈b.t,a∈L.al
  .exact⟨.inl (h.blk a (.inr d)).1,i⟩
  rw[e.bG a g (λL W t=>d ⟨L,W,t⟩)]at j;exact⟨(h.E a q s j).1,i⟩
 grind[Dg]
omit [Payload]in
def gj.step(h:gj M ae Q u b)(G:bd ao az)(d:cN l b ao az)(B:M.f<b.a.heap.size)(z:M.ag<b.a.heap.size)(A:∀a,M.bF a->a<b.a.heap.size):gj M (l0 ae b.a.heap.size 0) Q u az:=by
 have F:∀a,b.a.heap.size<=a->a<az.a.heap.size->l0 ae b.a.heap.size 0 a=0/\a≠M.ag/\a≠M.f/\¬M.bF a/\a<az.a.heap.size:=λa g k=>
  ⟨Dg g,by omega,by omega,λI=>by grind,k⟩
 refine⟨λa e=>?_,λa j n i=>?_,λD w a j n i=>d.mem _ _ _ (h.bH D w a j n i)⟩
 .rcases e with e|⟨L,W,e⟩
  .rw[d.own]at e;obtain⟨g,k,C,H,y⟩:=h.blk a (.inl e);exact⟨by grind[lo],k,C,H,eE y d.size⟩
  have s:=G.lt L W a e;rcases d.bW L W a e with g|⟨x,t,g⟩
  .grind
  obtain⟨k1,aP,o,r,q⟩:=h.blk a (.inr ⟨x,t,g⟩);grind[lo]
 have s:=gk.lt G.mem i;rcases d6 a b.a.heap.size with g|g
 .by_cases e:∃L∈b.t,a∈L.al
  .obtain⟨k1,aP,o,r,q⟩:=h.blk a (.inr e);grind[lo]
  rw[d.bG a g (λL W E=>e ⟨L,W,E⟩)]at i;obtain⟨k1,aP,o,r,q⟩:=h.E a j n i;grind[lo]
 grind
end
end
section
open Go.Conc
open Go.ConcN (WD CTag Mode Vc Ssum pend phi cnt WgLive PayAt Has RW DWs WSit RelBy sumTo upd upd_same upd_ne AtR0 get_map_set get_map_set_same norel_of Deaf_still)
open Go.ConcR (KK WgAt stA smA rd wr mk Payload g_of_ofEvents)
variable [Payload]
section
variable (P:aI)(ty:aq)(M:hF)(D:Nat)(val:Nat->Nat->Z)(d:Nat->Nat)(r:Nat->Mem)
inductive hG (k:Nat):Nat->Nat->cl->Nat->ak->au->Prop
 |c_ {bb:cl} {B:ak} {b:a5} {J:au}:gB (ag.c9 P) eL (uq P ty M D val k) bb B b->cU b {b with a:=J}->ho d (r k) (M.base+k) b->hG k 1 7 bb 0 B J
 |rel {z:Nat} {B:ak} {J:au}:Goes P v (RW ty M.f M.ag D 0 (M.aQ*k)) Go.ConcR.DC0 (AtR0 P ty M.f M.ag D 0 (M.aQ*k+1) (val k 0)) z B J->hG k 0 7 (cl.dH z) 0 B J
 |tail {b' z I:Nat} {B:ak} {J:au}:b'<=6->WSit P ty M.f M.ag D p5 p5 0 (M.aQ*k+1) (val k 0) b' z I B J->hG k 0 b' (cl.dH z) I B J
structure ii(u:Nat)(gs:Array ak)(J:au)(o:Trace)(y:Nat->WD)(Q:Nat->Nat)(av:Nat->cl)(j:Nat):Prop where
 size:gs.size=M.base+u
 dt:∀e B,0<e->e<M.base->gs[e]?=f B->∃z,av e=cl.dH z/\QuitsD P z (Deaf o e) B
 above:∀e,M.base+u<=e->Deaf o e=0
 c8:∀k,k<u->∃B,gs[M.base+k]?=f B/\hG P ty M D val d r k (Q k) (y k).stage (av (M.base+k)) (y k).deaf B J
 bw:fC M d r o u J.heap.size
 dW:m' o
 dA:Deaf o 0=j
 dB:∀k,k<u->Deaf o (M.base+k)=(y k).deaf
 rel:∀k,k<u->(y k).stage<=6->∃bb,RelBy (stA M.f) o (M.base+k) bb
 dm:∀k,k<u->Q k=0->∀e,1<=e->e<M.aQ->J.cell? ⟨M.ag,M.aQ*k+e,p⟩=f (val k e)
 dS:∀k,k<u->(y k).stage<=6->Has M.ag (M.aQ*k) (val k 0) J
 bV:PayAt M.ag D J
 cV:WgLive ty M.f J
 cm:M.f<J.heap.size
 cz:M.ag<J.heap.size
 dr:∀i,M.bF i->i<J.heap.size
 aQ:0<M.aQ
 dF:∀X,X<u->∀i s aa,r X i s=f aa->i<J.heap.size
end
section
variable {P:aI}{ty:aq}{M:hF}{D:Nat}{val:Nat->Nat->Z}{d et:Nat->Nat}{r:Nat->Mem}{k:Nat}{J:au}{o:Trace}{y:Nat->WD}{Q:Nat->Nat}{av:Nat->cl}{j:Nat}
def RW.dj(i:lG M d (r k) k J bj)(b:WgLive ty M.f bj)(e:PayAt M.ag D bj)(h:0<M.aQ):RW ty M.f M.ag D 0 (M.aQ*k+1-1) J bj:=
 ⟨λg a=>absurd a (iH g),λ_=>b,λ_=>e,i.bV _ (bE _) N⟩
def hG.dj{o b' q}{t}{B}(u:hG P ty M D val d r k o b' t q B J)(n:lG M d (r k) k J bj)(h:WgLive ty M.f bj)(s:PayAt M.ag D bj)(g:0<M.aQ)(l:∀i,i<J.heap.size->et i=d i):
  hG P ty M D val et r k o b' t q B bj:=by
 cases u with
 |c_ a b e=>exact .c_ a (e.dj b n) (e.eL b.size l)
 |rel a=>exact .rel (Goes.rely (λ_ _ _ a b=>a.trans b) a (RW.dj n h s g))
 |tail j a=>exact .tail j (a.rely (RW.dj n h s g))
omit [Payload]in
def gB.run{i:ag P}{h:a5->a5->Array aT->Prop}{e:ak->a5->Prop}(g:∀b d,e b d->b.status=.running):∀{bb:cl}{b:ak}{d:a5},gB i h e bb b d->b.status=.running
 |.leaf,_,_,a=>g _ _ a
 |.node j,b,d,a=>by
  rcases a with a|⟨k,_,a⟩|⟨a,_⟩
  .grind
  .exact gB.run g (bb:=j d) a
  grind
def hG.status{e b' g}{h}{B}(b:hG P ty M D val d r k e b' h g B J):B.status=.running∨B.status=.finished:=by
 cases b with
 |c_ a _ _=>exact .inl (a.run λB i b=>b.1)
 |rel a=>exact .inl (Goes.running (λ_ _ k=>k.1) J (Go.ConcN.RW.refl J) a)
 |tail _ a=>exact a.status
def hG.woken{a b' b}{h}{B}(g:hG P ty M D val d r k a b' h b B J)(i e)(bj):woken P i e bj B=B:=by
 unfold Go.Conc.woken;split
 .exact again_running _ g.status
 simp
def ii.at(a:ii P ty M D val d r u gs J o y Q av j)(e):ii P ty M D val d r u gs (J.at e) o y Q av j:=
 ⟨a.size,a.dt,a.above,λg b=>let ⟨B,cS,dq⟩:=a.c8 g b;⟨B,cS,dq.dj (.at ..) a.cV a.bV a.aQ λ_ _=>rfl⟩,a.bw,a.dW,a.dA,a.dB,a.rel,a.dm,a.dS,a.bV,a.cV,a.cm,a.cz,a.dr,a.aQ,a.dF⟩
def ii.aY(t:ii P ty M D val d r u gs J o y Q av j)(W:k<u){q}{fn}{pos}{V}{z n A}{O}(K:∀s,s<J.heap.size->et s=d s)(F:J.heap.size<=bj.heap.size)(Z:∀b,b<u->b≠k->lG M d (r b) b J bj)(aC:hG P ty M D val et r k z n O A q bj)(az:∀g∈V,(aN g).low bj.heap.size)(a:∀g∈V,∀E,(aN g).touch?=f E->E.loc.isMemory=m->n9 M et (r k) k E)(ak:∀g∈V,∀E,g.loc≠.mark (.release E))(ax:deafBehind (y k).deaf V=A)(aA:n<=6->∃aa,RelBy (stA M.f) (o++MemOp.ofEvents (M.base+k) fn pos V) (M.base+k) aa)(aq:z=0->∀e,1<=e->e<M.aQ->bj.cell? ⟨M.ag,M.aQ*k+e,p⟩=f (val k e))(ao:n<=6->Has M.ag (M.aQ*k) (val k 0) bj)(H:PayAt M.ag D bj)(aj:WgLive ty M.f bj):
  ii P ty M D val et r u ((gs.map (woken P B q bj)).setIfInBounds (M.base+k) q) bj (o++MemOp.ofEvents (M.base+k) fn pos V) (upd y k ⟨n,0,A⟩) (upd Q k z) (upd av (M.base+k) O) j:=by
 have I:=t.bw.base;have R:∀b,b≠k->M.base+k≠M.base+b:=λb i g=>i x;have an:∀e G,0<e->e<M.base->((gs.map (Go.Conc.woken P B q bj)).setIfInBounds (M.base+k) q)[e]?=f G->gs[e]?=f G:=by intro e G bp l h;rw[get_map_set _ _ _ _ x]at h;obtain⟨aw,X,rfl⟩:=rp.1 h;obtain⟨ai,_,au⟩:=t.dt e aw bp l X;grind[woken_quitsD]
 refine⟨by simp[t.size],λe G bp l h=>?_,λe bp=>?_,λb i=>?_,?_,t.dW.app ak,by rw[Deaf_other o x _ g_of_ofEvents,t.dA],λb i=>?_,λb i C=>?_,λb i S e L aP=>?_,λb i C=>?_,H,aj,eE t.cm F,eE t.cz F,λs I=>eE (t.dr s I) F,t.aQ,λb i s Y ab T=>eE (t.dF b i s Y ab T) F⟩
 .obtain⟨ai,ae,ag⟩:=t.dt e G bp l (an e G bp l h);refine⟨ai,by rw[upd_ne av _ x];omega,?_⟩;rw[Deaf_other o x _ g_of_ofEvents];omega
 .exact OG
 .by_cases g:b=k
  .subst g;exact⟨q,get_map_set_same _ _ _ (by rw[t.size];omega),by rw[upd_same,upd_same,upd_same];omega⟩
  obtain⟨G,h,ad⟩:=t.c8 b i;refine⟨G,by rw[get_map_set _ _ _ _ (R b g),h,lJ,ad.woken],?_⟩;rw[upd_ne Q _ g,upd_ne y _ g,upd_ne av _ (R b g).symm];exact ad.dj (Z b i g) aj H t.aQ K
 .refine(t.bw.eL K F t.cm t.cz t.dr λb i s Y ab T=>?_).h' W (λN w=>by grind[Go.Conc.mem_ofEvents]) (λN w=>?_) (λN w E S ah=>?_)
  .exact t.dF b i s Y ab T
  .exact Fy
  grind[Go.Conc.mem_ofEvents]
 .by_cases g:b=k
  .subst g;rw[Deaf_own,t.dB b i,upd_same];omega
  rw[Deaf_other o (R b g) _ g_of_ofEvents,t.dB b i,upd_ne y _ g]
 .by_cases g:b=k
  .subst g;rw[upd_same]at C;grind
  rw[upd_ne y _ g]at C;obtain⟨aa,U⟩:=t.rel b i C;exact⟨aa,U.appOther g_of_ofEvents (R b g)⟩
 .by_cases g:b=k
  .subst g;rw[upd_same]at S;grind
  rw[upd_ne Q _ g]at S;rw[(Z b i g).bV _ x x];exact t.dm b i S e L aP
 by_cases g:b=k
 .subst g;rw[upd_same]at C;grind
 rw[upd_ne y _ g]at C;have:=t.dS b i C;have ar:=t.aQ;simp only[Has]at this⊢;rw[(Z b i g).bV _ x x];omega
def ii.h2(t:ii P ty M D val d r u gs J o y Q av j){hl}{fn}{pos}{V}(w:∀l,l<J.heap.size->et l=d l)(A:J.heap.size<=bj.heap.size)(I:∀b,b<u->lG M d (r b) b J bj)(aP:∀n∈V,(aN n).low bj.heap.size)(R:∀n∈V,∀i,(aN n).touch?=f i->i.loc.isMemory=m->o_ M et i)(ag:∀n∈V,∀i,(aN n).touch?=f i->i.kind=.plain->i.write=m->∀T,T<u->∀l C K,i.loc=.cell ⟨l,C,p⟩->r T l C≠f K)(U:∀n∈V,∀i,n.loc≠.mark (.release i))(N:PayAt M.ag D bj)(S:WgLive ty M.f bj):
  ii P ty M D val et r u ((gs.map (woken P B hl bj)).setIfInBounds 0 hl) bj (o++MemOp.ofEvents 0 fn pos V) y Q av (deafBehind j V):=by
 have s:=t.bw.base;have aa:=t.aQ;refine⟨by simp[t.size],λe O bp z h=>?_,λe bp=>?_,λb g=>?_,?_,t.dW.app U,by rw[Deaf_own,t.dA],λb g=>by rw[Deaf_other o x _ g_of_ofEvents,t.dB b g],λb g E=>?_,λb g F e H W=>?_,λb g E=>?_,N,S,eE t.cm A,eE t.cz A,λl s=>eE (t.dr l s) A,t.aQ,λb g l C K a=>eE (t.dF b g l C K a) A⟩
 .rw[get_map_set _ _ _ _ x]at h;obtain⟨ae,Y,rfl⟩:=rp.1 h;obtain⟨ab,L,X⟩:=t.dt e ae bp z Y;exact⟨ab,L,by rw[woken_quitsD X,Deaf_other o x _ g_of_ofEvents];omega⟩
 .exact OG
 .obtain⟨O,h,G⟩:=t.c8 b g;exact⟨O,by rw[get_map_set _ _ _ _ x,h,lJ,G.woken],G.dj (I b g) S N t.aQ w⟩
 .refine(t.bw.eL w A t.cm t.cz t.dr t.dF).app0 (λq k=>by grind[Go.Conc.mem_ofEvents]) (λq k=>Fy) (λq k i F ah=>Fy) (λq k i F=>?_);grind[Go.Conc.mem_ofEvents]
 .obtain⟨ad,Z⟩:=t.rel b g E;exact⟨ad,Z.appOther g_of_ofEvents x⟩
 .rw[(I b g).bV _ x x];exact t.dm b g F e H W
 have:=t.dS b g E;simp only[Has]at this⊢;rw[(I b g).bV _ x x];omega
def ii.bt(b:ii P ty M D val d r u gs J o y Q av j)(R:0<e)(Y:e<M.base){i}{fn}{pos}{V}(U:∀g∈V,g.mute=m)(L:QuitsD P z (deafBehind (Deaf o e) V) i):
  ii P ty M D val d r u ((gs.map (woken P B i J)).setIfInBounds e i) J (o++MemOp.ofEvents e fn pos V) y Q (upd av e (cl.dH z)) j:=by
 have K:=b.bw.base;have S:∀g∈V,∀A,g.loc≠.mark (.release A):=λg O A=>KS (U g O) A;refine⟨by simp[b.size],λw C k n a=>?_,λw k=>?_,λt l=>?_,?_,b.dW.app S,by rw[Deaf_other o x _ g_of_ofEvents,b.dA],λt l=>by rw[Deaf_other o x _ g_of_ofEvents,b.dB t l],λt l I=>?_,b.dm,b.dS,b.bV,b.cV,b.cm,b.cz,b.dr,b.aQ,b.dF⟩
 .by_cases g:w=e
  .subst g;rw[get_map_set_same _ _ _ N]at a;cases a;exact⟨z,by rw[upd_same],by grind[Deaf_own]⟩
  rw[get_map_set _ _ _ _ (qf g)]at a;obtain⟨X,F,rfl⟩:=rp.1 a;obtain⟨E,H,W⟩:=b.dt w X k n F;exact⟨E,by rw[upd_ne av _ g];omega,by rw[woken_quitsD W,Deaf_other o (qf g) _ g_of_ofEvents];omega⟩
 .rw[Deaf_other o x _ g_of_ofEvents];exact b.above w k
 .obtain⟨C,a,s⟩:=b.c8 t l;exact⟨C,by rw[get_map_set _ _ _ _ x,a,lJ,s.woken],by rw[upd_ne av _ x];omega⟩
 .exact b.bw.mute (B:=e) (λq h=>by grind[Go.Conc.mem_ofEvents]) (λq h=>by grind[Go.Conc.mem_ofEvents,low_mute]) (λq h=>by grind[Go.Conc.mem_ofEvents,touch_mute])
 obtain⟨T,G⟩:=b.rel t l I;exact⟨T,G.appOther g_of_ofEvents x⟩
def ii.spawn(e:ii P ty M D val d r u gs J o y Q av 0){fL rG}{k X}{K}(Y:k.g=0/\k.act=.go (M.base+u))(H:X.g=M.base+u/\X.act=.start)(L:∀i B E,r u i B=f E->d i=0/\i≠M.ag/\i≠M.f/\¬M.bF i/\i<J.heap.size)(aP:gB (ag.c9 P) eL (uq P ty M D val u) K rG b)(R:cU b {b with a:=J})(G:ho d (r u) (M.base+u) b):
  ii P ty M D val d r (u+1) ((gs.setIfInBounds 0 fL).push rG) J (o++#[k,X]) (upd y u ⟨7,0,0⟩) (upd Q u 1) (upd av (M.base+u) K) 0:=by
 have Z:=e.bw.base;have ad:∀h∈#[k,X],h=k∨h=X:=N;have I:∀h∈#[k,X],h.act≠.mark .disable/\h.act≠.mark .enable:=N;have aa:∀j,0<j->j<M.base+u->((gs.setIfInBounds 0 fL).push rG)[j]?=gs[j]?:=λj l a=>by rw[Array.getElem?_push_lt (by simp[e.size];omega),<-iF,sM x]
 refine⟨by simp[e.size];omega,λj T l z t=>?_,λj l=>?_,λg C=>?_,e.bw.gl Y H e.dA (e.above _ (bE _)) λi B E U=>let ⟨q,s,W,V,_⟩:=L i B E U;⟨q,s,W,V⟩,λS=>(e.dW S).app λh A=>?_,by rw[Deaf_still o 0 _ I,e.dA],λg C=>?_,λg C n=>?_,λg C O=>?_,λg C n=>?_,e.bV,e.cV,e.cm,e.cz,e.dr,e.aQ,λg C i B E U=>?_⟩
 .rw[aa j l x]at t;obtain⟨ab,q,s⟩:=e.dt j T l z t;exact⟨ab,by rw[upd_ne av _ x];exact q,by rw[Deaf_still o _ _ I];exact s⟩
 .rw[Deaf_still o _ _ I];exact e.above j x
 .rcases d6 g u with a|w
  .obtain⟨T,t,F⟩:=e.c8 g a;exact⟨T,by grind,by rw[upd_ne y _ x,upd_ne Q _ x,upd_ne av _ x];omega⟩
  obtain rfl:g=u:=x;refine⟨rG,?_,by rw[upd_same,upd_same,upd_same];exact .c_ aP R G⟩;rw[show M.base+g=(gs.setIfInBounds 0 fL).size by simp[e.size],Array.getElem?_push_size]
 .grind
 .rw[Deaf_still o _ _ I];rcases d6 g u with a|w
  .rw[e.dB g a,upd_ne y _ x]
  obtain rfl:g=u:=x;rw[upd_same];exact e.above _ (bE _)
 .rcases d6 g u with a|w
  .rw[upd_ne y _ x]at n;obtain⟨K,R⟩:=e.rel g a n;refine⟨K,R.appNot λh A=>?_⟩;grind
  obtain rfl:g=u:=x;rw[upd_same]at n;grind
 .rcases d6 g u with a|w
  .rw[upd_ne Q _ x]at O;exact e.dm g a O
  obtain rfl:g=u:=x;rw[upd_same]at O;grind
 .rcases d6 g u with a|w
  .rw[upd_ne y _ x]at n;exact e.dS g a n
  obtain rfl:g=u:=x;rw[upd_same]at n;grind
 rcases d6 g u with a|w
 .exact e.dF g a i B E U
 grind
end
end
section
open Go.Conc
open Go.ConcN (WD CTag Mode Vc Ssum pend phi cnt WgLive PayAt Has RW DWs WSit RelBy sumTo upd upd_same upd_ne AtR0)
open Go.ConcR (KK WgAt stA smA rd wr mk Payload g_of_ofEvents again_blocked)
variable [Payload]
section
variable (P:aI)(ty:aq)(M:hF)(D:Nat)(val:Nat->Nat->Z)(j:Nat)(ad d:ak->a5->Prop)
def Am(d:ak)(g:a5):Prop:=d.status=.running/\∃a,(∀e,ar P m d e=.go a e #[mk (.acquire (stA M.f))])/\∀b,(ag.aG P ty M.f).rely g b->ad a b
def wU(d:ak)(g:a5):Prop:=d.status=.running/\∃a,(∀e,ar P m d e=.go a e #[mk .enable])/\∀b,(ag.aG P ty M.f).rely g b->(dt (ag.aG P ty M.f) (dV M.f)) (Am P ty M ad) a b
def Ar(d:ak)(e:a5):Prop:=d.status=.running/\∀a,(ag.aG P ty M.f).rely e a->WgAt ty M.f a.a 0 0->∃b,ar P m d a.a=.go b a.a #[rd (stA M.f)]/\(dt (ag.aG P ty M.f) (dV M.f)) (wU P ty M ad) b a
def o4(b:ak)(g:a5):Prop:=b.status=.running/\b.offers=p/\∀a,(ag.aG P ty M.f).rely g a ->
 ((∃e,WgAt ty M.f a.a e 0)->ar P m b a.a=.go {b with status:=.blocked} a.a #[]) /\
 (WgAt ty M.f a.a 0 1->∃d,ar P m b a.a=.go d (a.a.setCell (smA M.f) (.int .u32 0)) (semEvents (smA M.f))/\(dt (ag.aG P ty M.f) (dV M.f)) (Ar P ty M ad) d {a with a:=a.a.setCell (smA M.f) (.int .u32 0)})
def Aq(A:Nat)(g:ak)(h:a5):Prop:=g.status=.running/\∀b,(ag.aG P ty M.f).rely h b->∀e:Nat,e<2147483648->WgAt ty M.f b.a (e*KK) 0 ->
 (e=A->∃a,ar P m g b.a=.go a (b.a.setCell (stA M.f) (.int .u64 (e*KK+1))) #[rd (stA M.f),wr (stA M.f)]/\(dt (ag.aG P ty M.f) (dV M.f)) (o4 P ty M ad) a {b with a:=b.a.setCell (stA M.f) (.int .u64 (e*KK+1))}) /\
 (e≠A->∃a,ar P m g b.a=.go a b.a #[rd (stA M.f)]/\d a b)
def rh(g:ak)(h:a5):Prop:=g.status=.running/\∀b,(ag.aG P ty M.f).rely h b->∀e:Nat,e<2147483648->WgAt ty M.f b.a (e*KK) 0 ->
 ∃a,ar P m g b.a=.go a b.a #[rd (stA M.f)]/\(e=0->(dt (ag.aG P ty M.f) (dV M.f)) (wU P ty M ad) a b)/\(e≠0->(dt (ag.aG P ty M.f) (dV M.f)) (Aq P ty M ad d e) a b)
def An(e:ak)(h:a5):Prop:=e.status=.running/\∃a,(∀g,ar P m e g=.go a g #[mk .disable])/\∀b,(ag.aG P ty M.f).rely h b->d a b
def a5.dy(a:a5):a5:={t:=[],E:=a.E,a:=a.a,own:=λ_=>False}
def wT(g:Nat)(Next:ak->a5->Prop)(e:ak)(h:a5):Prop:=e.status=.running/\∀b,(ag.aG P ty M.f).rely h b ->
 ∃d a,ar P m e b.a=.spawn d a b.a #[]/\a.status=.running/\dt (ag.c9 P) eL (uq P ty M D val g) a b.dy/\Next d b
def Ap(g:Nat)(Next:ak->a5->Prop)(d:ak)(h:a5):Prop:=d.status=.running/\∃a,(∀e,ar P m d e=.go a e #[mk .enable])/\∀b,(ag.aG P ty M.f).rely h b->(dt (ag.aG P ty M.f) (dV M.f)) (wT P ty M D val g Next) a b
def Al(g:Nat)(Next:ak->a5->Prop)(e:ak)(h:a5):Prop:=e.status=.running/\∀a,(ag.aG P ty M.f).rely h a->∀d:Nat,d<2147483647->WgAt ty M.f a.a (d*KK) 0 ->
 ∃b,ar P m e a.a=.go b (a.a.setCell (stA M.f) (.int .u64 ((d+1)*KK))) #[rd (stA M.f),wr (stA M.f)]/\(dt (ag.aG P ty M.f) (dV M.f)) (Ap P ty M D val g Next) b {a with a:=a.a.setCell (stA M.f) (.int .u64 ((d+1)*KK))}
def Ao(g:Nat)(Next:ak->a5->Prop)(d:ak)(h:a5):Prop:=d.status=.running/\∃a,(∀e,ar P m d e=.go a e #[mk .disable])/\∀b,(ag.aG P ty M.f).rely h b->(dt (ag.aG P ty M.f) (dV M.f)) (Al P ty M D val g Next) a b
def o9:Nat->ak->a5->Prop
 |0,a,b=>(dt (ag.aG P ty M.f) (dV M.f)) (An P ty M d) a b
 |e+1,a,b=>(dt (ag.aG P ty M.f) (dV M.f)) (Ao P ty M D val (j-(e+1)) (o9 e)) a b
def cl.ek:cl->cl
 |.leaf=>.node λ_=>.leaf
 |.node a=>.node λb=>cl.ek (a b)
omit [Payload]in
def cl.hl:∀{d b:cl},cl.lt d b->cl.lt d.ek b.ek
 |_,.leaf,a=>a.elim
 |_,.node _,⟨g,a⟩=>⟨g,a.elim (λe=>.inl (by rw[e])) λa=>.inr (cl.hl a)⟩
omit [Payload]in
def cl.ju(a:a5):∀d:cl,∃e,cl.lt e d.ek
 |.leaf=>⟨.leaf,a,.inl rfl⟩
 |.node b=>⟨(b a).ek,a,.inl rfl⟩
inductive hg:CTag->Nat->cl->Nat->ak->a5->Prop
 |fi {bb:Nat} {c6:cl} {B:ak} {b:a5}:bb<j->(gB (ag.aG P ty M.f) (dV M.f)) (Ao P ty M D val (j-(bb+1)) (o9 P ty M D val j d bb)) c6 B b->hg (.sp bb 5) (j-(bb+1)) c6 0 B b
 |fT {bb:Nat} {c6:cl} {B:ak} {b:a5}:bb<j->(gB (ag.aG P ty M.f) (dV M.f)) (Al P ty M D val (j-(bb+1)) (o9 P ty M D val j d bb)) c6 B b->hg (.sp bb 4) (j-(bb+1)) c6 1 B b
 |fV {bb:Nat} {c6:cl} {B:ak} {b:a5}:bb<j->(gB (ag.aG P ty M.f) (dV M.f)) (Ap P ty M D val (j-(bb+1)) (o9 P ty M D val j d bb)) c6 B b->hg (.sp bb 3) (j-(bb+1)) c6 1 B b
 |fU {bb:Nat} {c6:cl} {B:ak} {b:a5}:bb<j->(gB (ag.aG P ty M.f) (dV M.f)) (wT P ty M D val (j-(bb+1)) (o9 P ty M D val j d bb)) c6 B b->hg (.sp bb 2) (j-(bb+1)) c6 0 B b
 |kd {c6:cl} {B:ak} {b:a5}:(gB (ag.aG P ty M.f) (dV M.f)) (An P ty M d) c6 B b->hg .kd j c6 0 B b
 |w1 {c6:cl} {B:ak} {b:a5}:(gB (ag.aG P ty M.f) (dV M.f)) (rh P ty M ad d) c6 B b->hg .w1 j c6 1 B b
 |w2 {A:Nat} {c6:cl} {B:ak} {b:a5}:(gB (ag.aG P ty M.f) (dV M.f)) (Aq P ty M ad d A) c6 B b->hg (.w2 A) j c6 1 B b
 |w3 {c6:cl} {B:ak} {b:a5}:(gB (ag.aG P ty M.f) (dV M.f)) (o4 P ty M ad) c6 B b->hg .w3 j c6.ek 1 B b
 |blk {c6:cl} {B:ak} {b:a5}:o4 P ty M ad B b->hg .blk j c6 1 {B with status:=.blocked} b
 |w4 {c6:cl} {B:ak} {b:a5}:(gB (ag.aG P ty M.f) (dV M.f)) (Ar P ty M ad) c6 B b->hg .w4 j c6 1 B b
 |ke {c6:cl} {B:ak} {b:a5}:(gB (ag.aG P ty M.f) (dV M.f)) (wU P ty M ad) c6 B b->hg .ke j c6 1 B b
 |acq {c6:cl} {B:ak} {b:a5}:(gB (ag.aG P ty M.f) (dV M.f)) (Am P ty M ad) c6 B b->hg .acq j c6 0 B b
structure wX(S:Nat->Nat)(s:Nat->Mem)(z:Machine)(o:Trace):Prop where
 hI:∃(gs:Array ak) (J:au) (dE:Option (Nat×Nat)) (w:ak) (b:a5) (bc:Nat->Nat),z=crowd gs J dE/\gs[0]?=f w/\gs.size=M.base+j/\ad w {b with a:=J}/\cU b {b with a:=J}/\gj M S s j b /\
  Leavers P o gs bc/\Past (jC λi=>M.bF i∨i=M.f) J.heap.size o/\m' o/\PayAt M.ag D J/\(∀k,k<j->∀e,e<M.aQ->J.cell? ⟨M.ag,M.aQ*k+e,p⟩=f (val k e))/\M.ag<J.heap.size/\M.f<J.heap.size/\∀i,M.bF i->i<J.heap.size
abbrev p3:=Nat×((Nat->cl)×cl)
def k6(a:Nat):p3->p3->Prop:=Prod.Lex (· < ·) (Prod.Lex (w0 a) cl.lt)
omit [Payload]in
def aa2(bD):WellFounded (k6 bD):=(Prod.lex Nat.lt_wfRel ⟨_,(Prod.lex ⟨w0 bD,NE bD⟩ ⟨cl.lt,⟨cl.fu⟩⟩).wf⟩).wf
structure lE(μ:p3)(gs:Array ak)(J:au)(o:Trace)(S:Nat->Nat)(s:Nat->Mem)(u:Nat)(y:Nat->WD)(Q:Nat->Nat)(av:Nat->cl)(d0:Nat)(tag:CTag)(c6:cl)(w:ak)(b:a5)(b' oX:Int):Prop where
 dx:gs[0]?=f w
 dz:hg P ty M D val j ad d tag u c6 d0 w b
 rely:cU b {b with a:=J}
 aG:gj M S s u b
 aF:ii P ty M D val S s u gs J o y Q av d0
 b1:WgAt ty M.f J b' oX
 mode:Go.ConcN.Mode u y tag b' oX
 eH:μ=(phi j (Vc u y) tag+Ssum u y+sumTo u Q,(av,c6))
def fd(n:p3)(q:Machine)(u:Trace):Prop:=
 ∃(a:Array ak) (h:au) (dE:Option (Nat×Nat)) (s:Nat->Nat) (r:Nat->Mem) (o:Nat) (y:Nat->WD) (Q:Nat->Nat) (i:Nat->cl) (l:Nat) (tag:CTag) (b:cl) (k:ak) (t:a5) (g e:Int),
  q=crowd a h dE/\lE P ty M D val j ad d n a h u s r o y Q i l tag b k t g e
end
section
variable {P:aI}{ty:aq}{M:hF}{D:Nat}{val:Nat->Nat->Z}{j:Nat}{ad d:ak->a5->Prop}{S et:Nat->Nat}{s:Nat->Mem}{tag:CTag}{c6:cl}{I:Nat}{w:ak}{J:au}
omit [Payload]in
def mL(d:cU b {b with a:=J})(a:WgLive ty M.f J):(ag.aG P ty M.f).rely b {b with a:=J}:=⟨d,λ_=>a⟩
omit [Payload]in
def o4.rely{r}(a:o4 P ty M ad B b)(g:(ag.aG P ty M.f).rely b r):o4 P ty M ad B r:=
 ⟨a.1,a.2.1,λd e=>a.2.2 d ⟨g.1.trans e.1,λh=>e.2 (g.2 h)⟩⟩
def hg.status(a:hg P ty M D val j ad d tag u c6 I w b):(w.status=.running/\tag≠.blk)∨(w.status=.blocked/\tag=.blk):=by
 cases a with
 |fi _ a=>exact .inl ⟨a.run λ_ _ e=>e.1,by simp⟩
 |fT _ a=>exact .inl ⟨a.run λ_ _ e=>e.1,by simp⟩
 |fV _ a=>exact .inl ⟨a.run λ_ _ e=>e.1,by simp⟩
 |fU _ a=>exact .inl ⟨a.run λ_ _ e=>e.1,by simp⟩
 |kd a=>exact .inl ⟨a.run λ_ _ e=>e.1,by simp⟩
 |w1 a=>exact .inl ⟨a.run λ_ _ e=>e.1,by simp⟩
 |w2 a=>exact .inl ⟨a.run λ_ _ e=>e.1,by simp⟩
 |w3 a=>exact .inl ⟨a.run λ_ _ e=>e.1,by simp⟩
 |blk a=>grind
 |w4 a=>exact .inl ⟨a.run λ_ _ e=>e.1,by simp⟩
 |ke a=>exact .inl ⟨a.run λ_ _ e=>e.1,by simp⟩
 |acq a=>exact .inl ⟨a.run λ_ _ e=>e.1,by simp⟩
def hg.h4(l:hg P ty M D val j ad d tag u c6 I w b)(B h)(bj):
  ∃a k,hg P ty M D val j ad d a u k I (woken P B h bj w) b/\(a=tag∨(tag=.blk/\a=.w3))/\(mayWake P B=m->h.status=.running->a≠.blk):=by
 unfold Go.Conc.woken;split
 .rcases l.status with⟨e,i⟩|⟨_,rfl⟩
  .grind [again_running]
  cases l with
  |blk g=>exact⟨.w3,cl.ek .leaf,by rw[again_blocked g.1 g.2.1];exact .w3 (show gB _ _ _ .leaf _ _ from g),.inr ⟨rfl,rfl⟩,λ_ _=>by simp⟩
 grind
def wy{W:p3}{dE:Option (Nat×Nat)}{ax:Trace}{y:Nat->WD}{Q:Nat->Nat}{X:Nat->cl}{aw av:Int}(o:lE P ty M D val j ad d W gs J ax S s u y Q X I tag c6 w b aw av){g:Nat}(Y:g<u){n:ak}{l:Array aT}{k h i:Nat}{z:cl}{ae G:Int}(ao:gs[M.base+g]?=f B)(E:ar P v B J=.go n bj l)(F:∀ag,ag<J.heap.size->et ag=S ag)(R:J.heap.size<=bj.heap.size)(aG:∀ab,ab<u->ab≠g->lG M S (s ab) ab J bj)(aE:rn M S J bj)(aK:hG P ty M D val et s g k h z i n bj)(L:∀A∈l,(aN A).low bj.heap.size)(T:∀A∈l,∀w,(aN A).touch?=f w->w.loc.isMemory=m->n9 M et (s g) g w)(O:∀A∈l,∀w,A.loc≠.mark (.release w))(aF:deafBehind (y g).deaf l=i)(aP:h<=6->∃aS,RelBy (stA M.f) (ax++MemOp.ofEvents (M.base+g) B.frame.fn B.frame.place l) (M.base+g) aS)(an:k=0->∀Z,1<=Z->Z<M.aQ->bj.cell? ⟨M.ag,M.aQ*g+Z,p⟩=f (val g Z))(aj:h<=6->Has M.ag (M.aQ*g) (val g 0) bj)(aI:PayAt M.ag D bj)(az:WgAt ty M.f bj ae G)(H:∀e,(e=tag∨(tag=.blk/\e=.w3))->(mayWake P B=m->n.status=.running->e≠.blk)->Go.ConcN.Mode u (upd y g ⟨h,0,i⟩) e ae G)(a:(h+k<(y g).stage+Q g/\cnt ⟨h,0,i⟩<=cnt (y g))∨(h=(y g).stage/\k=Q g/\cl.lt z (X (M.base+g))))(aA:M.base+u<=M.base+j):
  ∃aD q t,runT P (crowd gs J dE) (M.base+g)=(.next aD,q)/\k6 (M.base+j) t W/\fd P ty M D val j ad d t aD (ax++q):=by
 have aR:=o.aF.bw.base;obtain⟨e,r,aJ,aC,V⟩:=o.dz.h4 B n bj;have K:(M.base+g==0)=v:=N;have aH:=runT_crowd_go (P:=P) (sl:=dE) (i:=M.base+g) ao (by rw[K];exact E)
 have aL:=Go.ConcN.sumTo_upd y (⟨h,0,i⟩:WD) cnt Y;have aM:=Go.ConcN.sumTo_upd y (⟨h,0,i⟩:WD) WD.stage Y;have aO:sumTo u (upd Q g k)+Q g=sumTo u Q+k:=Go.ConcN.sumTo_upd Q k id Y;refine⟨_,_,(phi j (Vc u (upd y g ⟨h,0,i⟩)) e+Ssum u (upd y g ⟨h,0,i⟩)+sumTo u (upd Q g k),(upd X (M.base+g) z,r)),aH,?_,
  _,bj,dE,et,s,u,_,_,_,I,e,r,woken P B n bj w,b,ae,G,rfl,⟨by rw[Go.ConcN.get_map_set _ _ _ _ x,o.dx];rfl,aJ,o.aG.dj o.rely aE,o.aG.eL o.rely.size F,
   o.aF.aY Y F R aG aK L T O aF aP an aj aI ⟨_,_,az⟩,az,H e aC V,rfl⟩⟩
 rw[o.eH,Go.ConcN.phi_retag j _ aC];simp only[Vc,Ssum]at *;rcases a with⟨au,D9⟩|⟨au,D9,tC⟩
 .refine Prod.Lex.left _ _ ?_;have:=Go.ConcN.phi_mono j (v':=sumTo u λw=>cnt (upd y g ⟨h,0,i⟩ w)) (v:=sumTo u λw=>cnt (y w)) x tag;omega
 have aQ:cnt (⟨h,0,i⟩:WD)=cnt (y g):=hu;have ai:(sumTo u λw=>cnt (upd y g ⟨h,0,i⟩ w))=sumTo u λw=>cnt (y w):=x;have C:(sumTo u λw=>(upd y g ⟨h,0,i⟩ w).stage)=sumTo u λw=>(y w).stage:=x;have ah:sumTo u (upd Q g k)=sumTo u Q:=x;rw[ai,C,ah];exact Prod.Lex.right _ (Prod.Lex.left _ _ ⟨M.base+g,by omega,by rw[upd_same];exact tC,λaU aq=>upd_ne X _ aq⟩)
end
end
section
open Go.Conc
open Go.ConcN (WD CTag Vc Ssum pend phi cnt WgLive PayAt Has RW DWs WSit RelBy sumTo upd upd_same upd_ne AtR0 isW3 isOpen OpenSt deafBehind_idle bk_cell okW_none Vc_upd Vc_le le_sumTo others_uncounted)
open Go.ConcR (KK WgAt stA smA rd wr mk Payload g_of_ofEvents Bk bk_of_mute ofEvent_loc_mark ofEvent_cell)
variable [Payload]
section
variable {M:hF}{ad G:ak->a5->Prop}{W et:Nat->Nat}{mm:Nat->Mem}{tag:CTag}{c6:cl}{I:Nat}{w:ak}{J:au}
omit [Payload]in
def lG.b1(b:Aside M.f J bj)(k:W M.f=0)(n:1<=M.base)(g:∀a d h,mm u a d=f h->a≠M.f)(e:M.ag≠M.f):lG M W (mm u) u J bj:=
 ⟨by rw[b.size];grind,λa _ i=>b.block a (λl=>by grind),λa d h H j=>by rw[nk (b.block a (g a d h H))];exact j,λd _ _=>nk (b.block _ e) d,b.os,b.tape,b.output⟩
omit [Payload]in
def rn.b1(a:Aside M.f J bj):rn M W J bj:=⟨by rw[a.size];grind,λb _ _ _ d=>a.block b d,a.os,a.tape,a.output⟩
omit [Payload]in
def rn.refl(J):rn M W J J:=⟨bE _,λ_ _ _ _ _=>rfl,rfl,rfl,rfl⟩
omit [Payload]in
def GX{d}{b:Array aT}(i:∀a∈b,Bk M.f a)(j:M.f<d):∀a∈b,(aN a).low d:=by
 intro a h;rcases i a h with g|g|⟨e,wr,rfl,k⟩
 .rw[ofEvent_loc_mark g];trivial
 .rw[ofEvent_loc_mark g];trivial
 rw[ofEvent_cell];show e.block<d;grind
omit [Payload]in
def SL{k}{e:Array aT}(n:∀d∈e,Bk M.f d):∀d∈e,∀g,(aN d).touch?=f g->g.loc.isMemory=m->n9 M W (mm k) k g:=by
 intro d l o b _;rcases n d l with i|i|⟨h,wr,rfl,j⟩
 .rw[ofEvent_loc_mark i]at b;cases b
 .rw[ofEvent_loc_mark i]at b;cases b
 rw[ofEvent_cell]at b;simp[MemAct.touch?,eW]at b;subst b;exact .inl ⟨h,a,j,a⟩
omit [Payload]in
def GY{b:Array aT}(h:∀a∈b,Bk M.f a):∀a∈b,∀d,a.loc≠.mark (.release d):=by
 intro a g d i;rcases h a g with j|j|⟨e,wr,rfl,_⟩
 .grind
 .grind
 grind
omit [Payload]in
def afe{k}{b7}{V}(u:ho W (mm k) (M.base+k) b)(t:bd l b)(y:du b V)(q:cN l b ao b7):
  (∀e∈V,(aN e).low b7.a.heap.size)/\(∀e∈V,∀j,(aN e).touch?=f j->j.loc.isMemory=m->n9 M (l0 W b.a.heap.size (M.base+k)) (mm k) k j) /\
  (∀e∈V,e.loc≠.mark .disable/\e.loc≠.mark .enable)/\∀e∈V,∀j,e.loc≠.mark (.release j):=by
 have key:∀e∈V,(aN e).low b7.a.heap.size/\(∀j,(aN e).touch?=f j->j.loc.isMemory=m->n9 M (l0 W b.a.heap.size (M.base+k)) (mm k) k j)/\(e.loc≠.mark .disable/\e.loc≠.mark .enable)/\∀j,e.loc≠.mark (.release j):=by
  intro e A;have n:=y e A;obtain⟨loc,wr,C⟩:=e;cases loc with
  |cell g=>
   obtain⟨o,s,d⟩:=n;simp only at o s d;subst o;have r:g.block<b.a.heap.size:=by
    rcases d with d|⟨⟨L,aP,d⟩,_⟩|⟨_,x,d⟩
    .exact d.elim
    .exact t.lt L aP _ d
    exact gk.lt t.mem d
   refine⟨by rw[ofEvent_cell];exact eE r q.size,λi h _=>?_,⟨by simp,by simp⟩,by simp⟩;rw[ofEvent_cell]at h;simp[MemAct.touch?,eW]at h;subst h;refine .inr ⟨a,?_⟩;rcases d with d|⟨⟨L,aP,d⟩,_⟩|⟨z,x,d⟩
   .exact d.elim
   .exact .inl ⟨g.block,a,by rw[lo r];exact(u.blk _ (.inr ⟨L,aP,d⟩)).1⟩
   rcases(u.E _ _ _ d).1 with w|w
   .exact .inl ⟨g.block,a,by grind[lo]⟩
   refine .inr (.inr ⟨z,g.block,g.off,x,?_,w⟩);obtain⟨i,F,sp⟩:=g;grind
  |obj B=>
   obtain⟨o,s⟩:=n;simp only at o s;subst o;obtain⟨L,aP,d⟩:=s.resolve_left id;have r:=t.lt L aP _ d;refine⟨?_,λi h _=>?_,⟨by simp,by simp⟩,by simp⟩
   .simp[aN,MemAct.low,Loc.low];exact eE r q.size
   simp[aN,MemAct.touch?]at h;subst h;exact .inr ⟨a,.inl ⟨B,a,by rw[lo r];exact(u.blk _ (.inr ⟨L,aP,d⟩)).1⟩⟩
  |mark E=>
   simp[h5]at n;rcases n with rfl|⟨D,rfl⟩
   .exact Q4
   exact Q4
  |_=>exact n.elim
 grind
def adA{a8}{dE}{o}{y:Nat->WD}{Q:Nat->Nat}{b5:Nat->cl}{b' oX}(h:lE P ty M D val j ad G a8 gs J o W mm u y Q b5 I tag c6 w b b' oX)(cv:j<2147483648)(cu:u<=j)(cb:u+pend tag<=j){k}(g6:k<u)(a2:gs[M.base+k]?=f B)(a3:B.status=.running):
  ∃n K R,runT P (crowd gs J dE) (M.base+k)=(.next n,K)/\k6 (M.base+j) R a8/\fd P ty M D val j ad G R n (o++K):=by
 have bb:=h.aF.bw.base;obtain⟨br,bP,a4⟩:=h.aF.c8 k g6;obtain rfl:B=br:=N;generalize X:(y k).stage=aL at a4;generalize bj:b5 (M.base+k)=b3 at a4;generalize a1:(y k).deaf=aA at a4;generalize aR:Q k=cn at a4;have bg:Deaf o (M.base+k)=aA:=by rw[h.aF.dB k g6,a1]
 have b7:=Vc_le u y;have same:∀t q,Go.ConcN.Mode u (upd y k ⟨aL,t,q⟩) tag b' oX:=λt q=>by have:=h.mode.same (i:=k) t q;grind
 cases a4 with
 |@c_ b3 B aV J bx aW bQ=>
  rcases bx.bf (λaV=>cU aV {aV with a:=J}/\ho W (mm k) (M.base+k) aV) (λaV z aD aI=>⟨aI.1.aU aD,aI.2.aU aD⟩) (λ_ aV z aD aI=>⟨aI.1.b4 aD,aI.2.b4 aD⟩) ⟨aW,bQ⟩with⟨z,⟨k1,bO⟩,g⟩|⟨_,z,⟨k1,bO⟩,e⟩
  ·
   obtain⟨i,w2,V,d,az,bh,bz,ag⟩:=g.2 J k1 h.aF.bV h.aF.cV;have b_:=h.aF.aQ;refine wy h g6 a2 d (et:=W) (λ_ _=>rfl) (by rw[az.size];grind) (λba aS bn=>⟨by rw[az.size];grind,λY _ aQ=>az.block Y (λaj=>by rw[aj,h.aF.bw.db]at aQ;omega),λY aU ao H bS=>?_,λaU bl bm=>az.hI aU ?_,az.os,az.tape,az.output⟩)
    ⟨by rw[az.size];grind,λY _ _ aW _=>az.block Y aW,az.os,az.tape,az.output⟩ (.rel ag) (λaj r=>?_) (λaj r Y aQ _=>?_) (λaj r=>?_) ?_ (λs=>absurd s b9) (λ_ b2 _ aI=>az.new b2 aI) (λs=>absurd s b9) az.bV
    (h.b1.of_block (az.block _ (qf h.aF.bw.b6))) (λ_ ai _=>(same _ _).retag ai) (.inl ⟨by omega,by simp[cnt,X]⟩) x
   .rw[nk (az.block Y (h.aF.bw.bH ba aS Y aU ao H).2.1)];exact bS
   .rcases Nat.lt_or_gt_of_ne bn with s|s
    .have:=xa M.aQ (show ba+1<=k from s);grind
    have:=xa M.aQ (show k+1<=ba from s);grind
   .obtain⟨aU,rfl,_⟩:=bh aj r;rw[ofEvent_cell];show M.ag<_;rw[az.size];exact h.aF.cz
   .obtain⟨aU,rfl,bl,bm⟩:=bh aj r;rw[ofEvent_cell]at aQ;simp[MemAct.touch?,eW]at aQ;subst aQ;exact .inr ⟨a,.inr (.inl ⟨aU,a,bl,bm⟩)⟩
   .grind
   rw[a1];exact deafBehind_idle (λaj r=>by grind) 0
  ·
   obtain⟨i,b4,V,cx,d,bF,bL,bR⟩:=e _ k1;obtain⟨⟨cy,cj,ck,bk,C⟩,cg⟩:=bF.resolve_right id;have bw:ho W (mm k) (M.base+k) {z with a:=J}:=bO.rely k1.size;obtain⟨aG,aH,bq,bV⟩:=afe bw ck cg C;have Z:∀Y,Y<J.heap.size->W Y≠M.base+k->b4.a.heap[Y]?=J.heap[Y]?:=λY aQ bJ=>C.a6 Y aQ λL aP bC=>bJ (bw.blk Y (.inr ⟨L,aP,bC⟩)).1;refine wy h g6 a2 d (et:=l0 W J.heap.size (M.base+k)) (λY aQ=>lo aQ) C.size (λba aS bn=>⟨C.size,λY aQ b8=>Z Y aQ x,λY aU ao H bS=>?_,λaU _ _=>nk (Z _ h.aF.cz (by rw[h.aF.bw.db];omega)) aU,C.os,C.tape,C.output⟩)
    ⟨C.size,λY aQ cq _ _=>Z Y aQ x,C.os,C.tape,C.output⟩ (.c_ bL (cU.ev bk.mem) (bw.step bk C)) aG aH bV (by rw[a1];exact deafBehind_idle bq 0) (λs=>absurd s b9) (λs=>absurd s b9) (λs=>absurd s b9) ?_
    (h.b1.of_block (Z _ h.aF.cm (by rw[h.aF.bw.cY];omega))) (λ_ ai _=>(same _ _).retag ai) (.inr ⟨X.symm,aR.symm,by grind⟩) x
   .rw[nk (Z Y (h.aF.dF ba aS Y aU ao H) (by rw[(h.aF.bw.bH ba aS Y aU ao H).1];omega))];exact bS
   obtain⟨bp,bT,bU⟩:=h.aF.bV;exact⟨bp,(Z _ h.aF.cz (by rw[h.aF.bw.db];omega)).trans bT,bU⟩
 |@rel bz B J s=>
  rcases Goes.cases s with g|⟨t,rfl,e⟩
  ·
   obtain⟨_,bX,i,d,ax,ag⟩:=g J (Go.ConcN.RW.refl J);refine wy h g6 a2 d (et:=W) (λ_ _=>rfl) (bE _) (λba _ _=>.refl ..) (.refl J) (.tail b9 (.k1 ag)) (λaj r=>?_) (λaj r Y aQ _=>?_) (λaj r=>?_) hu (λ_=>⟨o.size,RelBy.new bg _ _⟩) (λ_=>h.aF.dm k g6 aR) (λ_=>by grind) h.aF.bV h.b1
    (λ_ ai _=>(h.mode.counted g6 x (.inl a) _ _).retag ai) (.inl ⟨by omega,by simp[cnt,X]⟩) x
   .simp at r;subst r;exact h.aF.cm
   .simp at r;subst r;exact cQ
   simp at r;subst r;simp[mk]
  obtain⟨i,O,V,d,⟨rfl,rfl⟩,F⟩:=e J (Go.ConcN.RW.refl J);exact wy h g6 a2 d (et:=W) (λ_ _=>rfl) (bE _) (λba _ _=>.refl ..) (.refl O) (.rel F) E E E cQ (λs=>absurd s b9) (λ_=>h.aF.dm k g6 aR) (λs=>absurd s b9) h.aF.bV h.b1 (λ_ ai _=>(same _ _).retag ai)
   (.inr ⟨X.symm,aR.symm,by rw[bj];exact cl.gx _ b⟩) x
 |@tail aL bz aA B J bW s=>
  have aM:∀{i:ak} {O:au} {V:Array aT} {z t q:Nat} {av aq:Int},ar P v B J=.go i O V->Aside M.f J O->WgAt ty M.f O av aq->(∀aj∈V,Bk M.f aj) ->
    (∀hP aj,V[hP]?=f aj->(aN aj).touch?=p∨0<deafBehind aA (V.extract 0 hP))->z<=6->WSit P ty M.f M.ag D p5 p5 0 (M.aQ*k+1) (val k 0) z t q i O->deafBehind aA V=q ->
    (∀S,(S=tag∨(tag=.blk/\S=.w3))->(mayWake P B=m->i.status=.running->S≠.blk)->Go.ConcN.Mode u (upd y k ⟨z,0,q⟩) S av aq)->((z<aL/\cnt ⟨z,0,q⟩<=cnt (y k))∨(z=aL/\t+1=bz)) ->
    ∃n K R,runT P (crowd gs J dE) (M.base+k)=(.next n,K)/\k6 (M.base+j) R a8/\fd P ty M D val j ad G R n (o++K):=by
   intro i O V z t q av aq d T aK ab bu a5 aE bf ah bR;obtain⟨bp,bs,bt⟩:=h.aF.bV;refine wy h g6 a2 d (et:=W) (λ_ _=>rfl) (by rw[T.size];grind) (λba aS _=>.b1 T h.aF.bw.cY bb (λY aU ao H=>(h.aF.bw.bH ba aS Y aU ao H).2.2.1) h.aF.bw.b6) (.b1 T) (.tail a5 aE) (GX ab (by rw[T.size];exact h.aF.cm)) (SL ab) (GY ab) N
    (λ_=>let ⟨b3,bZ⟩:=h.aF.rel k g6 x;⟨b3,bZ.book bg _ _ ab bu⟩) (λ_ b2 bG bH=>(nk (T.block _ h.aF.bw.b6) _).trans (h.aF.dm k g6 aR b2 bG bH)) (λ_=>(nk (T.block _ h.aF.bw.b6) _).trans (h.aF.dS k g6 x)) ⟨bp,(T.block _ h.aF.bw.b6).trans bs,bt⟩ aK ah
    (bR.imp (λs=>⟨by omega,s.2⟩) λs=>⟨by omega,aR.symm,by rw[bj,<-s.2];exact cl.gx _ b⟩) x
  have book:∀{i:ak} {O:au} {V:Array aT} {z t q:Nat} {av aq:Int},ar P v B J=.go i O V->Aside M.f J O->WgAt ty M.f O av aq->(∀aj∈V,Bk M.f aj) ->
    (∀hP aj,V[hP]?=f aj->(aN aj).touch?=p∨0<deafBehind aA (V.extract 0 hP))->z<=6->WSit P ty M.f M.ag D p5 p5 0 (M.aQ*k+1) (val k 0) z t q i O->deafBehind aA V=q ->
    Go.ConcN.Mode u (upd y k ⟨z,0,q⟩) tag av aq->((z<aL/\cnt ⟨z,0,q⟩<=cnt (y k))∨(z=aL/\t+1=bz)) ->
    ∃n K R,runT P (crowd gs J dE) (M.base+k)=(.next n,K)/\k6 (M.base+j) R a8/\fd P ty M D val j ad G R n (o++K):=
   λd T aK ab bu a5 aE bf ah bR=>aM d T aK ab bu a5 aE bf (λ_ ai _=>ah.retag ai) bR
  have an:∀{i:ak} {t:Nat},ar P v B J=.go i J #[]->WSit P ty M.f M.ag D p5 p5 0 (M.aQ*k+1) (val k 0) aL t aA i J->t+1=bz ->
    ∃n K R,runT P (crowd gs J dE) (M.base+k)=(.next n,K)/\k6 (M.base+j) R a8/\fd P ty M D val j ad G R n (o++K):=by intro i t d aE W;exact book d (.refl M.f J) h.b1 E E bW aE a (same _ _) (.inr ⟨a,W⟩)
  cases s with
  |r0 s=>omega
  |k1 s=>
   rcases Goes.cases s with g|⟨t,rfl,e⟩
   .obtain⟨_,i,d,ax,ag⟩:=g J (Go.ConcN.RW.refl J);exact book d (.refl M.f J) h.b1 (by intro aj r;simp at r;subst r;exact .inl a) (by intro hP aj r;exact .inl (by have:=uE r;simp at this;exact hu)) b9 (.d1 ag) a (h.mode.counted g6 x (.inr a) _ _) (.inl ⟨by omega,by simp[cnt,X]⟩)
   obtain⟨i,O,V,d,⟨rfl,rfl⟩,F⟩:=e J (Go.ConcN.RW.refl J);exact an d (.k1 F) a
  |d1 s=>
   rcases Goes.cases s with g|⟨t,rfl,e⟩
   .obtain⟨_,a0⟩:=g J (Go.ConcN.RW.refl J);have l:=h.b1;have aw:=h.mode;have bD:cnt (y k)=1:=by simp[cnt,X]
    have b6:1<=Vc u y:=by have:=le_sumTo (f:=λk=>cnt (y k)) g6;simp[Vc];omega
    have aX:∀aj∈#[rd (stA M.f),wr (stA M.f)],Bk M.f aj:=by intro aj r;simp at r;rcases r with rfl|rfl<;>exact bk_cell _ _ rfl
    have aZ:∀hP aj,(#[rd (stA M.f),wr (stA M.f)]:Array aT)[hP]?=f aj->(aN aj).touch?=p∨0<deafBehind 1 ((#[rd (stA M.f),wr (stA M.f)]:Array aT).extract 0 hP):=by
     intro hP aj r
     match hP,r with
     |0,_=>exact .inr afH
     |1,_=>exact .inr (by simp[deafBehind,rd])
     |hP+2,r=>simp at r
    have cc:∀a9,cnt (⟨1,a9,1⟩:WD)=0:=λ_=>rfl;have bo:∀a9,OpenSt u y->OpenSt u (upd y k ⟨1,a9,1⟩):=λa9 s w bd=>by
     by_cases aj:w=k
     .subst aj;exact wC
     rw[upd_ne y _ aj];exact s w bd
    generalize b1:b'=cf at aw l;generalize b0:oX=cd at aw l;cases aw with
    |opn bx aW bQ=>
     obtain⟨ao,H⟩:∃ao,Vc u y+pend tag=ao+1:=⟨Vc u y+pend tag-1,by omega⟩
     rw[H]at l;have a6:WgAt ty M.f J (((ao:Nat)+1)*KK+((0:Nat):Int)) 0:=N;obtain⟨i,d,_,aa⟩:=a0 ao 0 x x a6;obtain⟨a9,aa⟩:=aa x;have bM:Vc u (upd y k ⟨1,0,1⟩)+pend tag=ao:=NX;refine book d (aside_setCell J (stA M.f) _) (l.setSt _) aX aZ b9 (.quit aa) a ?_ (.inl ⟨by omega,by grind⟩);have aj:((ao:Nat):Int)*KK+((0:Nat):Int)=((Vc u (upd y k ⟨1,0,1⟩)+pend tag:Nat):Int)*KK:=N;rw[aj];exact .opn bx (bo 0 aW) (λA cp=>by grind)
    |reg bx aW bQ=>
     obtain⟨ao,H⟩:∃ao,Vc u y=ao+1:=⟨Vc u y-1,by omega⟩
     rw[H]at l;have cw:pend tag=0:=by cases tag<;>first|rfl|exact bx.elim
     have a6:WgAt ty M.f J (((ao:Nat)+1)*KK+((1:Nat):Int)) 0:=N;obtain⟨i,d,bY,aa⟩:=a0 ao 1 x x a6;by_cases bN:ao=0
     .subst bN;obtain⟨ax,ag⟩:=bY ⟨rfl,rfl⟩;refine book d (aside_setCell J (stA M.f) _) (l.setSt _) aX aZ b9 (.d2 ag) a ?_ (.inl ⟨by omega,by simp[cnt]⟩);have aJ:∀w,w<u->w≠k->(y w).stage=1:=λw bd aj=>by have bB:=others_uncounted g6 H bD w bd aj;have:=aW w bd;simp only[cnt]at bB;split at bB<;>omega
      have:=Go.ConcN.Mode.last (j:=u) (D:=upd y k ⟨4,0,1⟩) (tag:=tag) k bx g6 wC (λw bd aj=>by rw[upd_ne y _ aj];grind);rw[upd_same]at this;grind
     obtain⟨a9,aa⟩:=aa x;have bM:Vc u (upd y k ⟨1,0,1⟩)=ao:=NX;refine book d (aside_setCell J (stA M.f) _) (l.setSt _) aX aZ b9 (.quit aa) a ?_ (.inl ⟨by omega,by grind⟩);have aj:((ao:Nat):Int)*KK+((1:Nat):Int)=((Vc u (upd y k ⟨1,0,1⟩):Nat):Int)*KK+1:=N;rw[aj];exact .reg bx (bo 0 aW) x
    |last L _ aW bQ cz=>
     grind
    |sema aW=>have:=aW k g6;omega
    |fin _ aW=>have:=aW k g6;omega
   obtain⟨i,O,V,d,⟨rfl,rfl⟩,F⟩:=e J (Go.ConcN.RW.refl J);exact an d (.d1 F) a
  |d2 s=>
   rcases Goes.cases s with g|⟨t,rfl,e⟩
   .obtain⟨_,aF⟩:=g J (Go.ConcN.RW.refl J);obtain⟨aC,aJ,aG,aH⟩:=h.mode.isLast g6 x;have l:=h.b1;rw[aG,aH,X]at l;obtain⟨i,d,ax,ag⟩:=aF N;refine book d (.refl M.f J) l RK Rz b9 (.d3 ag) a ?_ (.inl ⟨by omega,by simp[cnt]⟩);have:=Go.ConcN.Mode.last (j:=u) (D:=upd y k ⟨3,0,1⟩) (tag:=tag) k aC g6 wC (λw bd aj=>by rw[upd_ne y _ aj];grind);rw[upd_same]at this;grind
   obtain⟨i,O,V,d,⟨rfl,rfl⟩,F⟩:=e J (Go.ConcN.RW.refl J);exact an d (.d2 F) a
  |d3 s=>
   rcases Goes.cases s with g|⟨t,rfl,e⟩
   .obtain⟨_,aF⟩:=g J (Go.ConcN.RW.refl J);obtain⟨aC,aJ,aG,aH⟩:=h.mode.isLast g6 x;have l:=h.b1;rw[aG,aH,X]at l;obtain⟨i,d,ax,ag⟩:=aF N;refine book d (aside_setCell J (stA M.f) _) (l.setSt 0) RK Rz b9 (.d4 ag) a ?_ (.inl ⟨by omega,by simp[cnt]⟩);have:=Go.ConcN.Mode.last (j:=u) (D:=upd y k ⟨2,0,1⟩) (tag:=tag) k aC g6 wC (λw bd aj=>by rw[upd_ne y _ aj];grind);rw[upd_same]at this;grind
   obtain⟨i,O,V,d,⟨rfl,rfl⟩,F⟩:=e J (Go.ConcN.RW.refl J);exact an d (.d3 F) a
  |d4 s=>
   rcases Goes.cases s with g|⟨t,rfl,e⟩
   .obtain⟨_,bI,aF⟩:=g J (Go.ConcN.RW.refl J);obtain⟨aC,aJ,aG,aH⟩:=h.mode.isLast g6 x;have l:=h.b1;rw[aG,aH,X]at l;obtain⟨i,d,a9,aa⟩:=aF N;have bc:i.status=.running:=by
     cases a9 with
     |zero=>exact absurd aa.2 b9
     |succ a9=>exact aa.elim (λk=>absurd k.2 b9) (λk=>k.1)
    refine aM d (aside_setCell J (smA M.f) _) (l.setSm 1) (V:=semEvents (smA M.f)) ?_ ?_ b9 (.quit aa) cQ ?_ (.inl ⟨by omega,by simp[cnt]⟩)
    .intro aj r;simp[semEvents]at r;rcases r with rfl|rfl|rfl|rfl
     .exact .inl a
     .exact bk_cell _ _ a
     .exact bk_cell _ _ a
     exact .inr (.inl a)
    .intro hP aj r
     match hP,r with
     |0,r=>simp[semEvents]at r;subst r;exact .inl a
     |1,_=>exact .inr Oh
     |2,_=>exact .inr Oh
     |3,r=>simp[semEvents]at r;subst r;exact .inl a
     |hP+4,r=>simp[semEvents]at r
    intro S ai cm;have ca:=cm bI bc;have bq:S=.w3:=by
     rcases ai with rfl|⟨_,rfl⟩
     .cases S<;>first|rfl|exact aC.elim|grind
     simp
    subst bq;simp only[dH];exact .sema λw bd=>by
     by_cases aj:w=k
     .subst aj;rw[upd_same]
     rw[upd_ne y _ aj];grind
   obtain⟨i,O,V,d,⟨rfl,rfl⟩,F⟩:=e J (Go.ConcN.RW.refl J);exact an d (.d4 F) a
  |quit s=>
   cases bz with
   |zero=>rw[s.1]at a3;cases a3
   |succ a9=>
    rcases s with⟨cr,_⟩|⟨_,i,V,aO,e,aa⟩
    .grind
    have ab:∀aj∈V,Bk M.f aj:=λaj r=>bk_of_mute (aO aj r);have bK:∀hP aj,V[hP]?=f aj->(aN aj).touch?=p∨0<deafBehind aA (V.extract 0 hP):=λhP aj r=>.inl (touch_mute (aO aj (uE r)));exact book (e J) (.refl M.f J) h.b1 ab bK b9 (.quit aa) a (same _ _) (.inr ⟨a,a⟩)
end
end
section
open Go.Conc
open Go.ConcN (WD CTag Vc Ssum pend phi cnt WgLive PayAt Has RW DWs WSit RelBy sumTo upd upd_same upd_ne AtR0 isW3 isOpen OpenSt deafBehind_idle bk_cell okW_none Vc_upd Vc_le le_sumTo others_uncounted sumTo_upd_out bk_dis bk_en bk_rd bk_rw bk_sem allQuit_of exists_counted)
open Go.ConcR (KK WgAt stA smA rd wr mk Payload g_of_ofEvents Bk bk_of_mute ofEvent_loc_mark ofEvent_cell ofEvent_mk)
variable [Payload]
section
variable {M:hF}{ad h:ak->a5->Prop}{d et:Nat->Nat}{cL G:Nat->Mem}{tag:CTag}{c6:cl}{I:Nat}{w:ak}{J:au}{df:p3}{dE:Option (Nat×Nat)}{o:Trace}{y:Nat->WD}{Q:Nat->Nat}{av:Nat->cl}{b' oX:Int}
omit [Payload]in
def fC.congr{i}(b:fC M d cL o u i)(j:∀h,h<u->G h=cL h):fC M d G o u i:=
 ⟨b.base,b.cY,b.db,b.b6,b.dY,b.eA,b.ey,λe H=>by rw[j e H];exact b.bH e H,b.bP,b.er,b.seen,b.old,b.ed,b.eK,λl k g a d=>(b.new l k g a d).imp id λ⟨e,H,n,q⟩=>⟨e,H,n,by grind⟩,
  λe H=>by rw[j e H];exact b.ep e H,b.over⟩
def hG.congr{k w b' I}{e}(h:hG P ty M D val d cL k w b' e I B J)(j:G k=cL k):hG P ty M D val d G k w b' e I B J:=by
 cases h with
 |c_ a g i=>exact .c_ a g N
 |rel a=>exact .rel a
 |tail b a=>exact .tail b a
def ii.congr{j}(a:ii P ty M D val d cL u gs J o y Q av j)(e:∀b,b<u->G b=cL b):ii P ty M D val d G u gs J o y Q av j:=
 ⟨a.size,a.dt,a.above,λh H=>let ⟨B,k,i⟩:=a.c8 h H;⟨B,k,i.congr (e h H)⟩,a.bw.congr e,a.dW,a.dA,a.dB,a.rel,a.dm,a.dS,a.bV,a.cV,a.cm,a.cz,a.dr,a.aQ,λb g=>by rw[e b g];exact a.dF b g⟩
omit [Payload]in
def aaQ{b7}{V}(D:gj M d cL u b)(R:bd l b)(aP:du b V)(A:cN l b ao b7):
  (∀g∈V,(aN g).low b7.a.heap.size)/\(∀g∈V,∀e,(aN g).touch?=f e->e.loc.isMemory=m->o_ M (l0 d b.a.heap.size 0) e) /\
  (∀g∈V,∀e,(aN g).touch?=f e->e.kind=.plain->e.write=m->∀n,n<u->∀i k t,e.loc=.cell ⟨i,k,p⟩->cL n i k≠f t) /\
  (∀g∈V,g.loc≠.mark .disable/\g.loc≠.mark .enable)/\∀g∈V,∀e,g.loc≠.mark (.release e):=by
 have key:∀g∈V,(aN g).low b7.a.heap.size/\(∀e,(aN g).touch?=f e->e.loc.isMemory=m->o_ M (l0 d b.a.heap.size 0) e) /\
   (∀e,(aN g).touch?=f e->e.kind=.plain->e.write=m->∀n,n<u->∀i k t,e.loc=.cell ⟨i,k,p⟩->cL n i k≠f t)/\(g.loc≠.mark .disable/\g.loc≠.mark .enable)/\∀e,g.loc≠.mark (.release e):=by
  intro g J;have x:=aP g J;obtain⟨loc,wr,Q⟩:=g;cases loc with
  |cell h=>
   obtain⟨B,C,j⟩:=x;simp only at B C j;subst B;have E:h.block<b.a.heap.size/\d h.block=0/\h.block≠M.ag/\h.block≠M.f/\¬M.bF h.block:=by
    rcases j with j|⟨⟨L,I,j⟩,_⟩|⟨_,t,j⟩
    .exact j.elim
    .obtain⟨k1,o,F,q,s⟩:=D.blk _ (.inr ⟨L,I,j⟩);grind
    obtain⟨k1,o,F,q,s⟩:=D.E _ _ _ j;grind
   refine⟨by rw[ofEvent_cell];exact eE E.1 A.size,λi r _=>?_,λi r _ y n H w k t z K=>?_,⟨by simp,by simp⟩,by simp⟩
   .rw[ofEvent_cell]at r;simp[MemAct.touch?,eW]at r;subst r;exact .inr ⟨h.block,a,by grind[lo],E.2.2.2.1,E.2.2.1,E.2.2.2.2,a⟩
   rw[ofEvent_cell]at r;simp[MemAct.touch?,eW]at r;subst r;simp only at y z;have N:=D.bH n H w k t K;grind
  |obj O=>
   obtain⟨B,C⟩:=x;simp only at B C;subst B;obtain⟨L,I,j⟩:=C.resolve_left id;obtain⟨k1,o,F,q,s⟩:=D.blk _ (.inr ⟨L,I,j⟩);refine⟨?_,λi r _=>?_,λi r _ _ n _ w k t z=>?_,⟨by simp,by simp⟩,by simp⟩
   .simp[aN,MemAct.low,Loc.low];exact eE s A.size
   .simp[aN,MemAct.touch?]at r;subst r;exact .inr ⟨O,a,by grind[lo],F,o,q,a⟩
   simp[aN,MemAct.touch?]at r;grind
  |mark T=>
   simp[h5]at x;rcases x with rfl|⟨S,rfl⟩
   .exact Pw
   exact Pw
  |_=>exact x.elim
 grind
def DF(cF:lE P ty M D val j ad h df gs J o d cL u y Q av I tag c6 w b b' oX){s}{V}{qZ}{nK}{k i}(K:ar P m w J=.go s bj V)(Y:∀F,F<J.heap.size->et F=d F)(O:J.heap.size<=bj.heap.size)(E:∀T,T<u->lG M d (cL T) T J bj)(A:∀t∈V,(aN t).low bj.heap.size)(R:∀t∈V,∀w,(aN t).touch?=f w->w.loc.isMemory=m->o_ M et w)(S:∀t∈V,∀w,(aN t).touch?=f w->w.kind=.plain->w.write=m->∀W,W<u->∀F U ag,w.loc=.cell ⟨F,U,p⟩->cL W F U≠f ag)(N:∀t∈V,∀w,t.loc≠.mark (.release w))(B:PayAt M.ag D bj)(n:WgAt ty M.f bj k i)(z:hg P ty M D val j ad h qZ u nK (deafBehind I V) s az)(l:cU az {az with a:=bj})(Z:gj M et cL u az)(ab:Go.ConcN.Mode u y qZ k i)(aa:phi j (Vc u y) qZ<phi j (Vc u y) tag∨(phi j (Vc u y) qZ=phi j (Vc u y) tag/\cl.lt nK c6)):
  ∃g q r,runT P (crowd gs J dE) 0=(.next g,q)/\k6 (M.base+j) r df/\fd P ty M D val j ad h r g (o++q):=by
 have ah:=cF.aF.bw.base;have C:=runT_crowd_go (P:=P) (sl:=dE) (i:=0) cF.dx (by simpa using K)
 refine⟨_,_,(phi j (Vc u y) qZ+Ssum u y+sumTo u Q,(av,nK)),C,?_,_,bj,dE,et,cL,u,y,Q,av,deafBehind I V,qZ,nK,s,az,k,i,a,
  ⟨Go.ConcN.get_map_set_same _ _ _ E9,z,l,Z,cF.aF.h2 Y O E A R S N B ⟨_,_,n⟩,n,ab,rfl⟩⟩
 rw[cF.eH];rcases aa with ai|⟨ae,X⟩
 .exact Prod.Lex.left _ _ x
 rw[ae];exact Prod.Lex.right _ (Prod.Lex.right _ X)
def nI(k:lE P ty M D val j ad h df gs J o d cL u y Q av I tag c6 w b b' oX){K}{V}{nK}{s1}(ak:cU s1 {s1 with a:=J})(aj:gj M d cL u s1)(C:ar P m w J=.go K az.a V)(S:kG {s1 with a:=J} az V∨dV M.f {s1 with a:=J} az V)(r:hg P ty M D val j ad h tag u nK I K az)(aw:cl.lt nK c6):
  ∃t E F,runT P (crowd gs J dE) 0=(.next t,E)/\k6 (M.base+j) F df/\fd P ty M D val j ad h F t (o++E):=by
 rcases S with⟨⟨l,ao,aE,s,B⟩,aP⟩|⟨rfl,A,O,aq⟩
 .have X:gj M d cL u {s1 with a:=J}:=aj.rely ak.size;obtain⟨ab,ae,ag,ah,ai⟩:=aaQ X aE aP B;have e:∀g,g<J.heap.size->(d g≠0∨g=M.ag∨g=M.f)->az.a.heap[g]?=J.heap[g]?:=λg n au=>B.a6 g n λL aC R=>by obtain⟨aG,aH,aI,_⟩:=X.blk g (.inr ⟨L,aC,R⟩);grind
  have U:=k.aF.bw.base;refine DF k C (et:=l0 d J.heap.size 0) (λg n=>lo n) B.size (λaA T=>⟨B.size,λg n an=>e g n (.inl x),λg W ax aD _=>s.mem g W ax (B.mem _ _ _ (aj.bH aA T g W ax aD)),λW _ _=>nk (e _ k.aF.cz (.inr (.inl a))) W,B.os,B.tape,B.output⟩) ab ae ag ai ?_
   (k.b1.of_block (e _ k.aF.cm (.inr (.inr a)))) (az:=az) (qZ:=tag) (nK:=nK) (by rw[deafBehind_idle ah];exact r) (cU.ev s.mem) (X.step s B k.aF.cm k.aF.cz k.aF.dr) k.mode (.inr ⟨rfl,aw⟩)
  obtain⟨aa,Y,Z⟩:=k.aF.bV;exact⟨aa,(e _ k.aF.cz (.inr (.inl a))).trans Y,Z⟩
 have i:∀q∈V,q=mk (.read A)∨q=mk (.write A):=N;refine DF k C (et:=d) (λg n=>rfl) (bE _) (λaA T=>.refl ..) (λq z=>?_) (λq z g n _=>?_) (λq z g n aF=>?_) (λq z=>?_) k.aF.bV k.b1 (az:={s1 with a:=J}) (qZ:=tag) (nK:=nK) ?_ (ak.fY ) (aj.rely ak.size) k.mode (.inr ⟨rfl,aw⟩)
 .have hW:=k.aF.cm;rcases i q z with rfl|rfl<;>(rw[ofEvent_mk];show A.block<_;grind)
 .rcases i q z with rfl|rfl<;>(rw[ofEvent_mk]at n;simp[MemAct.touch?]at n;subst n;exact .inl ⟨A,rfl,O,by simp⟩)
 .rcases i q z with rfl|rfl<;>(rw[ofEvent_mk]at n;simp[MemAct.touch?]at n;grind)
 .rcases i q z with rfl|rfl<;>simp[mk]
 rw[deafBehind_idle (λq z=>by rcases i q z with rfl|rfl<;>simp[mk])];exact r
def l6(n:lE P ty M D val j ad h df gs J o d cL u y Q av I tag c6 w b b' oX){C}{V}{e}{s}{x t}{s1}(ag:cU s1 {s1 with a:=J})(i:gj M d cL u s1)(R:ar P m w J=.go C bj V)(K:Aside M.f J bj)(B:WgAt ty M.f bj x t)(g:∀F∈V,Bk M.f F)(A:hg P ty M D val j ad h e u s (deafBehind I V) C {s1 with a:=bj})(k:Go.ConcN.Mode u y e x t)(ae:phi j (Vc u y) e<phi j (Vc u y) tag∨(phi j (Vc u y) e=phi j (Vc u y) tag/\cl.lt s c6)):
  ∃l q z,runT P (crowd gs J dE) 0=(.next l,q)/\k6 (M.base+j) z df/\fd P ty M D val j ad h z l (o++q):=by
 obtain⟨U,N,O⟩:=n.aF.bV;have X:cU s1 {s1 with a:=bj}:=i.dj ag (rn.b1 K);refine DF n R (et:=d) (λS r=>rfl) (by rw[K.size];grind) (λai W=>.b1 K n.aF.bw.cY n.aF.bw.base (λS ab ah Z=>(n.aF.bw.bH ai W S ab ah Z).2.2.1) n.aF.bw.b6) (GX g (by rw[K.size];exact n.aF.cm)) (λF T S r d=>?_) (λF T S r aa=>?_) (GY g)
  ⟨U,(K.block _ n.aF.bw.b6).trans N,O⟩ B A X.fY (i.rely X.size) k ae
 .rcases g F T with bc|bc|⟨E,wr,rfl,Y⟩
  .exact zX
  .exact zX
  rw[ofEvent_cell]at r;simp[MemAct.touch?,eW]at r;subst r;exact .inl ⟨E,a,Y,by simp⟩
 rcases g F T with bc|bc|⟨E,wr,rfl,Y⟩
 .exact zX
 .exact zX
 rw[ofEvent_cell]at r;simp[MemAct.touch?,eW]at r;grind
end
section
variable {M:hF}{ad ae:ak->a5->Prop}{S et:Nat->Nat}{bz h:Nat->Mem}{tag:CTag}{c6:cl}{I:Nat}{w:ak}{J:au}{bY:p3}{dE:Option (Nat×Nat)}{o:Trace}{y:Nat->WD}{Q:Nat->Nat}{av:Nat->cl}{b' W:Int}
def hg.gi(a:hg P ty M D val j ad ae tag u c6 I w b):u+pend tag<=j:=by cases a<;>simp[pend]<;>(try simp)<;>omega
omit [Payload]in
def nE(o:gB (ag.aG P ty M.f) (dV M.f) bq c6 w b)(q:cU b {b with a:=J})(n:gj M S bz u b)(h:WgLive ty M.f J):
  (∃a,cU a {a with a:=J}/\gj M S bz u a/\bq w a)∨∃a,cU a {a with a:=J}/\gj M S bz u a/\∃i e g k,ar P m w J=.go i e.a g/\(kG {a with a:=J} e g∨dV M.f {a with a:=J} e g)/\gB (ag.aG P ty M.f) (dV M.f) bq k i e/\cl.lt k c6:=by
 rcases o.bf (λd=>cU d {d with a:=J}/\gj M S bz u d) (λd a O j=>⟨j.1.aU O,j.2.aU O⟩) (λG=>False.elim G) ⟨q,n⟩with⟨a,⟨k1,r⟩,l⟩|⟨_,a,⟨k1,r⟩,l⟩
 .grind
 exact .inr ⟨a,k1,r,l _ ⟨k1,λ_=>h⟩⟩
def hG.quits{k w b' I}{e}{B}(b:hG P ty M D val S bz k w b' e I B J)(a:b'=1):∃d,QuitsD P d I B:=by
 cases b with
 |c_ _ _ _=>cases a
 |rel _=>cases a
 |tail _ b=>exact⟨_,b.quits a⟩
def hG.j2{k w b' I}{d}(a:hG P ty M D val S bz k w b' d I B J)(b:b'=1):w=0:=by
 cases a with
 |c_ _ _ _=>cases b
 |rel _=>rfl
 |tail _ a=>rfl
def adw(cF:lE P ty M D val j ad ae bY gs J o S bz u y Q av I tag c6 w b b' W)(bO:j<2147483648)(a1:∀B b,ae B b->dt (ag.aG P ty M.f) (dV M.f) (rh P ty M ad ae) B b)(bb:w.status=.running):
  ∃aC i,runT P (crowd gs J dE) 0=(.next aC,i)/\((∃et aT,wX P M D val j ad et aT aC (o++i))∨∃l,k6 (M.base+j) l bY/\fd P ty M D val j ad ae l aC (o++i)):=by
 have bH:=Vc_le u y;have bx:=cF.aF.bw.base;have e:=cF.aF.cV;have fin:∀{q:Prop},(∃aC i l,runT P (crowd gs J dE) 0=(.next aC,i)/\k6 (M.base+j) l bY/\fd P ty M D val j ad ae l aC (o++i)) ->
   ∃aC i,runT P (crowd gs J dE) 0=(.next aC,i)/\((∃et aT,wX P M D val j ad et aT aC (o++i))∨∃l,k6 (M.base+j) l bY/\fd P ty M D val j ad ae l aC (o++i)):=
  λ{_} ⟨aC,i,l,aE,an,aI⟩=>⟨aC,i,aE,.inr ⟨l,an,aI⟩⟩
 have bl:=cF.dz.gi;have bB:=cF.dz;have z:=cF.b1;have ak:=cF.mode;cases bB with
 |@fi g c6 B b F Y=>
  rcases nE Y cF.rely cF.aG e with⟨az,k1,r,_,hl,H,d⟩|⟨az,k1,r,hl,b7,V,h,H,aa,d,aP⟩
  .obtain⟨ab,d⟩:=d {az with a:=J} (mL k1 e);exact fin (q:=True) (l6 cF k1 r (H J) (.refl M.f J) z bk_dis (.fT F d) (ak.reopen C C a E) (.inl mf))
  exact fin (q:=True) (nI cF k1 r H aa (.fi F d) aP)
 |@fT g c6 B b F Y=>
  rcases nE Y cF.rely cF.aG e with⟨az,k1,r,_,aD⟩|⟨az,k1,r,hl,b7,V,h,H,aa,d,aP⟩
  .obtain⟨aq,K,R,_⟩:=ak.open_inv C;rw[K,R]at z;obtain⟨fL,H,ab,d⟩:=aD {az with a:=J} (mL k1 e) (Vc (j-(g+1)) y) x (by simpa[pend]using z);refine fin (q:=True) (l6 cF k1 r H (aside_setCell J (stA M.f) _) (z.setSt _) bk_rw (.fV F d) ?_ (.inl mf));have aj:(((Vc (j-(g+1)) y:Nat):Int)+1)*KK=((Vc (j-(g+1)) y+pend (.sp g 3):Nat):Int)*KK:=by simp[pend]
   rw[aj];exact .opn C aq E
  exact fin (q:=True) (nI cF k1 r H aa (.fT F d) aP)
 |@fV g c6 B b F Y=>
  rcases nE Y cF.rely cF.aG e with⟨az,k1,r,_,hl,H,d⟩|⟨az,k1,r,hl,b7,V,h,H,aa,d,aP⟩
  .obtain⟨ab,d⟩:=d {az with a:=J} (mL k1 e);exact fin (q:=True) (l6 cF k1 r (H J) (.refl M.f J) z bk_en (.fU F d) (ak.reopen C C a E) (.inl mf))
  exact fin (q:=True) (nI cF k1 r H aa (.fV F d) aP)
 |@fU g c6 B b F Y=>
  rcases nE Y cF.rely cF.aG e with⟨az,k1,r,_,aD⟩|⟨az,k1,r,hl,b7,V,h,H,aa,d,aP⟩
  .obtain⟨fL,rG,bo,_,⟨rc,bq⟩,aw⟩:=aD {az with a:=J} (mL k1 e);obtain⟨aq,K,R,_⟩:=ak.open_inv C;rw[K,R]at z;have s:=runT_crowd_spawn (P:=P) (sl:=dE) (i:=0) cF.dx (by simpa using bo);rw[cF.aF.size]at s;have bu:=r.rely k1.size;let aT:=upd bz (j-(g+1)) az.E;have a2:∀X,X<j-(g+1)->aT X=bz X:=λX bd=>upd_ne bz _ x;have aJ:aT (j-(g+1))=az.E:=upd_same bz _ _;have aL:cU (a5.dy {az with a:=J}) {a5.dy {az with a:=J}with a:=J}:=cU.ev k1.mem;have aZ:ho S (aT (j-(g+1))) (M.base+(j-(g+1))) (a5.dy {az with a:=J}):=by
    refine⟨λa0 aA=>?_,λa0 bs bt t=>⟨.inr (by rw[aJ];exact t),(bu.E a0 bs bt t).2.2.2.2⟩⟩;rcases aA with aA|⟨L,bG,_⟩
    .exact aA.elim
    simp[a5.dy]at bG
   have T:=(cF.aF.congr a2).spawn (fL:=fL) (k:={g:=0,fn:=w.frame.fn,pos:=w.frame.place,act:=.go (M.base+(j-(g+1)))}) (X:={g:=M.base+(j-(g+1)),fn:=rG.frame.fn,pos:=w.frame.place,act:=.start}) ⟨rfl,rfl⟩ ⟨rfl,rfl⟩
    (λa0 bs bt t=>by rw[aJ]at t;exact bu.E a0 bs bt t) bq aL aZ
   have bh:Vc (j-(g+1)+1) (upd y (j-(g+1)) ⟨7,0,0⟩)=Vc (j-(g+1)) y+1:=by simp[Vc,sumTo,upd_same];rw[sumTo_upd_out y _ cnt (bE _)];rfl
   have bg:Ssum (j-(g+1)+1) (upd y (j-(g+1)) ⟨7,0,0⟩)=Ssum (j-(g+1)) y+7:=by simp[Ssum,sumTo,upd_same];rw[sumTo_upd_out y _ WD.stage (bE _)]
   have bf:sumTo (j-(g+1)+1) (upd Q (j-(g+1)) 1)=sumTo (j-(g+1)) Q+1:=by have:sumTo (j-(g+1)) (upd Q (j-(g+1)) 1)=sumTo (j-(g+1)) Q:=sumTo_upd_out Q 1 id (i:=j-(g+1)) (j:=j-(g+1)) (bE _);show sumTo (j-(g+1)) (upd Q (j-(g+1)) 1)+upd Q (j-(g+1)) 1 (j-(g+1))=_;rw[upd_same];grind
   have ax:OpenSt (j-(g+1)+1) (upd y (j-(g+1)) ⟨7,0,0⟩):=λZ ao=>by
    by_cases aj:Z=j-(g+1)
    .subst aj;exact wC
    rw[upd_ne y _ aj];exact aq Z x
   have a3:((gs.setIfInBounds 0 fL).push rG)[0]?=f fL:=by have bk:0<gs.size:=E9;grind
   have bw:gj M S aT (j-(g+1)+1) {az with a:=J}:=⟨bu.blk,bu.E,λX bd a0 bs bt t=>by
    rcases d6 X (j-(g+1))with aE|aE
    .rw[a2 X aE]at t;exact bu.bH X aE a0 bs bt t
    .obtain rfl:X=j-(g+1):=x
     rw[aJ]at t;exact t⟩
   have bC:j-(g+1)+1=j-g:=x;rw[bC]at T bh bg bf ax bw;have aH:∀au,pend au=0->((Vc (j-(g+1)) y+pend (.sp g 2):Nat):Int)*KK=((Vc (j-g) (upd y (j-(g+1)) ⟨7,0,0⟩)+pend au:Nat):Int)*KK:=λau bP=>by exact hu
   cases g with
   |zero=>
    obtain⟨aS,d⟩:=aw;simp only[sE]at T bh bg bf ax aH bw;refine⟨_,_,s,.inr ⟨(phi j (Vc j (upd y (j-(0+1)) ⟨7,0,0⟩)) .kd+Ssum j (upd y (j-(0+1)) ⟨7,0,0⟩)+sumTo j (upd Q (j-(0+1)) 1),(upd av (M.base+(j-(0+1))) rc,aS)),by rw[cF.eH];exact Prod.Lex.left _ _ mf,
     _,J,dE,S,aT,j,_,_,_,0,.kd,aS,fL,{az with a:=J},_,_,rfl,⟨a3,.kd d,k1.fY,bw,T,z,?_,rfl⟩⟩⟩
    rw[aH .kd a];exact .opn C ax E
   |succ h=>
    obtain⟨aS,d⟩:=aw;refine⟨_,_,s,.inr ⟨(phi j (Vc (j-(h+1)) (upd y (j-(h+1+1)) ⟨7,0,0⟩)) (.sp h 5)+Ssum (j-(h+1)) (upd y (j-(h+1+1)) ⟨7,0,0⟩)+sumTo (j-(h+1)) (upd Q (j-(h+1+1)) 1),(upd av (M.base+(j-(h+1+1))) rc,aS)),by rw[cF.eH];exact Prod.Lex.left _ _ mf,
     _,J,dE,S,aT,j-(h+1),_,_,_,0,.sp h 5,aS,fL,{az with a:=J},_,_,rfl,⟨a3,.fi x d,k1.fY,bw,T,z,?_,rfl⟩⟩⟩
    rw[aH (.sp h 5) a];exact .opn C ax E
  exact fin (q:=True) (nI cF k1 r H aa (.fU F d) aP)
 |kd Y=>
  rcases nE Y cF.rely cF.aG e with⟨az,k1,r,_,hl,H,d⟩|⟨az,k1,r,hl,b7,V,h,H,aa,d,aP⟩
  .obtain⟨ab,d⟩:=a1 _ _ (d {az with a:=J} (mL k1 e));exact fin (q:=True) (l6 cF k1 r (H J) (.refl M.f J) z bk_dis (.w1 d) (ak.reopen C C a E) (.inl mf))
  exact fin (q:=True) (nI cF k1 r H aa (.kd d) aP)
 |w1 Y=>
  rcases nE Y cF.rely cF.aG e with⟨az,k1,r,_,aD⟩|⟨az,k1,r,hl,b7,V,h,H,aa,d,aP⟩
  .obtain⟨aq,K,R,_⟩:=ak.open_inv C;rw[K,R]at z;have bN:=Vc_le j y;obtain⟨fL,H,bk,bn⟩:=aD {az with a:=J} (mL k1 e) (Vc j y) x N;by_cases t:Vc j y=0
   .obtain⟨ab,d⟩:=bk t;refine fin (q:=True) (l6 cF k1 r H (.refl M.f J) z bk_rd (.ke d) ?_ (.inl mf));have aj:((Vc j y+pend .w1:Nat):Int)*KK=0:=N;rw[aj];exact .fin C (allQuit_of aq t)
   obtain⟨ab,d⟩:=bn t;refine fin (q:=True) (l6 cF k1 r H (.refl M.f J) z bk_rd (.w2 d) ?_ (.inl mf));have:=ak.reopen (tag':=.w2 (Vc j y)) C C a (λA aj=>by grind);grind
  exact fin (q:=True) (nI cF k1 r H aa (.w1 d) aP)
 |@w2 A c6 B b Y=>
  rcases nE Y cF.rely cF.aG e with⟨az,k1,r,_,aD⟩|⟨az,k1,r,hl,b7,V,h,H,aa,d,aP⟩
  .obtain⟨aq,K,R,bp⟩:=ak.open_inv C;rw[K,R]at z;obtain⟨bK,aE⟩:=bp A rfl;obtain⟨a9,aU⟩:=aD {az with a:=J} (mL k1 e) (Vc j y) x N;by_cases aj:Vc j y=A
   .obtain⟨fL,H,ab,d⟩:=a9 aj;exact fin (q:=True) (l6 cF k1 r H (aside_setCell J (stA M.f) _) (z.setSt _) bk_rw (.w3 d) (.reg C aq x) (.inl mf))
   obtain⟨fL,H,d⟩:=aU aj;obtain⟨ab,d⟩:=a1 _ _ d;refine fin (q:=True) (l6 cF k1 r H (.refl M.f J) z bk_rd (.w1 d) ?_ (.inl mf));have:=ak.reopen (tag':=.w1) C C a E;grind
  exact fin (q:=True) (nI cF k1 r H aa (.w2 d) aP)
 |@w3 c6 B b Y=>
  rcases nE Y cF.rely cF.aG e with⟨az,k1,r,aW⟩|⟨az,k1,r,hl,b7,V,h,H,aa,d,aP⟩
  .obtain⟨_,ba,aD⟩:=aW;obtain⟨aK,aX⟩:=aD {az with a:=J} (mL k1 e);obtain⟨k,n⟩:=cl.ju b c6;have aR:=o4.rely ⟨bb,ba,aD⟩ (mL k1 e);generalize b'=bM at ak z;generalize W=bL at ak z;cases ak with
   |opn aE _ _=>exact aE.elim
   |reg aE an aI=>exact fin (q:=True) (l6 cF k1 r (aK ⟨_,z⟩) (.refl M.f J) z E (.blk (c6:=k) aR) (.reg C an aI) (.inr ⟨rfl,n⟩))
   |last L aE an aI bF=>exact fin (q:=True) (l6 cF k1 r (aK ⟨_,z⟩) (.refl M.f J) z E (.blk (c6:=k) aR) (.last L C an aI bF) (.inr ⟨rfl,n⟩))
   |sema an=>
    obtain⟨fL,H,ab,d⟩:=aX z;exact fin (q:=True) (l6 cF k1 r H (aside_setCell J (smA M.f) _) (z.setSm 0) bk_sem (.w4 d) (.fin C an) (.inl mf))
   |fin aE _=>exact aE.elim
  exact fin (q:=True) (nI cF k1 r H aa (.w3 d) (cl.hl aP))
 |blk Y=>grind
 |w4 Y=>
  rcases nE Y cF.rely cF.aG e with⟨az,k1,r,_,aD⟩|⟨az,k1,r,hl,b7,V,h,H,aa,d,aP⟩
  .obtain⟨ai,K,R⟩:=ak.fin_inv C;rw[K,R]at z;obtain⟨fL,H,ab,d⟩:=aD {az with a:=J} (mL k1 e) z;exact fin (q:=True) (l6 cF k1 r H (.refl M.f J) z bk_rd (.ke d) (.fin C ai) (.inl mf))
  exact fin (q:=True) (nI cF k1 r H aa (.w4 d) aP)
 |ke Y=>
  rcases nE Y cF.rely cF.aG e with⟨az,k1,r,_,hl,H,d⟩|⟨az,k1,r,hl,b7,V,h,H,aa,d,aP⟩
  .obtain⟨ab,d⟩:=d {az with a:=J} (mL k1 e);obtain⟨ai,K,R⟩:=ak.fin_inv C;rw[K,R]at z;exact fin (q:=True) (l6 cF k1 r (H J) (.refl M.f J) z bk_en (.acq d) (.fin C ai) (.inl mf))
  exact fin (q:=True) (nI cF k1 r H aa (.ke d) aP)
 |acq Y=>
  rcases nE Y cF.rely cF.aG e with⟨az,k1,r,_,fL,H,d⟩|⟨az,k1,r,hl,b7,V,h,H,aa,d,aP⟩
  .obtain⟨ai,K,R⟩:=ak.fin_inv C;have s:=runT_crowd_go (P:=P) (sl:=dE) (i:=0) cF.dx (by simpa using H J);have a8:MemOp.ofEvents 0 w.frame.fn w.frame.place #[mk (.acquire (stA M.f))]=#[{g:=0,fn:=w.frame.fn,pos:=w.frame.place,act:=.mark (.acquire (stA M.f))}]:=by rw[ofEvents_eq];simp[ofEvent_mk]
   have aF:=cF.aF.h2 (B:=w) (hl:=fL) (fn:=w.frame.fn) (pos:=w.frame.place) (V:=#[mk (.acquire (stA M.f))]) (et:=S) (bj:=J) (λ_ _=>rfl) (bE _) (λX _=>.refl ..) (by simp;exact cF.aF.cm) (by intro aj ah a0 aA;simp at ah;subst ah;exact cQ) (by intro aj ah a0 aA;simp at ah;subst ah;simp[mk,aN,MemAct.touch?]at aA) (by intro aj ah;simp at ah;subst ah;simp[mk]) cF.aF.bV e;have bI:deafBehind 0 #[mk (.acquire (stA M.f))]=0:=rfl;have bd:(o++#[({g:=0,fn:=w.frame.fn,pos:=w.frame.place,act:=.mark (.acquire (stA M.f))}:MemOp)])[o.size]?=f {g:=0,fn:=w.frame.fn,pos:=w.frame.place,act:=.mark (.acquire (stA M.f))}:=E
   have aV:=aF.bw.jI (by rw[aF.dA];rfl) (aF.dW _) (bc:=o.size) (by rw[a8,act?_of bd]) (by rw[a8];simp[Trace.g?]) (by rw[a8];exact⟨0,by simp[Trace.g?],by rw[deaf_old (bE _)];exact cF.aF.dA⟩) (λk n=>by
    obtain⟨g,F⟩:=cF.aF.rel k n (by rw[ai k n];omega)
    exact⟨g,F.appOther g_of_ofEvents x,lt_of_act? F.act⟩)
   have aO:∃bc,Leavers P (o++MemOp.ofEvents 0 w.frame.fn w.frame.place #[mk (.acquire (stA M.f))]) ((gs.map (woken P w fL J)).setIfInBounds 0 fL) bc:=by
    have aG:∀Z,∃br,∀B,0<Z->((gs.map (woken P w fL J)).setIfInBounds 0 fL)[Z]?=f B->QuitsD P br (Deaf (o++MemOp.ofEvents 0 w.frame.fn w.frame.place #[mk (.acquire (stA M.f))]) Z) B:=by
     intro Z;cases aM:((gs.map (woken P w fL J)).setIfInBounds 0 fL)[Z]? with
     |none=>simp
     |some B=>
      rcases ob Z with aj|ar
      .exact⟨0,λhl Y=>by omega⟩
      rcases d6 Z M.base with aP|bJ
      .obtain⟨br,_,bm⟩:=aF.dt Z B ar aP aM;exact⟨br,λhl _ a4=>by grind⟩
      obtain⟨k,rfl⟩:∃k,Z=M.base+k:=⟨Z-M.base,by omega⟩
      have n:k<j:=by have:=(je.1 aM).1;rw[aF.size]at this;omega
      obtain⟨bD,a6,aQ⟩:=aF.c8 k n;rw[aM]at a6;cases a6;obtain⟨br,bm⟩:=aQ.quits (ai k n);refine⟨br,λhl _ a4=>?_⟩;cases a4;rw[aF.dB k n];omega
    exact⟨λZ=>Classical.choose (aG Z),λZ B ao O=>Classical.choose_spec (aG Z) B ao O,λZ ao=>aF.above Z (by rw[aF.size]at ao;exact ao)⟩
   obtain⟨bc,aO⟩:=aO;refine⟨_,_,s,.inl ⟨S,bz,⟨_,J,dE,fL,az,bc,rfl,Go.ConcN.get_map_set_same _ _ _ E9,aF.size,d {az with a:=J} (mL k1 e),k1,r,aO,aV,aF.dW,cF.aF.bV,λk n Z ao=>?_,cF.aF.cz,cF.aF.cm,cF.aF.dr⟩⟩⟩;obtain⟨bD,_,aQ⟩:=cF.aF.c8 k n;rcases ob Z with aj|ar
   .subst aj;exact cF.aF.dS k n (by rw[ai k n];omega)
   exact cF.aF.dm k n (aQ.j2 (ai k n)) Z ar ao
  exact fin (q:=True) (nI cF k1 r H aa (.acq d) aP)
end
end
section
open Go.Conc
open Go.ConcN (WD CTag Vc Ssum pend phi cnt WgLive PayAt Has WSit RelBy sumTo upd upd_same upd_ne exists_counted)
open Go.ConcR (KK WgAt stA smA Payload)
variable [Payload]
section
variable {M:hF}{ad r:ak->a5->Prop}{d:Nat->Nat}{bz:Nat->Mem}{tag:CTag}{c6:cl}{I:Nat}{w:ak}{J:au}{ae:p3}{dE:Option (Nat×Nat)}{o:Trace}{y:Nat->WD}{Q:Nat->Nat}{av:Nat->cl}{b' S:Int}
def hG.running_of{k w b' I}{g}{B}(e:hG P ty M D val d bz k w b' g I B J)(b:b'≠1):B.status=.running:=by
 cases e with
 |c_ a _ _=>exact a.run λ_ _ k=>k.1
 |rel a=>exact Goes.running (λ_ _ k=>k.1) J (Go.ConcN.RW.refl J) a
 |tail _ a=>exact a.running_of b
def adh(g:lE P ty M D val j ad r ae gs J o d bz u y Q av I tag c6 w b b' S):∃(l:Nat)(e:ak),gs[l]?=f e/\e.status=.running:=by
 rcases g.dz.status with⟨h,_⟩|⟨_,rfl⟩
 .exact⟨0,w,g.dx,h⟩
 have q:=g.mode;cases q with
 |opn a _ _=>exact a.elim
 |reg _ _ n=>
  obtain⟨l,k,t⟩:=exists_counted n;obtain⟨e,i,h⟩:=g.aF.c8 l k;exact⟨_,e,i,h.running_of x⟩
 |last L _ s n _=>
  obtain⟨e,i,h⟩:=g.aF.c8 L s;exact⟨_,e,i,h.running_of x⟩
 |fin a _=>exact a.elim
def Sq(e:lE P ty M D val j ad r ae gs J o d bz u y Q av I tag c6 w b b' S):∀l∈gs,awake l:=by
 intro l A E;obtain⟨i,a⟩:=Array.mem_iff_getElem?.1 A;rcases ob i with rfl|q
 .rw[e.dx]at a;cases a;rcases e.dz.status with⟨h,_⟩|⟨h,_⟩<;>rw[h]<;>simp
 rcases d6 i M.base with t|C
 .obtain⟨z,_,x⟩:=e.aF.dt i l q t a;rcases x.status with g|g<;>rw[g]<;>simp
 obtain⟨k,rfl⟩:∃k,i=M.base+k:=⟨i-M.base,by omega⟩
 have B:k<u:=by have:=(je.1 a).1;rw[e.aF.size]at this;omega
 obtain⟨s,n,h⟩:=e.aF.c8 k B;rw[a]at n;cases n;rcases h.status with g|g<;>rw[g]<;>simp
def lE.at(e:lE P ty M D val j ad r ae gs J o d bz u y Q av I tag c6 w b b' S)(IC):lE P ty M D val j ad r ae gs (J.at IC) o d bz u y Q av I tag c6 w b b' S:=
 ⟨e.dx,e.dz,e.rely.eG (bE _) (λ_ _=>rfl) (λ_ _ _ _ g=>g) a a a,e.aG,e.aF.at IC,e.b1,e.mode,e.eH⟩
def adv(h:lE P ty M D val j ad r ae gs J o d bz u y Q av I tag c6 w b b' S)(q:0<e)(F:e<M.base)(z:gs[e]?=f B)(A:B.status=.running):
  ∃E i l,runT P (crowd gs J dE) e=(.next E,i)/\k6 (M.base+j) l ae/\fd P ty M D val j ad r l E (o++i):=by
 obtain⟨t,G,O⟩:=h.aF.dt e B q F z;cases t with
 |zero=>rw[O.1]at A;cases A
 |succ t=>
  rcases O with⟨H,_⟩|⟨_,n,V,X,U,K⟩
  .grind
  .have Y:(e==0)=v:=N;have T:=runT_crowd_go (P:=P) (sl:=dE) (i:=e) z (by rw[Y];exact U J)
   obtain⟨g,k,W,C,Z⟩:=h.dz.h4 B n J;have R:Go.ConcN.Mode u y g b' S:=h.mode.retag C;refine⟨_,_,(phi j (Vc u y) g+Ssum u y+sumTo u Q,(upd av e (cl.dH t),k)),T,?_,_,J,dE,d,bz,u,y,Q,_,I,g,k,woken P B n J w,b,b',S,a,
    ⟨by rw[Go.ConcN.get_map_set _ _ _ _ x,h.dx];rfl,W,h.rely,h.aG,h.aF.bt q F X K,h.b1,R,rfl⟩⟩
   rw[h.eH,Go.ConcN.phi_retag j _ C];exact Prod.Lex.right _ (Prod.Lex.left _ _ ⟨e,by omega,by rw[upd_same,G];exact cl.gx _ b,λaa s=>upd_ne av _ s⟩)
def YS(O:j<2147483648)(y:∀q t,r q t->dt (ag.aG P ty M.f) (dV M.f) (rh P ty M ad r) q t){z}(C:fd P ty M D val j ad r ae z o):
  ∃e a,stepT P z=(.next e,a)/\((∃g d,wX P M D val j ad g d e (o++a))∨∃h,k6 (M.base+j) h ae/\fd P ty M D val j ad r h e (o++a)):=by
 obtain⟨B,N,dE,X,Z,x,S,R,U,V,tag,J,W,t,K,Y,rfl,b⟩:=C;obtain⟨k,q,l,s,i,n,E⟩:=crowd_pick (P:=P) (w:=N) (sl:=dE) (Sq b) (adh b);rw[E];have w:=b.at l;have A:x<=j:=by have:=b.dz.gi;omega
 rcases ob k with rfl|I
 .rw[b.dx]at i;cases i;exact adw (dE:=s) w O y n
 rcases d6 k M.base with Q|T
 .obtain⟨e,a,h,H,G,F⟩:=adv (dE:=s) w I Q i n;grind
 obtain⟨u,rfl⟩:∃u,k=M.base+u:=⟨k-M.base,by omega⟩
 have L:u<x:=by have:=(je.1 i).1;rw[b.aF.size]at this;omega
 obtain⟨e,a,h,H,G,F⟩:=adA (dE:=s) w O A b.dz.gi L i n;grind
def YT(B:j<2147483648)(y:∀t w,r t w->dt (ag.aG P ty M.f) (dV M.f) (rh P ty M ad r) t w):∀i(q:Machine)g,fd P ty M D val j ad r i q g ->
  ∃o n l b a,runNT P o q g=(.next n,l)/\wX P M D val j ad b a n l:=by
 intro i;induction(aa2 (M.base+j)).apply i with
 |intro i _ A=>
  intro q g x;obtain⟨s,d,u,e⟩:=YS B y x;rcases e with⟨b,a,e⟩|⟨h,e,k⟩
  .exact⟨1,s,g++d,b,a,by simp[runNT,u],e⟩
  obtain⟨o,n,l,b,a,k1,z⟩:=A h e s (g++d) k;exact⟨o+1,n,l,b,a,by simp only[runNT,u];exact k1,z⟩
def k3.gl{cG}{Y:ak->a5->Prop}(vw)(an:0<vw)(bo O)(aI:j<2147483648)(au:O≠bo)(Z:eY b cG)(aL:B.status=.running)(ad:∃L∈b.t,O∈L.al)(ah:∃L∈b.t,bo∈L.al)(aC:∀d,(b.own d∨∃L∈b.t,d∈L.al)->d<b.a.heap.size)(bd:∀d,(d=O∨d=bo)->¬cG.own d/\(∀L∈cG.t,d∉L.al)/\∀n,cG.E d n=p)(aE:WgAt ty bo b.a 0 0)(Q:PayAt O D b.a)(bc:∀k:hF,k.f=bo->k.ag=O->k.aQ=vw->∃X U,(∀B b,U B b->dt (ag.aG P ty k.f) (dV k.f) (rh P ty k X U) B b)/\o9 P ty k D val j U j B cG /\
   ∀aa i,X aa i->gk i->PayAt O D i.a->(∀g,g<j->∀r,r<vw->i.a.cell? ⟨O,vw*g+r,p⟩=f (val g r))->O<i.a.heap.size->(∀d,(d=O∨d=bo)->¬i.own d/\(∀L∈i.t,d∉L.al)/\∀n,i.E d n=p) ->
    ∃w,Y aa w/\w.a=i.a/\gk w/\∀h:Nat->Prop,gO h i->¬h O->gO h w):k3 P B b Y:=by
 intro h o T aN a7 bk K G ae x av;have ba:¬h O:=λS=>let ⟨L,G,e⟩:=ad;x.t O S L G e
 have bb:¬h bo:=λS=>let ⟨L,G,e⟩:=ah;x.t bo S L G e
 have M:=aC O (.inr ad);have a_:=aC bo (.inr ah);have R:1<=o.size:=(je.1 K).1;let k:hF:={bF:=h,bP:=aN.size,f:=bo,ag:=O,base:=o.size,aQ:=vw}
 obtain⟨X,U,ab,V,a'⟩:=bc k rfl rfl rfl;have aP:=x.aU Z;have I:gk cG:=.aU Z;have aQ:gj k (λ_=>0) (λ_ _ _=>p) 0 cG:=by
  refine⟨λd e=>⟨a,λl=>N,λl=>N,λl=>?_,by rw[Z.a];exact aC d (Z.blk d e)⟩,λd n aA t=>⟨a,λl=>?_,λl=>?_,λl=>?_,gk.lt I t⟩,λg q=>absurd q (iH g)⟩
  .rcases e with e|⟨L,G,e⟩
   .exact aP.own d l e
   exact aP.t d l L G e
  .grind
  .grind
  rw[aP.E d l n]at t;cases t
 have aS:ii P ty k D val (λ_=>0) (λ_ _ _=>p) 0 o b.a aN (λ_=>⟨0,0,0⟩) (λ_=>0) (λr=>cl.dH (a7 r)) 0:=
  ⟨rfl,λr B s _ aj=>⟨a7 r,rfl,G.old r B s aj⟩,G.above,λg q=>absurd q (iH g),fC.start ae a R au bb ba,av,ae.hears,λg q=>absurd q (iH g),λg q=>absurd q (iH g),λg q=>absurd q (iH g),λg q=>absurd q (iH g),
   Q,⟨_,_,aE⟩,a_,M,x.lt,an,λg q=>absurd q (iH g)⟩
 have aT:cU cG {cG with a:=b.a}:=by have:=cU.ev I;rw[<-Z.a];exact this
 have aO:∃aG,fd P ty k D val j X U aG (crowd o b.a T) aN:=by
  cases j with
  |zero=>
   obtain⟨az,V⟩:=V;exact⟨_,o,b.a,T,_,_,0,_,_,_,0,.kd,az,B,cG,_,_,a,⟨K,.kd V,aT,aQ,aS,aE,by have:=Go.ConcN.Mode.opn (j:=0) (D:=λ_=>(⟨0,0,0⟩:WD)) (tag:=.kd) C (λr s=>absurd s (iH r)) E;simpa[Vc,sumTo,pend]using this,a⟩⟩
  |succ j=>
   obtain⟨az,V⟩:=V;have A:hg P ty k D val (j+1) X U (.sp j 5) (j+1-(j+1)) az 0 B cG:=.fi (Nat.lt_succ_self j) V;rw[uI]at A;exact⟨_,o,b.a,T,_,_,0,_,_,_,0,.sp j 5,az,B,cG,_,_,a,⟨K,A,aT,aQ,aS,aE,by have:=Go.ConcN.Mode.opn (j:=0) (D:=λ_=>(⟨0,0,0⟩:WD)) (tag:=.sp j 5) C (λr s=>absurd s (iH r)) E;simpa[Vc,sumTo,pend]using this,a⟩⟩
 obtain⟨aG,aO⟩:=aO;obtain⟨bj,bf,bh,F,W,ax,⟨aU,z,a8,aF,H,bg,rfl,a0,_,aV,J,ao,aW,aX,aJ,aw,a9,aq,a3,ar⟩⟩:=YT aI ab aG _ _ aO;have aD:gj k F W j {H with a:=z}:=ao.rely J.size;have aR:∀d,(d=O∨d=bo∨h d)->¬H.own d/\(∀L∈H.t,d∉L.al)/\∀n,H.E d n=p:=by
  intro d e;have key:∀g,(F g=0/\g≠k.ag/\g≠k.f/\¬k.bF g/\g<z.heap.size)->g≠d:=N;refine⟨λaK=>key d (aD.blk d (.inl aK)) a,λL G ai=>key d (aD.blk d (.inr ⟨L,G,ai⟩)) a,λn=>?_⟩;cases aH:H.E d n with
  |none=>rfl
  |some aA=>exact absurd rfl (key d (aD.E d n aA aH))
 obtain⟨w,aZ,a6,a4,a1⟩:=a' aF {H with a:=z} aV (λd n aA t=>J.mem d n aA t) aw a9 aq (λd e=>aR d (e.elim .inl λl=>.inr (.inl l)));have a2:gO (λd=>h d∨d=bo) {H with a:=z}:=by have aM:∀d,(h d∨d=bo)->¬H.own d/\(∀L∈H.t,d∉L.al)/\∀n,H.E d n=p:=λd e=>aR d (e.elim (λl=>.inr (.inr l)) λl=>.inr (.inl l));exact⟨λd e=>(aM d e).1,λd e=>(aM d e).2.1,λd e=>(aM d e).2.2,λd e=>e.elim (ar d) λl=>by grind⟩
 grind
end
end
section
open Go.Conc Go.RowKit Go.Conc.Lib Go.ConcR.Gen
open Go.ConcN (WgLive)
open Go.ConcR (KK WgAt stA smA rd wr mk DC0)
variable {L:WgLink}
section
variable (P:aI)(df:au->au->Prop)(L:WgLink)(bo:Nat)(hn:ak)
def Ay(b:ak)(_:au):Prop:=b.status=.running/\∃a,(∀d,ar P m b d=.go a d #[mk .enable])/\∀w1,WgLive L.tWg bo w1->∃e,Goes P m df DC0 (λb _=>b=hn) e a w1
def R4(d:ak)(_:au):Prop:=d.status=.running/\∃b a,a.block=bo/\(∀e,ar P m d e=.go b e #[mk (.read a)])/\∀w1,WgLive L.tWg bo w1->∃g,Goes P m df DC0 (Ay P df L bo hn) g b w1
def Gb(b:ak)(a:au):Prop:=b.status=.running/\∀e:Nat,e<2147483647->WgAt L.tWg bo a (e*KK) 0 ->
 ∃d,ar P m b a=.go d (a.setCell (stA bo) (.int .u64 ((e+1)*KK))) #[rd (stA bo),wr (stA bo)]/\∃g,Goes P m df DC0 (λb a=>R4 P df L bo hn b a∨Ay P df L bo hn b a) g d (a.setCell (stA bo) (.int .u64 ((e+1)*KK)))
def R3(b:ak)(_:au):Prop:=b.status=.running/\∃a,(∀d,ar P m b d=.go a d #[mk .disable])/\∀w1,WgLive L.tWg bo w1->∃e,Goes P m df DC0 (Gb P df L bo hn) e a w1
end
set_option maxRecDepth 100000 in
def So{P}(H:WgLib P L){df:au->au->Prop}{bo}(d:∀{g w1},WgLive L.tWg bo g->df g w1->WgLive L.tWg bo w1){hJ:aL}{hI}{gd:Array ap}{hO:Nat}{hT:n Nat}{hQ:n Item}(g:au)(b:WgLive L.tWg bo g):
  Goes P m df DC0 (R3 P df L bo (G (hJ.at (hI.put ((gd[hO]?).bind (·.dst)) (.tuple #[])) (.inRegion gd hT::hQ)) ai)) 12
   (G ((base L.add).at ⟨#[.pointer (f ⟨bo,0,p⟩),.int .i64 1,K,K,K,K,K,K,K,K,K,K,K,K,K,K,K,K,K,K,K,K,K,K,K,K,K,K,K,K,K,K,K,K,K,K,K,K,K,K,K,K,K,K,K,K,K,K,K,K,K,K,K,K,K,K,K,K,K,K,K,K,K,K,K,K,K,K,K,K,K,K,K,K,K,K,K,K,K,K,K,K,K,K,K,K,K,K,K,K,K,K,K,K,K,K,K,K,K,K,K,K,K,K,K,K,K,K,K,K,K,K,K,K,K,K,K],[]⟩ [.code (body_add L)]) (hJ.at hI (.inRegion gd (hO::hT)::hQ)::ai)) g:=by
 lib_facts
 simp only[body_add,addFn,ir]
 repeat (u_c ax d b)
 u_cond m d b
 repeat (u_c ax d b)
 u_reg d b
 u_op d b
 u_op d b
 u_c aE d b
 repeat (u_c ax d b)
 u_cond v d b
 u_c stepG_skip d b
 repeat (u_c ax d b)
 u_reg d b
 refine Goes.stop (λt k=>?_);refine⟨a,_,λg=>stepG_mark0 .disable E a a (by k_ne) a H.f_disable (x_disable_n L) (x_disable_b L) (x_disable_x L) (x_disable_f L),λg b=>?_⟩;clear k;refine⟨40,?_⟩
 walk_nrm
 u_c aE d b
 repeat (u_c ax d b)
 u_reg d b
 u_defer d b
 u_c aE d b
 repeat (u_c ax d b)
 u_reg d b
 u_op d b
 u_c aE d b
 repeat (u_c ax d b)
 u_reg d b
 u_bub d b
 u_c aE d b
 repeat (u_c ax d b)
 u_cond v d b
 u_c stepG_skip d b
 repeat (u_c ax d b)
 u_reg d b
 u_op d b
 u_op d b
 u_op d b
 u_op d b
 u_op d b
 u_op d b
 u_call H.f_uAdd (nm_uAdd L) uAddFn d b
 repeat (u_c ax d b)
 u_reg d b
 u_op d b
 u_c aE d b
 repeat (u_c ax d b)
 u_reg d b
 u_op d b
 u_op d b
 u_op d b
 u_op d b
 refine Goes.stop (λo j=>?_);replace b:=d b j;clear j;refine⟨a,λe D h=>?_⟩;have r:KK=4294967296:=rfl;have s:IntKind.u64.wrap ((e:Int)*KK+4294967296)=((e:Int)+1)*KK:=by rw[IntKind.wrap_u64];simp only[r];omega
 refine⟨_,(stepG_add_atomic a a (by k_ne) a H.f_addU64 (x_addU64_n L) (x_addU64_b L) (x_addU64_x L) .u64 (x_addU64_f L) a a h.cellSt (h.thaw 0)).trans (by rw[s];rfl),110,?_⟩;replace b:WgLive L.tWg bo (o.setCell (stA bo) (.int .u64 (((e:Int)+1)*KK))):=⟨_,_,h.setSt _⟩
 clear h
 walk_nrm
 u_op d b
 u_c aE d b
 u_c stepG_ret' d b
 u_leave1 H.f_uAdd d b
 u_op d b
 u_c aE d b
 have z:bits .and .u64 (((e:Int)+1)*4294967296) 2147483648=0:=by have:=Go.ConcN.st_flag (e+1) 0 x x;grind
 have C:bits .and .u64 (((e:Int)+1)*4294967296) 2147483647=0:=by have:=Go.ConcN.st_waiters (e+1) 0 x x;grind
 have F:((e:Int)+1+2147483648) % 4294967296-2147483648=(e:Int)+1:=x;have A:¬((e:Int)+1<0):=x;have B:(0:Int)<(e:Int)+1:=x
 repeat (u_c ax d b)
 u_reg d b
 u_op d b
 u_op d b
 u_op d b
 u_op d b
 u_skip d b
 u_skip d b
 u_op d b
 u_c aE d b
 repeat (u_c ax d b)
 u_cond v d b
 u_c stepG_skip d b
 repeat (u_c ax d b)
 u_reg d b
 u_op d b
 u_op d b
 u_op d b
 u_op d b
 u_c aE d b
 repeat (u_c ax d b)
 u_reg d b
 u_op d b
 u_op d b
 u_op d b
 u_op d b
 u_c aE d b
 by_cases w:(e:Int)+1=1
 .repeat (u_c ax d b)
  u_reg d b
  u_op d b
  u_op d b
  u_op d b
  u_op d b
  u_op d b
  u_op d b
  u_op d b
  u_op d b
  u_op d b
  u_op d b
  u_c aE d b
  repeat (u_c ax d b)
  u_cond m d b
  repeat (u_c ax d b)
  u_reg d b
  u_op d b
  u_op d b
  u_op d b
  u_conv H.underlying_tPU32 H.room_tU32 (Go.ConcN.Gen.WgLive.cell1 b).choose_spec d b
  refine Goes.stop (λu l=>.inl ?_);clear l;refine⟨a,_,⟨bo,1,p⟩,a,λg=>stepG_markAt .read E a a (by k_ne) a H.f_raceRead (x_raceRead_n L) (x_raceRead_b L) (x_raceRead_x L) (x_raceRead_f L) (ad:=⟨bo,1,p⟩) (by simp[Act.eval]),λg b=>⟨50,?_⟩⟩
  walk_nrm
  u_c aE d b
  repeat (u_c ax d b)
  u_reg d b
  u_op d b
  u_op d b
  u_c aE d b
  repeat (u_c ax d b)
  u_cond v d b
  u_c stepG_skip d b
  repeat (u_c ax d b)
  u_reg d b
  u_op d b
  u_op d b
  u_op d b
  u_skip d b
  u_skip d b
  u_op d b
  u_op d b
  u_skip d b
  u_skip d b
  u_skip d b
  u_skip d b
  u_op d b
  u_c aE d b
  repeat (u_c ax d b)
  u_cond v d b
  u_c stepG_skip d b
  repeat (u_c ax d b)
  u_reg d b
  u_op d b
  u_op d b
  u_op d b
  u_skip d b
  u_skip d b
  u_op d b
  u_c aE d b
  repeat (u_c ax d b)
  u_cond m d b
  u_c stepG_ret' d b
  refine Goes.stop (λq i=>?_);clear i;refine⟨a,_,λg=>stepG_unwind_entry (v:=.tuple #[]) (evs:=#[mk .enable]) a H.f_enable (x_enable_n L) (x_enable_b L) (x_enable_x L) (x_enable_f L) (by simp[Extern.Race.none_]) wB wB,λg b=>⟨1,?_⟩⟩
  u_leave0 H.f_add d b
  grind[Goes.stop]
 have y:((e:Int)+1==1)=v:=N
 repeat (u_c ax d b)
 u_reg d b
 u_op d b
 u_op d b
 u_op d b
 u_op d b
 u_op d b
 u_op d b
 u_op d b
 u_op d b
 u_op d b
 u_op d b
 u_c aE d b
 repeat (u_c ax d b)
 u_cond v d b
 u_c stepG_skip d b
 repeat (u_c ax d b)
 u_reg d b
 u_op d b
 u_op d b
 u_c aE d b
 repeat (u_c ax d b)
 u_cond v d b
 u_c stepG_skip d b
 repeat (u_c ax d b)
 u_reg d b
 u_op d b
 u_op d b
 u_op d b
 u_skip d b
 u_skip d b
 u_op d b
 u_op d b
 u_skip d b
 u_skip d b
 u_skip d b
 u_skip d b
 u_op d b
 u_c aE d b
 repeat (u_c ax d b)
 u_cond v d b
 u_c stepG_skip d b
 repeat (u_c ax d b)
 u_reg d b
 u_op d b
 u_op d b
 u_op d b
 u_skip d b
 u_skip d b
 u_op d b
 u_c aE d b
 repeat (u_c ax d b)
 u_cond m d b
 u_c stepG_ret' d b
 refine Goes.stop (λq i=>.inr ?_);clear i;refine⟨a,_,λg=>stepG_unwind_entry (v:=.tuple #[]) (evs:=#[mk .enable]) a H.f_enable (x_enable_n L) (x_enable_b L) (x_enable_x L) (x_enable_f L) (by simp[Extern.Race.none_]) wB wB,λg b=>⟨1,?_⟩⟩
 u_leave0 H.f_add d b
 grind[Goes.stop]
end
section
open Go.Conc Go.RowKit Go.Conc.Lib Go.ConcR.Gen
open Go.ConcN (WgLive)
open Go.ConcR (KK WgAt stA smA rd wr mk DC0)
section
variable (P:aI)(df:au->au->Prop)(L:WgLink)(bo:Nat)(hn:ak)(w:ak->Prop)
def Gc(b:ak)(_:au):Prop:=b.status=.running/\∃a,(∀d,ar P m b d=.go a d #[mk (.acquire (stA bo))])/\∀w1,WgLive L.tWg bo w1->∃e,Goes P m df DC0 (λb _=>b=hn) e a w1
def Az(b:ak)(_:au):Prop:=b.status=.running/\∃a,(∀d,ar P m b d=.go a d #[mk .enable])/\∀w1,WgLive L.tWg bo w1->∃e,Goes P m df DC0 (Gc P df L bo hn) e a w1
def Gf(d:ak)(b:au):Prop:=d.status=.running/\(WgAt L.tWg bo b 0 0->∃a,ar P m d b=.go a b #[rd (stA bo)]/\∃e,Goes P m df DC0 (Az P df L bo hn) e a b)
def Ge(b:ak)(a:au):Prop:=b.status=.running/\b.offers=p/\((∃e,WgAt L.tWg bo a e 0)->ar P m b a=.go {b with status:=.blocked} a #[]) /\
 (WgAt L.tWg bo a 0 1->∃d,ar P m b a=.go d (a.setCell (smA bo) (.int .u32 0)) (semEvents (smA bo))/\∃g,Goes P m df DC0 (Gf P df L bo hn) g d (a.setCell (smA bo) (.int .u32 0)))
def Gg(d:ak)(_:au):Prop:=d.status=.running/\∃b a,a.block=bo/\(∀e,ar P m d e=.go b e #[mk (.write a)])/\∀w1,WgLive L.tWg bo w1->∃g,Goes P m df DC0 (Ge P df L bo hn) g b w1
def Gd(A:Nat)(e:ak)(b:au):Prop:=e.status=.running/\∀d:Nat,d<2147483648->WgAt L.tWg bo b (d*KK) 0 ->
 (d=A->∃a,ar P m e b=.go a (b.setCell (stA bo) (.int .u64 (d*KK+1))) #[rd (stA bo),wr (stA bo)]/\∃g,Goes P m df DC0 (Gg P df L bo hn) g a (b.setCell (stA bo) (.int .u64 (d*KK+1)))) /\
 (d≠A->∃a,ar P m e b=.go a b #[rd (stA bo)]/\∃g,Goes P m df DC0 (λe _=>w e) g a b)
def R6(g:ak)(d:au):Prop:=g.status=.running/\∀b:Nat,b<2147483648->WgAt L.tWg bo d (b*KK) 0 ->
 ∃a,ar P m g d=.go a d #[rd (stA bo)]/\(b=0->∃e,Goes P m df DC0 (Az P df L bo hn) e a d)/\(b≠0->∃e,Goes P m df DC0 (Gd P df L bo hn w b) e a d)
def R5(b:ak)(_:au):Prop:=b.status=.running/\∃a,(∀d,ar P m b d=.go a d #[mk .disable])/\∀w1,WgLive L.tWg bo w1->∃e,Goes P m df DC0 (λb _=>w b) e a w1
end
def rg(L:WgLink)(b:Nat)(e:aL)(d:n aL)(g:ak):Prop:=
 ∃a:Array Z,g=G ((base L.wait).at ⟨a,[]⟩ [.code (L7 L),.inLoop (L7 L),.inBlock 0]) (e::d)/\a.size=84/\a[0]?=f (.pointer (f ⟨b,0,p⟩))
set_option maxRecDepth 100000 in
def afa{L}(H:WgLib P L){df:au->au->Prop}{bo}(d:∀{e w1},WgLive L.tWg bo e->df e w1->WgLive L.tWg bo w1){r}(e)(b:WgLive L.tWg bo e):
  Goes P m df DC0 (R5 P df L bo (rg L bo r ai)) 6 (G ((base L.wait).at ⟨#[.pointer (f ⟨bo,0,p⟩),K,K,K,K,K,K,K,K,K,K,K,K,K,K,K,K,K,K,K,K,K,K,K,K,K,K,K,K,K,K,K,K,K,K,K,K,K,K,K,K,K,K,K,K,K,K,K,K,K,K,K,K,K,K,K,K,K,K,K,K,K,K,K,K,K,K,K,K,K,K,K,K,K,K,K,K,K,K,K,K,K,K,K],[]⟩ [.code (body_wait L)]) (r::ai)) e:=by
 lib_facts
 unfold rg;simp only[L7,body_wait,waitFn,ir]
 repeat (u_c ax d b)
 u_cond m d b
 repeat (u_c ax d b)
 u_reg d b
 refine Goes.stop (λh g=>?_);clear g;refine⟨a,_,λe=>stepG_mark0 .disable E a a (by k_ne) a H.f_disable (x_disable_n L) (x_disable_b L) (x_disable_x L) (x_disable_f L),λe b=>⟨6,?_⟩⟩
 walk_nrm
 u_c aE d b
 repeat (u_c ax d b)
 u_c stepG_block d b
 u_c stepG_loop d b
 exact Goes.stop λ_ _=>⟨_,a,a,a⟩
end
section
open Go.Conc Go.RowKit Go.Conc.Lib Go.ConcR.Gen
open Go.ConcN (WgLive)
open Go.ConcN.Gen
open Go.ConcR (KK WgAt stA smA rd wr mk DC0)
set_option maxRecDepth 100000 in
def ae'{L:WgLink}(H:WgLib P L){df:au->au->Prop}{bo:Nat}(e:∀{h w1},WgLive L.tWg bo h->df h w1->WgLive L.tWg bo w1){hJ:aL}{hI:Act}{gd:Array ap}{hO:Nat}{hT:n Nat}{hQ:n Item}(u:ak)(a5:rg L bo (hJ.at hI (.inRegion gd (hO::hT)::hQ)) ai u)(h:au)(b:WgLive L.tWg bo h):
  ∃ba,Goes P m df DC0 (R6 P df L bo (G (hJ.at (hI.put ((gd[hO]?).bind (·.dst)) (.tuple #[])) (.inRegion gd hT::hQ)) ai) (rg L bo (hJ.at hI (.inRegion gd (hO::hT)::hQ)) ai)) ba u h:=by
 lib_facts
 obtain⟨a4,rfl,bb,D⟩:=a5;obtain⟨bl,bm,bn,bp,bq,br,bs,bt,bu,bw,F,I,J,bO,K,Q,bB,M,R,S,T,bP,U,V,bA,W,X,bK,Y,Z,aa,ab,bN,ae,bI,bD,ag,ah,aj,aP,bF,bG,an,ao,aq,bE,bx,ar,av,aw,az,aA,aC,aD,O,aF,aG,aH,bL,aI,bJ,aJ,aK,aM,aN,bQ,bz,bC,aO,aQ,aR,aS,aT,aU,aV,aW,aX,aZ,y,a0,a1,a2,a3,bH,rfl⟩:=array84 a4 bb;simp only[j9,nc,eW]at D;subst D;refine⟨30,?_⟩;unfold rg;simp only[L7,body_wait,waitFn,ir]
 u_c stepG_block e b
 repeat (u_c ax e b)
 u_reg e b
 u_op e b
 u_op e b
 u_op e b
 u_call H.f_uLoad (nm_uLoad L) uLoadFn e b
 repeat (u_c ax e b)
 u_reg e b
 u_op e b
 u_c aE e b
 repeat (u_c ax e b)
 u_reg e b
 u_op e b
 u_op e b
 u_op e b
 refine Goes.stop (λbc B=>?_);replace b:=e b B;clear B;refine⟨a,λl a' g=>?_⟩;rcases ob l with rfl|z
 .replace g:WgAt L.tWg bo bc 0 0:=N;refine⟨_,stepG_load_atomic (v:=0) a a (by k_ne) a H.f_loadU64 (x_loadU64_n L) (x_loadU64_b L) (x_loadU64_x L) .u64 (x_loadU64_f L) a g.cellSt,λ_=>⟨80,?_⟩,λa_=>absurd a a_⟩;clear g
  walk_nrm
  u_op e b
  u_c aE e b
  u_c stepG_ret' e b
  u_leave1 H.f_uLoad e b
  u_op e b
  u_c aE e b
  repeat (u_c ax e b)
  u_reg e b
  u_op e b
  u_op e b
  u_op e b
  u_op e b
  u_c aE e b
  repeat (u_c ax e b)
  u_reg e b
  u_op e b
  u_op e b
  u_op e b
  u_op e b
  u_c aE e b
  repeat (u_c ax e b)
  u_reg e b
  u_op e b
  u_op e b
  u_c aE e b
  repeat (u_c ax e b)
  u_cond m e b
  repeat (u_c ax e b)
  u_cond m e b
  repeat (u_c ax e b)
  u_reg e b
  refine Goes.stop (λo k=>?_);clear k;refine⟨a,_,λh=>stepG_mark0 .enable E a a (by k_ne) a H.f_enable (x_enable_n L) (x_enable_b L) (x_enable_x L) (x_enable_f L),λh b=>⟨20,?_⟩⟩
  walk_nrm
  u_c aE e b
  repeat (u_c ax e b)
  u_reg e b
  u_op e b
  u_conv H.underlying_tWgP H.room_tWg (Go.ConcN.Gen.WgLive.cell0 b).choose_spec e b
  refine Goes.stop (λo k=>?_);clear k;refine⟨a,_,λh=>stepG_markAt .acquire E a a (by k_ne) a H.f_acquire (x_acquire_n L) (x_acquire_b L) (x_acquire_x L) (x_acquire_f L) Fa,λh b=>⟨40,?_⟩⟩
  walk_nrm
  u_c aE e b
  repeat (u_c ax e b)
  u_reg e b
  u_op e b
  u_op e b
  u_op e b
  u_op e b
  u_op e b
  u_op e b
  u_op e b
  u_op e b
  u_skip e b
  u_skip e b
  u_op e b
  u_c aE e b
  repeat (u_c ax e b)
  u_cond v e b
  u_c stepG_skip e b
  u_c stepG_ret' e b
  u_leave0 H.f_wait e b
  grind[Goes.stop]
 obtain⟨i,d⟩:∃i:Int,(l:Int)*KK=i:=⟨_,rfl⟩;have a6:i / 4294967296=(l:Int):=Of
 have a7:bits .and .u64 i 2147483648=0:=by rw[<-d];have:=Go.ConcN.st_flag l 0 x x;simpa[KK]using this
 have a8:bits .and .u64 i 2147483647=0:=by rw[<-d];have:=Go.ConcN.st_waiters l 0 x x;simpa[KK]using this
 have a9:IntKind.i32.wrap (l:Int)=(l:Int):=by grind[IntKind.wrap_i32]
 have w1:IntKind.u64.wrap (i+1)=i+1:=by rw[IntKind.wrap_u64,<-d];simp only[KK];omega
 have bf:decide ((l:Int)<0)=v:=k9 x;have bg:decide (0<(l:Int))=m:=ff x;have bh:((l:Int)==0)=v:=N;have bj:decide ((l:Int)=0)=v:=k9 x;rw[d]at g;refine⟨_,stepG_load_atomic (v:=i) a a (by k_ne) a H.f_loadU64 (x_loadU64_n L) (x_loadU64_b L) (x_loadU64_x L) .u64 (x_loadU64_f L) a g.cellSt,λr=>absurd r x,λ_=>⟨80,?_⟩⟩;clear g
 walk_nrm
 u_op e b
 u_c aE e b
 u_c stepG_ret' e b
 u_leave1 H.f_uLoad e b
 u_op e b
 u_c aE e b
 repeat (u_c ax e b)
 u_reg e b
 u_op e b
 u_op e b
 u_op e b
 u_op e b
 u_c aE e b
 repeat (u_c ax e b)
 u_reg e b
 u_op e b
 u_op e b
 u_op e b
 u_op e b
 u_c aE e b
 repeat (u_c ax e b)
 u_reg e b
 u_op e b
 u_op e b
 u_c aE e b
 repeat (u_c ax e b)
 u_cnd v e b
 u_c stepG_skip e b
 repeat (u_c ax e b)
 u_reg e b
 u_op e b
 u_op e b
 u_op e b
 u_op e b
 u_op e b
 u_op e b
 u_call H.f_uCas (nm_uCas L) uCasFn e b
 repeat (u_c ax e b)
 u_reg e b
 u_op e b
 u_c aE e b
 repeat (u_c ax e b)
 u_reg e b
 u_op e b
 u_op e b
 u_op e b
 u_op e b
 u_op e b
 refine Goes.stop (λo k=>?_);replace b:=e b k;clear k;refine⟨a,λs w g=>⟨λt=>?_,λt=>?_⟩⟩
 .subst t;rw[d]at g⊢;refine⟨_,(stepG_cas_hit (v:=i) (n:=i+1) a a (by k_ne) a H.f_casU64 (x_casU64_n L) (x_casU64_b L) (x_casU64_x L) .u64 (x_casU64_f L) a a a g.cellSt (g.thaw 0)).trans o2,90,?_⟩;replace b:WgLive L.tWg bo (o.setCell (stA bo) (.int .u64 (i+1))):=⟨_,_,g.setSt _⟩
  clear g
  walk_nrm
  u_op e b
  u_c aE e b
  u_c stepG_ret' e b
  u_leave1 H.f_uCas e b
  u_c aE e b
  repeat (u_c ax e b)
  u_cond m e b
  repeat (u_c ax e b)
  u_reg e b
  u_op e b
  u_op e b
  u_op e b
  u_op e b
  u_c aE e b
  repeat (u_c ax e b)
  u_cond m e b
  repeat (u_c ax e b)
  u_reg e b
  u_op e b
  u_op e b
  u_op e b
  u_conv H.underlying_tPU32 H.room_tU32 (Go.ConcN.Gen.WgLive.cell1 b).choose_spec e b
  refine Goes.stop (λo k=>?_);clear k;refine⟨a,_,⟨bo,1,p⟩,a,λh=>stepG_markAt .write E a a (by k_ne) a H.f_raceWrite (x_raceWrite_n L) (x_raceWrite_b L) (x_raceWrite_x L) (x_raceWrite_f L) (ad:=⟨bo,1,p⟩) (by simp[Act.eval]),λh b=>⟨60,?_⟩⟩
  walk_nrm
  u_c aE e b
  repeat (u_c ax e b)
  u_reg e b
  u_op e b
  u_c aE e b
  repeat (u_c ax e b)
  u_reg e b
  u_op e b
  u_op e b
  u_op e b
  u_op e b
  u_skip e b
  u_op e b
  u_c aE e b
  repeat (u_c ax e b)
  u_cond v e b
  u_c stepG_skip e b
  repeat (u_c ax e b)
  u_reg e b
  u_op e b
  u_op e b
  u_op e b
  u_op e b
  refine Goes.stop (λbd C=>?_);replace b:=e b C;clear C;refine⟨a,a,λ⟨bk,g⟩=>stepG_semacquire_wait a a a H.f_semacquire (x_semacquire_n L) (x_semacquire_b L) (x_semacquire_x L) (x_semacquire_f L) (by simp[Act.eval,smA]) g.cellSm,λq=>?_⟩;refine⟨_,(stepG_semacquire (n:=1) a a (by k_ne) a H.f_semacquire (x_semacquire_n L) (x_semacquire_b L) (x_semacquire_x L) (x_semacquire_f L) (by simp[Act.eval,smA]) q.cellSm (by k_ne) (q.thaw 1)).trans o2,40,?_⟩;replace b:WgLive L.tWg bo (bd.setCell (smA bo) (.int .u32 0)):=⟨_,_,q.setSm 0⟩
  clear q
  walk_nrm
  u_c aE e b
  repeat (u_c ax e b)
  u_reg e b
  u_op e b
  u_op e b
  u_op e b
  u_call H.f_uLoad (nm_uLoad L) uLoadFn e b
  repeat (u_c ax e b)
  u_reg e b
  u_op e b
  u_c aE e b
  repeat (u_c ax e b)
  u_reg e b
  u_op e b
  u_op e b
  u_op e b
  refine Goes.stop (λbM A=>?_);replace b:=e b A;clear A;refine⟨a,λg=>⟨_,stepG_load_atomic (v:=0) a a (by k_ne) a H.f_loadU64 (x_loadU64_n L) (x_loadU64_b L) (x_loadU64_x L) .u64 (x_loadU64_f L) a g.cellSt,40,?_⟩⟩;clear g
  walk_nrm
  u_op e b
  u_c aE e b
  u_c stepG_ret' e b
  u_leave1 H.f_uLoad e b
  u_op e b
  u_op e b
  u_c aE e b
  repeat (u_c ax e b)
  u_cond m e b
  repeat (u_c ax e b)
  u_reg e b
  refine Goes.stop (λo k=>?_);clear k;refine⟨a,_,λh=>stepG_mark0 .enable E a a (by k_ne) a H.f_enable (x_enable_n L) (x_enable_b L) (x_enable_x L) (x_enable_f L),λh b=>⟨20,?_⟩⟩
  walk_nrm
  u_c aE e b
  repeat (u_c ax e b)
  u_reg e b
  u_op e b
  u_conv H.underlying_tWgP H.room_tWg (Go.ConcN.Gen.WgLive.cell0 b).choose_spec e b
  refine Goes.stop (λo k=>?_);clear k;refine⟨a,_,λh=>stepG_markAt .acquire E a a (by k_ne) a H.f_acquire (x_acquire_n L) (x_acquire_b L) (x_acquire_x L) (x_acquire_f L) Fa,λh b=>⟨40,?_⟩⟩
  walk_nrm
  u_c aE e b
  repeat (u_c ax e b)
  u_reg e b
  u_op e b
  u_c aE e b
  repeat (u_c ax e b)
  u_cond v e b
  u_c stepG_skip e b
  u_c stepG_ret' e b
  u_leave0 H.f_wait e b
  grind[Goes.stop]
 refine⟨_,stepG_cas_miss (v:=(s:Int)*KK) (old:=i) (n:=i+1) a a (by k_ne) a H.f_casU64 (x_casU64_n L) (x_casU64_b L) (x_casU64_x L) .u64 (x_casU64_f L) a a a g.cellSt (g.thaw 0) Of,30,?_⟩;clear g
 walk_nrm
 u_op e b
 u_c aE e b
 u_c stepG_ret' e b
 u_leave1 H.f_uCas e b
 u_c aE e b
 repeat (u_c ax e b)
 u_cond v e b
 u_c stepG_skip e b
 u_c stepG_inBlock e b
 u_c stepG_inLoop e b
 exact Goes.stop λ_ _=>⟨_,a,by simp,by simp⟩
end
section
open Go.Conc Go.Conc.Lib
open Go.ConcN (WgLive)
open Go.ConcR (KK WgAt stA smA rd wr mk DC0 Payload)
def fB(b:aq)(a:Nat)(d w1:au):Prop:=WgLive b a d->WgLive b a w1
def fB.refl{ty}{bo}(a):fB ty bo a a:=id
def fB.trans{ty}{bo}{a i r}(b:fB ty bo a i)(d:fB ty bo i r):fB ty bo a r:=λe=>d (b e)
def nY(b:au->au->Prop)(a:ak->au->Prop)(d:ak)(e:au):Prop:=∀w1,b e w1->a d w1
def Goes.gJ{P}{eS}{e:au->au->Prop}{y:au->au->Array aT->Prop}{a:ak->au->Prop}(aV:∀k l n,e k l->e l n->e k n):
  ∀{j:Nat} {g:ak} {i:au},Goes P eS e y a j g i->Goes P eS e y (nY e a) j g i
 |0,g,i,d=>λw1 h w2 b=>d w2 (aV _ _ _ h b)
 |j+1,g,i,d=>by
  rcases d with d|⟨q,d⟩
  .exact .inl λw1 h w2 b=>d w2 (aV _ _ _ h b)
  refine .inr ⟨q,λw1 h=>?_⟩;have b:=d w1 h;cases o:ar P eS g w1 with
  |go s t r=>
   rw[o,goes_go]at b;rw[goes_go];exact⟨b.1,Goes.gJ aV b.2⟩
  |_=>rw[o]at b;exact b.elim
structure k2(bo:Nat)(ed:a5->Prop):Prop where
 rely:∀b az,ed b->cU b az->ed az
 heap:∀b,ed b->∃l,bd l b
 iY:∀b,ed b->¬b.own bo/\(∀L∈b.t,bo∉L.al)/\∀s,b.E bo s=p
section
variable {P:aI}{L:WgLink}{bo:Nat}{ed:a5->Prop}
def im(b:aq)(a:Nat)(e:a5->Prop)(d:a5):Prop:=e d/\WgLive b a d.a
def k2.hz(Q:k2 bo ed){b}(a:ed b):gk b:=(Q.heap b a).choose_spec.mem
def k2.set(Q:k2 bo ed){b}(i:ed b)(e)(o:e.block=bo)(aa):cU b {b with a:=b.a.setCell e aa}:=by
 obtain⟨q,r,s⟩:=Q.iY b i;have g:∀d,d≠bo->(b.a.setCell e aa).heap[d]?=b.a.heap[d]?:=λd h=>by have:=(aside_setCell b.a e aa).block d N;omega
 refine⟨a,a,a,Nat.le_of_eq (aside_setCell b.a e aa).size.symm,λd h=>g d N,λd j n l=>?_,(aside_setCell b.a e aa).os,(aside_setCell b.a e aa).tape,(aside_setCell b.a e aa).output⟩;have k:d≠bo:=N;show(b.a.setCell e aa).cell? _=_;rw[nk (g d k) j];exact Q.hz i d j n l
def k2.next(Q:k2 bo ed){ty}{b e}(a:im ty bo ed b)(bb:(ag.aG P ty bo).rely b e):im ty bo ed e:=⟨Q.rely b e a.1 bb.1,bb.2 a.2⟩
def k2.jd(Q:k2 bo ed){ty}{b}(a:im ty bo ed b):(ag.aG P ty bo).rely b b:=⟨cU.ev (Q.hz a.1),id⟩
def k2.goes(Q:k2 bo ed){ty}{g:ak->a5->Prop}{Stop:ak->au->Prop}(n:∀B b,im ty bo ed b->nY (fB ty bo) Stop B b.a->dt (ag.aG P ty bo) (dV bo) g B b){j}{B}{b}(h:im ty bo ed b)(k:Goes P m (fB ty bo) DC0 Stop j B b.a):dt (ag.aG P ty bo) (dV bo) g B b:=by refine dt.goes (q:=ag.aG P ty bo) (df:=fB ty bo) (y:=DC0) (Stop:=nY (fB ty bo) Stop) (im ty bo ed) (λb l d e=>Q.next d e) (λb l _ e=>e.2) ?_ (λb d=>Q.jd d) n j B b h (Goes.gJ (λ_ _ _ o r=>o.trans r) k);rintro b i d s ⟨rfl,rfl⟩;exact⟨a,.inl (.aW (Q.heap b d.1).choose_spec)⟩
end
set_option maxRecDepth 100000 in
def TQ{P}{L}(H:WgLib P L){bo}:Frame.enter P L.add #[.pointer (f ⟨bo,0,p⟩),.int .i64 1] .normal=(base L.add).at ⟨#[.pointer (f ⟨bo,0,p⟩),.int .i64 1,K,K,K,K,K,K,K,K,K,K,K,K,K,K,K,K,K,K,K,K,K,K,K,K,K,K,K,K,K,K,K,K,K,K,K,K,K,K,K,K,K,K,K,K,K,K,K,K,K,K,K,K,K,K,K,K,K,K,K,K,K,K,K,K,K,K,K,K,K,K,K,K,K,K,K,K,K,K,K,K,K,K,K,K,K,K,K,K,K,K,K,K,K,K,K,K,K,K,K,K,K,K,K,K,K,K,K,K,K,K,K,K,K,K,K],[]⟩ [.code (Go.ConcR.Gen.body_add L)]:=
 (enter_at (c:=Go.ConcR.Gen.body_add L) _ H.f_add bL).trans bL
set_option maxRecDepth 100000 in
def TR{P}{L}(H:WgLib P L){bo}:Frame.enter P L.wait #[.pointer (f ⟨bo,0,p⟩)] .normal=(base L.wait).at ⟨#[.pointer (f ⟨bo,0,p⟩),K,K,K,K,K,K,K,K,K,K,K,K,K,K,K,K,K,K,K,K,K,K,K,K,K,K,K,K,K,K,K,K,K,K,K,K,K,K,K,K,K,K,K,K,K,K,K,K,K,K,K,K,K,K,K,K,K,K,K,K,K,K,K,K,K,K,K,K,K,K,K,K,K,K,K,K,K,K,K,K,K,K,K],[]⟩ [.code (Go.ConcR.Gen.body_wait L)]:=
 (enter_at (c:=Go.ConcR.Gen.body_wait L) _ H.f_wait bL).trans bL
section
variable [Payload]{P:aI}{L:WgLink}{M:hF}{ed:a5->Prop}{D j:Nat}{val:Nat->Nat->Z}
def Sn(H:WgLib P L)(Q:k2 M.f ed){u}{Next:ak->a5->Prop}{hJ:aL}{hI}{gd}{hO}{hT}{hQ}{ai}(E:∀b,im L.tWg M.f ed b->dt (ag.aG P L.tWg M.f) (dV M.f) (wT P L.tWg M D val u Next) (G (hJ.at (hI.put ((gd[hO]?).bind (·.dst)) (.tuple #[])) (.inRegion gd hT::hQ)) ai) b){b}(g:im L.tWg M.f ed b):
  dt (ag.aG P L.tWg M.f) (dV M.f) (Ao P L.tWg M D val u Next) (G (Frame.enter P L.add #[.pointer (f ⟨M.f,0,p⟩),.int .i64 1] .normal) (hJ.at hI (.inRegion gd (hO::hT)::hQ)::ai)) b:=by
 have C:∀h b,im L.tWg M.f ed b->Ay P (fB L.tWg M.f) L M.f (G (hJ.at (hI.put ((gd[hO]?).bind (·.dst)) (.tuple #[])) (.inRegion gd hT::hQ)) ai) h b.a->dt (ag.aG P L.tWg M.f) (dV M.f) (Ap P L.tWg M D val u Next) h b:=by rintro h b g ⟨l,d,o,q⟩;refine⟨.leaf,l,d,o,λj k=>?_⟩;have i:=Q.next g k;obtain⟨w,n⟩:=q j.a i.2;exact Q.goes (λh b g e=>by obtain rfl:=e b.a (.refl _);grind) i n
 have z:∀h b,im L.tWg M.f ed b->nY (fB L.tWg M.f) (Gb P (fB L.tWg M.f) L M.f (G (hJ.at (hI.put ((gd[hO]?).bind (·.dst)) (.tuple #[])) (.inRegion gd hT::hQ)) ai)) h b.a->dt (ag.aG P L.tWg M.f) (dV M.f) (Al P L.tWg M D val u Next) h b:=by
  rintro h b g e;refine⟨.leaf,(e b.a (.refl _)).1,λj k x y r=>?_⟩;have i:=Q.next g k;obtain⟨d,l,w,n⟩:=(e j.a k.2).2 x y r;have A:im L.tWg M.f ed {j with a:=j.a.setCell (stA M.f) (.int .u64 ((x+1)*KK))}:=⟨Q.rely _ _ i.1 (Q.set i.1 _ rfl _),⟨_,_,r.setSt _⟩⟩;refine⟨d,l,Q.goes (λh b g e=>?_) A n⟩
  rcases e b.a (.refl _)with e|e
  .obtain⟨l,d,s,o,q,t⟩:=e;refine .step l λj k=>⟨d,j,_,q j.a,.inr ⟨a,s,o,.inl a⟩,?_⟩
   have i:=Q.next g k;obtain⟨w,n⟩:=t j.a i.2;exact Q.goes (λh b g e=>C h b g (e b.a (.refl _))) i n
  grind
 have r:=So (P:=P) (L:=L) H (df:=fB L.tWg M.f) (bo:=M.f) (λe B=>B e) (hJ:=hJ) (hI:=hI) (gd:=gd) (hO:=hO) (hT:=hT) (hQ:=hQ) (ai:=ai) b.a g.2;rw[TQ H];refine Q.goes (λh b g e=>?_) g r;obtain⟨l,d,o,q⟩:=e b.a (.refl _);refine⟨.leaf,l,d,o,λj k=>?_⟩;have i:=Q.next g k;obtain⟨w,n⟩:=q j.a i.2;exact Q.goes z i n
section
variable (P L M ed)
def fo(b a:ak)(d:a5):Prop:=im L.tWg M.f ed d/\∃e,Goes P m (fB L.tWg M.f) DC0 (λa _=>a=b) e a d.a
def wS(e:aL)(a:n aL)(b:ak)(d:a5):Prop:=im L.tWg M.f ed d/\∃g,Goes P m (fB L.tWg M.f) DC0 (λb _=>rg L M.f e a b) g b d.a
end
variable {hJ:aL}{hI:Act}{gd:Array ap}{hO:Nat}{hT:n Nat}{hQ:n Item}{ai:n aL}
omit [Payload]in
def Sv(H:WgLib P L)(Q:k2 M.f ed){r x:ak->a5->Prop}(E:∀B b,fo P L M ed (G (hJ.at (hI.put ((gd[hO]?).bind (·.dst)) (.tuple #[])) (.inRegion gd hT::hQ)) ai) B b->r B b)(O:∀B b,wS P L M ed (hJ.at hI (.inRegion gd (hO::hT)::hQ)) ai B b->x B b){B}{b}(g:wS P L M ed (hJ.at hI (.inRegion gd (hO::hT)::hQ)) ai B b):
  dt (ag.aG P L.tWg M.f) (dV M.f) (rh P L.tWg M r x) B b:=by
 generalize u:hJ.at hI (.inRegion gd (hO::hT)::hQ)=T at *;generalize aP:G (hJ.at (hI.put ((gd[hO]?).bind (·.dst)) (.tuple #[])) (.inRegion gd hT::hQ)) ai=l at E;have J:∀B b,im L.tWg M.f ed b->nY (fB L.tWg M.f) (Gc P (fB L.tWg M.f) L M.f l) B b.a->dt (ag.aG P L.tWg M.f) (dV M.f) (Am P L.tWg M r) B b:=by intro B b h g;obtain⟨k,d,s,t⟩:=g b.a (.refl _);exact⟨.leaf,k,d,s,λi e=>E _ _ ⟨Q.next h e,t i.a (Q.next h e).2⟩⟩
 have F:∀B b,im L.tWg M.f ed b->nY (fB L.tWg M.f) (Az P (fB L.tWg M.f) L M.f l) B b.a->dt (ag.aG P L.tWg M.f) (dV M.f) (wU P L.tWg M r) B b:=by intro B b h g;obtain⟨k,d,s,t⟩:=g b.a (.refl _);refine⟨.leaf,k,d,s,λi e=>?_⟩;obtain⟨o,j⟩:=t i.a (Q.next h e).2;exact Q.goes J (Q.next h e) j
 have N:∀B b,im L.tWg M.f ed b->nY (fB L.tWg M.f) (Gf P (fB L.tWg M.f) L M.f l) B b.a->dt (ag.aG P L.tWg M.f) (dV M.f) (Ar P L.tWg M r) B b:=by intro B b h g;refine⟨.leaf,(g b.a (.refl _)).1,λi e n=>?_⟩;obtain⟨d,k,o,j⟩:=(g i.a e.2).2 n;exact⟨d,k,Q.goes F (Q.next h e) j⟩
 have K:∀B b,im L.tWg M.f ed b->nY (fB L.tWg M.f) (Ge P (fB L.tWg M.f) L M.f l) B b.a->dt (ag.aG P L.tWg M.f) (dV M.f) (o4 P L.tWg M r) B b:=by intro B b h g;refine⟨.leaf,(g b.a (.refl _)).1,(g b.a (.refl _)).2.1,λi e=>⟨(g i.a e.2).2.2.1,λn=>?_⟩⟩;obtain⟨d,k,o,j⟩:=(g i.a e.2).2.2.2 n;exact⟨d,k,Q.goes N (b:={i with a:=i.a.setCell (smA M.f) (.int .u32 0)}) ⟨Q.rely _ _ (Q.next h e).1 (Q.set (Q.next h e).1 _ rfl _),⟨_,_,n.setSm 0⟩⟩ j⟩
 have S:∀B b,im L.tWg M.f ed b->nY (fB L.tWg M.f) (Gg P (fB L.tWg M.f) L M.f l) B b.a->dt (ag.aG P L.tWg M.f) (dV M.f) (o4 P L.tWg M r) B b:=by
  intro B b h g;obtain⟨k,d,y,s,t,D⟩:=g b.a (.refl _);refine .step k λi e=>⟨d,i,_,t i.a,.inr ⟨a,y,s,.inr a⟩,?_⟩
  obtain⟨o,j⟩:=D i.a (Q.next h e).2;exact Q.goes K (Q.next h e) j
 have R:∀q B b,im L.tWg M.f ed b->nY (fB L.tWg M.f) (Gd P (fB L.tWg M.f) L M.f l (rg L M.f T ai) q) B b.a->dt (ag.aG P L.tWg M.f) (dV M.f) (Aq P L.tWg M r x q) B b:=by
  intro A B b h g;refine⟨.leaf,(g b.a (.refl _)).1,λi e q w n=>⟨λz=>?_,λz=>?_⟩⟩
  .obtain⟨d,k,o,j⟩:=((g i.a e.2).2 q w n).1 z;exact⟨d,k,Q.goes S (b:={i with a:=i.a.setCell (stA M.f) (.int .u64 (q*KK+1))}) ⟨Q.rely _ _ (Q.next h e).1 (Q.set (Q.next h e).1 _ rfl _),⟨_,_,n.setSt _⟩⟩ j⟩
  obtain⟨d,k,o,j⟩:=((g i.a e.2).2 q w n).2 z;exact⟨d,k,O _ _ ⟨Q.next h e,o,j⟩⟩
 obtain⟨h,o,j⟩:=g;refine Q.goes (λB b h g=>?_) h j;obtain⟨o,n⟩:=ae' (P:=P) (L:=L) H (df:=fB L.tWg M.f) (bo:=M.f) (λg U=>U g) (hJ:=hJ) (hI:=hI) (gd:=gd) (hO:=hO) (hT:=hT) (hQ:=hQ) (ai:=ai) B (by rw[u];exact g b.a (.refl _)) b.a h.2;rw[u,aP]at n;refine Q.goes (λB b h g=>?_) h n;refine⟨.leaf,(g b.a (.refl _)).1,λi e q w n=>?_⟩;obtain⟨d,k,s,t⟩:=(g i.a e.2).2 q w n;refine⟨d,k,λC=>?_,λI=>?_⟩
 .obtain⟨o,j⟩:=s C;exact Q.goes F (Q.next h e) j
 obtain⟨o,j⟩:=t I;exact Q.goes (R q) (Q.next h e) j
omit [Payload]in
def ae_(H:WgLib P L)(Q:k2 M.f ed){r}{h:ak->a5->Prop}(O:∀d b,wS P L M ed r ai d b->h d b){b}(a:im L.tWg M.f ed b):
  dt (ag.aG P L.tWg M.f) (dV M.f) (An P L.tWg M h) (G (Frame.enter P L.wait #[.pointer (f ⟨M.f,0,p⟩)] .normal) (r::ai)) b:=by have o:=afa (P:=P) (L:=L) H (df:=fB L.tWg M.f) (bo:=M.f) (λg n=>n g) (r:=r) (ai:=ai) b.a a.2;rw[TR H];refine Q.goes (λd b a g=>?_) a o;obtain⟨k,e,l,q⟩:=g b.a (.refl _);exact⟨.leaf,k,e,l,λj i=>O _ _ ⟨Q.next a i,q j.a (Q.next a i).2⟩⟩
end
end
section
open Go.Conc Go.RowKit Go.Conc.Lib Go.ConcR.Gen
open Go.ConcN (WgLive Has RW DWs AtR0 EvW)
open Go.ConcN.Gen
open Go.ConcR (KK WgAt stA smA rd wr mk DC0 Payload)
section
variable {df:au->au->Prop}{y:au->au->Array aT->Prop}{Stop Q:ak->au->Prop}
def Goes.hB(k:∀a,df a a)(u:∀b a,Stop b a->∃h s,ar P v b a=.go h a #[s])(r:∀g b a,Q b a->¬Goes P v df y Stop g b a):
  ∀o g b a,Goes P v df DC0 Q o b a->¬Goes P v df y Stop g b a
 |0,g,b,a,j,i=>r g b a (j a (k a)) i
 |o+1,g,b,a,j,i=>by
  rcases j with j|⟨_,j⟩
  .grind
  have e:=j a (k a);cases l:ar P v b a with
  |go h d t=>
   rw[l,goes_go]at e;obtain⟨⟨rfl,rfl⟩,n⟩:=e;have q:¬Stop b d:=λw=>by grind
   cases g with
   |zero=>exact q (i d (k d))
   |succ g=>
    rcases i with i|⟨_,i⟩
    .grind
    have k1:=i d (k d);rw[l,goes_go]at k1;exact Goes.hB k u r o g h d n k1.2
  |_=>rw[l]at e;exact e.elim
def Goes.hy(q:∀b,df b b)(z:∀d b,Stop d b->∃j w,ar P v d b=.go j b #[w])(r:∀e d b,Q d b->Goes P v df y Stop e d b->∀w1,df b w1->Stop d w1):
  ∀n e d b,Goes P v df DC0 Q n d b->Goes P v df y Stop e d b->Goes P v df DC0 Stop n d b
 |0,e,d,b,k,i=>r e d b (k b (q b)) i
 |n+1,e,d,b,k,i=>by
  rcases k with k|⟨u,k⟩
  .exact .inl (r e d b (k b (q b)) i)
  refine .inr ⟨u,λw1 l=>?_⟩;have g:=k w1 l;cases o:ar P v d w1 with
  |go j h x=>
   rw[o,goes_go]at g;rw[goes_go];obtain⟨⟨rfl,rfl⟩,s⟩:=g;have t:¬Stop d h:=λu=>by grind
   refine⟨⟨a,a⟩,?_⟩;cases e with
   |zero=>exact absurd (i h l) t
   |succ e=>
    rcases i with i|⟨_,i⟩
    .grind
    have k1:=i h l;rw[o,goes_go]at k1;exact Goes.hy q z r n e j h s k1.2
  |_=>rw[o]at g;exact g.elim
end
variable [Payload]{L:WgLink}{bo O m_ k:Nat}{val:Z}{r:aL}
def Sc(P:aI)(d:ak)(_:au):Prop:=∃b,∀a,ar P v d a=.go b a #[mk .disable]
def Sd(P:aI)(L:WgLink)(a g l e h:Nat)(d:Z)(j:ak)(b:au):Prop:=
 (WgLive L.tWg a b/\Has g (h-1) d b)/\∃i,(∀b,ar P v j b=.go i b #[mk (.releaseMerge (stA a))])/\∀b,WgLive L.tWg a b/\Has g (h-1) d b->∃k,Goes P v (RW L.tWg a g l e (h-1)) DC0 (Sc P) k i b
set_option maxRecDepth 100000 in
def TA(H:WgLib P L)(d)(b:WgLive L.tWg bo d/\Has O (k-1) val d):
  Goes P v (RW L.tWg bo O j m_ (k-1)) DC0 (Sd P L bo O j m_ k val) 23 (G ((baseD L.done).at ⟨#[.pointer (f ⟨bo,0,p⟩),K,K,K],[]⟩ [.code (body_done L)]) (r::ai)) d:=by
 lib_facts
 simp only[body_done,body_add,doneFn,addFn,ir]
 u_reg kn_rely b
 u_op kn_rely b
 u_in kn_rely b
 refine goes_call a a (by k_ne) a H.f_add (nm_add L) a ⟨by u_nil,?_⟩
 walk_nrmf addFn
 repeat (u_c ax kn_rely b)
 u_cond m kn_rely b
 repeat (u_c ax kn_rely b)
 u_reg kn_rely b
 u_op kn_rely b
 u_op kn_rely b
 u_c aE kn_rely b
 repeat (u_c ax kn_rely b)
 u_cond m kn_rely b
 u_reg kn_rely b
 u_op kn_rely b
 u_conv H.underlying_tWgP H.room_tWg (Go.ConcN.Gen.WgLive.cell0 b.1).choose_spec kn_rely b
 refine Goes.stop (λg e=>?_);replace b:=kn_rely b e;clear e;refine⟨b,_,λd=>stepG_markAt .releaseMerge E a a (by k_ne) a H.f_relMerge (x_relMerge_n L) (x_relMerge_b L) (x_relMerge_x L) (x_relMerge_f L) Fa,λd b=>⟨10,?_⟩⟩
 walk_nrm
 u_c aE kn_rely b
 repeat (u_c ax kn_rely b)
 u_reg kn_rely b
 exact Goes.stop λg e=>⟨_,λd=>stepG_mark0 .disable E a a (by k_ne) a H.f_disable (x_disable_n L) (x_disable_b L) (x_disable_x L) (x_disable_f L)⟩
def Tz(H:WgLib P L){o}(x:r.mode=.returning)(aV:QuitsD P o 0 (G r ai))(b)(n:WgLive L.tWg bo b/\Has O (k-1) val b):
  Goes P v (RW L.tWg bo O j m_ (k-1)) DC0 (AtR0 P L.tWg bo O j m_ k val) 23 (G ((baseD L.done).at ⟨#[.pointer (f ⟨bo,0,p⟩),K,K,K],[]⟩ [.code (body_done L)]) (r::ai)) b:=by
 have I:=doneN (Own:=λ_ _=>False) (Rd:=λ_ _=>False) (Low:=m_) (n:=j) H x aV b n;have t:∀h b,AtR0 P L.tWg bo O j m_ k val h b->∃i y,ar P v h b=.go i b #[y]:=λh b g=>by obtain⟨_,_,i,B,_⟩:=g;grind
 have R:(mk (.releaseMerge (stA bo)):aT)≠mk .disable:=wB;refine Goes.hy (λb=>.refl b) t ?_ _ _ _ _ (TA H b n) I;intro q h b g d w1 l;obtain⟨n,A,B,z⟩:=g;have w:AtR0 P L.tWg bo O j m_ k val h w1∨∃u,Goes P v (RW L.tWg bo O j m_ (k-1)) (DWs bo (λ_ _=>False) (λ_ _=>False) O j k) (AtR0 P L.tWg bo O j m_ k val) u A w1:=by
  cases q with
  |zero=>exact .inl (d w1 l)
  |succ q=>
   rcases d with d|⟨_,d⟩
   .grind
   grind[goes_go]
 rcases w with g|⟨u,g⟩
 .exact g
 exfalso;obtain⟨Q,F⟩:=z w1 (kn_rely n l);refine Goes.hB (λb=>.refl b) t ?_ _ _ _ _ F g;rintro s D w4 ⟨N,C⟩ d;have e:∀b,¬AtR0 P L.tWg bo O j m_ k val D b:=λb E=>by obtain⟨_,_,J,M,_⟩:=E;grind
 cases s with
 |zero=>exact e w4 (d w4 (.refl w4))
 |succ s=>
  rcases d with d|⟨_,d⟩
  .exact e w4 (d w4 (.refl w4))
  have k1:=d w4 (.refl w4);rw[C w4,goes_go]at k1;have:=(k1.1.2 _ (Array.mem_singleton.2 a)).2.1;exact this a
end
section
open Go.RowKit
open Go.Conc (G solo crowd AtRel Past EvL Leavers)
def a5.bA(b:au):a5:={t:=[],E:=λa d=>b.cell? ⟨a,d,p⟩,a:=b,own:=λa=>a<b.heap.size}
def bd.bA(d):bd [] (a5.bA d):=⟨λ_ _ _ b=>b,rfl,by simp,by simp[a5.bA],by simp[a5.bA],λe a=>⟨a,by simp[a5.bA]⟩⟩
def ac0{l}{r}(e:mj P l r aa b)(k:P.inits.idxOf? l=p)(h)(q:∀a g i,b.E a g=f i->h.cell? ⟨a,g,p⟩=f i):∃d,ar P m (G r []) h=.ended (.done aa) h d/\∀j∈d,∃a g i,j=⟨.cell ⟨a,g,p⟩,v,v⟩/\b.E a g=f i:=by
 obtain⟨fn,s,n⟩:=e.fn;obtain⟨w,u⟩:=n h q;refine⟨seen P r.fn ((results fn r.tmps).events P h #[]),?_,λj t=>u j (Go.Conc.mem_seen t)⟩;have o:P.inits.idxOf? r.fn=p:=by rw[e.ji];exact k
 simp[G,ar,unwind,doReturn,e.mode,e.defers,e.kind,s,w,o,GStep.after]
abbrev us:=Nat×aq×Z
abbrev mH(a:n us):n an:=a.map λb=>.J (ee b.1 b.2.1 b.2.2)
def a5.cQ(a:n us)(d:au):a5:={t:=a.map λe=>⟨.pointer (f ⟨e.1,0,p⟩),[e.1]⟩,E:=λb g=>if b∈a.map (·.1)then p else d.cell? ⟨b,g,p⟩,a:=d,own:=λb=>b<d.heap.size/\b∉a.map (·.1)}
def bd.cQ{gs}{t}(C:(gs.map (·.1)).Nodup)(y:∀d∈gs,t.heap[d.1]?=f (.cells #[d.2.2] d.2.1 (0,0))):bd (mH gs) (a5.cQ gs t):=by
 have D:∀d∈gs,d.1<t.heap.size:=λd s=>(je.1 (y d s)).1;have k:∀(e:Nat) L,(a5.cQ gs t).t[e]?=f L->∃d,gs[e]?=f d/\L=⟨.pointer (f ⟨d.1,0,p⟩),[d.1]⟩:=λe L l=>by simp[a5.cQ,ng,rp]at l;grind
 refine⟨λh z J r=>?_,by simp[a5.cQ],λe F L aG g=>?_,λe n L u i w h b j=>?_,λL l h b=>?_,λh b=>⟨b.1,λL l x=>?_⟩⟩
 .simp only[a5.cQ]at r;split at r
  .cases r
  exact r
 .obtain⟨d,i,rfl⟩:=k e L g;simp[mH,ng,i,lJ,eW]at aG;subst aG;have s:=ca i;refine⟨λh=>if h=d.1 then f (.cells #[d.2.2] d.2.1 (0,0))else p,⟨a,br a,λh b=>bl b⟩,λh z b=>?_,λh=>?_,λh b z=>?_⟩
  .simp only at b;split at b
   .rename_i q;cases b;rw[q];exact y d s
   grind
  .by_cases q:h=d.1<;>simp[q]
  rw[gY]at b;subst b;exact br (k_.2 ⟨d,s,a⟩)
 .obtain⟨d,o,rfl⟩:=k e L i;obtain⟨E,I,rfl⟩:=k n u w;rw[gY]at b j;have q:d.1=E.1:=b.symm.trans j;have A:(gs.map (·.1))[e]?=f d.1:=N;have B:(gs.map (·.1))[n]?=f d.1:=N;grind[List.getElem?_inj]
 .obtain⟨e,g⟩:=AW l;obtain⟨d,o,rfl⟩:=k e L g;rw[gY]at b;subst b;exact D d (ca o)
 obtain⟨e,g⟩:=AW l;obtain⟨d,o,rfl⟩:=k e L g;rw[gY]at x;subst x;exact b.2 (k_.2 ⟨d,ca o,a⟩)
def bd.i_{gs}(d:bd (mH gs) b){k}(g:k∈gs):b.a.heap[k.1]?=f (.cells #[k.2.2] k.2.1 (0,0)):=by
 obtain⟨a,j⟩:=AW g;have aG:(mH gs)[a]?=f (.J (ee k.1 k.2.1 k.2.2)):=N;have e:a<c b.t:=by rw[d.len];grind
 obtain⟨h,⟨_,i,_⟩,l,_⟩:=d.box a _ _ aG (bG e);grind
def bk.ja{o}{args}{gs}(i:bk (ag.aJ P) o args (mH gs) res (λ_=>mH gs))(x:P.inits.idxOf? o=p){g}(N:(gs.map (·.1)).Nodup)(W:∀k∈gs,g.heap[k.1]?=f (.cells #[k.2.2] k.2.1 (0,0)))(L:b6 (mH gs) (a5.cQ gs g) A args){fv:Z->au->Prop}(aP:∀t n b,bx (mH gs) b n (res t)->Below g.heap.size g b.a->∀D,fv n (b.a.at D)):
  ∃S last s l z,runNT P (S+1) (solo (G (Frame.enter P o A.toArray .normal) []) g) #[]=(.ended s l,z)/\runN P S (solo (G (Frame.enter P o A.toArray .normal) []) g)=.next last /\
   step P last=.ended s l/\Go.Conc.Good P fv last s l z:=by
 have T:=bd.cQ N W;have key:=i.2 (a5.cQ gs g) A L T (λao b=>∃t n h,ao=G h []/\mj P o h n b/\bx (mH gs) b n (res t)/\Below g.heap.size g b.a) []
  (λt h n b q r w e=>.stop ⟨t,n,h,rfl,q,r,⟨e.os,e.tape,e.output,e.size,λU M=>by
   by_cases B:U∈gs.map (·.1)
   .obtain⟨k,X,rfl⟩:=k_.1 B;rw[w.i_ X,W k X]
   .exact e.a6 U ⟨M,B⟩⟩⟩)
 have aj:AM.jC (λ_=>False)=λ_=>False:=by funext d;cases d<;>rfl
 obtain⟨u,ar,av,aq,b,V,z,az,q,r,w,e,ab,ae,ax,⟨t,n,h,rfl,k1,ah,ak⟩⟩:=key.aJ (λ_=>False) #[G (Frame.enter P o A.toArray .normal) []] p #[] (λ_=>0) T.mem rfl (Go.Conc.leavers_one P _)
  (by rw[aj];exact Go.Conc.past_nil.mono (g0 _)) ⟨λ_ i=>i.elim,λ_ i=>i.elim,λ_ i=>i.elim,λ_ i=>i.elim⟩ (λaC=>by intro t x;simp[Trace.act?]at x)
 have an:=Go.Conc.beside_ends (P:=P) (Shun:=AM.jC ar) (B:=b.a.heap.size) (D:=λ_ _ _=>False) (Post:=fv) (λ_ _ _ i=>i.elim) (sl:=V) (n:=0) w e ab (Go.Conc.Goes.stop λw1 C=>by
  obtain⟨D,rfl⟩:=C;obtain⟨K,I,J⟩:=ac0 k1 x (b.a.at D) (λF s Y R=>r F s Y R);refine⟨a,n,K,I,λB ai=>?_,aP t n b ah ak D⟩;obtain⟨F,s,Y,rfl,R⟩:=J B ai;refine Go.Conc.evL_cell _ _ (λad=>?_) (gk.lt r R);have:=ae.E F ad s
  grind)
 obtain⟨E,last,s,l,aw,O,aA,Q,aa⟩:=an;refine⟨u+E,last,s,l,aw,?_,?_,Q,aa⟩
 .rw[show u+E+1=u+(E+1) by omega];exact(Eh u (E+1) q).trans O
 have B:=runNT_fst P u (crowd #[G (Frame.enter P o A.toArray .normal) []] g p) #[];have H:(runNT P u (crowd #[G (Frame.enter P o A.toArray .normal) []] g p) #[]).1=.next (crowd av b.a V):=by have:runNT P u (crowd #[G (Frame.enter P o A.toArray .normal) []] g p) #[]=_:=q;grind
 grind[Go.Conc.solo_eq_crowd,runN_add]
def Rd.cQ{gs}{l}(S:∀a∈gs,l.heap[a.1]?=f (.cells #[a.2.2] a.2.1 (0,0)))(u:∀a∈gs,∃A z,a.2.2=.iface A z){aa}{o}{h j}{b:Nat->n O}(I:∀(g i:Nat)d,(b g)[i]?=f d->∃kd x,d=O.int kd x)(K:Rd (a5.bA l).E aa (.C o h j b)):Rd (a5.cQ gs l).E aa (.C v h j b):=by
 obtain⟨U,D,B,k,rfl,r,s,R,M,N⟩:=K.jO;refine .hV r s R M λg J i d e=>?_;obtain⟨z,q,y⟩:=N g J i d e;obtain⟨kd,x,rfl⟩:=I g i d e;cases y with
 |int w=>
  refine⟨_,?_,.int w⟩;have q:l.cell? ⟨B,k+g*h+i,p⟩=f (.int kd x):=q;show(if B∈gs.map (·.1)then p else l.cell? _)=_;rw[bl,q];intro t;obtain⟨a,E,rfl⟩:=k_.1 t;obtain⟨A,z,F⟩:=u a E;simp[aM,S a E,F]at q;grind
end
section
open Go.ChangeShapes Go.WideShapes Go.ChangeAt Go.RowKit
def acz{H:Type}{a:aq×Z->H}{x}{O}{os}{r}{fn}{b}{h:n PathCond}{rA JT handsOn again}{q:au->Array Z->Prop}(aa:∀d g args,d.heap=g.heap->q d args->q g args)(own:ownKnob O.prog.godebug=p)(I:os.Started)(W:O.prog.funcs[r]?=f fn)(K:∃(d:au) (i:Tape) (e:Input),d.os=os/\(d.forCall i e).Shaped O.prog/\e.vars=[]/\Input.okWide O.prog (d.forCall i e) .any d.heap.size r e /\
   ((b.pre a O.prog fn h rA (d.forCall i e).memory e.args/\q (d.forCall i e).memory e.args)/\sizedMet a O.prog fn (OpenSpec.ofChange b) rA (d.forCall i e).memory e.args)/\x.holds O.prog (lone (Frame.enter O.prog r e.args .normal) [] (d.forCall i e)))(M:∀(k:au) (base:Nat) (args:Array Z) (l o:n (DataW H)) (w:n MemPlace),
   (∀(z:Nat) A t,fn.params[z]?=f A->args[z]?=f t->Value.okWide O.prog k .any base A t) ->
   DataW.Whole a O.prog fn.params.toList b.vars rA k args.toList l o w->k.ShapedOpen O.prog->q k args ->
   ∃u last s g j,runNT O.prog (u+1) (Conc.solo (Conc.G (Frame.enter O.prog r args .normal) []) k) #[]=(.ended s g,j)/\runN O.prog u (Conc.solo (Conc.G (Frame.enter O.prog r args .normal) []) k)=.next last /\
    step O.prog last=.ended s g/\Conc.Good O.prog (λt Q=>b.post a O.prog fn rA JT handsOn again k args t Q) last s g j):
  ReturnsInLeavingWide x O os r .any (λd args=>(b.pre a O.prog fn h rA d args/\q d args)/\sizedMet a O.prog fn (OpenSpec.ofChange b) rA d args) (b.post a O.prog fn rA JT handsOn again):=by refine returnsInLeavingWide_of_good own I K ?_;intro d i e _ V _ U S ad;obtain⟨_,_,_,X,R,_,_,_,_,N⟩:=U;have J:X=fn:=ry (R.symm.trans W);subst J;obtain⟨⟨⟨l,o,w,C,L⟩,F⟩,ab⟩:=S;have T:=DataW.Whole.of_heap (w':=d.forCall i e) o2 C;obtain⟨u,last,s,g,j,y,Y,E,B⟩:=M (d.forCall i e) d.heap.size e.args l o w N T V (aa (d.forCall i e).memory (d.forCall i e) e.args rfl F);exact⟨u,last,s,g,j,y,Y,E,B.mono λt D=>ChangeSpec.post_blind D⟩
def Nj(h){a}{b}{r}(d)(kinds)(e)(i)(iz)(D:r.holds a b)(A:∀y∈d,(r.withDomain y).holds a b)(B:r.wfByText b=m)(x:∀y∈d,(r.withDomain y).wfByText b=m)(u:r.laidByTextAt h a kinds e)(g:r.start=.entering)(k:r.noBlocks=v/\r.again=v)(l:a.checked.prog.mainIs=f (i.1,i.2.toList))(E:(!i.1&&i.2.isEmpty&&!iz)=v)(o:∀j fn,a.checked.prog.funcNamed r.func=f j->a.checked.prog.funcs[j]?=f fn->iz=a.checked.prog.looks []/\∀(z:Nat) s,fn.params[z]?=f s->a.checked.prog.wantsStandIn s=v)(C:m=r.goesBy a.checked.prog):
  Claim7.holds a (.plain b) {stood:={row:=r,standIns:=[],harness:=i,looks:=iz},kinds:=[],alts:=d,goes:=m,laidByText:=m,laidKinds:=kinds,laidTests:=e,laidLooks:=h}:=by
 have n:∀q:OpenClaim,Claim7.isSixth {stood:={row:=q,standIns:=[],harness:=i,looks:=iz},kinds:=[]}=v:=λq=>by exact cQ
 refine⟨Claim7.tied_new_at h kinds e (Claim7.new_of_sixth D i iz g k l (n r) o) B,λy t=>?_,u,(λw=>by cases w),C⟩;exact Claim7.tied_new_at h kinds e (Claim7.new_of_sixth (A y t) i iz g k l (n _) o) (x y t)
end
namespace R1
def x9(b:bB)(a:Nat):Int:=(dj b a-97) % 256
def pT(b:bB)(a:Nat):Bool:=(x9 b (a-1)+2*x9 b (a-2)+3*x9 b (a-3)) % 5==0
def lR(b:bB)(a:Nat):Nat->Nat
 |0=>min (a+8) (c b)
 |d+1=>if c b<=a+(7-d)then c b else if pT b (a+(7-d))then a+(7-d)else lR b a d
def eG(b:bB)(a:Nat):Nat:=lR b a 5
def In(o)(a)(d:a<c o):∀b,b<=5->a<lR o a b/\lR o a b<=c o/\lR o a b<=a+8
 |0,_=>by simp only[lR];omega
 |b+1,e=>by
  simp only[lR];split
  .omega
  split
  .omega
  exact In o a d b x
theorem sY(o)(a)(b:a<c o):a<eG o a/\eG o a<=c o/\eG o a<=a+8:=In o a b 5 x
def lh(a:bB):Nat->Nat->n Nat
 |0,_=>[]
 |d+1,b=>if b<c a then eG a b::lh a d (eG a b)else[]
def Tl(a:bB):n Nat:=lh a (c a) 0
def jX(b:bB):Nat->Nat->n bB
 |0,_=>[]
 |d+1,a=>if a<c b then(b.drop a).take (eG b a-a)::jX b d (eG b a)else[]
def cy(a:bB):n bB:=jX a (c a) 0
def jO(a:n bB):Option bB:=if fG a.flatten&&(cy a.flatten==a)then f a.flatten else p
def cE(a:bB):Bool:=decide (1<=c a)&&decide (c a<=8)&&d9 a
def ga(d:bB):Int:=d.foldl (λb a=>27*b+((a.toNat:Int)-97) % 256+1) 0
def cB(a:Int):Bool:=decide (1<=a)&&decide (a<=99)
def e9(a:Int)(b:bB):Int:=(ga b*(2*a+1)+a*7919) % 999999999989
def e5(a:Nat):Nat:=if a<1∨8<a then 0 else if a<=2 then 2 else if a<=4 then 4 else 8
def fE(a:bB):bB:=if cE a then a++aY (e5 (c a)-c a) 46 else[]
def fk(a:bB):bB:=(a.reverse.dropWhile (·==46)).reverse
def ia(a:bB):Option bB:=if cE (fk a)&&(fE (fk a)==a)then f (fk a)else p
abbrev cW:=Int×bB
abbrev cb:=Int×n cW
def right(b:Int)(a:cW):Bool:=match ia a.2 with|some d=>e9 b d==a.1|none=>v
def Ex(b:n Int):Bool:=(aB (c b)).all λa=>a==0||decide (b.getD (a-1) 0<b.getD a 0)
def h'(b:Int)(a:cb):Bool:=
 decide (1<=a.1)&&decide (a.1<=99)&&cB b&&decide (1<=c a.2)&&decide (c a.2<=4)&&a.2.all (right b)&&Ex (a.2.map (·.1))
def jN(a:Int)(d:cW):Option bB:=match ia d.2 with|some b=>if cB a&&(e9 a b==d.1)then f b else p|none=>p
def gq(b:Int)(e:cb)(d:Int):Option bB:=match e.2.find? (λa=>a.1==d)with|some a=>jN b a|none=>p
def hD(b:cb)(a:n Int):cb:=(b.1,b.2.filter λd=>a.contains d.1)
def fF(e:n cW)(a:cW):n cW:=match e with
 |[]=>[a]
 |b::d=>if a.1<b.1 then a::b::d else b::fF d a
def kV(a e:Int)(b:n bB):cb:=(a,b.foldl (λg d=>fF g (e9 e d,fE d)) [])
abbrev fw:=Int×Int
def gx(a:fw):Bool:=decide (0<=a.1)&&decide (a.1<999999999989)&&decide (1<=a.2)&&decide (a.2<=99)
def eB(e:n fw)(a:fw):n fw:=match e with
 |[]=>[a]
 |b::d=>if b.1<a.1 then b::eB d a else a::(b::d).filter (λg=>!(g.1==a.1))
def ll(b:n fw)(d:Int):Int:=match b.find? (λa=>a.1==d)with|some a=>a.2|none=>0
def dT(b:n cb):n fw:=b.flatMap λa=>a.2.map λd=>(d.1,a.1)
def e7(a:n cb):n fw:=if(dT a).all gx then(dT a).foldl eB []else[]
abbrev m8:=bB×n Int
abbrev eh:=Int×n m8
def oK(b:Int)(a:cZ):m8:=(a.1,(cy a.2).map (e9 b))
def gU(a b:Int)(d:n cZ):eh:=(a,d.map (oK b))
def fh(d:Int)(e:n fw)(a:n bB)(b:bB):n bB:=if ll e (e9 d b)==0&&!a.contains b then a++[b]else a
def gw(b:Int)(e:n cZ)(d:n fw):n bB:=(e.flatMap λa=>cy a.2).foldl (fh b d) []
def dP(b:Int)(a:n cb)(d:Int):Option bB:=a.findSome? λe=>gq b e d
def qL{b}(e:d9 b=m):∀a∈b,97<=a.toNat/\a.toNat<=122:=by intro a d;have:=List.all_eq_true.1 e a d;simpa[jq]using this
def B6:∀(e:bB) (a d:Int)(h:Nat),(∀b∈e,97<=b.toNat/\b.toNat<=122)->0<=a->a<d->1<=d ->
  0<=e.foldl (λa b=>27*a+((b.toNat:Int)-97) % 256+1) a/\e.foldl (λa b=>27*a+((b.toNat:Int)-97) % 256+1) a<d*27 ^ c e
 |[],a,d,_,_,j,i,_=>by grind
 |b::e,a,d,h,g,j,i,o=>by obtain⟨n,k⟩:=g b E;have:=B6 e (27*a+((b.toNat:Int)-97) % 256+1) (d*27) h (λl q=>g l N) x x x;grind[Int.mul_assoc]
def LK:∀{j:Nat},j<=8->(27:Int) ^ j<=282429536481:=by
 intro j a
 match j,a with
 |0,_|1,_|2,_|3,_|4,_|5,_|6,_|7,_|8,_=>decide
def xP{b:bB}(d:cE b=m):0<=ga b/\ga b<282429536481:=by simp[cE,cC,bA]at d;obtain⟨e,a⟩:=B6 b 0 1 0 (qL d.2) x x x;have:=LK d.1.2;rw[Int.one_mul]at a;exact⟨e,Int.lt_of_lt_of_le a this⟩
def Tj:∀a:Fin 200,a.val≠0->Nat.gcd 999999999989 a.val=1:=nW
def abq{w:Nat}{P r a}(b:P=(w:Int))(g:P ∣ r*a)(i:0<r)(k:r<P)(h:Nat.gcd w a.natAbs=1):False:=by
 subst b;have e:w ∣ r.natAbs*a.natAbs:=by have:=Int.natAbs_dvd_natAbs.2 g;grind[Int.natAbs_mul,Int.natAbs_natCast]
 have d:w ∣ r.natAbs:=Nat.Coprime.dvd_of_dvd_mul_right h e;have j:=Nat.le_of_dvd x d;omega
def TN{a b P:Int}(d:a % P=b % P):P ∣ a-b:=Int.dvd_of_emod_eq_zero (by rw[Int.sub_emod,d,Int.sub_self,Int.zero_emod])
def pk(b:bB):Int:=b.foldr (λa d=>27*d+((a.toNat:Int)-97) % 256+1) 0
def H3:∀a:bB,0<=pk a
 |[]=>by simp[pk]
 |b::a=>by have:=H3 a;simp[pk,List.foldr_cons]at *;omega
def H2:∀{S bc:bB},(∀a∈S,97<=a.toNat/\a.toNat<=122)->(∀a∈bc,97<=a.toNat/\a.toNat<=122)->pk S=pk bc->S=bc
 |[],[],_,_,_=>rfl
 |[],r::bc,_,b,d|r::bc,[],b,_,d=>by have:=H3 bc;simp[pk,List.foldr_cons,List.foldr_nil]at *;omega
 |a::S,r::bc,g,b,d=>by have j:=g a E;have k:=b r E;have h:=H2 (S:=S) (bc:=bc) (λe i=>g e N) (λe i=>b e N);simp[pk,List.foldr_cons]at d h;grind[UInt8.toNat_inj]
def Td{a d}(g:cE a=m)(h:cE d=m)(j:ga a=ga d):a=d:=by
 have i:∀a,ga a=pk a.reverse:=λa=>by simp[ga,pk,List.foldr_reverse]
 simp[cE,cC]at g h;rw[i,i]at j;exact List.reverse_inj.1 (H2 (λe b=>qL g.2 e (List.mem_reverse.1 b)) (λe b=>qL h.2 e (List.mem_reverse.1 b)) j)
def abj(l:cB h=m){i j}(n:cE i=m)(q:cE j=m)(g:e9 h i=e9 h j):i=j:=by
 refine Td n q ?_;simp[cB,cC,bA]at l;obtain⟨r,k⟩:=xP n;obtain⟨o,d1⟩:=xP q;have key:∀d e:Int,0<=d->0<=e->d<282429536481->d>e->(d*(2*h+1)+h*7919) % 999999999989=(e*(2*h+1)+h*7919) % 999999999989->False:=by intro d e z y u t g;have b:=TN g;rw[show(d*(2*h+1)+h*7919)-(e*(2*h+1)+h*7919)=(d-e)*(2*h+1) by grind]at b;have s:(2*h+1).natAbs<200:=x;exact abq (w:=999999999989) a b x x (Tj ⟨_,s⟩ N)
 rcases Int.lt_trichotomy (ga i) (ga j)with b|b|b
 .exact(key _ _ o r d1 b g.symm).elim
 .exact b
 exact(key _ _ r o k b g).elim
theorem adE{a}(h:d9 a=m)(j):fk (a++aY j 46)=a:=by
 have i:∀j,List.dropWhile (·==46) ((aY j (46:UInt8))++a.reverse)=a.reverse:=by
  intro j;induction j with
  |zero=>
   simp[List.replicate_zero,qe];cases k:a.reverse with
   |nil=>rfl
   |cons b l=>
    have g:b∈a:=List.mem_reverse.1 N;have:=qL h b g;have d:(b==46)=v:=by simp[eM];rintro rfl;grind
    simp[d]
  |succ j e=>simpa[List.replicate_succ]using e
 unfold fk;grind
def abP{a}(b:cE a=m):ia (fE a)=f a:=by
 have e:d9 a=m:=by simp[cE,cC]at b;exact b.2
 have g:fE a=a++aY (e5 (c a)-c a) 46:=by simp[fE,b]
 have d:fk (fE a)=a:=by grind[adE]
 simp[ia,d,b]
def jy(a:n cW)(b d:Nat):n cW:=(a.set b (a.getD d (0,[]))).set d (a.getD b (0,[]))
def nG(a:n cW)(b d:Nat):Bool:=decide ((a.getD b (0,[])).1<(a.getD d (0,[])).1)
def iY:Nat->n cW->Nat->n cW
  |0,b,_=>b
  |d+1,b,a=>if(a-1) / 2=a then b else if nG b a ((a-1) / 2)=m then iY d (jy b ((a-1) / 2) a) ((a-1) / 2)else b
def jo(b:n cW)(a d:Nat):Nat:=if 2*a+2<d/\nG b (2*a+2) (2*a+1)=m then 2*a+2 else 2*a+1
def g4:Nat->n cW->Nat->Nat->n cW
  |0,a,_,_=>a
  |e+1,a,b,d=>if d<=2*b+1 then a else if nG a (jo a b d) b=m then g4 e (jy a b (jo a b d)) (jo a b d) d else a
def hE(a:n cW)(b:cW):n cW:=iY (c a+1) (a++[b]) (c a)
def g'(a:n cW):n cW:=g4 (c a) (jy a 0 (c a-1)) 0 (c a-1)
def kX:Nat->n cW->n cW
  |0,_=>[]
  |b+1,a=>if c a=0 then[]else(g' a).getD (c a-1) (0,[])::kX b ((g' a).take (c a-1))
def l'(a:n cW):n cW:=kX (c a) (a.foldl hE [])
theorem pQ(d)(e u):c (jy d e u)=c d:=by simp[jy]
def Nw:∀a b d,c (iY a b d)=c b
  |0,_,_=>rfl
  |a+1,b,d=>by unfold iY;split;rfl;split;rw[Nw a,pQ];rfl
def IB:∀a b d e,c (g4 a b d e)=c b
  |0,_,_,_=>rfl
  |a+1,b,d,e=>by unfold g4;split;rfl;split;rw[IB a,pQ];rfl
def LP(d)(k):c (hE d k)=c d+1:=by simp[hE,Nw]
theorem LH(d):c (g' d)=c d:=by simp[g',IB,pQ]
def adI{d}(b:e<c d)(g:u<c d){k}:k∈jy d e u->k∈d:=by intro a;unfold jy at a;grind
def D5(k):hE [] k=[k]:=cQ
def D6(a k):hE [a] k=if k.1<a.1 then[k,a]else[a,k]:=F3
def LO(a i k):hE [a,i] k=if k.1<a.1 then[k,i,a]else[a,i,k]:=F3
def ab6(a i r k):hE [a,i,r] k=if k.1<i.1 then(if k.1<a.1 then[k,a,r,i]else[a,k,r,i])else[a,i,r,k]:=F3
def D4(a){d bb}{k}(e:c d=j+1)(b:g' d=bb++[k])(g:c bb=j):kX (a+1) d=k::kX a bb:=by rw[kX,bl x,b];grind
def abZ(a):kX 1 [a]=[a]:=cQ
def LI(b i):kX 2 [b,i]=[b,i]:=by rw[D4 1 (bb:=[i]) (k:=b) (j:=1) a cQ a,abZ]
def LJ(b i r):kX 3 [b,i,r]=if i.1<r.1 then[b,i,r]else[b,r,i]:=by rw[D4 2 (bb:=if i.1<r.1 then[i,r]else[r,i]) (k:=b) (j:=2) a (by simp[g',g4,jy,jo,nG];split<;>rfl) (by split<;>rfl)];split<;>rw[LI]
def ab0(d i r b):kX 4 [d,i,r,b]=d::kX 3 (if r.1<i.1 then(if r.1<b.1 then[r,i,b]else[b,i,r])else if i.1<b.1 then[i,b,r]else[b,i,r]):=by rw[D4 3 (bb:=if r.1<i.1 then(if r.1<b.1 then[r,i,b]else[b,i,r])else if i.1<b.1 then[i,b,r]else[b,i,r]) (k:=d) (j:=3) a ?_ (by split<;>split<;>rfl)];by_cases e:r.1<i.1<;>by_cases g:r.1<b.1<;>by_cases h:i.1<b.1<;>simp[g',g4,jy,jo,nG,e,g,h]
theorem ab_(d)(r:c d<=4)(i:d.Pairwise λa b=>a.1≠b.1):l' d=d.foldl fF []:=by
  match d,r with
  |[],_=>rfl
  |[a],_=>exact cQ
  |[a,b],_=>
    simp at i;simp[l',List.foldl,D5,D6,fF,fp,gC];split<;>simp[LI]
  |[a,b,e],_=>
    simp at i;obtain⟨⟨x,w⟩,y⟩:=i;simp[l',List.foldl,D5,D6,fF,fp,gC];by_cases n:b.1<a.1<;>by_cases h:e.1<a.1<;>by_cases o:e.1<b.1<;>first|omega |
      (have l:(a.1<b.1)=¬(b.1<a.1):=by grind
       have j:(a.1<e.1)=¬(e.1<a.1):=N;have k:(b.1<e.1)=¬(e.1<b.1):=N
       simp[n,h,o,l,j,k,LO,LJ,fF])
  |[a,b,e,g],_=>
    simp at i;obtain⟨⟨x,w,y⟩,⟨C,D⟩,B⟩:=i;simp[l',List.foldl,D5,D6,fF,fp,gC];by_cases n:b.1<a.1<;>by_cases h:e.1<a.1<;>by_cases o:e.1<b.1<;>by_cases q:g.1<a.1<;>by_cases A:g.1<b.1<;>by_cases u:g.1<e.1<;>first|omega |
      (have l:(a.1<b.1)=¬(b.1<a.1):=by grind
       have j:(a.1<e.1)=¬(e.1<a.1):=N;have k:(b.1<e.1)=¬(e.1<b.1):=N;have s:(a.1<g.1)=¬(g.1<a.1):=N;have z:(b.1<g.1)=¬(g.1<b.1):=N;have t:(e.1<g.1)=¬(g.1<e.1):=N
       simp[n,h,o,q,A,u,l,j,k,s,z,t,LO,ab6,ab0,LJ,fF])
def yU{a:Type}[BEq a][LawfulBEq a]:∀(L b:n a),L.Nodup->(∀d∈L,d∈b)->c L<=c b
 |[],b,_,_=>g0 _
 |e::L,b,o,i=>by
  obtain⟨l,k⟩:=List.nodup_cons.1 o;have h:=i e jf;have:=yU L (b.erase e) k λd g=>by have:d≠e:=λj=>l (j▸g);exact(List.mem_erase_of_ne this).2 (i d (nf _ g))
  have j:=List.length_erase_of_mem h;have:=List.length_pos_of_mem h;simp[fp];omega
def Bb:∀{j k:n Int},j.Pairwise (· < ·)->k.Pairwise (· < ·)->(∀e,e∈j↔e∈k)->j=k
 |[],[],_,_,_=>rfl
 |[],h::k,_,_,a=>by have:=(a h).2 jf;cases this
 |g::j,[],_,_,a=>by have:=(a g).1 jf;cases this
 |g::j,h::k,u,w,a=>by
  obtain⟨r,o⟩:=iG.1 u;obtain⟨s,q⟩:=iG.1 w;have d:=(a g).1 jf;have b:=(a h).2 jf;simp[fr]at d b;have t:g=h:=by
   rcases d with d|d
   .exact d
   rcases b with b|b
   .exact b.symm
   have:=r h b;have:=s g d;omega
  subst t;rw[Bb o q λe=>?_];have l:=a e;simp[fr]at l;constructor
  .intro B;have:=r e B;rcases l.1 (.inr B)with i|i
   .omega
   exact i
  intro B;have:=s e B;rcases l.2 (.inr B)with i|i
  .omega
  exact i
section
variable {q:ag T}
def BB:bK:=λargs a=>match args,a with
 |[.p (.R (.c (.T b)))],[]=>f (bh (fP b),[],[])
 |_,_=>p
def adX:bM q 75 BB:=by intro args g b d a e _;unfold BB at e;grind[Xc]
def xC:bK:=λargs a=>match args,a with
 |[.p (.R (.c (.T b)))],[]=>f (bh (fG b),[],[])
 |_,_=>p
def MX:bM q 76 xC:=by intro args g b d a e _;unfold xC at e;grind[X_]
def BC:bK:=λargs d=>match args,d with
 |[.p (.R (.c (.T a))),.p (.R (.c (.T b)))],[]=>f (bh (ld a b),[],[a≠[],b≠[]])
 |_,_=>p
def t77:bM q 77 BC:=by
 intro args h e g d b a;unfold BC at b;split at b
 .cases b;exact Um _ _ a.1 a.2
 grind
def Ii:n (Nat×bK):=(75,BB)::(76,xC)::(77,BC)::H_
def lQ:a9 q Ii:=a9.cons adX (a9.cons MX (a9.cons t77 qq))
def cn(b:n cZ)(a:Nat):bB:=(b.getD a ([],[])).1
def lB(b:n cZ)(a:Nat):bB:=(b.getD a ([],[])).2
def ku(o)(e):(o.getD e bC.I).1=cn o e:=rfl
def tX(o)(e):(o.getD e bC.I).2=lB o e:=rfl
def iW(b:n cZ)(a:Nat):Bool:=fP (cn b a)&&fG (lB b a)&&(a==0||aW (cn b (a-1)) (cn b a))&&(aB a).all λd=>!ld (cn b d) (cn b a)
def dX(a:n cZ):Bool:=(aB (c a)).all (iW a)&&decide (c a<=6)
def f'{b:Nat->Bool}:(aB j).all b=m↔∀a,a<j->b a=m:=N
def y5{b}(a:fP b=m):b≠[]:=by rintro rfl;exact cQ
def zJ{o}(b:e<c o)(d:iW o e=v):dX o=v:=by
 cases a:dX o with
 |false=>rfl
 |true=>
  simp only[dX,cC]at a;grind
def Yb(o):Y q 43 [bC.C o] [] (bh (dX o)) []:=by
 refine Y.K func43 rfl λy=>?_;have D:=y.C 0 a;refine b_ lQ a C (g.en (λb=>b<=c o/\∀e,e<b->iW o e=m) (λb:Nat=>[(0,bC.C o),(3,R b)]) (λ_=>[]) (λb=>c o-b) 0 a F5 ⟨by omega,by omega⟩ a ?_);rintro b ⟨u,w⟩;by_cases t:b<c o
 .by_cases i:fP (cn o b)=m
  .by_cases I:fG (lB o b)=m
   .by_cases j:b=0∨aW (cn o (b-1)) (cn o b)=m
    .apply g.cn [(0,bC.C o),(3,R b),(4,R 0)] []
     .intro bT;by_cases k:b=0
      .refine a8 lQ [8,16,24,-29] a ?_ (bT _ _ a ?_)
       .simp[-al,t,ku,tX,i,I];omega
       simp[bt]
      have B:=j.resolve_left k;have r:a7 .i64 ((b:Int)-1):=cQ;have z:((b:Int)-1).toNat=b-1:=x;refine a8 lQ [8,16,24,29,-42] a Qc (bT _ _ a ?_);simp[bt]
     ·
      have A:iW o b=(aB b).all (λe=>!ld (cn o e) (cn o b)):=by
       rcases j with rfl|B
       .simp[iW,i,I]
       simp[iW,i,I,B]
      refine g.en (λe=>e<=b/\∀l,l<e->ld (cn o l) (cn o b)=v) (λe:Nat=>[(0,bC.C o),(3,R b),(4,R e)]) (λ_=>[]) (λe=>b-e) 0 a F5 ⟨by omega,by omega⟩ a ?_;rintro e ⟨J,F⟩;by_cases h:e<b
      .have d:fP (cn o e)=m:=by have:=w e h;simp only[iW,cC]at this;exact this.1.1.1
       cases n:ld (cn o e) (cn o b)with
       |true=>
        refine a8 lQ [47,60] a ?_ (g.bS (g.dO (bX.zero a ?_)))
        .simp[-al,t,h,ku,n,y5 i,y5 d];omega
        have:iW o b=v:=N;simp[zJ t this]
       |false=>
        refine a8 lQ [47,-60] a ?_ (g.again (e+1) a ?_ ?_ ?_ a)
        .simp[-al,t,h,ku,n,y5 i,y5 d,a7];omega
        .simp[bt]
        .grind
        omega
      have h:e=b:=x;subst h;refine a8 lQ [-47] a E (g.bt a a ?_);exact b_ lQ a cQ (g.again (e+1) a F5 N x a)
    have k:b≠0:=λs=>j (.inl s);have B:aW (cn o (b-1)) (cn o b)=v:=N;have r:a7 .i64 ((b:Int)-1):=cQ;have z:((b:Int)-1).toNat=b-1:=x;refine a8 lQ [8,16,24,29,42] a Qc (g.bS (bX.zero a ?_));simp[U,zJ t (by simp[iW,k,B])]
   refine a8 lQ [8,16,-24] a ?_ (g.bS (bX.zero a ?_))
   .simp[-al,t,ku,tX,i,I]
   simp[U,zJ t (by simp[iW,I])]
  refine a8 lQ [8,-16] a ?_ (g.bS (bX.zero a ?_))
  .simp[-al,t,ku,i]
  simp[U,zJ t (by simp[iW,i])]
 refine a8 lQ [-8] a bW (g.bt a a ?_);refine b_ lQ a C (g.ar a ?_);simp only[U,dX];grind
end
section
open Go.Proofs Go.Conc.Lib
def q5:WgLink:={add:=189,done:=191,wait:=193,relMerge:=230,disable:=231,enable:=232,inBubble:=233,associate:=234,fatal:=235,uOr:=236,uAdd:=237,raceRead:=238,uLoad:=239,uStore:=240,disassociate:=241,semrelease:=242,acquire:=244,isAssociated:=245,uCas:=246,raceWrite:=247,semacquire:=248,orU64:=283,addU64:=284,loadU64:=285,storeU64:=286,casU64:=289,tWgP:=291,tUP:=217,tAssoc:=293,tWg:=243,tAU:=240,tU64:=238,tUint:=262,tU32:=241,tPU32:=297,tPAU:=344,tPU64:=346,tNoCopy:=235,tANoCopy:=236,tAlign64:=237}
def ww:WgLib T q5 where
 f_add:=Tryz.func189.trans (eN f bL)
 f_done:=Tryz.func191.trans (eN f bL)
 f_wait:=Tryz.func193.trans (eN f bL)
 f_relMerge:=Tryz.func230.trans (eN f bL)
 f_disable:=Tryz.func231.trans (eN f bL)
 f_enable:=Tryz.func232.trans (eN f bL)
 f_inBubble:=Tryz.func233.trans (eN f bL)
 f_associate:=Tryz.func234.trans (eN f bL)
 f_fatal:=Tryz.func235.trans (eN f bL)
 f_uOr:=Tryz.func236.trans (eN f bL)
 f_uAdd:=Tryz.func237.trans (eN f bL)
 f_raceRead:=Tryz.func238.trans (eN f bL)
 f_uLoad:=Tryz.func239.trans (eN f bL)
 f_uStore:=Tryz.func240.trans (eN f bL)
 f_disassociate:=Tryz.func241.trans (eN f bL)
 f_semrelease:=Tryz.func242.trans (eN f bL)
 f_acquire:=Tryz.func244.trans (eN f bL)
 f_isAssociated:=Tryz.func245.trans (eN f bL)
 f_uCas:=Tryz.func246.trans (eN f bL)
 f_raceWrite:=Tryz.func247.trans (eN f bL)
 f_semacquire:=Tryz.func248.trans (eN f bL)
 f_orU64:=Tryz.func283.trans (eN f bL)
 f_addU64:=Tryz.func284.trans (eN f bL)
 f_loadU64:=Tryz.func285.trans (eN f bL)
 f_storeU64:=Tryz.func286.trans (eN f bL)
 f_casU64:=Tryz.func289.trans (eN f bL)
 underlying_tWgP:=Tryz.underlying291
 runUnderlying_tWgP:=Tryz.runUnderlying291
 sizeOf_tWgP:=Tryz.sizeOf291
 isAgg_tWgP:=Tryz.isAgg291
 zeroValue_tWgP:=Tryz.zeroValue291
 underlying_tUP:=Tryz.underlying217
 runUnderlying_tUP:=Tryz.runUnderlying217
 sizeOf_tUP:=Tryz.sizeOf217
 isAgg_tUP:=Tryz.isAgg217
 zeroValue_tUP:=Tryz.zeroValue217
 underlying_tI32:=Tryz.underlying293
 runUnderlying_tI32:=Tryz.runUnderlying293
 sizeOf_tI32:=Tryz.sizeOf293
 isAgg_tI32:=Tryz.isAgg293
 zeroValue_tI32:=Tryz.zeroValue293
 underlying_tWg:=Tryz.underlying243
 runUnderlying_tWg:=Tryz.runUnderlying243
 sizeOf_tWg:=Tryz.sizeOf243
 isAgg_tWg:=Tryz.isAgg243
 zeroValue_tWg:=Tryz.zeroValue243
 underlying_tAU:=Tryz.underlying240
 runUnderlying_tAU:=Tryz.runUnderlying240
 sizeOf_tAU:=Tryz.sizeOf240
 isAgg_tAU:=Tryz.isAgg240
 zeroValue_tAU:=Tryz.zeroValue240
 underlying_tU64:=Tryz.underlying238
 runUnderlying_tU64:=Tryz.runUnderlying238
 sizeOf_tU64:=Tryz.sizeOf238
 isAgg_tU64:=Tryz.isAgg238
 zeroValue_tU64:=Tryz.zeroValue238
 underlying_tSh:=Tryz.underlying262
 runUnderlying_tSh:=Tryz.runUnderlying262
 sizeOf_tSh:=Tryz.sizeOf262
 isAgg_tSh:=Tryz.isAgg262
 zeroValue_tSh:=Tryz.zeroValue262
 underlying_tU32:=Tryz.underlying241
 runUnderlying_tU32:=Tryz.runUnderlying241
 sizeOf_tU32:=Tryz.sizeOf241
 isAgg_tU32:=Tryz.isAgg241
 zeroValue_tU32:=Tryz.zeroValue241
 underlying_tPU32:=Tryz.underlying297
 runUnderlying_tPU32:=Tryz.runUnderlying297
 sizeOf_tPU32:=Tryz.sizeOf297
 isAgg_tPU32:=Tryz.isAgg297
 zeroValue_tPU32:=Tryz.zeroValue297
 underlying_tPAU:=Tryz.underlying344
 runUnderlying_tPAU:=Tryz.runUnderlying344
 sizeOf_tPAU:=Tryz.sizeOf344
 isAgg_tPAU:=Tryz.isAgg344
 zeroValue_tPAU:=Tryz.zeroValue344
 underlying_tPU64:=Tryz.underlying346
 runUnderlying_tPU64:=Tryz.runUnderlying346
 sizeOf_tPU64:=Tryz.sizeOf346
 isAgg_tPU64:=Tryz.isAgg346
 zeroValue_tPU64:=Tryz.zeroValue346
 underlying_t0:=Tryz.underlying0
 runUnderlying_t0:=Tryz.runUnderlying0
 sizeOf_t0:=Tryz.sizeOf0
 isAgg_t0:=Tryz.isAgg0
 zeroValue_t0:=Tryz.zeroValue0
 underlying_t3:=Tryz.underlying3
 runUnderlying_t3:=Tryz.runUnderlying3
 sizeOf_t3:=Tryz.sizeOf3
 isAgg_t3:=Tryz.isAgg3
 zeroValue_t3:=Tryz.zeroValue3
 underlying_t4:=Tryz.underlying4
 runUnderlying_t4:=Tryz.runUnderlying4
 sizeOf_t4:=Tryz.sizeOf4
 isAgg_t4:=Tryz.isAgg4
 zeroValue_t4:=Tryz.zeroValue4
 underlying_t9:=Tryz.underlying9
 runUnderlying_t9:=Tryz.runUnderlying9
 sizeOf_t9:=Tryz.sizeOf9
 isAgg_t9:=Tryz.isAgg9
 zeroValue_t9:=Tryz.zeroValue9
 underlying_t20:=Tryz.underlying20
 runUnderlying_t20:=Tryz.runUnderlying20
 sizeOf_t20:=Tryz.sizeOf20
 isAgg_t20:=Tryz.isAgg20
 zeroValue_t20:=Tryz.zeroValue20
 underlying_t21:=Tryz.underlying21
 runUnderlying_t21:=Tryz.runUnderlying21
 sizeOf_t21:=Tryz.sizeOf21
 isAgg_t21:=Tryz.isAgg21
 zeroValue_t21:=Tryz.zeroValue21
 room_tWg:=bL
 room_tU32:=bL
end
end R1
def b6.imp{h g}{bg a}(i:∀e,bx l b e h->bx l b e g)(j:∀A,b6 l b A bg->b6 l b A a):∀A,b6 l b A (h::bg)->b6 l b A (g::a)
 |[],d=>d.elim
 |e::A,d=>⟨i e d.1,j A d.2⟩
abbrev x4(a:cZ):y:=.p (.agg [.c (.T a.1),.c (.T a.2)])
abbrev nO(a:n cZ)(b:Bool):y:=.ae [.R (.c (.C v 2 (c a) (bC.fn a))),.R (.c (.bool b))]
namespace R1
variable {q:ag T}
def sT:bK:=λargs d=>match args,d with
 |[e],[]=>match ju 2 e with
  |none=>p
  |some (a,b)=>f (bh (dX (bC.af a b)),[],[bC.bT a b])
 |_,_=>p
def zy:bM q 43 sT:=by
 intro args j e g d a b;unfold sT at a;split at a
 .split at a
  .cases a
  rename_i k l h;cases a;exact(Yb _ ).args (λ_ A=>b6.imp (λ_=>bC.cw h b) (λ_ i=>i) A)
 grind
def Ij:n (Nat×bK):=(43,sT)::Ii
def Te:a9 q Ij:=a9.cons zy lQ
end R1
def c0.a0(a:c0 α)(d)(k):bt (c d+1) (cf (c d) (a.fn d) (λb=>[a.a9 k].getD b [])) (a.fn (d++[k])):=by intro b e;unfold cf c0.fn gv;grind
@[simp] theorem bt.same{a:Nat->n O}:bt j a a:=λ_ _=>rfl
@[simp] theorem bt.nil{a b:Nat->n O}:bt 0 a b:=λe d=>by omega
namespace R1
variable {q:ag T}
def Ik:n (Nat×bK):=Ij
def Tf:a9 q Ik:=Te
end R1
def kF.ga{args}(h:kF args l)(k:Nat){ai}(d:args[k]?=f (.p (.agg ai)))(i:Nat){o}{n}(b:ai[i]?=f (Q.c (.C o n j V))):j<=9223372036854775807:=by obtain⟨q,s,g⟩:=h.at d;obtain⟨A,_,a⟩:=g;obtain⟨r,_,e⟩:=bO.get a b;cases e<;>omega
namespace R1
def kK{S:Nat->Bool}(a:e<j)(b:S e=v):(aB j).all S=v:=N
def iJ{S:Nat->Bool}(b:∀a,a<e->S a=m)(g:S e=m):∀a,a<e+1->S a=m:=λa d=>by grind
end R1
def dJ.put(a b:Int):dJ->dJ
 |.nil=>.aw .nil a b .nil
 |.aw d k g e=>if a<k then .aw (d.put a b) k g e else if k<a then .aw d k g (e.put a b)else .aw d a b e
def dJ.af:dJ->n (Int×Int)
 |.nil=>[]
 |.aw a d e b=>a.af++(d,e)::b.af
def dJ.find(a:Int):dJ->Int
 |.nil=>0
 |.aw d b g e=>if a=b then g else if a<b then d.find a else e.find a
namespace R1
theorem acc{d}{b}(g:∀a∈d,a.1<b.1):eB d b=d++[b]:=by
 induction d with
 |nil=>rfl
 |cons i h e=>
  simp[eB];grind
def LV{d a}{b}(h:∀e∈d,e.1<b.1):eB (d++a) b=d++eB a b:=by
 induction d with
 |nil=>rfl
 |cons i d g=>
  simp[uH,eB];grind
def ace{d bb}{b}(g:∀a∈bb,b.1<a.1):eB (d++bb) b=eB d b++bb:=by
 have k:bb.filter (λh=>!(h.1==b.1))=bb:=sx.2 λa j=>by grind
 induction d with
 |nil=>
  cases bb with
  |nil=>rfl
  |cons e bb=>
   have:=g e jf;simp[qe,eB];grind
 |cons e d i=>
  simp[uH,eB];grind
abbrev dJ.fr(a:dJ):Prop:=a.af.Pairwise λb d=>b.1<d.1
theorem D8{g i}:∀{o:dJ},dJ.fr o->(o.put g i).af=eB o.af (g,i)
 |.nil,_=>rfl
 |.aw d e h bb,q=>by
  obtain⟨s,n,t⟩:=pe.1 q;have r:=iG.1 n;have l:∀a∈d.af,a.1<e:=λa b=>t a b (e,h) jf;simp[dJ.put,dJ.af];split
  .rename_i j;simp[dJ.af];rw[D8 (o:=d) s,ace (bb:=(e,h)::bb.af)];grind
  split
  .rename_i _ j;simp[dJ.af];rw[D8 (o:=bb) r.2,LV (d:=d.af) λa b=>by grind];simp[eB];grind
  have k:g=e:=x;subst k;simp[dJ.af];rw[LV (d:=d.af) λa b=>l a b];simp only[eB];rw[bl E,sG,bl E,sx.2 λa b=>by grind]
theorem acg{d}{b}(j:d.Pairwise λe a=>e.1<a.1):(eB d b).Pairwise (λe a=>e.1<a.1)/\∀g∈eB d b,g=b∨g∈d:=by
 induction d with
 |nil=>simp[eB]
 |cons a n h=>
  obtain⟨k,i⟩:=iG.1 j;obtain⟨l,cd⟩:=h i;simp[eB];grind[List.pairwise_cons]
def C2{j}:∀{o:dJ},dJ.fr o->o.find j=ll o.af j
 |.nil,_=>rfl
 |.aw b d q n,l=>by obtain⟨h,e,i⟩:=pe.1 l;have g:=iG.1 e;have s:∀a∈b.af,a.1<d:=λa k=>i a k (d,q) jf;simp[dJ.find,dJ.af];have r:=C2 (j:=j) (o:=b) h;have cd:=C2 (j:=j) (o:=n) g.2;unfold ll at *;grind
end R1
namespace R1
section
variable {q:ag T}
def mP(b:cZ)(a:n cZ×Bool)(d:bB):n cZ×Bool:=if a.2=m then a else if aW d b.1=m then a else(a.1++[b],m)
def y'(d:cZ)(a:n cZ×Bool)(b:cZ):n cZ×Bool:=if b.1=d.1 then a else(a.1++[b],a.2)
def r4(b:cZ)(a:n cZ×Bool)(d:cZ):n cZ×Bool:=y' b (mP b a d.1) d
def mQ(a:cZ)(b:n cZ):n cZ×Bool:=b.foldl (r4 a) ([],v)
def lv(b:n cZ)(a:cZ):n cZ:=if(mQ a b).2=m then(mQ a b).1 else(mQ a b).1++[a]
theorem pr{o}(b:e<c o):o[e]=(cn o e,lB o e):=by have a:o.getD e ([],[])=o[e]:=N;simp only[cn,lB,a]
def ab9{a}{o}(b:e<c o):mQ a (o.take (e+1))=r4 a (mQ a (o.take e)) (cn o e,lB o e):=by rw[xf,bG b,pr b];simp[mQ]
def LQ(a)(uL)(B):(mP a uL B).1.length<=c uL.1+1:=Ag
def ab8(a)(uL)(B):(y' a uL B).1.length<=c uL.1+1:=by unfold y';grind
def LR(b):∀e(a:n cZ×Bool),(e.foldl (r4 b) a).1.length<=c a.1+2*c e
 |[],a=>by simp
 |d::g,a=>by
  have h:=LR b g (r4 b a d);have i:=LQ b a d.1;have j:=ab8 b (mP b a d.1) d;simp only[kb,fp];have:(r4 b a d).1.length<=c a.1+2:=by unfold r4;omega
  omega
abbrev x6(b:Nat)(a:n cZ):y:=.p (.R (.w b 2 (c a) (bC.fn a)))
abbrev nh(a:n cZ):an:=.w 53 2 (c a) (bC.fn a)
def Xm(o)(ae)(F:c o<=4000000):Y q 129 [bC.C o,x4 ae] [] (x6 0 (lv o ae)) [nh (lv o ae)]:=by
 refine Y.K func129 rfl λD=>?_;refine aZ a C (g.bM 5 53 2 a a ?_);let Q:Nat->n cZ×Bool:=λe=>mQ ae (o.take e);have s:∀e,e<=c o->(Q e).1.length<=8000000:=by intro e k;have:=LR ae (o.take e) ([],v);simp at this;show(mQ ae (o.take e)).1.length<=_;unfold mQ;omega
 refine g.b_ (λe=>e<=c o) (λe:Nat=>[(0,bC.C o),(3,aD 0 0),(7,R e),(5,x6 1 (Q e).1),(6,bh (Q e).2)]) (λe=>[.cells 53 [.c (.T ae.1),.c (.T ae.2)],nh (Q e).1]) (λe=>c o-e) 0 a ?_ a ?_ x ?_
 .simp[bt,Q,mQ]
 .simp[bt,Q,mQ]
 intro e k;by_cases t:e<c o
 .have z:Q (e+1)=r4 ae (Q e) (cn o e,lB o e):=ab9 t;have y:=s e k;generalize Q e=b at *;have A:=LQ ae b (cn o e);apply g.cn [(0,bC.C o),(3,aD 0 0),(7,R e),(5,x6 1 (mP ae b (cn o e)).1),(6,bh (mP ae b (cn o e)).2)] [.cells 53 [.c (.T ae.1),.c (.T ae.2)],nh (mP ae b (cn o e)).1]
  .intro bT;cases r:b.2 with
   |true=>
    have j:mP ae b (cn o e)=b:=Ag;rw[j]at bT;refine bN [12,15,909] a gA (bT _ _ a ?_);exact bw
   |false=>
    cases w:aW (cn o e) ae.1 with
    |true=>
     have j:mP ae b (cn o e)=b:=Ag;rw[j]at bT;refine bN [12,-15,-25,909] a ?_ (bT _ _ a ?_)
     .simp[-al,t,ku,w]
     exact bw
    |false=>
     have j:mP ae b (cn o e)=(b.1++[ae],m):=Ag;rw[j]at bT;refine bN [12,-15,25,909] a ?_ (g.bf _ a ?_ (bT _ _ a ?_))
     .simp[-al,t,ku,w,qF];omega
     .exact QJ
     exact QJ
  have u:Q (e+1)=y' ae (mP ae b (cn o e)) (cn o e,lB o e):=z;generalize mP ae b (cn o e)=h at *;by_cases l:cn o e=ae.1
  .have i:Q (e+1)=h:=by rw[u];exact br l
   refine bN [-38] a ?_ (g.b5 (e+1) a ?_ a ?_ ?_ ?_)
   .simp[-al,t,ku,l,a7];omega
   .simp_all
   .simp_all
   .omega
   omega
  have i:Q (e+1)=(h.1++[(cn o e,lB o e)],h.2):=by rw[u];exact bl l
  refine bN [38] a ?_ (g.b5 (e+1) a ?_ a ?_ ?_ ?_)
  .simp[-al,t,ku,l,a7,qF];omega
  .exact P'
  .exact P'
  .omega
  omega
 have:e=c o:=x;subst this;have B:Q (c o)=mQ ae o:=N;have y:=s (c o) (bE _);refine a6 [-12] a E (g.bt a a ?_);have d:lv o ae=if(Q (c o)).2=m then(Q (c o)).1 else(Q (c o)).1++[ae]:=hu;cases r:(Q (c o)).2 with
 |true=>
  rw[r,br a]at d;refine a6 [46] a E (g.bf [.cells 53 [.c (.T ae.1),.c (.T ae.2)],nh (lv o ae)] a ds (g.aM [1] a ds ?_));grind
 |false=>
  rw[r,bl E]at d;refine a6 [-46] a ?_ (g.bf [.cells 53 [.c (.T ae.1),.c (.T ae.2)],nh (lv o ae)] a ?_ (g.aM [1] a ?_ ?_))
  .simp[qF];omega
  .exact Ps
  .exact Ps
  grind
end
end R1
def bt.app0{b a:Nat->n O}:bt j (cf 0 b a) a:=λd _=>by simp[cf]
namespace R1
variable {q:ag T}
def Bl:bK:=λargs g=>match args,g with
 |[h,.p (.agg [.c (.T a),.c (.T b)])],[]=>match ju 2 h with
  |none=>p
  |some (d,e)=>f (x6 0 (lv (bC.af d e) (a,b)) ,[ nh (lv (bC.af d e) (a,b))],[bC.bT d e,c ((bC.af d e))<=4000000])
 |_,_=>p
def t129:bM q 129 Bl:=by
 intro args j g h e a b;unfold Bl at a;split at a
 .split at a
  .cases a
  rename_i k l i;cases a;exact(Xm _ _ (b.2)).args (λ_ A=>b6.imp (λ_=>bC.cw i b.1) (b6.imp (λ_ d=>d) (λ_ d=>d)) A)
 cases a
def Il:n (Nat×bK):=(129,Bl)::Ik
def sX:a9 q Il:=a9.cons t129 (Tf)
def jz(a:n cZ)(b d:bB):n cZ×Bool:=
 if dX a=m/\fP b=m/\fG d=m then(if dX (lv a (b,d))=m then(lv a (b,d),m)else(a,v))else([],v)
abbrev aeS(d:Nat)(a:n cZ)(b:Bool):y:=.ae [.R (.w d 2 (c a) (bC.fn a)),.R (.c (.bool b))]
def No{o}(a:dX o=m):c o<=6:=by simp only[dX,cC,bA]at a;omega
def Jx(o)(b k):Y q 71 [bC.C o,b0 b,b0 k] [] (aeS 0 (jz o b k).1 (jz o b k).2) [nh (jz o b k).1]:=by
 refine Y.K func71 rfl λr=>?_;have d:¬(dX o=m/\fP b=m/\fG k=m)->jz o b k=([],v):=λn=>bl n;cases e:dX o with
 |false=>
  rw[d N];refine a8 sX [-10] a ?_ ?_
  .simp[bC.m,bC.U,e]
  exact FS
 |true=>
  have s:=No e;cases h:fP b with
  |false=>
   rw[d N];refine a8 sX [10,-14] a ?_ ?_
   .simp[bC.m,bC.U,e,h]
   exact FS
  |true=>
   cases l:fG k with
   |false=>
    rw[d N];refine a8 sX [10,14,-19] a ?_ ?_
    .simp[bC.m,bC.U,e,h,l]
    exact FS
   |true=>
    have i:jz o b k=if dX (lv o (b,k))=m then(lv o (b,k),m)else(o,v):=br ⟨e,h,l⟩;cases j:dX (lv o (b,k))with
    |true=>
     rw[j,br a]at i;rw[i];refine a8 sX [10,14,19,29] a ?_ (g.bf [nh (lv o (b,k))] a ?_ (g.aM [0] a ?_ ?_))
     .simp[bC.m,bC.U,e,h,l,j];omega
     .simp[bC.m]
     .simp[bC.m]
     grind
    |false=>
     rw[j,bl E]at i;rw[i];refine a8 sX [10,14,19,-29] a ?_ (g.bf [nh (lv o (b,k)),nh o] a ?_ (g.aM [1] a ?_ ?_))
     .simp[bC.m,bC.U,e,h,l,j,qF];omega
     .simp[bC.m,bt.app0]
     .simp[bt.app0]
     grind
def Yc(o)(b k):Y q 71 [bC.C o,b0 b,b0 k] [] (nO (jz o b k).1 (jz o b k).2) []:=
 (Jx o b k).b4 a E a
def BA:bK:=λargs g=>match args,g with
 |[h,.p (.R (.c (.T d))),.p (.R (.c (.T e)))],[]=>match ju 2 h with
  |none=>p
  |some (a,b)=>f (nO (jz (bC.af a b) d e).1 (jz (bC.af a b) d e).2,[],[bC.bT a b])
 |_,_=>p
def adW:bM q 71 BA:=by
 intro args j g h e a d;unfold BA at a;split at a
 .split at a
  .cases a
  rename_i k l i;cases a;exact(Yc _ _ _ ).args (λ_ A=>b6.imp (λ_=>bC.cw i d) (b6.imp (λ_ b=>b) (b6.imp (λ_ b=>b) (λ_ b=>b))) A)
 cases a
def Im:n (Nat×bK):=(71,BA)::Il
def Tg:a9 q Im:=a9.cons adW (sX)
end R1
def tO(a:n O)(d:Nat):Nat×(Nat->n O):=match c9 d a with|some (.C _ _ e b)=>(e,b)|_=>(0,λ_=>[])
def aC:c0 Int:={bl:=1,a9:=λb=>[.int .i64 b],cp:=λa=>tj a 0,I:=0,inv:=λ_=>rfl,len:=λ_=>rfl}
def bR:c0 bB:={bl:=1,a9:=λb=>[.T b],cp:=λa=>wc a 0,I:=[],inv:=λ_=>rfl,len:=λ_=>rfl}
namespace R1
def bH:c0 cW:={bl:=2,a9:=λb=>[.int .i64 b.1,.T b.2],cp:=λa=>(tj a 0,wc a 1),I:=(0,[]),inv:=λ_=>rfl,len:=λ_=>rfl}
def e3:c0 fw:={bl:=2,a9:=λb=>[.int .i64 b.1,.int .i64 b.2],cp:=λa=>(tj a 0,tj a 1),I:=(0,0),inv:=λ_=>rfl,len:=λ_=>rfl}
abbrev lw(a:cb):O:=.C v 2 (c a.2) (bH.fn a.2)
def a2:c0 cb:={bl:=2,a9:=λb=>[.int .i64 b.1,lw b],cp:=λa=>(tj a 0,bH.af (tO a 1).1 (tO a 1).2),I:=(0,[]),inv:=λb=>by show(b.1,bH.af (c b.2) (bH.fn b.2))=b;rw[bH.m],len:=λ_=>rfl}
def cq:c0 m8:={bl:=2,a9:=λd=>[.T d.1,.C v 1 (c d.2) (aC.fn d.2)],cp:=λa=>(wc a 0,aC.af (tO a 1).1 (tO a 1).2),I:=([],[]),inv:=λb=>by show(b.1,aC.af (c b.2) (aC.fn b.2))=b;rw[aC.m],len:=λ_=>rfl}
def bi:c0 eh:={bl:=2,a9:=λd=>[.int .i64 d.1,.C v 2 (c d.2) (cq.fn d.2)],cp:=λa=>(tj a 0,cq.af (tO a 1).1 (tO a 1).2),I:=(0,[]),inv:=λb=>by show(b.1,cq.af (c b.2) (cq.fn b.2))=b;rw[cq.m],len:=λ_=>rfl}
def a1:c0 (Int×Int):=e3
abbrev fD(a:cb):y:=.p (.agg [.c (.int .i64 a.1),.c (lw a)])
abbrev x2(a:Option bB):y:=.p (.agg [.c (.T (a.getD [])),.c (.bool a.isSome)])
end R1
end Go.AM
