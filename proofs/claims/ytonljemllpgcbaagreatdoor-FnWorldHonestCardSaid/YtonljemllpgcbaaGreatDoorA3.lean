/- Part 3. No condition. -/
import Derived.Test.YtonljemllpgcbaaGreatDoorA2
import Derived.Laws.Externs
import Derived.Lib.Builder
import Derived.Conc.Beside
import Derived.Conc.CrowdRun
import Derived.Conc.WgGenN2
import Derived.Conc.WgGenN3
import Derived.Conc.LeavingOf
import Derived.Below
import Derived.ProofKit
import Derived.OpenShut
import Derived.OpenVars
import Derived.LaidMore
import Derived.Lay
import Derived.SevenTiedAt
set_option linter.all false
set_option maxHeartbeats 8000000
open Go.Proofs
open Go.Proofs.Tryz
open Go.Conc (G)
open List renaming length → c, range → az, replicate → aW, getD_eq_getElem?_getD → aj, all_eq_true → aX
open Go renaming Value → X, TypeId → al, Event → aR, undef → I, World → ar, Frame → aG, FuncId → a1, execOp → ab, Operand → ae, Program → aE, Goroutine → ai, stepG → aq, Oper → ao
open Option renaming some → f, none → n
open Bool renaming true → l, false → v
open Nat renaming beq → ad, ble → ay
open Go.Region renaming wanted → aS
open Go.World renaming cell? → aJ
open Go.Op renaming bytesLess → aT
open Go.Sem renaming events_bind → aD
open Go.Result renaming evThen_ok → aF
open Go.Instr renaming sliceBounds → aV
open Go.Proofs.Tryz renaming prog → V
open Go.MemAct renaming ofEvent → aK
open Go.Conc renaming stepG_seq → aw, stepG_region_end → aC
namespace Go.AM
variable {j z:Nat}{h:Int}{d i e t:Nat}{W:al}{H:X->(Nat->Option Obj)->Prop}{L:Array Bool}{bz:Mem}{E:Nat}{P:aE}{br:ai->a6->Prop}{r:Code}{B:ai}{q:ao}{b:a6}{o:al}{aa:X}{α:Type}{η:ae->x}{ι:Type}{k:m ap}{F:bJ}{all:m ao}{ds:Array al}{cap:m K}{cQ:m x}{k5:Nat->Option Obj}{ag:m aG}{bf:m (Nat×Bool)}{U:Nat->m K}{cP:ae}{gs:Array ai}{aU:m Nat}{cl:m Prop}{off:Nat}{op:BinOp}{aM:Array ao}{Y:m Prop}{bq:m ao}{aB:a6}{ty:al}{val:Nat->Nat->X}{y:m X}{bg:ar}{af:Array ae}{an dh:m ap}{res:ι->x}{aQ:ι->m ap}
variable {CT:m (Nat×bK)}{av:m im}{bd:fw}{ac:m (Nat×cm)}{a4:cm}
section
variable {p:ah P}{bi:m (Nat×cm)}{ac:al}{N:Bool}{v1:X}{bO:Option (Nat×Nat)}{af:m UInt8}{h:Nat}
def I7{P}{i q}{o}{h}:∀(y:m X)a(g:Array X)d(b:Array aR),d.heap[i]?=f (.cells g o h)->h.2<=q+a->q+a+c y<=g.size->(∀e∈y,e.oneCell'=l) ->
  ∀k∈(storeCells ⟨i,q,n⟩ y a).events P d b,k∈b∨∃p,a<=p/\p<a+c y/\k=tQ i (q+p)
 |[],_,_,_,_,_,_,_,_=>λk r=>.inl cS
 |e::j,a,g,d,b,B,F,I,s=>λk r=>by
  have bp:q+a<g.size:=M;have t:d.cell? ⟨i,q+a,n⟩=f g[q+a]:=NW;have D:d.frozen? ⟨i,q+a,n⟩=v:=by obtain⟨z,E⟩:=h;simp[World.frozen?,B,Ao,dp];grind
  have w:(store (⟨i,q+a,n⟩:Addr) e).run P d=.ok () (d.setRow i (g.setIfInBounds (q+a) e)):=NL;have x:(store (⟨i,q+a,n⟩:Addr) e).events P d b=b.push (tQ i (q+a)):=by rw[events_store P d b _ e _ (s e C),t];exact hE
  simp[storeCells,aD,g0,w,x,aF]at r;rcases I7 j (a+1) (g.setIfInBounds (q+a) e) _ _ (setRow_heap _ _ _ _ _ _ B) u M (λA N=>s A M) k r with J|⟨p,O,K,rfl⟩
  .grind
  grind
def mV.at{L}{i B cap}{e:Nat->Option Obj}(s:mV P k b d ac W N v1 (f (B,cap)) af h L i e):
  B≠i/\c af<=cap/\0<cap/\cap<=9223372036854775807/\h<=c af/\(∃g,c (fY af++g)=cap/\e B=f (.cells (fY af++g).toArray W (0,h)))/\(∀r,(e r).isSome=l↔r=i∨r=B)/\B∈L.aj:=by
 obtain⟨u,w,_,_,j,m,o,p,q,a,t⟩:=s.gg;have:u=i:=by rw[s.v]at w;grind
 subst this;obtain⟨g,a,x⟩:=a;exact⟨j,m,o,p,q,⟨g,a,x⟩,t,(s.aj B).2 M⟩
def abh{L}(a:b.s[d]?=f L):b.s.set d L=b.s:=mU
def mV.b6{L}{i B cap}{g:Nat->Option Obj}(s:bb k b)(t:k[d]?=f (.J (eJ ac W N v1 (f (B,cap)) af h)))(e:mV P k b d ac W N v1 (f (B,cap)) af h L i g){oG}{o9}{t_}{bg}(C:c (fY oG++t_)=cap)(J:c oG<=cap)(F:o9<=c oG)(O:bg.heap.size=b.a.heap.size)(o:∀a,a≠B->bg.heap[a]?=b.a.heap[a]?)(S:bg.heap[B]?=f (.cells (fY oG++t_).toArray W (0,o9)))(w:bg.os=b.a.os)(I:bg.tape=b.a.tape)(D:bg.output=b.a.output):
  bb (k.set d (.J (eJ ac W N v1 (f (B,cap)) oG o9))) {b with a:=bg}/\cN k b (k.set d (.J (eJ ac W N v1 (f (B,cap)) oG o9))) {b with a:=bg}:=by
 obtain⟨j,y,q,r,z,⟨bx,A,R⟩,Q,K⟩:=e.at;obtain⟨x,t2⟩:=s.b6 (d:=d) (j1:=eJ ac W N v1 (f (B,cap)) oG o9) (cu:=L) (bg:=bg) t e.s rfl u
  (λa m E=>o a M) (λa m=>.inl m)
  ⟨λa=>if a=B then f (.cells (fY oG++t_).toArray W (0,o9))else g a,⟨i,e.v,e.cell,(show(if i=B then _ else g i)=_ from(bm λp=>j p.symm).trans e.cJ),j,J,q,r,F,⟨t_,C,by simp⟩,λa=>by
   grind⟩,λa T m=>by
   by_cases p:a=B
   .grind
   .simp only[p,dm]at m;rw[o a p];exact e.heap _ _ m,λa=>by
   rw[e.aj a]
   grind⟩ w I D
 rw[abh e.s]at x t2;grind
def a0.ik{t2:al}{U y:ae}(r:q.op=.call {callee:=.builtin .append,args:=#[U,y],argTypes:=#[o,t2]}){a4}(aL:P.underlying o=f (.slice W))(K:P.underlying t2=f .string)(Y:P.info? W=f a4)(X:a4.size=1){B cap}(p:k[d]?=f (.J (eJ ac W N v1 (f (B,cap)) af h)))(Q:η U=cM (jG (f (B,cap)) j))(J:c af=j){b}(R:η y=ax (.V b))(aN:j+c b<=cap):
  a0 P q η k (cM (jG (f (B,cap)) (j+c b))) (k.set d (.J (eJ ac W N v1 (f (B,cap)) (af++b) h))):=by
 intro i V m s;subst J;obtain⟨L,aP,aC,t⟩:=eJ.row (P:=P) m p;obtain⟨ar,au,av,aw,z,⟨g,aA,A⟩,aB,ah⟩:=t.at;have x:=s U;rw[Q]at x;have x:=Rd.ba x;have O:=s y;rw[R]at O;have O:=b6 O;generalize H:V y=aJ at O;cases O with
 |@V e _ Z aM=>
 have ai:e.size=c b:=by rw[<-Z,m4];rfl
 have w:=t.heap _ _ A;have aK:(fY af++g).toArray.size=cap:=M;have ag:=Lib.run_append_room_stringF (P:=P) i.a o t2 q.type W a4 aL K Y X B (c af) cap _ _ w z e u M;have G:((fY af++g).toArray.toList.take (c af)++Lib.strCells e++(fY af++g).toArray.toList.drop (c af+e.size))=fY (af++b)++g.drop (c b):=by
  have D:(fY af++g).take (c af)=fY af:=ES;have E:(fY af++g).drop (c af+e.size)=g.drop (c b):=by rw[List.drop_append,M6,F2 M,ai];simp
  have F:Lib.strCells e=fY b:=by simp[Lib.strCells,fY,Z]
  rw[List.toList_toArray,D,E,F,adw]
 rw[G,ai]at ag;have ab:c g=cap-c af:=ES;have aH:c (fY (af++b)++g.drop (c b))=cap:=ES;have aI:(i.a.setRow B (fY (af++b)++g.drop (c b)).toArray).heap[B]?=f (.cells (fY (af++b)++g.drop (c b)).toArray W (0,h)):=setRow_heap i.a B _ _ W _ w;obtain⟨S,ak⟩:=t.b6 (o9:=h) (bg:=i.a.setRow B (fY (af++b)++g.drop (c b)).toArray) m p aH M M (setRow_size _ _ _) (λC ao=>setRow_other i.a B C _ ao) aI rfl rfl rfl;refine⟨.value (.slice (f ⟨B,0,n⟩) (c af+c b) cap),_,?_,Rd.val a,S,ak,?_⟩
 .rw[la r,x,H];simp[cK,dZ];have aO:(Builtin.append_ #[o,t2] q.type #[jG (f (B,cap)) (c af),.string e]).run P i.a=_:=ag;exact hE
 rw[la r,x,H];refine iU λaD aa=>?_;have I:=Lib.run_firstCells_string (P:=P) i.a 1 e;have an:=run_storeCells_atF P B (c af) W (0,h) (Lib.strCells e) 0 _ i.a w M M (Lib.strCells_oneCell e);have aE:c af+e.size<=cap:=u;have aq:(Builtin.firstCells 1 e.size (.string e)).events P i.a #[]=#[]:=rfl;simp[jG,Builtin.append_,run_underlying aL,run_underlying K,sizeOf,typeInfo,Y,X,Builtin.lenOf,aE,I,aq,g0,an]at aa;rcases I7 (Lib.strCells e) 0 _ i.a _ w M M (Lib.strCells_oneCell e) aD aa with aQ|⟨aR,aF,aG,rfl⟩
 .grind
 exact n_ (b8 t.s) ah (t.C _ ah _)
def a0.il{t2:al}{p i:ae}(g:q.op=.call {callee:=.builtin .append,args:=#[p,i],argTypes:=#[o,t2]}){a4}(w:P.underlying o=f (.slice W))(t:P.underlying t2=f .string)(s:P.info? W=f a4)(B:η p=cM (jG n 0))(A:η i=ax (.V [])):a0 P q η k (cM (jG n 0)) k:=by
 refine .aS λx r y h=>?_;have e:=h p;rw[B]at e;have e:=Rd.ba e;have d:=h i;rw[A]at d;have d:=b6 d;generalize u:r i=C at d;cases d with
 |@V b _ E D=>
 have j:b.size=0:=by have:c b.data.toList=0:=M;rw[m4]at this;exact this
 have m:=Lib.run_firstCells_string (P:=P) x.a a4.size b;rw[j]at m;have z:(Builtin.firstCells a4.size 0 (.string b)).events P x.a #[]=#[]:=rfl;refine⟨.slice n 0 0,?_,Rd.val a,?_⟩
 .rw[la g,e,u];simp[jG,Builtin.append_,run_underlying w,run_underlying t,sizeOf,typeInfo,s,Builtin.lenOf,j,m]
 rw[la g,e,u];simp[jG,Builtin.append_,run_underlying w,run_underlying t,sizeOf,typeInfo,s,Builtin.lenOf,j,m,z]
def So{s}{fn}{Y}(ak:P.underlying o=f (.slice W))(A:P.funcs[s]?=f fn)(O:(fn.name== "runtime.NumGoroutine")=v)(al:fn.body.isNone=l)(R:Extern.findNext fn=n)(G:Extern.find fn=f (Extern.BytealgMakeNoZero.makeNoZero Y #[o])){E:ae}(C:q.op=.call {callee:=.value cP,args:=#[E],argTypes:=ds})(aC:η cP=.n (.R (.c (.fn (.func s) [] []))))(Z:η E=.n (.R (.c (.int .i64 j))))(aM:0<j)(U:j<=140737488355328)(B:k[d]?=f (.J (eJ ac W N v1 n af h))):
  ∀b g,bb k b->(∀av,bv k b (g av) (η av))->∃(F:{aO:Nat×Nat // j<=aO.2}) (t:a6) (I:X),(ab g q).run P b.a=.ok (.value I) t.a/\bv (k.set d (.J (eJ ac W N v1 (f F.1) [] 0))) t I (cM (jG (f F.1) j)) /\
   bb (k.set d (.J (eJ ac W N v1 (f F.1) [] 0))) t/\cN k b (k.set d (.J (eJ ac W N v1 (f F.1) [] 0))) t/\dv b ((ab g q).events P b.a #[]):=by
 intro b g aL D;obtain⟨L,an,aH,m⟩:=eJ.row (P:=P) aL B;have x:g cP=.func (.func s) #[] #[]:=by
  have i:=D cP;rw[aC]at i;have i:=b6 i;generalize g cP=I at i;cases i with
  |fn aK e aT an aI aJ aF aG d1 d2=>
   grind
 have ai:g E=.int .i64 j:=by have i:=D E;rw[Z]at i;have i:=b6 i;generalize g E=I at i;cases i;rfl
 obtain⟨e,i,J,Q⟩:=Lib.run_makeNoZero (P:=P) b.a Y o W ak j u;have Q:=Q (by simp[maxLen];omega);have aw:(callFunc s #[.int .i64 j]).run P b.a=.ok (.value (.slice (f ⟨b.a.heap.size,0,n⟩) j e.size)) (b.a.drew.drew.alloc (.cells e W)):=by rw[run_callFunc_extern A O al R G,i];rfl
 let bg:ar:=b.a.drew.drew.alloc (.cells e W);have V:bg.heap[b.a.heap.size]?=f (.cells e W (0,0)):=lS b.a.drew.drew _;have au:bg.heap.size=b.a.heap.size+1:=by show(b.a.drew.drew.heap.push _).size=_;simp
 obtain⟨z,ag,aP,aQ,aS⟩:=m.gg;have aD:z=an:=by rw[m.v]at ag;grind
 subst aD;have K:=aL.lt L (b8 m.s) z m.mem;have ax:b.a.heap.size≠z:=u;obtain⟨ah,t2⟩:=aL.b6 (d:=d) (j1:=eJ ac W N v1 (f (b.a.heap.size,e.size)) [] 0) (cu:=⟨L.v,[z,b.a.heap.size]⟩) (bg:=bg) B m.s rfl u
  (λp y R=>iX b.a.drew.drew _ y) (λp y=>by
   simp at y;rcases y with rfl|rfl
   .exact .inl m.mem
   grind)
  ⟨λp=>if p=z then f (.cells #[if N then L.v else .pointer n,v1] ac (0,0))else if p=b.a.heap.size then f (.cells e W (0,0))else n,⟨z,m.v,m.cell,by simp,ax,by simp,by omega,by simp[maxLen]at Q;omega,by simp,⟨e.toList,by simp[fY],by exact hE⟩,λp=>by
   grind⟩,λp aN y=>by
   by_cases w:p=z
   .subst w;simp[dA]at y;have:bg.heap[p]?=b.a.heap[p]?:=iX b.a.drew.drew _ K;rw[this,<-y];exact m.heap _ _ m.cJ
   grind,λp=>by grind⟩ rfl rfl rfl
 refine⟨⟨(b.a.heap.size,e.size),J⟩,_,_,?_,Rd.val rfl,ah,t2,?_⟩
 .simp[ab,C,resolve,Deferred.ofValue,invoke,x,ai,aw,bg,jG]
 intro a aB;simp[ab,C,resolve,Deferred.ofValue,invoke,x,ai]at aB;have H:a∈(callFunc s #[.int .i64 j]).events P b.a #[]:=M;have aA:fn.name≠ "runtime.NumGoroutine":=M;have aE:fn.body=n:=by simpa using al
 have key:∀r:Array aR,∀w∈(Extern.BytealgMakeNoZero.makeNoZero Y #[o] #[.int .i64 j]).events P b.a r,w∈r∨∃aa,w=⟨.mark aa,v,l⟩/\Go.Conc.Neutral aa:=by
  intro r w G;change w∈Sem.events P (underlying _ >>= _) _ _ at G;have i:¬(j:Int)<0:=u;have J:¬(281474976710656:Int)<(j:Int):=u;have aq:w∈(askRoom (grownCap b.a j 0 W)).events P b.a.drew r:=by simpa[run_underlying ak,i,J,Question.forced,newRow,grownCap]using G
  grind[Go.Conc.events_askRoom]
 have:a∈(Extern.BytealgMakeNoZero.makeNoZero Y #[o] #[.int .i64 j]).events P b.a ((#[]:Array aR).push ⟨.mark (.extern s),v,l⟩):=by have w:callFunc s #[.int .i64 j]=callFunc s #[.int .i64 j]:=rfl;simpa[callFunc,A,aA,aE,R,G,i]using H
 rcases key _ _ this with ao|⟨aa,rfl,S⟩
 .simp at ao;subst ao;exact .inr ⟨s,rfl⟩
 exact .inl S
def Sp{K av}{i s:ae}(cv:q.op=.call {callee:=.builtin .unsafeString,args:=#[i,s],argTypes:=#[K,av]})(J:P.underlying K=f (.pointer W))(H:P.cellsOf W=1){B cap}(V:k[d]?=f (.J (eJ ac W N v1 (f (B,cap)) af h)))(Z:η i=cM (.pointer (f ⟨B,0,n⟩)))(aa:η s=ax (.int .i64 (c af))):
  a0 P q η k (ax (.V af)) (k.set d (.J (eJ ac W N v1 (f (B,cap)) af (c af)))):=by
 intro b p w Q;obtain⟨L,aV,aU,R⟩:=eJ.row (P:=P) w V;obtain⟨aN,t,aO,aP,aQ,⟨S,D,X⟩,aS,aH⟩:=R.at;have O:=Q i;rw[Z]at O;have O:=Rd.ba O;have ah:p s=.int .i64 (c af):=by have x:=Q s;rw[aa]at x;have x:=b6 x;generalize p s=aY at x;cases x;rfl
 have aL:=R.heap _ _ X;have ai:ab p q=(do pure (.value (<-Builtin.unsafeString_ #[K,av] q.type #[p i,p s]))):=Rw;have Y:(fY af++S).toArray.size=cap:=M;by_cases E:af=[]
 .subst E;have aw:=Lib.run_unsafeString_none (P:=P) b.a K av q.type (f ⟨B,0,n⟩);obtain⟨y,t2⟩:=R.b6 (oG:=[]) (o9:=0) (t_:=S) (bg:=b.a) w V D t C rfl (λ_ _=>rfl) M rfl rfl rfl;refine⟨.value (.string .empty),_,hE,Rd.V a C,y,t2,?_⟩;rw[ai,O,ah];exact Pl
 .have e:∀j i,af[j]?=f i->b.a.cell? ((⟨B,0,n⟩:Addr).add j)=f (.int .u8 i.toNat):=by
   intro j i U;rw[g0];simp[aJ,aL,cW];have ar:=(cO.1 U).1;have:(fY af)[j]?=f (.int .u8 i.toNat):=by simp[fY,U]
   grind
  have al:b.a.shape? B=f (W,cap):=by simp[World.shape?,aL];grind
  have aw:=Lib.run_unsafeString_row (P:=P) b.a K av q.type W J H B cap al af E t u e;have ak:c af≠0:=M;have F:(b.a.freeze ⟨B,0,n⟩ (c af)).heap[B]?=f (.cells (fY af++S).toArray W (0,c af)):=by simp[World.freeze,ak,dm,Ay,dA,aL,lD];grind
  obtain⟨y,t2⟩:=R.b6 (oG:=af) (o9:=c af) (t_:=S) (bg:=b.a.freeze ⟨B,0,n⟩ (c af)) w V D t (bA _) zX (λaT aq=>by
   simp only[World.freeze,ak,dm,Ay]
   grind) F zX zX zX
  refine⟨.value (.string ⟨af.toArray⟩),_,?_,Rd.V C u,y,t2,?_⟩
  .rw[ai,O,ah];simp only[cK,dZ,aw];rfl
  rw[ai,O,ah];refine iU λr z=>?_;have aB:¬(c af:Int)<0:=u;have aI:¬(9223372036854775807:Int)<(c af:Int):=u;have au:=Lib.liesAt_bytes (P:=P) H (cap / P.cellsOf W) (c af) M;have aA:IntKind.i64.max=9223372036854775807:=rfl;have I:=Lib.run_loadBytes (P:=P) b.a af ⟨B,0,n⟩ .empty e;have aG:∀(G:m UInt8) (A:Nat) (o:ByteArray) (g:Array aR),(∀j i,G[j]?=f i->b.a.cell? ⟨B,A+j,n⟩=f (.int .u8 i.toNat))->∀r∈(loadBytes ⟨B,A,n⟩ o (c G)).events P b.a g,r∈g∨∃j,r=po B j:=by
   intro G;induction G with
   |nil=>intro A o g _ r z;exact .inl (by simpa[loadBytes]using z)
   |cons s G ag=>
    intro A o g H r z;have an:=H 0 s a;simp only[ka]at an;have aE:(load ⟨B,A,n⟩).run P b.a=.ok (.int .u8 s.toNat) b.a:=by grind[run_load]
    simp only[fh,loadBytes,aD,aE,aF,Cc an,g0]at z;rcases ag (A+1) _ _ (λj i U=>by have:=H (j+1) i M;grind) r z with ao|ao
    .grind
    grind
  have aK:(variablesAt ⟨B,0,n⟩ W (c af)).run P b.a=.ok l b.a:=by simp[variablesAt,al,au]
  have aC:∀g,(variablesAt ⟨B,0,n⟩ W (c af)).events P b.a g=g:=λg=>by simp[variablesAt,al,au]
  have aM:r∈(loadBytes ⟨B,0,n⟩ .empty (c af)).events P b.a #[]:=by change r∈Sem.events P (asInt (.int .i64 (c af:Int)) >>= _) _ _ at z;simpa[asInt,asIntOf,aA,aB,aI,ak,elemOf,run_underlying J,aK,aC,I]using z
  rcases aG af 0 .empty #[] (λj i U=>by grind[g0]) r aM with ao|⟨j,rfl⟩
  .grind
  exact qf (b8 R.s) aH
end
section
variable {p:ah P}{S:m (Nat×cm)}{ac:al}{B:Bool}{v1:X}{bO:Option (Nat×Nat)}{af:m UInt8}{e:Nat}
def a0.exact{h:ae}{j}{i}(m:η h=cM aa)(o:∀(a:ae->X) g,a h=aa->(ab a q).run P g=.ok (.value j) g/\(ab a q).events P g #[]=#[])(t:∀k e,bv k e j i):a0 P q η k i k:=by refine .aS λe a s d=>?_;have b:=d h;rw[m]at b;have b:=Rd.ba b;obtain⟨p,r⟩:=o a e.a b;grind
def a0.fJ{a:ae}(h:q.op=.call {callee:=.builtin .len,args:=#[a],argTypes:=ds})(g:ds[0]?=f o)(e:P.underlying o=f (.slice W)){b}{r}(m:η a=cM (.slice b j r))(i:j<=9223372036854775807):a0 P q η k (ax (.int .i64 j)) k:=
 .exact m (λp s d=>by constructor<;>simp[ab,h,resolve,invoke,builtin,Builtin.len_,d,run_underlying e,goInt,g]) (λ_ _=>Rd.int nM)
def a0.gU{a:ae}(h:q.op=.call {callee:=.builtin .cap,args:=#[a],argTypes:=ds})(g:ds[0]?=f o)(e:P.underlying o=f (.slice W)){b}{r}(m:η a=cM (.slice b j r))(i:r<=9223372036854775807):a0 P q η k (ax (.int .i64 r)) k:=
 .exact m (λp s d=>by constructor<;>simp[ab,h,resolve,invoke,builtin,Builtin.cap_,d,run_underlying e,goInt,g]) (λ_ _=>Rd.int nM)
def a0.h7{b:ae}(h:q.op=.call {callee:=.builtin .unsafeSliceData,args:=#[b],argTypes:=ds}){r}(e:η b=cM (.slice n j r)):a0 P q η k (cM (.pointer n)) k:=
 .exact e (λi m d=>by
  have g:Builtin.unsafeSliceData_ ds q.type #[.slice n j r]=pure (.pointer n):=rfl
  constructor<;>simp[ab,h,resolve,invoke,builtin,d,g]) (λ_ _=>Rd.val a)
def a0.h8{d:ae}(m:q.op=.call {callee:=.builtin .unsafeSliceData,args:=#[d],argTypes:=ds}){b}{r}(i:η d=cM (.slice (f b) j r))(g:r≠0):a0 P q η k (cM (.pointer (f b))) k:=
 .exact i (λp s e=>by
  obtain⟨o,rfl⟩:=Nat.exists_eq_succ_of_ne_zero g;have h:Builtin.unsafeSliceData_ ds q.type #[.slice (f b) j (o+1)]=pure (.pointer (f b)):=rfl
  constructor<;>simp[ab,m,resolve,invoke,builtin,e,h]) (λ_ _=>Rd.val a)
def a0.jc{B x:ae}(D:q.op=.slice o B n (f x) n)(E:P.underlying o=f (.slice W)){a4}(p:P.info? W=f a4){g}{m h:Nat}(N:η B=cM (.slice (f g) j m))(M:η x=ax (.int .i64 h))(z:h<=j)(s:j<=m)(F:m≠0)(K:g.add 0=g):a0 P q η k (cM (.slice (f g) h m)) k:=by
 refine .aS λI y e u=>?_;have i:=u B;rw[N]at i;have i:=Rd.ba i;have C:y x=.int .i64 h:=by have b:=u x;rw[M]at b;have b:=b6 b;generalize y x=O at b;cases b;rfl
 have r:((n:Option X)=n/\(n:Option Int)=n)∨∃h w,(n:Option X)=f (.int h w)/\(n:Option Int)=f w:=.inl ⟨rfl,rfl⟩;have e:(f (Value.int .i64 h)=n/\(f (h:Int))=n)∨∃A w,f (Value.int .i64 h)=f (.int A w)/\(f (h:Int))=f w:=.inr ⟨_,_,rfl,rfl⟩;have t:T (ji j n (f (h:Int))):=by simp[ji,z]
 obtain⟨d,_,_⟩:=vP (P:=P) (kn:=l) s r e t I.a;have J:=u2 (P:=P) (kn:=l) s r e t I.a;simp only[bU,cZ]at d;refine⟨.slice (f g) h m,?_,Rd.val a,?_⟩
 .simp[ab,D,i,C,Instr.sliceAt,run_underlying E,Instr.slice,d,sizeOf,typeInfo,p,F,K]
 simp[ab,D,i,C,Instr.sliceAt,run_underlying E,Instr.slice,d,J,sizeOf,typeInfo,p,F]
def a0.iK{t2:al}{g h:ae}(m:q.op=.call {callee:=.builtin .copy,args:=#[g,h],argTypes:=#[o,t2]})(s:P.underlying o=f (.slice W)){a4}(e:P.info? W=f a4){i}{r}(t:η g=cM (.slice (f i) 0 r))(j:η h=cM (.slice n 0 0)):a0 P q η k (ax (.int .i64 0)) k:=by
 refine .aS λw u p a=>?_;have d:=a g;rw[t]at d;have d:=Rd.ba d;have b:=a h;rw[j]at b;have b:=Rd.ba b;refine⟨.int .i64 0,?_,Rd.int lx,?_⟩<;>
 simp[ab,m,resolve,invoke,builtin,Builtin.copy_,d,b,run_underlying s,sizeOf,typeInfo,e,Builtin.lenOf,Builtin.firstCells,storeCells,goInt]
def a0.jR{t m}{j g:ae}(cv:q.op=.call {callee:=.builtin .unsafeString,args:=#[j,g],argTypes:=#[t,m]})(w:η j=cM (.pointer n))(u:η g=ax (.int .i64 ((0:Nat):Int))):a0 P q η k (ax (.V [])) k:=by
 refine .du λb e s i=>?_;have h:=i j;rw[w]at h;have h:=Rd.ba h;have o:e g=.int .i64 0:=by have d:=i g;rw[u]at d;have d:=b6 d;generalize e g=x at d;cases d;rfl
 have p:ab e q=(do pure (.value (<-Builtin.unsafeString_ #[t,m] q.type #[e j,e g]))):=Rw;have r:=Lib.run_unsafeString_none (P:=P) b.a t m q.type n;refine⟨.string .empty,?_,Rd.V a C,?_⟩
 .rw[p,h,o];simp only[cK,dZ,r];rfl
 rw[p,h,o];exact Pl
def a0.iw(A:k[d]?=f (.J (eJ ac W B v1 bO af e))){a dst:al}{g:ae}(w:q.op=.convert a dst g)(z:P.underlying a=f (.pointer ac))(x:P.underlying dst=f .unsafePointer){t}(b:P.info? ac=f t)(u:t.size≠0)(D:η g=aI d 0):a0 P q η k (aI d 0) k:=by
 refine .aS λo p j m=>?_;obtain⟨L,h,k5,a9⟩:=eJ.row (P:=P) j A;have i:=m g;rw[D]at i;have y:=a9.ptr i;have s:o.a.shape? h=f (ac,2):=NI;have r:=Lib.run_to_unsafe (P:=P) o.a ⟨h,0,n⟩ z x b u s C;refine⟨p g,by simp[ab,w,y,r],i,?_⟩;have:(convert a dst (.pointer (f ⟨h,0,n⟩))).events P o.a #[]=#[]:=by simp[convert,run_underlying z,run_underlying x,Conv.unsafePointer,Conv.seenAt,viewAt,cellsIn,s,sizeOf,typeInfo,b,u]
 simp[ab,w,y,r,this]
def a0.ir(A:k[d]?=f (.J (eJ ac W B v1 bO af e))){a dst:al}{g:ae}(w:q.op=.convert a dst g)(z:P.underlying a=f .unsafePointer)(x:P.underlying dst=f (.pointer ac)){t}(b:P.info? ac=f t)(C:t.size≠0)(r:liesAt P P.depth ac (2 / P.cellsOf ac) 0 ac 1=l)(D:η g=aI d 0):a0 P q η k (aI d 0) k:=by
 refine .aS λo p j m=>?_;obtain⟨L,h,k5,a9⟩:=eJ.row (P:=P) j A;have i:=m g;rw[D]at i;have y:=a9.ptr i;have u:o.a.shape? h=f (ac,2):=NI;have s:=Lib.run_from_unsafe (P:=P) o.a ⟨h,0,n⟩ z x b u r;refine⟨p g,by simp[ab,w,y,s],i,?_⟩;have:(convert a dst (.pointer (f ⟨h,0,n⟩))).events P o.a #[]=#[]:=by simp[convert,run_underlying z,run_underlying x,Conv.unsafePointer,Conv.seenAt,viewAt,variablesAt,u,sizeOf,typeInfo,b,C,r]
 simp[ab,w,y,s,this]
def a0.jB{i}{fn}(t:P.funcs[i]?=f fn)(r:(fn.name== "runtime.NumGoroutine")=v)(e:fn.body.isNone=l)(g:Extern.findNext fn=n)(u:Extern.find fn=f Extern.AbiNoEscape.same){d:ae}(h:q.op=.call {callee:=.value cP,args:=#[d],argTypes:=ds})(F:η cP=.n (.R (.c (.fn (.func i) [] [])))){o}(M:η d=o):a0 P q η k o k:=by
 refine .du λm a D j=>?_;have s:a cP=.func (.func i) #[] #[]:=by
  have b:=j cP;rw[F]at b;have b:=b6 b;generalize a cP=N at b;cases b with
  |fn C y J K A B w x d1 d2=>
   grind
 have E:(callFunc i #[a d]).run P m.a=.ok (.value (a d)) m.a:=by rw[run_callFunc_extern t r e g u];rfl
 have I:=Iq (P:=P) t r e g u #[a d] (λ_ _=>rfl) m.a #[];refine⟨a d,?_,by grind,λz p=>?_⟩
 .simp[ab,h,resolve,Deferred.ofValue,invoke,s,E]
 simp[ab,h,resolve,Deferred.ofValue,invoke,s,I]at p;subst p;exact .inr ⟨_,rfl⟩
end
def Do{a o:Type}{e:a->o}:∀{g:m a},(g.map e).Nodup->∀{b d:a},b∈g->d∈g->e b=e d->b=d
 |[],_,_,_,r,_,_=>by grind
 |t::s,j,b,d,p,q,k=>by
  simp only[me,List.nodup_cons]at j;rcases e8.1 p with i|i<;>rcases e8.1 q with h|h
  .grind
  .grind
  .grind
  exact Do j.2 i h k
def qC{bT}{a}(d:bT≠.bl)(b:jN a=l):jN (bT::a)=l:=by cases bT<;>first|exact b|grind
section
variable {p:ah P}
def g.bU{aL o}(h:∀j b d,aL j b d->o j b d):∀{av:m im}{j:Exit}{b:bJ}{d:m ap},g p E aL av j b d->g p E o av j b d
 |[],j,b,d,a=>h j b d a
 |.code k::av,.normal,b,d,a=>b0.mono a λ_ _ _ a=>g.bU h a
 |.code k::av,.exit _,b,d,a=>g.bU (av:=av) h a
 |.code k::av,.ret,b,d,a=>g.bU (av:=av) h a
 |.code k::av,.panic _,b,d,a=>g.bU (av:=av) h a
 |.code k::av,.goto _,b,d,a=>g.bU (av:=av) h a
 |.code k::av,.outgrown,b,d,a=>g.bU (av:=av) h a
 |.blk id::av,.exit q,b,d,a=>by
  simp only[g]at a⊢;split
  .rename_i j;rw[bo j]at a;exact g.bU (av:=av) h a
  rename_i j;rw[bm j]at a;exact g.bU (av:=av) h a
 |.blk id::av,.normal,b,d,a=>g.bU (av:=av) h a
 |.blk id::av,.ret,b,d,a=>g.bU (av:=av) h a
 |.blk id::av,.panic _,b,d,a=>g.bU (av:=av) h a
 |.blk id::av,.goto _,b,d,a=>g.bU (av:=av) h a
 |.blk id::av,.outgrown,b,d,a=>g.bU (av:=av) h a
 |.S i e::av,.normal,b,d,a=>ff.mono a λ_ _ a=>g.bU h a
 |.S i e::av,.exit _,b,d,a=>g.bU (av:=av) h a
 |.S i e::av,.ret,b,d,a=>g.bU (av:=av) h a
 |.S i e::av,.panic _,b,d,a=>g.bU (av:=av) h a
 |.S i e::av,.goto _,b,d,a=>g.bU (av:=av) h a
 |.S i e::av,.outgrown,b,d,a=>g.bU (av:=av) h a
def g.fI{id}{O:bJ->m ap->Prop}{d r i}(a:iV id d=n)(b:iV id r=f i)(o:g p E bd i .normal F k):
  g p E (v5 O (g p E bd r)) (.code (.exit id)::d) .normal F k:=
 g.bU (λj e h q=>by cases j<;>exact q) (g.bs (p:=p) (E:=E) (Aj:=bd) (O:=O) (F:=F) (k:=k) a b o)
end
section
variable {p:ah P}
def g.bc{fn}{s}{an:ι->m ap}(e)(aU){ag}{o}{i}(h:T Y)(b2:∀t,t<s->aU[t]?=f t)(j:fn.results.toList=[.cell o ty]:=by exact rfl)(bp:bW ac ty=f i:=by exact rfl)(z:i.agg=l:=by exact rfl)(q:look F o=aI d 0:=by exact rfl)(gQ:c' d k=f (.cells W ag):=by exact rfl)(w:ad (c ag) i.size=l:=by exact rfl)(r:ei d aU=v:=by exact rfl)(ak:ko (.n (.agg ag)) (fc aU (res e))=f Y:=by exact rfl)(N:hQ (c aU) (res e)=l:=by exact rfl)(S:dx aU k=f (an e):=by exact rfl)(B:l1 (an e)=l:=by exact rfl)(jm:fb aU=l:=by exact rfl):
  g p E (λau F aQ=>∃t,uk ac fn s (res t) (an t) au F aQ) (.code .ret::av) .normal F k:=
 g.ret ⟨e,.inl a,aU,d,W,ag,o,ty,i,Y,n,nofun,j,bp,z,dn w,q,eo gQ,Kn r,ak,h,N,S,B,jm,b2⟩
def g.b9{fn}{h}{an:ι->m ap}(e)(aU){ag}{o bx}{i}{D}(z:T Y)(b2:∀t,t<h->aU[t]?=f t)(q:fn.results.toList=[.cell o ty,.tmp bx]:=by exact rfl)(bp:bW ac ty=f i:=by exact rfl)(j:i.agg=l:=by exact rfl)(bi:look F o=aI d 0:=by exact rfl)(S:look F bx=.n D:=by exact rfl)(gQ:c' d k=f (.cells W ag):=by exact rfl)(w:ad (c ag) i.size=l:=by exact rfl)(r:ei d aU=v:=by exact rfl)(ak:ko (.Q [.agg ag,D]) (fc aU (res e))=f Y:=by exact rfl)(N:hQ (c aU) (res e)=l:=by exact rfl)(a9:dx aU k=f (an e):=by exact rfl)(B:l1 (an e)=l:=by exact rfl)(jm:fb aU=l:=by exact rfl):
  g p E (λau F aQ=>∃t,uk ac fn h (res t) (an t) au F aQ) (.code .ret::av) .normal F k:=
 g.ret ⟨e,.inl a,aU,d,W,ag,o,ty,i,Y,f (bx,D),λ_ s=>by cases s;exact S,q,bp,j,dn w,bi,eo gQ,Kn r,ak,z,N,a9,B,jm,b2⟩
def Z.bb(aY:bZ P ac){d}{fn}{args}{res}(j:P.funcs[d]?=f fn)(i:(fn.name== "runtime.NumGoroutine")=v)(b:fn.body=f r)(h:ay args.length fn.ntmps=l)(o:kA args k->g p fn.ntmps (λm e a=>∃_:Unit,uk ac fn k.length res an m e a) [.code r] .normal (h4 0 args) k):Z p d args k res an:=
 (bl.bG (ι:=Unit) (an:=λ_=>an) (res:=λ_=>res) aY j i b h o).toZ
end
section
variable {p:ah P}
def g.jD{K:ι->x}{e:ι->m ap}(R:dV p E all q F k K e)(Q:fi E q.dst=l)(T:∀r,g p E bd (.S all bq::av) .normal (gb q.dst (K r) F) (e r)):g p E bd (.S all (q::bq)::av) .normal F k:=by
  intro V M t d J j h I idx i a A;cases idx with
  |nil=>exact a.elim
  |cons S idx=>
  refine R V M t d J j h I S idx i a.1 λr X B w y b=>?_;refine T r B _ ?_ y J j h I idx i a.2 λN o C s U u z D=>A N o C s U u z (b.trans D);cases O:q.dst with
  |none=>exact t.mono b d.len
  |some W=>exact(t.mono b d.len).put (k8 Q W O) w
def dV.gj[p.bZ]{bn}(aN:bl p bn cQ [] res aQ){ae}(aT:oF all F q=l)(bx:q.op=.call {callee:=.value cP,args:=af,argTypes:=ds})(V:g1 (bD F cP)=f (bn,cap))(bu:pK k (af.toList.map (bD F)++e' cap) ae)(bN:lW ae (gn [] cQ)=f Y)(a4:T Y)(a0:hd 0 cQ=l)(bK:∀t,yi (res t)=l)(a3:∀t,qD (aQ t)=l):dV p E all q F k res (λt=>k++aQ t):=by
  intro b w bd ax i a7 ag bO bJ idx g aZ br;have aq:=eF bd cP;unfold g1 at V;split at V
  case h_2=>cases V
  case h_1 u4 uR he=>
    cases V;rw[he]at aq;have bG:=b6 aq;generalize O:w.eval cP=bW at bG;cases bG with
    |fn bp J a1 aA bU bo e z bY bC=>
      have aP:bp=[]:=jB a1;subst aP;have bR:b4 k b J (e' cap):=p' (λt r bt=>⟨bo t,z t M,bC t r bt⟩) aA;have G:b4 k b (af.toList.map w.eval++J) (af.toList.map (bD F)++e' cap):=(m1 (eF bd) af.toList).append bR;generalize bI:af.toList.map w.eval++J=y at G;obtain⟨⟨fn,aO,aC,bS⟩,U⟩:=aN;have aE:∀aF,(ab w.eval q).run P aF=.ok (.enter bn y.toArray) aF:=λaF=>by grind[mL]
      have aw:∀aF,(ab w.eval q).events P aF #[]=#[]:=λaF=>(mL bx aO aC bS O aF).2;refine .next a λm a5=>?_;have W:=p.bI a5;have u:=ax.rely W;have aI:=bd.rely W ax;have bM:b4 k m y (af.toList.map (bD F)++e' cap):=G.mono W.aI.ext ax.len;obtain⟨R,av,bH,a9,bz,a_,bX,bA⟩:=bu m y u bM;let Q:a6:={m with s:=[],C:=av,own:=λi=>m.own i∨∃L∈m.s,i∈L.aj}
      have aY:bb [] Q:=by
        refine⟨a_,a,by simp,by grind,by grind,λi g=>⟨?_,by grind⟩⟩;rcases g with g|⟨d,Z,g⟩
        · exact(u.own i g).1
        · exact u.lt d Z i g
      have aR:eZ m Q:=by refine⟨rfl,a9,λi g q=>bz i (λaH=>by grind) q,a_,λi g=>?_⟩;grind
      have b0:b4 [] Q y cQ:=by have bg:=s_ bN a4 bA;exact(b4.sub (aU:=[]) (k:=k) (an:=[]) (b:={m with C:=av}) (ly:=[]) rfl rfl bg a0).mono (k:=[]) (b:={m with s:=[],C:=av}) (an:=[]) (aB:=Q) ⟨λ_ _ _ x=>x,λA R L aH bq=>by grind⟩ rfl
      refine⟨_,m,_,tC aZ (jW aT _ _ _ aI) g (aE m.a),⟨⟨k,k,u,u,.refl _ _⟩,dv.seen (by rw[aw];exact .nil)⟩,.aP aR (U Q y b0 aY bO _ λt bV s bZ a2 aD N a'=>?_)⟩;refine uE (ag:=ag) (r:=i.ab w (.inRegion all.toArray (bJ::idx)::a7)) N a2 λC bf=>?_;have X:=N.rely bf;have S:=a'.trans bf.aI;have bQ:=aD.mono bf.aI.ext N.len
      classical
      let aa:Mem:=λi q=>if R i then m.C i q else C.C i q;have bB:∀i,(m.own i∨∃L∈m.s,i∈L.aj)->C.own i:=λi g=>by rw[S.own];exact g
      have ai:nR C {C with C:=aa}:=by
        refine⟨a,a,a,λi q s O=>?_,λi q s O=>?_⟩
        · grind
        grind
      refine .b1 ah.bZ.ok ai ?_;have ak:∀i q s,aa i q=f s->C.C i q=f s:=ai.e7;let B:a6:={C with C:=aa,s:=m.s++C.s,own:=m.own}
      have ao:∀i q s,m.C i q=f s->aa i q=f s:=λi q s O=>by
        by_cases o:R i
        · grind
        · simp[aa,o,dm];exact S.mem i q s (a9 i q s O)
      have al:∀i,i<m.a.heap.size->∀q,aa i q=m.C i q:=λi g q=>by
        by_cases o:R i
        · grind
        · simp[aa,o,dm]
          rw[S.bC i g M q];grind
      have bP:c C.s=c (aQ t):=X.len;have aG:fp k m (k++aQ t) B:=by
        refine⟨ao,λA R L aH bq=>⟨R,L,?_,?_,.refl _ _⟩⟩
        · grind
        grind
      have aL:m.a.heap.size<=C.a.heap.size:=S.size;have bF:∀A d,(m.s++C.s)[A]?=f d->(A<c m.s/\m.s[A]?=f d)∨(c m.s<=A/\C.s[A-c m.s]?=f d):=λA d x=>by grind
      have aV:bb (k++aQ t) B:=by
        refine⟨λi q s O=>X.mem i q s (ak i q s O),by simp[B,u.len,bP],?_,?_,?_,?_⟩
        · intro A R d aH Z
          rcases bF A d Z with⟨au,e⟩|⟨ar,e⟩
          · rw[j6 (by rw[<-u.len];exact au)]at aH
            exact(u.box A R d aH e).b8 aG u.len λj o=>⟨S.a3 j (.inr ⟨d,b8 e,o⟩),al j (u.lt d (b8 e) j o)⟩
          · rw[ho (by rw[<-u.len];exact ar),<-u.len]at aH
            have aM:=X.box _ R d aH e;rcases KR (a3 t) R (b8 aH)with⟨H,rfl⟩|rfl
            · obtain⟨bm,bh,bj,bk,bT⟩:=aM
              refine⟨bm,bh,bj,bk,λj o q=>?_⟩;grind
            · trivial
        · intro A a8 D I aJ aK j K bc
          rcases bF A D aJ with⟨au,e⟩|⟨ar,e⟩<;>rcases bF a8 I aK with⟨bw,z⟩|⟨bs,z⟩
          · exact u.a0 A a8 D I e z j K bc
          · exact absurd bc ((X.own j (bB j (.inr ⟨D,b8 e,K⟩))).2 I (b8 z))
          · exact absurd K ((X.own j (bB j (.inr ⟨I,b8 z,bc⟩))).2 D (b8 e))
          · have:=X.a0 _ _ D I e z j K bc;omega
        · intro d Z j o
          rcases fy.1 Z with x|x
          · exact eC (u.lt d x j o) aL
          · exact X.lt d x j o
        · intro j o
          refine⟨eC (u.own j o).1 aL,λd Z=>?_⟩;rcases fy.1 Z with x|x
          · exact(u.own j o).2 d x
          · exact(X.own j (bB j (.inl o))).2 d x
      have aS:eZ {C with C:=aa} B:=by refine⟨rfl,λ_ _ _ x=>x,λ_ _ _=>rfl,λi q s O=>X.mem i q s (ak i q s O),λj o=>?_⟩;grind
      have ba:de k m (k++aQ t) B:=by
        refine⟨aL,λj o=>S.a3 j (.inl o),ao,λj o _ q=>al j o q,λd Z j o=>?_,aG.box,S.os,S.tape,S.output,a⟩;rcases fy.1 Z with x|x
        · grind
        · rcases S.bS d x j o with e|⟨bL,e,_⟩
          · grind
          grind
      refine .aP aS ?_;have bE:=qi (i:=i) (w:=w) (h:=a7) all.toArray bJ idx s;rw[aZ]at bE;simp[n0]at bE;rw[bE];exact br t s B (YC (bK t) bQ) aV (W.aI.trans ba)
def g.gj[p.bZ]{e:Type}{cP}{af}{ds}{o}{cap}{cQ}{a:e->x}{b:e->m ap}(A:bl p o cQ [] a b){r}(w:oF all F q=l)(i:q.op=.call {callee:=.value cP,args:=af,argTypes:=ds})(B:g1 (bD F cP)=f (o,cap))(h:pK k (af.toList.map (bD F)++e' cap) r){Y}(s:lW r (gn [] cQ)=f Y)(u:T Y)(y:hd 0 cQ=l)(t:∀d,yi (a d)=l)(z:∀d,qD (b d)=l)(C:fi E q.dst=l)(j:∀d,g p E bd (.S all bq::av) .normal (gb q.dst (a d) F) (k++b d)):g p E bd (.S all (q::bq)::av) .normal F k:=.jD (dV.gj A w i B h s u y t z) C j
def g.iD[p.bZ]{m}(y:bl p m cQ [] res aQ)(z i){o}{h}(t:oF all F q=l)(d:q.op=.call {callee:=.value cP,args:=af,argTypes:=ds})(B:g1 (bD F cP)=f (m,cap))(A:(af.toList.map (bD F)++e' cap)[i]?=f (cM o))(b:Ah k z o h j U)(r:lW ((af.toList.map (bD F)++e' cap).set i (ax (.A v h j U))) (gn [] cQ)=f Y)(u:T Y)(w:hd 0 cQ=l)(s:∀a,yi (res a)=l)(x:∀a,qD (aQ a)=l)(C:fi E q.dst=l)(e:∀a,g p E bd (.S all bq::av) .normal (gb q.dst (res a) F) (k++aQ a)):g p E bd (.S all (q::bq)::av) .normal F k:=
  g.gj y t d B ((pK.refl _ _).step i z A b) r u w s x C e
end
section
variable {p:ah P}
theorem dV.er{z:ι->x}{a:ι->m ap}(M:q.guard=n)(D:eg P E q F k z a):dV p E all q F k z a:=by intro T A C b Q S B O R s o r j;refine rl o r (i_ M) λJ e=>?_;have g:=b.rely e;obtain⟨w,N,d,y,h,i,K,t,u,I⟩:=D J A (C.rely e b) g;exact⟨N,d,y,h,i,⟨⟨k,a w,g,t,u⟩,I⟩,j w y d K t (e.aI.trans (u.tooQ g))⟩
def dV.eW{D}(K:bl p D cQ dh res aQ)(aU)(ah:q.guard=n)(e:q.op=.call {callee:=.value cP,args:=af,argTypes:=ds})(h:g1 (bD F cP)=f (D,cap))(Y:∀g y,b4 k g y (af.toList.map (bD F)++e' cap)->b4 k g y (gn aU cQ))(al:hd (c aU) cQ=l)(an:dx aU k=f dh)(R:eu dh=l)(ai:∀a,eu (aQ a)=l)(w:fb aU=l)(ao:∀a,ay (c aU) (c (aQ a))=l):
  dV p E all q F k (λa=>fc (aU++gU (c k) (c (aQ a)-c aU)) (res a)) (λa=>db aU (aQ a) k):=by
 intro g S J r ar ab U aq au z o s m;have N:=eF J cP;unfold g1 at h;split at h
 case h_2=>cases h
 case h_1 u4 uR he=>
  cases h;rw[he]at N;have C:=b6 N;generalize O:S.eval cP=X at C;cases C with
  |fn W b u d V i Z j ag x=>
   have ak:=jB u;subst ak;have aa:b4 k g b (e' cap):=p' (λa T t=>⟨i a,j a M,x a T t⟩) d;have ae:=Y g _ ((m1 (eF J) af.toList).append aa);obtain⟨fn,Q,I,B⟩:=K.1;exact AT o s (i_ ah) r (λA=>(mL e Q I B O A).1) (λA=>(mL e Q I B O A).2) K ae al an R ai w (λa=>fq (ao a)) m
def dV.dX{e}(s:bl p e cQ dh res aQ)(aU)(h:q.guard=n)(d:q.op=.call {callee:=.value cP,args:=af,argTypes:=ds})(u:g1 (bD F cP)=f (e,cap))(g:k4 (af.toList.map (bD F)++e' cap)=gn aU cQ)(j:hd (c aU) cQ=l)(m:dx aU k=f dh)(t:eu dh=l)(i:∀a,eu (aQ a)=l)(b:fb aU=l)(o:∀a,ay (c aU) (c (aQ a))=l):
  dV p E all q F k (λa=>fc (aU++gU (c k) (c (aQ a)-c aU)) (res a)) (λa=>db aU (aQ a) k):=.eW s aU h d u (λ_ _ r=>g▸uQ r) j m t i b o
def dV.bH{e}(t:bl p e cQ dh res aQ)(aU)(i:q.guard=n)(d:q.op=.call {callee:=.value cP,args:=af,argTypes:=ds})(u:g1 (bD F cP)=f (e,cap))(g:lW (af.toList.map (bD F)++e' cap) (gn aU cQ)=f Y)(h:T Y)(m:hd (c aU) cQ=l)(o:dx aU k=f dh)(w:eu dh=l)(j:∀a,eu (aQ a)=l)(b:fb aU=l)(s:∀a,ay (c aU) (c (aQ a))=l):
  dV p E all q F k (λa=>fc (aU++gU (c k) (c (aQ a)-c aU)) (res a)) (λa=>db aU (aQ a) k):=.eW t aU i d u (λ_ _ r=>s_ g h r) m o w j b s
def eg.fD{D aa:ae}(I:j0 P q D aa W a4){aI h}{V}{d:Nat->m K}(R:a4.size=h)(ag:bD F D=ax (.A l aI 0 U))(aA:bD F aa=ax (.A V h z d))(j:0<z)(i:z*a4.bytes<=140737488355328)(aN:∀B,B<z->∀ai∈d B,nk ai=l):
  eg P E q F k (ι:={C:fo×m X // ek h z d C.2}) (λC=>cM (c0 C.1.1 z)) (λC=>k++[.J (cq W h C.1.1 z C.1.2)]):=by
 intro b aB N g;obtain⟨a3,t2,B,aV,au,e,aF,G,x⟩:=I.op;have J:=eF N D;rw[ag]at J;have Z:=Rd.fW (h:=aI) (gk:=a4.size) (.inr a) (b6 J);have s:=eF N aa;rw[aA]at s;have s:=b6 s;obtain⟨a2,aJ,y,S,a1,aK,aw,aU,aO⟩:=Z.b0;have aL:=aw a;subst aL;rw[S]at Z;have aD:Rd b.C (aB.eval aa) (.A V a4.size z d):=M;obtain⟨r,ab,Y,p,aC,aT,aR,aS⟩:=vO (P:=P) (ty:=q.type) e aF G x I.elem g Z aD u M I.bytes;have aM:=u1 (P:=P) (ty:=q.type) e aF G x I.elem g Z aD u M I.bytes;have al:cf 0 U d=d:=by funext B;simp[cf]
 rw[R,cW,al]at p;rw[R]at aR;rw[cW]at aC aS;have aE:ek h z d r:=⟨p.len,p.bF,λB e aY ai t=>by
  obtain⟨aZ,af,aG⟩:=p.rd B e aY ai t
  grind[vb]⟩
 have O:∀D∈r,dS D=l:=λD ag=>by
  obtain⟨w,av,rfl⟩:=hn ag;have aq:0<h:=M;have aQ:=p.len;have e:w / h<z:=sn M;have L:w / h*h+w % h=w:=ut w h;have t:w % h<c (d (w / h)):=by rw[p.bF _ e];exact pU _ aq
  obtain⟨aZ,af,aG⟩:=aE.b2 _ e _ _ (bI t);rw[L,bI av]at af;cases af;exact(aG b.C).cell
 let o:ar:=b.a.drew.alloc (.cells (r++ab).toArray W);have aH:ew (k++[.J (cq W h (.row b.a.heap.size Y) z r)]) {b with a:=o,s:=b.s++[⟨.nilFunc,[b.a.heap.size]⟩]} (.J (cq W h (.row b.a.heap.size Y) z r)) ⟨.nilFunc,[b.a.heap.size]⟩:=by
  refine⟨λA=>if A=b.a.heap.size then f (.cells (r++ab).toArray W (0,0))else n,⟨a,O,p.len,aC,aT,ab,aR,a⟩,λA q T=>?_,λA=>?_,λA T q=>?_⟩
  .by_cases ak:A=b.a.heap.size
   .subst ak;simp only[dA]at T;cases T;exact lS b.a.drew _
   grind
  .by_cases ak:A=b.a.heap.size<;>simp[ak]
  simp at T;subst T;cases j:b.C b.a.heap.size q with
  |none=>rfl
  |some a0=>have:=g.block j;omega
 have aP:o.heap.size=b.a.heap.size+1:=ND;have H:bb k {b with a:=o}/\cN k b k {b with a:=o}:=
  g.cn u (λah i=>iX b.a.drew _ i) (λah i q=>rfl) (λah i q a0 j=>by have:=g.block j;omega) a a a
 obtain⟨an,ao⟩:=H.1.bY H.2 rfl g aH (λah i=>by grind);refine⟨⟨(.row b.a.heap.size Y,r),aE⟩,.value (.slice (f ⟨b.a.heap.size,0,n⟩) z Y),_,_,?_,.inl a,Rd.val a,an,ao,?_⟩
 .rw[la au,S];simp[aS];rfl
 grind[la,iU]
def g.fD{s t}{W}{a4}(C:j0 P q s t W a4){y h z}{o}{d a:Nat->m K}(A:a4.size=h)(D:bD F s=ax (.A l y 0 d))(w:bD F t=ax (.A o h z a))(i:0<z)(e:z*a4.bytes<=140737488355328)(u:∀r,r<z->∀x∈a r,nk x=l)(B:q.guard=n)(I:fi E q.dst=l)(j:∀b:{b:fo×m X // ek h z a b.2},g p E bd (.S all bq::av) .normal (gb q.dst (cM (c0 b.1.1 z)) F) (k++[.J (cq W h b.1.1 z b.1.2)])):g p E bd (.S all (q::bq)::av) .normal F k:=
 g.cC _ _ B I (eg.fD C A D w i e u) j
def g.fg(W)(h)(i:g p E bd (.code r::av) .normal F (k++[.J (cq W h (.nil n) 0 [])])):g p E bd (.code r::av) .normal F k:=by refine g.aP (λj q b a=>?_) i;obtain⟨m,d⟩:=a.bY (bT:=.J (cq W h (.nil n) 0 [])) (L:=⟨.nilFunc,[]⟩) (.refl _ _) rfl a ⟨λ_=>n,⟨rfl,by simp,by simp,rfl,rfl⟩,by simp,by simp,by simp⟩ C;exact⟨{j with s:=j.s++[⟨.nilFunc,[]⟩]},rfl,⟨b.size,b.defers.imp λ_ e=>e.mono d.ext,λo=>(b.ak o).mono d.ext a.len⟩,m,d⟩
end
def FM(h:X)(e g:Nat)(a:Nat->m K)(d b:K):Prop:=b=d∨(d=.val h/\b=.A v e g a)
def bb.fz{aQ fe}{h}{bO}{af}(q:bb (aQ++[.J (cq W h bO j af)]) b)(au:ek h j U af){s}{eO}{z p}{D lN:Nat->m K}(x:aQ[s]?=f (.p eO z p D))(aT:fe=aQ.set s (.p eO z p lN))(ax:km (c fe) fe=l)(ab:∀k,k<p->c (lN k)=c (D k))(Z:∀k,k<p->∀(u:Nat) (N:K),(lN k)[u]?=f N->∃B,(D k)[u]?=f B/\FM (c0 bO j) h j U B N):
  ∃r:a6,bb fe r/\eZ b r/\(∀ak Q,bv (aQ++[.J (cq W h bO j af)]) b ak Q->hQ (c fe) Q=l->bv fe r ak Q)/\∀{o:m ap} {w:a6},de o w (aQ++[.J (cq W h bO j af)]) b->o.length<=c fe->de o w fe r:=by
 have G:=(cO.1 x).1;have aH:(aQ++[ap.J (cq W h bO j af)])[c aQ]?=f (.J (cq W h bO j af)):=C
 obtain⟨L,cg,aq,ar,an,S,aI,aJ⟩:=cq.fK aH U (λk g=>⟨au.ep k g,λaS u B aU t aG=>by
  obtain⟨aV,aN,aO⟩:=au.b2 k g u B t
  grind⟩) b q
 obtain⟨E,F⟩:=q.b4 (cg:=cg) (bg:=b.a) (ec:=.M) (cu:=⟨L.v,[]⟩) aH aq rfl (bA _) (λ_ _ _=>rfl) (λi _ e ae=>an i e ae) ar S C rfl rfl rfl A;have O:(aQ++[ap.J (cq W h bO j af)]).set (c aQ) .M=aQ++[.M]:=C;rw[O]at E F;have aw:(aQ++[ap.M])[s]?=f (.p eO z p D):=M;have aP:=E.len;have R:=bI (l:=b.s.set (c aQ) ⟨L.v,[]⟩) (i:=s) M;generalize(b.s.set (c aQ) ⟨L.v,[]⟩)[s]'_=sh at R;have H:=E.box s _ sh aw R;have ag:fM (.p eO z p D) sh (.p eO z p lN) sh:=⟨λ_=>rfl,bA _⟩
 have aR:(b.s.set (c aQ) ⟨L.v,[]⟩).set s sh=b.s.set (c aQ) ⟨L.v,[]⟩:=mU;obtain⟨ao,I⟩:=E.b4 (cg:=cg) (bg:=b.a) (ec:=.p eO z p lN) (cu:=sh) aw R ag (bA _) (λ_ _ _=>rfl) (λ_ _ _ _=>rfl) (λ_ _ _ aE=>aE) S
  (λi e=>⟨.inl e,E.lt sh (b8 R) i e⟩) a a a (by
   rcases H with⟨dJ,e3⟩|⟨i,T,y,al,dJ,e3,jJ,V,X,av,Y⟩
   .exact .inl ⟨dJ,e3⟩
   .refine .inr ⟨i,T,y,al,dJ,e3,jJ,V,X,⟨av.len,λk g=>by rw[ab k g];exact av.bF k g,λk g u N t=>?_⟩,Y⟩;obtain⟨B,aD,aA⟩:=Z k g u N t;obtain⟨aM,ah,ai⟩:=av.rd k g u B aD;refine⟨aM,ah,?_⟩;rcases aA with rfl|⟨rfl,rfl⟩
    .exact ai
    grind[Rd.ba])
 have aC:(aQ++[ap.M]).set s (.p eO z p lN)=fe++[.M]:=M;rw[aC]at ao I;have J:=F.trans I;refine⟨_,ao.drop (bq:=[.M]) ax,⟨a,ar,λi e ae=>an i (e L (b8 aq)) ae,S,λi e=>?_⟩,λak Q aK aa=>(aK.mono J.ext q.len).drop (bq:=[.M]) aa,λ{o w} aL ag=>(aL.trans (J.tooQ q)).drop (bq:=[.M]) ag⟩;rcases e with e|⟨cu,aB,e⟩
 .exact .inl e
 have aF:=gY aB;grind
def bl.fz{P:aE}{d:Type}{I:ah P}{M}{args}{k}{b:d->x}{aQ fe:d->m ap}{W h j}{bO:d->fo}{af:d->m X}{o:Nat->m K}(N:bl I M args k b (λa=>aQ a++[.J (cq W h (bO a) j (af a))]))(ab:∀a,ek h j o (af a))(Q){eO}{R q:Nat}{r:d->Nat->m K}{lN:Nat->m K}(ae:∀a,(aQ a)[Q]?=f (.p eO R q (r a)))(Y:∀a,fe a=(aQ a).set Q (.p eO R q lN))(aa:∀a,km (c (fe a)) (fe a)=l)(V:∀a,hQ (c (fe a)) (b a)=l)(Z:∀a,c k<=c (fe a))(ak:∀a g,g<q->c (lN g)=c (r a g))(al:∀a g,g<q->∀(O:Nat) (S:K),(lN g)[O]?=f S->∃J,(r a g)[O]?=f J/\FM (c0 (bO a) j) h j o J S):bl I M args k b fe:=by refine⟨N.1,λag y D B U w A=>N.2 ag y D B U w λa z T ai C e p F=>?_⟩;obtain⟨E,s,i,t,u⟩:=p.fz (ab a) (ae a) (Y a) (aa a) (ak a) (al a);exact .aP i (A a z T E (C.mono i.mem) (t T _ e (V a)) s (u F (Z a)))
def SB(aY:bZ P ac){parts}(s:q.op=.buildSlice o j parts){h}{U}(g:rP ac η o j parts.toList=f (h,U)){e}(t:bW ac o=f e)(ag:e.desc=.slice W){ρ:ae->X}(K:∀au,bv k b (ρ au) (η au)):
  ∃r:m X,eU b.C h j (λe=>U.getD e []) r/\j<=16777216/\0<h/\(ab ρ q).run P b.a=.ok (.value (.slice (f ⟨b.a.heap.size,0,n⟩) j j)) (b.newRow W r).a/\(ab ρ q).events P b.a #[]=#[]:=by
 unfold rP at g;simp[t,ag]at g
 .skip
  cases z:bW ac W with
  |none=>grind
  |some d=>
   simp[z]at g;cases B:ad d.size 0 with
   |true=>grind
   |false=>
    simp[B]at g;cases G:ay (j*d.size) 16777216 with
    |false=>grind
    |true=>
     simp[G]at g;cases aa:pk η parts.toList with
     |none=>grind
     |some T=>
      simp[aa]at g;cases ar:rD (λh=>f (h*d.size,d.size)) T (aW (j*d.size) O.any)with
      |none=>grind
      |some E=>
       simp[ar]at g;cases H:h5 E with
       |none=>grind
       |some aF=>
        simp[H]at g;cases af:rv d.size j aF with
        |none=>grind
        |some ak=>
         simp only[af,e1,lE]at g;obtain⟨rfl,rfl⟩:=g;have aM:d.size≠0:=λaC=>by rw[aC]at B;cases B
         have aD:=fq G;obtain⟨aq,p,Nu,aH,aI,a,ah,aJ,aK⟩:=(aY W d z).cW;have ao:p.cells.size=d.size:=by have:=eD List.length ah;grind
         have an:∀i∈p.cells.toList,dS i=l:=by intro i L;have ai:k0 i∈p.cells.toList.map k0:=hq.2 ⟨i,L,rfl⟩;rw[ah]at ai;obtain⟨aN,_,I⟩:=hq.1 ai;exact(Rd.fr (bz:=b.C) I.symm).cell
         have x:∀aE,(∀i∈(az aE).map (λw=>p.cells[w % p.cells.size]!),dS i=l):=by grind[Nat.mod_lt]
         have av:∀y:m X,(∀i∈y,dS i=l)->bM k b y (aW (c y) O.any):=by
          intro y;induction y with
          |nil=>intro _;trivial
          |cons i y N=>intro L;exact⟨L i C,N λaG A=>L aG M⟩
         obtain⟨R,S⟩:=yS (k:=k) (b:=b) K aa;have aL:bM k b ((Array.range (j*d.size)).map (λw=>p.cells[w % p.cells.size]!)).toList (aW (j*d.size) O.any):=by have:=av _ (x (j*d.size));simpa using this
         obtain⟨r,V,Y⟩:=x8 (k:=k) (b:=b) (vI:=λh=>f (h*d.size,d.size)) (λh aO J=>J) ar R S aL;have nI:=ry H Y;obtain⟨aB,D⟩:=BF (bz:=b.C) (y:=r.toList) af (by simpa using nI.cH) nI.eY;refine⟨r.toList,D,fG (uq j u) aD,by omega,?_,?_⟩
         rotate_left
         .exact Rh
         have A:=(aY o e t).run_underlying (Q:=b.a);rw[ag]at A;have aw:(zeroValue W).run P b.a=.ok p b.a:=NU;have F:Instr.fill (λh=>f (h*d.size,d.size)) ((Array.range (j*d.size)).map (λw=>p.cells[w % p.cells.size]!)) (parts.map λ(e,Z)=>(e,ρ Z)).toList=f r:=by simpa using V
         by_cases aA:j*d.size=0
         .have ax:j=0:=by grind[Nat.mul_eq_zero]
          subst ax;have al:Array.range 0=#[]:=rfl;simp[al]at F;simp[ab,s,Instr.buildSlice,A,(aY W d z).a',al,F,Go.newRow,a6.newRow]
         rw[show ab ρ q=(do pure (.value (<-Instr.buildSlice o j (parts.map λ(e,Z)=>(e,ρ Z))))) by simp[ab,s]];simp only[Instr.buildSlice,cK,A,c9,(aY W d z).a',aA,dm,aw,show¬j*d.size>2 ^ 24 by omega,sx,F,dZ];simp[Go.newRow,a6.newRow]
section
variable {p:ah P}
def g.gT(aY:bZ P ac){parts}(C:q.op=.buildSlice o j parts){h}{U}{e}(u:bW ac o=f e)(M:e.desc=.slice W)(s:rP ac (bD F) o j parts.toList=f (h,U))(S:q.guard=n)(V:fi E q.dst=l)(w:g p E bd (.S all bq::av) .normal (gb q.dst (cD (c k) (.A j h 0 j)) F) (k++[.p W h j (λe=>U.getD e [])])):g p E bd (.S all (q::bq)::av) .normal F k:=by
 refine g.cC (ι:=Unit) (λ_=>cD (c k) (.A j h 0 j)) (λ_=>k++[.p W h j (λe=>U.getD e [])]) S V (λb A O i=>?_) λ_=>w;obtain⟨r,y,I,D,B,K⟩:=SB (k:=k) (b:=b) (ρ:=A.eval) aY C s u M (λX=>eF O X);have aH:ew (k++[.p W h j (λe=>U.getD e [])]) {b with a:=(b.newRow W r).a,s:=b.s++[⟨.slice (f ⟨b.a.heap.size,0,n⟩) 0 j,[b.a.heap.size]⟩]} (.p W h j (λe=>U.getD e [])) ⟨.slice (f ⟨b.a.heap.size,0,n⟩) 0 j,[b.a.heap.size]⟩:=by
  refine .inr ⟨b.a.heap.size,j,r,[],a,by rw[hp];exact lS b.a _,by rw[hp];exact y.len,bA _,by omega,y,λq=>?_⟩;cases m:b.C b.a.heap.size q with
  |none=>rfl
  |some T=>have:=i.block m;omega
 have z:bb k {b with a:=(b.newRow W r).a}/\cN k b k {b with a:=(b.newRow W r).a}:=
  i.cn (by simp[a6.newRow]) (λt d=>iX b.a _ d) (λt d q=>rfl) (λt d q T m=>by have:=i.block m;omega) a a a
 obtain⟨R,Q⟩:=z.1.bY z.2 rfl i aH (λt d=>by simp at d;subst d;exact⟨bA _,by simp[a6.newRow]⟩);refine⟨(),.value (.slice (f ⟨b.a.heap.size,0,n⟩) j j),{b with a:=(b.newRow W r).a,s:=b.s++[⟨.slice (f ⟨b.a.heap.size,0,n⟩) 0 j,[b.a.heap.size]⟩]},_,B,.inl rfl,?_,R,Q,by rw[K];exact .nil⟩;refine⟨.slice (f ⟨b.a.heap.size,0,n⟩) 0 j,⟨_,_,j,j,a,bA _,by simp,by omega,a,λ_=>⟨_,a,by simp⟩⟩,by simp,λY J N x s=>?_⟩;simp at s;obtain⟨_,_,rfl,_⟩:=s;exact⟨bA _,λ_=>⟨_,by show(b.s++[_])[c k]?=_;rw[<-i.len,Ar],a⟩⟩
end
def uV(o i j:Nat)(g:Nat->m K):O->O×m Prop
 |.N b (.A h a e d)=>match ad b o with
  |true=>match ad a i with
   |true=>(.c (.A v i d (h' e g)),[h=j,e+d<=j])
   |false=>(.N b (.A h a e d),[])
  |false=>(.N b (.A h a e d),[])
 |k=>(k,[])
def o2(g e h:Nat)(a:Nat->m K):m O->m O×m Prop
 |[]=>([],[])
 |i::o=>match uV g e h a i with
  |(b,j)=>match o2 g e h a o with
   |(d,k)=>(b::d,gM j k)
def BT(h g i:Nat)(a:Nat->m K):E1->E1×m Prop
 |.R j=>match uV h g i a j with|(b,e)=>(.R b,e)
 |.agg d=>match o2 h g i a d with|(k,e)=>(.agg k,e)
def BS(g e h:Nat)(a:Nat->m K):x->x×m Prop
 |.n j=>match BT g e h a j with|(b,i)=>(.n b,i)
 |d=>(d,[])
def uW(e d g:Nat)(a:Nat->m K):bJ->bJ×m Prop
 |[]=>([],[])
 |(p,i)::o=>match BS e d g a i with
  |(h,j)=>match uW e d g a o with
   |(b,k)=>((p,h)::b,gM j k)
def iP(g j k:Nat)(b:Nat->m K):Nat->m ap->m ap×m Prop
 |_,[]=>([],[])
 |i,d::r=>match iP g j k b (i+1) r with
  |(a,h)=>match ad i g with
   |true=>(.M::a,h)
   |false=>match d with
    |.cells o e=>match o2 g j k b e with|(p,q)=>(.cells o p::a,gM q h)
    |d=>(d::a,h)
section
variable {b3:a6}{W h:Nat}
structure l9(k:m ap)(b:a6)(d h j:Nat)(U:Nat->m K)(an:m ap)(b3:a6):Prop where
 a3:∀aa w,cB k b aa w->cB an b3 aa w
 e0:∀aa gk q z,cB k b aa (.N d (.A j gk q z))->gk=h->q+z<=j->Rd b3.C aa (.A v h z (h' q U))
def l9.cO(g:l9 k b d h j U an b3){aa}{w}(m:T (uV d h j U w).2)(i:cB k b aa w):cB an b3 aa (uV d h j U w).1:=by
 unfold uV at m⊢;split
 .rename_i r B p q z;split
  .rename_i a;split
   .rename_i e;simp[a,e]at m;have a:=dn a;have e:=dn e;subst a;obtain⟨rfl,o⟩:B=j/\q+z<=j:=m;exact g.e0 aa _ _ _ i e o
   exact g.a3 aa _ i
  exact g.a3 aa _ i
 exact g.a3 aa _ i
def l9.gu(i:l9 k b d h j U an b3):∀{y:m X}{a:m O},T (o2 d h j U a).2->bM k b y a->bM an b3 y (o2 d h j U a).1
 |[],[],_,_=>trivial
 |[],_::_,_,e=>e.elim
 |_::_,[],_,e=>e.elim
 |p::y,o::a,g,e=>by simp only[o2]at g⊢;rw[T.Z]at g;exact⟨i.cO g.1 e.1,i.gu g.2 e.2⟩
def l9.n(g:l9 k b d h j U an b3){a}(e:T (BT d h j U a).2)(i:ey k b aa a):ey an b3 aa (BT d h j U a).1:=by
 cases a with
 |R q=>exact g.cO e i
 |agg o=>obtain⟨y,p,m⟩:=i;exact⟨y,p,g.gu e m⟩
def l9.c'(m:l9 k b d h j U an b3)(a:c b.s=c k)(i:fp k b an b3){aa}{N}(g:T (BS d h j U N).2)(e:bv k b aa N):bv an b3 aa (BS d h j U N).1:=by
 cases N with
 |n p=>exact m.n g e
 |Q o=>exact e.mono i a
 |any=>trivial
def l9.cc(q:l9 k b d h j U an b3)(g:c b.s=c k)(p:fp k b an b3):∀{F:bJ}{o:Nat}{m:X},T (uW d h j U F).2->bv k b m (look F o)->bv an b3 m (look (uW d h j U F).1 o)
 |[],_,_,_,_=>trivial
 |(r,s)::t,o,m,i,a=>by
  simp only[uW]at i⊢;rw[T.Z]at i;simp[look]at a⊢;cases e:ad r o with
  |true=>rw[e]at a;exact q.c' g p i.1 a
  |false=>rw[e]at a;exact q.cc g p i.2 a
theorem BQ:∀{k:m ap}{e t:Nat},(iP d h j U e k).1[t]?=match k[t]? with
  |none=>n
  |some a=>f (match ad (e+t) d with|true=>.M|false=>match a with|.cells i b=>.cells i (o2 d h j U b).1|a=>a)
 |[],e,t=>by simp[iP]
 |a::g,e,0=>by simp[iP,ka,mf];grind
 |a::g,e,t+1=>by have o:=BQ (k:=g) (e:=e+1) (t:=t);have p:e+1+t=e+(t+1):=u;rw[p]at o;simp[iP,nY];grind
def HL:∀{k:m ap}{e t:Nat}{g:al}{a:m O},T (iP d h j U e k).2->k[t]?=f (.cells g a)->e+t≠d->T (o2 d h j U a).2
 |[],e,t,_,_,_,b,_=>by grind
 |p::o,e,0,g,a,i,b,q=>by simp at b;subst b;simp[iP]at i;grind[Nat.eq_of_beq_eq_true,T.Z]
 |p::o,e,t+1,g,a,i,b,q=>by simp at b;refine HL (k:=o) (e:=e+1) (t:=t) ?_ b u;simp[iP]at i;grind[T.Z]
theorem BR:∀{k:m ap}{e:Nat},(iP d h j U e k).1.length=c k
 |[],_=>rfl
 |g::a,e=>by simp[iP];have b:=BR (k:=a) (e:=e+1);grind
def bb.bN(r:bb k b)(aH:k[d]?=f (.p W h j U))(aq:T (iP d h j U 0 k).2):
  ∃p:a6,p.a=b.a/\bb (iP d h j U 0 k).1 p/\cN k b (iP d h j U 0 k).1 p/\l9 k b d h j U (iP d h j U 0 k).1 p:=by
 have x:d<c k:=(cO.1 aH).1;have af:b.s[d]?=f (b.s[d]'(by rw[r.len];exact x)):=bI _;generalize b.s[d]'M=L at af;have a0:=r.box _ _ L aH af;obtain⟨cg,av,aw,ax,aA⟩:∃cg:Mem,(∀m e q,b.C m e=f q->cg m e=f q)/\(∀m,m∉L.aj->∀e,cg m e=b.C m e)/\(∀m e q,cg m e=f q->b.a.cell? ⟨m,e,n⟩=f q) /\
   (∀q o e J,cB k b q (.N d (.A j o e J))->o=h->e+J<=j->Rd cg q (.A v h J (h' e U))):=by
  rcases a0 with⟨rfl,rfl⟩|⟨m,al,y,a9,rfl,hw,aU,aV,aT,aM,a5⟩
  .refine⟨b.C,λ_ _ _ S=>S,λ_ _ _=>rfl,r.mem,λq o e J N s aF=>?_⟩;obtain⟨au,⟨aP,ak,Z,al,X,t,w,G,aI,aL⟩,_,aN⟩:=N;grind[Rd.dJ]
  let cg:Mem:=λB e=>if B=m then y[e]? else b.C B e;have aO:∀B e q,b.C B e=f q->cg B e=f q:=λB e q X=>by grind
  refine⟨cg,aO,λB aS e=>M,λB e q X=>?_,λq o e J N s aF=>?_⟩
  .by_cases s:B=m
   .subst s;simp[cg,dA]at X;simp[aJ,hw];grind
   simp[cg,s,dm]at X;exact r.mem B e q X
  subst s;obtain⟨au,⟨aP,ak,Z,a4,X,t,w,G,aI,aL⟩,_,aN⟩:=N;obtain⟨cu,E,aG⟩:=(aN _ _ _ _ aH).2 rfl;rw[af]at E;cases E;rw[aI]at aG;cases aG;rw[X];have ag:∀i,i<J->∀F R,(h' e U i)[F]?=f R->∃aC,y[(e+i)*o+F]?=f aC/\Rd b.C aC R:=λi g F R z=>by rw[yI]at z;exact aM.rd (e+i) u F R z
  refine .A m (e*o) (λi F=>(y[(e+i)*o+F]?).getD I) t u C (λi g=>by rw[yI];exact aM.bF _ u) (λa7=>M) (λi g F R z=>M) (λi g F R z=>?_);obtain⟨aC,aD,aE⟩:=ag i g F R z;rw[aD];exact aE.mono aO
 obtain⟨K,aB⟩:=r.b4 (cg:=cg) (bg:=b.a) (ec:=.M) (cu:=⟨L.v,[]⟩) aH af A (bA _) (λ_ _ _=>rfl) (λm _ V e=>aw m V e) av ax C rfl rfl rfl A;let p:a6:=⟨b.s.set d ⟨L.v,[]⟩,cg,b.a,b.own⟩
 have ag:∀i Q,k[i]?=f Q->i≠d->(iP d h j U 0 k).1[i]?=f (match Q with|.cells W aa=>.cells W (o2 d h j U aa).1|m=>m):=λi Q g aY=>by grind[BQ,Nat.eq_of_beq_eq_true]
 have aK:(iP d h j U 0 k).1[d]?=f .M:=by
  rw[BQ,aH];have:ad (0+d) d=l:=by rw[cW];exact sz d
  grind
 have rY:cN (k.set d .M) p (iP d h j U 0 k).1 p:=by
  refine⟨bA _,λ_ _ _=>rfl,λ_ _ _ S=>S,λ_ _ _ _=>rfl,λcu E m V=>.inr ⟨cu,E,V⟩,λi Q cu g E=>?_,a,a,a,a⟩;by_cases s:i=d
  .subst s;rw[iq x]at g;cases g;exact⟨.M,cu,aK,E,a⟩
  rw[j9 (λS=>s S.symm)]at g;refine⟨_,cu,ag i Q g s,E,?_⟩;cases Q<;>first|exact fM.refl _ _|rfl
 have ae:=aB.trans rY;have ab:l9 k b d h j U (iP d h j U 0 k).1 p:=⟨λq aP N=>N.mono ae.ext r.len,λq o e J N s aF=>aA q o e J N s aF⟩
 refine⟨p,a,⟨K.mem,by rw[BR,<-r.len];grind,λi Q cu g E=>?_,K.a0,K.lt,K.own⟩,ae,ab⟩;by_cases s:i=d
 .subst s;rw[aK]at g;cases g;trivial
 have O:i<c k:=by grind[BR]
 have ah:=bI O;have a2:b.s[i]?=f cu:=M;have a3:=r.box i _ cu ah a2;have Y:=K.box i _ cu (by rw[j9 (λS=>s S.symm)];exact ah) E;have D:=ag i _ ah s;rw[g]at D;have D:=su D;generalize aR:k[i]=ai at *;cases ai with
 |cells eO aa=>
  subst D;obtain⟨m,y,t,w,G,aL⟩:=a3;obtain⟨B,aZ,H,aQ,_,a1⟩:=Y;rw[t]at H;cases H;exact⟨m,y,t,w,ab.gu (HL aq ah u) G,a1⟩
 |w=>subst D;exact Y
 |J=>subst D;exact Y
 |M=>subst D;trivial
 |loop a' a_ N=>
  subst D;obtain⟨ar,tmps,fn,an,t,w,G,aL,ao⟩:=Y;exact⟨ar,tmps,fn,an,t,w,G,λa8=>(aL a8).mono rY.ext K.len,ao⟩
 |bl=>subst D;exact Y
 |p=>subst D;exact Y
end
section
variable {p:ah P}{dF:bJ}
def g.bN(d){W h j}{a:Nat->m K}{Y cR}(t:c' d k=f (.p W h j a))(B:uW d h j a F=(dF,Y))(y:iP d h j a 0 k=(an,cR))(C:T Y)(D:T cR)(u:g p E bd (.code r::av) .normal dF an):g p E bd (.code r::av) .normal F k:=by refine g.aP (λI A q e=>?_) u;obtain⟨w,s,b,i,x⟩:=e.bN (eo t) M;rw[y]at b i x;refine⟨w,s,⟨q.size,q.defers.imp λ_ z=>z.mono i.ext,λo=>?_⟩,b,i⟩;have:=x.cc e.len i.ext (F:=F) (o:=o) M (q.ak o);grind
end
def bb.e4{aQ}{h}{bO}{af}(i:bb (aQ++[.J (cq W h bO j af)]) b)(t:ek h j U af)(I:km (c aQ) aQ=l):
  ∃g:a6,bb aQ g/\eZ b g/\Rd g.C (c0 bO j) (.A v h j U)/\∀{e:m ap} {k:a6},de e k (aQ++[.J (cq W h bO j af)]) b->e.length<=c aQ->de e k aQ g:=by
 have aH:(aQ++[ap.J (cq W h bO j af)])[c aQ]?=f (.J (cq W h bO j af)):=C
 obtain⟨L,cg,B,z,w,x,T,R⟩:=cq.fK aH U (λu o=>⟨t.ep u o,λS Q E V r N=>by
  obtain⟨X,Y,O⟩:=t.b2 u o Q E r
  grind⟩) b i
 obtain⟨y,p⟩:=i.b4 (cg:=cg) (bg:=b.a) (ec:=.M) (cu:=⟨L.v,[]⟩) aH B rfl (bA _) (λ_ _ _=>rfl) (λq _ d s=>w q d s) z x C rfl rfl rfl A;have D:(aQ++[ap.J (cq W h bO j af)]).set (c aQ) .M=aQ++[.M]:=C;rw[D]at y p;refine⟨_,y.drop (bq:=[.M]) I,⟨a,z,λq d s=>w q (d L (b8 B)) s,x,λq d=>?_⟩,R,λ{e k} K J=>(K.trans (p.tooQ i)).drop (bq:=[.M]) J⟩;rcases d with d|⟨cu,F,d⟩
 .exact .inl d
 have M:=gY F;grind
def bl.e4{P:aE}{b:Type}{C:ah P}{D}{args}{k}{aQ:b->m ap}{W h}{j:b->Nat}{d:b->fo}{o:b->m X}{U:b->Nat->m K}(E:bl C D args k (λa=>cM (c0 (d a) (j a))) (λa=>aQ a++[.J (cq W h (d a) (j a) (o a))]))(M:∀a,ek h (j a) (U a) (o a))(N:∀a,km (c (aQ a)) (aQ a)=l)(J:∀a,c k<=c (aQ a)):bl C D args k (λa=>ax (.A v h (j a) (U a))) aQ:=by refine⟨E.1,λQ y z w I s u=>E.2 Q y z w I s λa t F R x e i B=>?_⟩;obtain⟨A,p,g,q,r⟩:=i.e4 (M a) (N a);have O:F=c0 (d a) (j a):=Rd.ba e;exact .aP g (u a t F A (x.mono g.mem) (by rw[O];exact q) p (r B (J a)))
section
variable {p:ah P}
def iF.cF{z}{bf}{res}{bq:ι->m ap}(q:iF p z bf k res λa=>aQ a++bq a)(g:∀a,c (aQ a)=c k)(I:∀a (j:Nat)(w:ap),(aQ a)[j]?=f w->Aa (c (aQ a)) k j w):iF p z bf k res aQ:=by
 intro K y j D e h;obtain⟨fn,tmps,B,x,r,s,E⟩:=q K y j D e h;refine⟨fn,tmps,B,x,r,s,λA C o t=>E A C o λa i b u=>?_⟩;have J:eZ i (i.cut (c (aQ a))):=⟨rfl,λ_ _ _ q=>q,λ_ _ _=>rfl,b.mem,λx d=>d.imp id λ⟨L,F,d⟩=>⟨L,gY F,d⟩⟩
 exact .aP J (t a _ (e.g1 (g a).symm (I a) b) (u.drop (Nat.le_of_eq (g a).symm)))
end
section
variable {p:ah P}
def g.e1(o d){ag}{gN}(h:look F o=aI d 0)(a:c' d k=f (.cells W ag))(e:h5 ag=f gN)(b:g p E bd (.S all bq::av) .normal ((o,ax (.O gN))::F) (db.cu d .M k)):g p E bd (.S all bq::av) .normal F k:=by grind[mM,g.hf,bX.freeze]
def iE.cons{a}{o}{b}(j:look F o=b)(g:iE F a):iE F ((o,b)::a):=by
 intro i k m h d;simp only[look];cases e:ad o h with
 |false=>exact g _ _ _ _ d
 |true=>
  exact t0
end
section
variable {p:ah P}
def Sl{i:aG}{h}{w}{bq}{T}(F:i.kind≠.early)(x:aM[e]?=f q)(M:aS q (yielded aM w.tmps)=l)(s:bb k b)(U:∀d,bb k d->(ab w.eval q).run P d.a=.ok (.enter T y.toArray) d.a/\dv d ((ab w.eval q).events P d.a #[]))(aL:bl p T cQ dh res aQ)(au:b4 k b y (gn aU cQ))(al:hd (c aU) cQ=l)(A:dx aU k=f dh)(J:eu dh=l)(Y:∀g,eu (aQ g)=l)(u:fb aU=l)(t:∀g,c aU<=c (aQ g))(D:∀g z aB,bv (db aU (aQ g) k) aB z (fc (aU++gU (c k) (c (aQ g)-c aU)) (res g))->bb (db aU (aQ g) k) aB->de k b (db aU (aQ g) k) aB->ce p br (G (i.ab (w.put q.dst z) (.inRegion aM bq::h)) ag) aB):
  ce p br (G (i.ab w (.inRegion aM (e::bq)::h)) ag) b:=by obtain⟨_,ax⟩:=aL;refine .next a λd ao=>?_;have C:=p.bI ao;have j:=s.rely C;obtain⟨m,R⟩:=vS (kM:=d.s) A j.len;obtain⟨H,o⟩:=j.sub A R J u;have ar:b4 k d y (gn aU cQ):=au.mono C.aI.ext s.len;have X:b4 dh {d with s:=m,own:=ou d m} y cQ:=(ar.sub (b:=d) A R al).mono (k:=dh) (b:={d with s:=m}) (an:=dh) (aB:={d with s:=m,own:=ou d m}) ⟨λ_ _ _ D=>D,λaC V L aH E=>⟨V,L,aH,E,.refl _ _⟩⟩ H.len;refine⟨_,d,_,tC x M F (U d j).1,⟨⟨k,k,j,j,.refl _ _⟩,dv.seen (U d j).2⟩,.aP o (ax _ y X H br _ λg aq z av I W N ah=>?_)⟩;refine uE (ag:=ag) (r:=i.ab w (.inRegion aM (e::bq)::h)) N I λaw S=>?_;have K:=N.rely S;have O:=ah.trans S.aI;obtain⟨Q,ae,Z,ak,aa,af,ai,aA⟩:=frame j A R u (Y g) K O (t g) (W.mono S.aI.ext N.len);refine .aP (eZ.cS j K O ae af ai aA) ?_;have B:=qi (i:=i) (w:=w) (h:=h) aM e bq z;rw[x]at B;simp[n0]at B;rw[B];exact D g z Q Z ak (C.aI.trans aa)
def ee.cell(aY:bZ P ac){d o B}{W}{aa}{e}(r:c' d k=f (.J (ee B W aa)))(g:bW ac o=f e)(Q:dS aa=l)(u:hj e [.c (.val aa)]=f (.R (.c (.val aa)))){b}(bP:bb k b):
  (loadVar o ⟨B,0,n⟩).run P b.a=.ok aa b.a/\dv b ((loadVar o ⟨B,0,n⟩).events P b.a #[]):=by
 have aH:=eo r;have C:d<c b.s:=h0;have p:=bI C;generalize b.s[d]=L at p;obtain⟨z,⟨E,q,R⟩,I,J,O⟩:=bP.box d _ L aH p;have t:=I B _ q;have N:=(J B).2 M
 have F:bM k b [aa] [.c (.val aa)]:=⟨Rd.val Q,A⟩;obtain⟨w,D,x⟩:=tx (b:=b) (k:=k) (P:=P) (aY o e g) (i:=B) (off:=0) (y:=[aa]) (ag:=[.c (.val aa)]) (au:=.R (.c (.val aa))) (λs S h=>by
  simp[aJ,t]
  grind) F u
 have K:w=aa:=Rd.ba x;subst K;refine⟨D,λm a=>?_⟩;obtain⟨s,h,rfl⟩:=o5 (aY o e g) (j:=1) (λs h=>⟨w,by simp[aJ,t];grind⟩) (by have:=r7 u;grind) m a;exact qf (b8 p) N
def aZ.eD(aY:bZ P ac){o B}(d){D}{e}(K:oF all F q=l)(s:q.op=.load o D)(N:bD F D=ax (.val (.pointer (f ⟨B,0,n⟩))))(r:c' d k=f (.J (ee B W aa)))(m:bW ac o=f e)(z:dS aa=l)(M:hj e [.c (.val aa)]=f (.R (.c (.val aa)))):
  aZ p E all q F k (ax (.val aa)) k:=by
 intro U A w j Q S C O T u i t h;refine rl i t (jW K _ _ _ w) λy x=>?_;have b:=j.rely x;have g:=eF w D;rw[N]at g;have g:=Rd.ba (b6 g);obtain⟨I,J⟩:=ee.cell aY r m z M b;have R:ab A.eval q=(do pure (.value (<-loadVar o ⟨B,0,n⟩))):=by simp[ab,s,g,Instr.loadAt,Instr.sureAddr]
 refine⟨.value aa,y,aa,by simp_all,.inl a,⟨⟨k,k,b,b,.refl _ _⟩,?_⟩,h aa y (Rd.val z) b x.aI⟩;simp_all
def Np(o)(a)(b):Builtin.ssaWrapNilChk_ #[o] o #[.pointer (f a),strVal "",strVal b]=pure (.pointer (f a)):=rfl
def nQ(P:aE)(g:m ap)(b:al)(e:X)(name:String)(h:a1)(i:X):Prop:=∀a,bb g a->∀d,(Go.method (d+1) b e name).run P a.a=.ok (h,i) a.a/\dv a ((Go.method (d+1) b e name).events P a.a #[])
def nQ.ptr{g}{name}{j}{e}{z}{q}(m:P.info? g=f e)(i:e.methods.find? (·.name==name)=f z)(o:z.path=#[])(p:z.func=f (j,l))(r:P.underlying g=f (.pointer q)):nQ P k g aa name j aa:=by
 intro t s u;have h:∀d,(typeInfo g).run P d=.ok e d:=λd=>by simp[typeInfo,m]
 have b:∀d,(underlying g).run P d=.ok (.pointer q) d:=λd=>by simp[underlying,r]
 unfold Go.method;constructor
 .simp only[cK,h,i,o,p,c9,follow,dZ,receiverAt,b];rfl
 have:∀a,((do pure (j,<-receiverAt g (.val aa) l (if z.path.isEmpty then f ((name.splitOn ".").getLastD name)else n))):Sem (a1×X)).events P t.a a=a:=λa=>by simp[receiverAt,b,Place.get]
 simp[aD,cK,h,i,o,p,c9,aF,follow,dZ,Sem.events_pure,receiverAt,b,events_typeInfo,events_underlying,Place.get];exact .nil
def nQ.deref(aY:bZ P ac){B}{g}{name}{u}{e}{z}{w:cm}(q:P.info? g=f e)(j:e.methods.find? (·.name==name)=f z)(s:z.path=#[])(t:z.func=f (u,v))(D:P.underlying g=f (.pointer o))(r:c' d k=f (.J (ee B W aa)))(y:bW ac o=f w)(E:dS aa=l)(C:hj w [.c (.val aa)]=f (.R (.c (.val aa)))):nQ P k g (.pointer (f ⟨B,0,n⟩)) name u aa:=by
 intro J p F;have h:∀b,(typeInfo g).run P b=.ok e b:=λb=>by simp[typeInfo,q]
 have i:∀b,(underlying g).run P b=.ok (.pointer o) b:=λb=>by simp[underlying,D]
 obtain⟨x,A⟩:=ee.cell aY r y E C p;have I:z.path.isEmpty=l:=M;unfold Go.method;constructor
 .simp only[cK,h,j,s,t,c9,follow,dZ,receiverAt,i,Place.get];simp[Np,asAddr,x]
 intro m a;refine A m ?_;simp[aD,cK,h,j,s,t,c9,aF,follow,dZ,Sem.events_pure,receiverAt,i,events_typeInfo,events_underlying,Place.get]at a;simpa[Np,asAddr,x]using a
def Cq{a:ae->X}{D}{b}{name}(e:q.op=.call {callee:=.invoke D name,args:=b,argTypes:=ds}){i}{d}(k:a D=.iface i d):
  ab a q=callMethod (.iface i d) name (b.toList.map a).toArray:=by
 have g:#[a D]++b.map a=(.iface i d::b.toList.map a).toArray:=M;have h:(Value.iface i d::b.toList.map a).toArray.extract 1 (Value.iface i d::b.toList.map a).toArray.size=(b.toList.map a).toArray:=M;have j:ab a q=invoke (.fn (.method name) #[]) (#[a D]++b.map a):=by simp[ab,e];rfl
 rw[j,g];show callMethod (.iface i d) name ((Value.iface i d::b.toList.map a).toArray.extract 1 (Value.iface i d::b.toList.map a).toArray.size)=_;rw[h]
def g.dq{ao:al}{name}{au}{aB x}(aC:bl p au cQ dh res aQ)(aU)(V:nQ P k ao aB name au x)(aD:oF all F q=l){D}{K:Array ae}(w:q.op=.call {callee:=.invoke D name,args:=K,argTypes:=ds})(aa:bD F D=ax (.cd ao (.val aB)))(Y:dS x=l)(aP:k4 (ax (.val x)::K.toList.map (bD F))=gn aU cQ)(L:hd (c aU) cQ=l)(aG:dx aU k=f dh)(X:eu dh=l)(G:∀h,eu (aQ h)=l)(W:fb aU=l)(aH:∀h,ay (c aU) (c (aQ h))=l)(S:fi E q.dst=l)(aO:∀h,g p E bd (.S all bq::av) .normal (gb q.dst (fc (aU++gU (c k) (c (aQ h)-c aU)) (res h)) F) (db aU (aQ h) k)):g p E bd (.S all (q::bq)::av) .normal F k:=by
 intro b C O j aK ab s aI idx t d U;cases idx with
 |nil=>exact d.elim
 |cons a0 idx=>
 have A:=eF O D;rw[aa]at A;have A:=b6 A;generalize aq:C.eval D=aY at A;cases A with
 |@cd _ aV _ Q aN=>
  have Z:=Rd.ba Q;subst Z;obtain⟨fn,an,aZ,aL⟩:=aC.1;have aw:fn.name≠ "runtime.NumGoroutine":=M;have ar:fn.body≠n:=M;obtain⟨af,ak⟩:∃af,P.types.size+Made.depth=af+1:=⟨P.types.size+Made.depth-1,by exact cS⟩
  have aA:∀r,(program:Sem aE).run P r=.ok P r:=λr=>by simp
  have aR:∀r i,(program:Sem aE).events P r i=i:=λr i=>by simp
  have aM:b4 k b (x::K.toList.map C.eval) (gn aU cQ):=by rw[<-aP];exact uQ (k:=k) (b:=b) ⟨Rd.val Y,m1 (eF O) K.toList⟩
  refine Sl (aU:=aU) t d.1 (jW aD _ _ _ O) j (y:=x::K.toList.map C.eval) (λah aF=>?_) aC aM L aG X G W (λh=>fq (aH h)) λh aY ag m u o=>?_
  .obtain⟨ac,a⟩:=V ah aF af;constructor
   .rw[Cq w aq];simp[callMethod,aA,ak,ac,callFunc,an,aw,ar]
   intro J e;refine a J ?_;rw[Cq w aq]at e;simpa[callMethod,aA,aR,ak,ac,callFunc,an,aw,ar]using e
  refine aO h ag _ ?_ u aK ab s aI idx t d.2 λH B ai I aS N R z=>U H B ai I aS N R (o.trans z);cases aJ:q.dst with
  |none=>exact O.mono o j.len
  |some aT=>exact(O.mono o j.len).put (k8 S aT aJ) m
def a0.dO{D}(g:q.op=.nilCheck D){h}(i:η D=ax (.val (.pointer (f h)))):a0 P q η k (ax (.val (.pointer (f h)))) k:=by refine .aS λm d j b=>?_;have a:=b D;rw[i]at a;have e:=Rd.ba (b6 a);exact⟨d D,by simp[ab,g,e],a,by simp[ab,g,e]⟩
def a0.e9(aY:bZ P ac){D}(ae:q.op=.load o D){cap ak h}{af}{x:cm}{au}(a:η D=ax (.val (.pointer (f ⟨i,off,n⟩))))(aw:off=e*h+ak)(A:k[d]?=f (.J (cq W h (.row i cap) j af)))(T:ek h j U af)(w:bW ac o=f x)(F:hj x ((f_ ak (U e)).map O.c)=f au)(S:e<j):a0 P q η k (.n au) k:=by
 refine .du λb E bP C=>?_;have K:=C D;rw[a]at K;have K:=Rd.ba (b6 K);have ah:d<c b.s:=h0;have y:=bI ah;generalize b.s[d]=L at y;obtain⟨Z,Y,aa,R,aB⟩:=bP.box d _ L A y;obtain⟨ar,aA,ao,av⟩:=cq.lookup Y;have H:i∈L.aj:=(R i).2 M;have ai:=aa i _ ao;let B:Nat->X:=λg=>af.getD (e*h+g) I;have aL:∀g r,(f_ ak (U e))[g]?=f r->af[e*h+(ak+g)]?=f (B (ak+g))/\Rd b.C (B (ak+g)) r:=by intro g r m;rw[rA,pT]at m;obtain⟨s,al,an⟩:=T.b2 e S (ak+g) r m;grind
 have V:=DP (k:=k) (b:=b) (B:=B) (bf:=f_ ak (U e)) (z:=ak) (λg r m=>(aL g r m).2);have J:∀g s,((az (c (f_ ak (U e)))).map λg=>B (ak+g))[g]?=f s->b.a.cell? ⟨i,off+g,n⟩=f s:=by
  intro g s m;simp[m6]at m;by_cases N:g<c (f_ ak (U e))
  .simp[N]at m;subst m;have ag:=(aL g _ (bI N)).1;simp[aJ,ai];grind
  grind
 obtain⟨s,Q,G⟩:=tx (b:=b) (k:=k) (P:=P) (aY o x w) (i:=i) (off:=off) (au:=au) J V F;have t:ab E q=(do pure (.value (<-loadVar o ⟨i,off,n⟩))):=by simp[ab,ae,K,Instr.loadAt,Instr.sureAddr]
 refine⟨s,by rw[t];simp[Q],G,λu p=>?_⟩;rw[t]at p;have aq:u∈(loadVar o ⟨i,off,n⟩).events P b.a #[]:=by simpa[Q]using p
 obtain⟨g,m,rfl⟩:=o5 (aY o x w) (j:=c (f_ ak (U e))) (λg m=>⟨_,J g (B (ak+g)) M⟩) (by have:=r7 F;grind) u aq;exact qf (b8 y) H
def a0.jU(aY:bZ P ac){x r:ae}(B:q.op=.slice o x n (f r) n){e}(E:bW ac o=f e)(J:e.desc=.slice W)(K:bW ac W=f a4){cap}{kd}{z}(O:η x=ax (.val (.slice (f ⟨i,0,n⟩) j cap)))(M:η r=ax (.int kd z))(A:j<=cap)(N:0<=z)(u:z<=j):a0 P q η k (ax (.val (.slice (f ⟨i,0,n⟩) z.toNat cap))) k:=by
 refine .aS λb s D d=>?_;have h:=d x;rw[O]at h;have h:=Rd.ba (b6 h);have m:kF η n=f n:=rfl;have C:kF η (f r)=f (f z):=by simp[kF,M]
 have p:T (ji j n (f z)):=⟨N,u⟩;obtain⟨w,R,S⟩:=vP (P:=P) (kn:=l) A (kf d m) (kf d C) p b.a;have t:=(aY o e E).run_underlying (Q:=b.a);rw[J]at t;have y:(aV l j cap n (f (s r)) n).run P b.a=.ok (0,z.toNat,cap) b.a:=w;have I:=u2 (P:=P) (kn:=l) A (kf d m) (kf d C) p b.a;have F:∀g,(aV l j cap n (f (s r)) n).events P b.a g=g:=I;refine⟨_,?_,Rd.val a,?_⟩
 .simp[ab,B,h,Instr.sliceAt,t,Instr.slice,y,(aY W a4 K).a',g0]
 simp[ab,B,h,Instr.sliceAt,t,Instr.slice,y,F]
def LF{b}:∀{y:m X}{d:m K},c y=c d->∀g:Nat->X,(∀a,a<c y->y[a]?=f (g a))->(∀a(e:K),d[a]?=f e->Rd b.C (g a) e)->bM k b y (d.map O.c)
 |[],[],_,_,_,_=>trivial
 |[],_::_,h,_,_,_=>by grind
 |_::_,[],h,_,_,_=>by grind
 |q::y,e::d,h,g,j,i=>⟨by have:=j 0 C;cases this;exact i 0 e rfl,LF M (λa=>g (a+1)) (λa o=>by grind) λa p o=>i (a+1) p M⟩
def a0.gd(aY:bZ P ac){D}{m:al}(s:q.op=.typeAssert D m o v){e}(h:bW ac o=f e)(t:vl e.desc=v){ag}(F:η D=ax (.cD o ag)):a0 P q η k (.n (.agg (ag.map O.c))) k:=by
 refine .aS λd p C j=>?_;have b:=j D;rw[F]at b;replace b:=b6 b;generalize r:p D=J at b;have w:=(aY o e h).run_underlying (Q:=d.a);have K:∀u,e.desc≠.interface u:=by intro u z;rw[z]at t;cases t
 cases b with
 |@cD I y ag i A E B=>
  have g:(Instr.typeAssert (.iface o (.agg y.toArray)) m o v).run P d.a=.ok (.agg y.toArray) d.a/\(Instr.typeAssert (.iface o (.agg y.toArray)) m o v).events P d.a #[]=#[]:=by
   constructor
   .unfold Instr.typeAssert;simp only[cK,w,c9];cases x:e.desc<;>first|simp|simp
   unfold Instr.typeAssert;simp only[w,aD,aF,events_underlying];cases x:e.desc<;>first|simp|simp
  exact⟨.agg y.toArray,by simp[ab,s,r,cK,g.1,c9,dZ],⟨y,a,LF i A E B⟩,by simp[ab,s,r,aD,g.1,g.2,aF,Sem.events_pure]⟩
def g.h6(aY:bZ P ac)(d){o B}{R S:ae}{b}{e}(ao:q.op=.store o R S)(u:bW ac o=f e)(Y:e.size=1)(ai:bD F R=ax (.val (.pointer (f ⟨B,0,n⟩))))(ah:bD F S=ax (.val b))(U:b.cells=#[b])(aE:dS b=l)(m:c' d k=f (.J (ee B W aa)))(ag:q.guard=n)(ak:fi E q.dst=l)(J:g p E bd (.S all bq::av) .normal (gb q.dst .any F) (k.set d (.J (ee B W b)))):g p E bd (.S all (q::bq)::av) .normal F k:=by
 refine g.cC (ι:=Unit) (λ_=>.any) (λ_=>k.set d (.J (ee B W b))) ag ak (λi al T bP=>?_) λ_=>J;have w:=eF T R;rw[ai]at w;have w:=Rd.ba (b6 w);have x:=eF T S;rw[ah]at x;have x:=Rd.ba (b6 x);have m:=eo m;have Z:d<c i.s:=h0;have K:=bI Z;generalize i.s[d]=L at K;obtain⟨an,⟨z,D,aq⟩,aw,G,af⟩:=bP.box d _ L m K;have X:B∈L.aj:=(G B).2 M;have y:=aw B _ D;have O:∀Q∈[b],Q.oneCell'=l:=λQ au=>by have:dS Q=l:=M;exact this
 have H:=run_storeCells_at P B 0 W [b] 0 #[aa] i.a y C O;have aB:∀h,h≠B->(i.a.setRow B #[b]).heap[h]?=i.a.heap[h]?:=λh r=>setRow_other i.a B h _ r;have aL:=setRow_heap i.a B #[aa] #[b] W (0,0) y;obtain⟨N,t2⟩:=bP.b6 (d:=d) (j1:=ee B W b) (cu:=L) (bg:=i.a.setRow B #[b]) m K rfl C
  (λh r ar=>aB h M) (λh r=>.inl r)
  ⟨λh=>if h=B then f (.cells #[b] W (0,0))else n,⟨z,by simp,λh r=>by grind⟩,λh q r=>by grind,λh=>by grind⟩ a a a
 have s:ab al.eval q=(do storeVar o ⟨B,0,n⟩ b;pure .skip):=by simp[ab,ao,w,x,Instr.storeAt,Instr.sureAddr]
 have V:(storeCells ⟨B,0,n⟩ [b] 0).run P i.a=.ok () (i.a.setRow B #[b]):=H;refine⟨(),.skip,_,I,?_,.inr ⟨a,a⟩,A,N,t2,?_⟩
 .rw[s];simp[storeVar,(aY o e u).a',U,Y,V]
 intro t j;rw[s]at j;have aA:t∈(storeCells ⟨B,0,n⟩ [b] 0).events P i.a #[]:=by simp[storeVar,aD,(aY o e u).a',Y,U,aF,events_sizeOf,d6,hB,dm,cK,c9,Sem.events_pure]at j;simpa[V]using j
 rcases nd [b] 0 #[aa] i.a #[] y C O t aA with aC|⟨aG,_,_,rfl⟩
 .grind
 exact n_ (b8 K) X (af B X _)
def g.jF(o d)(D A:Nat){O:Nat}(N:look F o=aI d 0)(j:c' d k=f (.cells W [.c (.A l O 0 U)]))(B:∀h b,g p E bd (.code r::av) .normal ((o,cM (.pointer (f ⟨h,0,n⟩)))::F) (k.set d (.J (ee h W (c0 (.nil b) 0)))++[.J (cq D A (.nil b) 0 [])])):g p E bd (.code r::av) .normal F k:=by
 refine b0.e2 (ι:=Nat×Option Addr) (dF:=λq=>(o,cM (.pointer (f ⟨q.1,0,n⟩)))::F) (an:=λq=>k.set d (.J (ee q.1 W (c0 (.nil q.2) 0)))++[ap.J (cq D A (.nil q.2) 0 [])]) (λs ai x bP=>?_) λq=>B q.1 q.2;have j:=eo j;have T:d<c s.s:=h0;have w:=bI T;generalize s.s[d]=L at w;obtain⟨h,y,rfl,af,ab,aL⟩:=bP.box d _ L j w
 match y,ab with
 |[Z],⟨Q,_⟩=>
  obtain⟨b,u,ae,rfl,_,_,Y,_,_⟩:=(show Rd s.C Z (.A l O 0 U)from Q).b0;have R:u=0:=Y a;subst R;obtain⟨K,I⟩:=bP.b4 (cg:=s.C) (bg:=s.a) (ec:=.J (ee h W (c0 (.nil b) 0))) (cu:=⟨.pointer (f ⟨h,0,n⟩),[h]⟩) j w rfl (bA _) (λ_ _ _=>rfl) (λ_ _ _ _=>rfl) (λ_ _ _ S=>S) bP.mem (λm e=>⟨.inl e,bP.lt _ (b8 w) m e⟩) rfl rfl rfl
   ⟨λm=>if m=h then f (.cells #[.slice b 0 0] W (0,0))else n,⟨rfl,by simp[c0],λm e=>by grind⟩,λm X e=>by grind,λm=>by by_cases z:m=h<;>simp[z],λm e X=>by grind⟩
  obtain⟨H,G⟩:=K.bY (bT:=.J (cq D A (.nil b) 0 [])) (L:=⟨.nilFunc,[]⟩) (.refl _ _) rfl K ⟨λ_=>n,⟨rfl,by simp,by simp,rfl,rfl⟩,by simp,by simp,by simp⟩ C;have t:=I.trans G;refine⟨(h,b),{s with s:=s.s.set d ⟨.pointer (f ⟨h,0,n⟩),[h]⟩++[⟨.nilFunc,[]⟩]},rfl,⟨x.size,x.defers.imp λ_ i=>i.mono t.ext,λM=>?_⟩,H,t⟩;simp only[look];cases e:ad o M with
  |false=>exact(x.ak M).mono t.ext bP.len
  |true=>
   have z:=dn e;subst z;have i:=x.ak o;rw[N]at i;obtain⟨_,ah,ag,J,aa,V⟩:=(i:cB k s _ (.ptr d 0));rw[w]at J;cases J;cases aa;rw[V];exact Rd.val a
theorem aZ.er{ι:Type}{D}{an}(r:q.guard=n)(t:eg P E q F k (λ_:ι=>D) λ_=>an):aZ p E all q F k D an:=λw m s g o i b j u a e h d=>dV.er r t w m s g o i b j u a e h λ_=>d
section
variable {D:Nat->x}{b3:Bool->Bool->m ap}{f1 f2:Nat}
abbrev nh(d:Bool->Bool->m ap)(a b:Nat):(Nat->Bool)->m ap:=λx=>d (x a) (x b)
def cd.fR(c5:ad f1 e=v)(dt:ad f2 e=v)(h:∀a b,aZ p E all q (eh all F D e) (b3 a b) (D e) (b3 a b)):cd p E all F D (nh b3 f1 f2) e q:=by intro x _ _;have d:dT e x f1=x f1:=EN;have g:dT e x f2=x f2:=EM;grind
def cd.df(aY:bZ P ac)(lO:ba p CT)(s:∀w i,iA ac CT [] all (eh all F D e) (b3 w i) q=f (D e,n,cl):=by intro w i;cases w<;>cases i<;>rfl)(c5:ad f1 e=v:=by rfl)(dt:ad f2 e=v:=by rfl)(cv:T cl:=by simp only[T,a7];omega):cd p E all F D (nh b3 f1 f2) e q:=.fR c5 dt λw i=>aZ.eval aY lO (s w i) cv
def cd.bk(aY:bZ P ac:=by exact bc)(lO:ba p CT:=by first|assumption|exact ba.nil)(s:∀w i,iA ac CT [] all (eh all F D e) (b3 w i) q=f (D e,n,[]):=by intro w i;cases w<;>cases i<;>rfl)(c5:ad f1 e=v:=by rfl)(dt:ad f2 e=v:=by rfl):cd p E all F D (nh b3 f1 f2) e q:=.df (cl:=[]) aY lO s c5 dt A
def cd.hc(c5:ad f1 e=v)(dt:ad f2 e=v)(h:hs all f1 e=l)(g:hs all f2 e=l)(i:aZ p E all q (eh all F D e) (b3 v v) (D e) (b3 v v)):cd p E all F D (nh b3 f1 f2) e q:=by intro x _ d;have a:dT e x f1=x f1:=EN;have b:dT e x f2=x f2:=EM;grind
def cd.fb(dt:ad f2 f1=v)(d:hs all f2 f1=l)(g:aZ p E all q (eh all F D f1) (b3 v v) (D f1) (b3 l v)):cd p E all F D (nh b3 f1 f2) f1 q:=by intro x _ e;have a:dT f1 x f1=l:=zW;have b:dT f1 x f2=x f2:=EM;grind
def cd.fc(c5:ad f1 f2=v)(e:hs all f2 f1=l)(g:aZ p E all q (eh all F D f2) (b3 l v) (D f2) (b3 l l)):cd p E all F D (nh b3 f1 f2) f2 q:=by intro x aY d;have a:dT f2 x f1=x f1:=EN;have b:dT f2 x f2=l:=zW;grind
end
end
inductive dG where
 |nil
 |ax (d:dG) (w i:Int) (a9:dG)
def ez(j:al):dG->X->(Nat->Option Obj)->Prop
 |.nil,k,a=>k=.pointer n/\∀i,a i=n
 |.ax q m i r,k,a=>∃h p o e b,k=.pointer (f ⟨h,0,n⟩)/\(a8 .i64 m/\a8 .i64 i)/\ez j q p e/\ez j r o b/\a h=f (.cells #[.int .i64 m,.int .i64 i,p,o] j (0,0))/\e h=n/\b h=n /\
   (∀d g,e d=f g->b d=n/\a d=f g)/\(∀d g,b d=f g->a d=f g)/\∀d g,a d=f g->d=h∨e d=f g∨b d=f g
def ez.cell{o}(a:ez W o aa k5):dS aa=l:=by
 cases o with
 |nil=>rw[a.1];rfl
 |ax=>obtain⟨_,_,_,_,_,rfl,_⟩:=a;rfl
section
def bb.hU{ac:Nat->Prop}(o:bb k b)(C:aB.a=b.a)(M:aB.C=b.C)(F:aB.own=b.own)(S:c aB.s=c an)(X:c k<=c an)(z:∀a,a<c k->¬ac a->an[a]?=k[a]?/\aB.s[a]?=b.s[a]?)(T:∀a d,(ac a∨c k<=a)->aB.s[a]?=f d->∀e∈d.aj,∃x L,ac x/\b.s[x]?=f L/\e∈L.aj)(J:∀a h L d,(ac a∨c k<=a)->(ac h∨c k<=h)->aB.s[a]?=f L->aB.s[h]?=f d->∀e∈L.aj,e∈d.aj->a=h)(box:∀a s L,ac a->k[a]?=f s->b.s[a]?=f L->∃t d,an[a]?=f t/\aB.s[a]?=f d/\fM s L t d)(ok:fp k b an aB->∀a s L,(ac a∨c k<=a)->an[a]?=f s->aB.s[a]?=f L->ew an aB s L):bb an aB/\cN k b an aB:=by
 have K:=o.len;have Q:∀(a:Nat) s (L:Loc),k[a]?=f s->b.s[a]?=f L->∃t d,an[a]?=f t/\aB.s[a]?=f d/\fM s L t d:=λa s L aH i=>by
  by_cases y:ac a
  .grind
  obtain⟨j,p⟩:=z a (cO.1 aH).1 y;exact⟨s,L,j.trans aH,p.trans i,.refl _ _⟩
 have D:fp k b an aB:=⟨λe N R y=>M▸y,Q⟩
 have u:∀(a:Nat) (d:Loc),aB.s[a]?=f d->(ac a∨c k<=a)∨(a<c k/\¬ac a/\b.s[a]?=f d):=λa d y=>by grind
 have I:∀(a:Nat) (d:Loc),aB.s[a]?=f d->∀e∈d.aj,∃(x:Nat) (L:Loc),b.s[x]?=f L/\e∈L.aj:=λa d y e g=>by grind
 have Y:∀(a h:Nat) (L d:Loc),(ac a∨c k<=a)->¬ac h->aB.s[a]?=f L->b.s[h]?=f d->∀e∈L.aj,e∈d.aj->False:=λa h L d j p i m e g w=>by obtain⟨x,A,B,q,O⟩:=T a L j i e g;exact p (o.a0 x h A d q m e O w▸B)
 refine⟨⟨λe N R y=>?_,S,λa s L aH i=>?_,λa h L d i m e g w=>?_,λL i e g=>?_,λe g=>?_⟩,⟨?_,?_,D.mem,?_,λd m e g=>?_,Q,?_,?_,?_,F⟩⟩
 .rw[M]at y;rw[C];exact o.mem e N R y
 .rcases u a L i with j|⟨j,p,W⟩
  .grind
  rw[(z a j p).1]at aH;exact(o.box a s L aH W).b8 D K λe _=>⟨by rw[C],λN=>by rw[M]⟩
 .rcases u a L i with j|⟨_,j,p⟩<;>rcases u h d m with V|⟨_,V,U⟩
  .grind
  .grind
  .grind
  exact o.a0 a h L d p U e g w
 .obtain⟨a,r,rfl⟩:=hn i;obtain⟨x,A,B,q⟩:=I a _ (bI r) e g;rw[C];exact o.lt A (b8 B) e q
 .rw[F]at g;refine⟨C▸(o.own e g).1,λL i E=>?_⟩;obtain⟨a,r,rfl⟩:=hn i;obtain⟨x,A,B,q⟩:=I a _ (bI r) e E;exact(o.own e g).2 A (b8 B) q
 .grind
 .grind
 .grind
 .obtain⟨a,r,rfl⟩:=hn m;obtain⟨x,A,B,q⟩:=I a _ (bI r) e g;grind
 all_goals rw[C]
def bb.j4(s:bb k b){A h}{L e}{bC}{p}(aH:k[d]?=f A)(ae:b.s[d]?=f L)(aa:fM A L h e)(Y:c p=bC.length)(sub:∀w∈e::p,∀x∈w.aj,x∈L.aj)(U:(e::p).Pairwise λw F=>∀x∈w.aj,x∉F.aj)(ok:∀m:a6,m.a=b.a->m.C=b.C->m.s=b.s.set d e++p->ew (k.set d h++bC) m h e/\∀(E:Nat) u B,bC[E]?=f u->p[E]?=f B->ew (k.set d h++bC) m u B):
  bb (k.set d h++bC) {b with s:=b.s.set d e++p}/\cN k b (k.set d h++bC) {b with s:=b.s.set d e++p}:=by
 have T:=s.len;have X:d<c k:=(cO.1 aH).1;have Z:=iH.1 U;have q:∀g o,(g=d∨c k<=g)->(b.s.set d e++p)[g]?=f o->(g=d/\o=e)∨(c k<=g/\p[g-c k]?=f o):=λg o i j=>by grind
 refine bb.hU (ac:=λg=>g=d) s a a a M C (λg i D=>M) (λg o i j W S=>M) (λg z o V i t j r W S ab=>?_) (λg u o i y j=>?_) (λQ g u o i y j=>?_)
 .rcases q g o i j with⟨c5,rfl⟩|⟨c5,dt⟩<;>rcases q z V t r with⟨R,rfl⟩|⟨R,O⟩
  .omega
  .grind
  .grind
  obtain⟨I,J⟩:=cO.1 dt;obtain⟨K,N⟩:=cO.1 O;exact Fh
 .grind
 grind
def iv:dG->Nat->O
 |.nil,_=>.c .bp
 |.ax ..,a=>.aV a
def ht(a:al):dG->m ap
 |.nil=>[]
 |.ax e b d g=>[.J (ez a (.ax e b d g))]
def mn(a:m Nat):dG->X->(Nat->Option Obj)->m Loc
 |.nil,_,_=>[]
 |.ax ..,d,b=>[⟨d,a.filter λe=>(b e).isSome⟩]
def jk:dG->Nat->m ap->m ap
 |.nil,_,a=>a
 |.ax ..,b,a=>a.set b .M
def bb.gB(bP:bb k b){lt cx}{q r:Int}(aH:k[d]?=f (.J (ez W (.ax lt q r cx)))):
  ∃g,g.a=b.a/\(∃j L,b.s[d]?=f L/\L.v=.pointer (f ⟨j,0,n⟩)/\g.s[d]?=f ⟨L.v,[j]⟩)/\bb (k.set d (.cells W [.c (.int .i64 q),.c (.int .i64 r),iv lt (c k),iv cx (c k+c (ht W lt))])++(ht W lt++ht W cx)) g /\
   cN k b (k.set d (.cells W [.c (.int .i64 q),.c (.int .i64 r),iv lt (c k),iv cx (c k+c (ht W lt))])++(ht W lt++ht W cx)) g:=by
 have ar:d<c k:=(cO.1 aH).1;have Y:d<c b.s:=h0;have F:=bI Y;generalize b.s[d]=L at F;obtain⟨J,⟨j,E,D,i,z,B,⟨Z,x⟩,t,u,ak,af,aL,V,ag,ah⟩,aa,N,ae⟩:=bP.box d _ L aH F;have aq:=bP.len;have O:j∈L.aj:=(N j).2 M;refine⟨{b with s:=b.s.set d ⟨.pointer (f ⟨j,0,n⟩),[j]⟩++(mn L.aj lt E i++mn L.aj cx D z)},rfl,⟨j,L,F,B,M⟩,bP.j4 aH F (show _=_ from B.symm) ?_ ?_ ?_ λg X e o=>?_⟩
 .cases lt<;>cases cx<;>rfl
 .intro bz e h C;rcases e8.1 e with rfl|e
  .grind
  rcases fy.1 e with e|e
  .cases lt with
   |nil=>cases e
   |ax=>rw[mn,gJ]at e;grind
  cases cx with
  |nil=>cases e
  |ax=>rw[mn,gJ]at e;grind
 .refine iH.2 ⟨λbz e h C au=>?_,?_⟩
  .rw[gJ]at C;subst C;rcases fy.1 e with e|e
   .cases lt with
    |nil=>cases e
    |ax=>rw[mn,gJ]at e;grind
   cases cx with
   |nil=>cases e
   |ax=>rw[mn,gJ]at e;grind
  cases lt<;>cases cx<;>simp[mn,pW,hp,uw,iH,List.Pairwise.nil,gJ,forall_eq,ss,false_implies,implies_true,a7]
  exact ER
 have H:∀h p,i h=f p->J h=f p:=λh p m=>(V h p m).2;have ab:ew (k.set d (.cells W [.c (.int .i64 q),.c (.int .i64 r),iv lt (c k),iv cx (c k+c (ht W lt))])++(ht W lt++ht W cx)) g (.J (ez W lt)) ⟨E,L.aj.filter λh=>(i h).isSome⟩:=
  ⟨i,t,λh p m=>by grind,λh=>⟨λm=>(iK.1 m).2,λm=>iK.2 ⟨(N h).2 ER,m⟩⟩,λh C p=>by rw[e];grind⟩
 have ai:ew (k.set d (.cells W [.c (.int .i64 q),.c (.int .i64 r),iv lt (c k),iv cx (c k+c (ht W lt))])++(ht W lt++ht W cx)) g (.J (ez W cx)) ⟨D,L.aj.filter λh=>(z h).isSome⟩:=
  ⟨z,u,λh p m=>by grind,λh=>⟨λm=>(iK.1 m).2,λm=>iK.2 ⟨(N h).2 ER,m⟩⟩,λh C p=>by rw[e];grind⟩
 have I:=t.cell;have y:=u.cell;have Q:g.a.heap[j]?=f (.cells (List.toArray [.int .i64 q,.int .i64 r,E,D]) W (0,0)):=M;have R:∀p,g.C j p=n:=λp=>by rw[e];grind
 have S:∀w,(b.s.set d ⟨.pointer (f ⟨j,0,n⟩),[j]⟩++(mn L.aj lt E i++mn L.aj cx D z))[c k+w]?=(mn L.aj lt E i++mn L.aj cx D z)[w]?:=λw=>by grind
 have s:∀w,(k.set d (.cells W [.c (.int .i64 q),.c (.int .i64 r),iv lt (c k),iv cx (c k+c (ht W lt))])++(ht W lt++ht W cx))[c k+w]?=(ht W lt++ht W cx)[w]?:=λw=>by grind
 refine⟨⟨j,_,a,Q,⟨Rd.int Z,Rd.int x,?_,?_,A⟩,R⟩,?_⟩
 .cases lt with
  |nil=>rw[t.1];exact Rd.bp
  |ax=>exact⟨λT aH=>by have G:=(s 0).symm.trans aH;cases G;rfl,_,by rw[o];exact S 0,rfl,I⟩
 .cases cx with
  |nil=>rw[u.1];exact Rd.bp
  |ax=>
   cases lt with
   |nil=>exact⟨λT aH=>by rw[s]at aH;cases aH;rfl,_,by rw[o];exact S 0,rfl,y⟩
   |ax=>exact⟨λT aH=>by rw[s]at aH;cases aH;rfl,_,by rw[o];exact S 1,rfl,y⟩
 intro ao al an U K;cases lt<;>cases cx<;>simp only[ht,mn,pW,hp,uw,List.getElem?_nil]at U K
 .cases U
 .grind
 .grind
 grind
def Hw(s:bb k b){o}(j:cB k b aa (iv o e))(m:o≠.nil->k[e]?=f (.J (ez W o))):
  ∃h d,ez W o aa h/\(∀g i,h g=f i->b.a.heap[g]?=f i)/\(∀g,g∈d↔(h g).isSome=l)/\(∀g∈d,∀i,b.C g i=n)/\(match o with|.nil=>d=[]|.ax ..=>b.s[e]?=f ⟨aa,d⟩):=by
 cases o with
 |nil=>
  have j:Rd b.C aa .bp:=j;cases j;exact⟨λ_=>n,[],⟨a,λ_=>rfl⟩,by simp,by simp,by simp,a⟩
 |ax=>
  obtain⟨_,L,q,rfl,_⟩:=j;obtain⟨h,r,t,p,u⟩:=s.box e _ L (m nofun) q;exact⟨h,L.aj,r,t,p,u,q⟩
def rN:dG->Nat->X->m Loc->m Loc
 |.nil,_,_,a=>a
 |.ax ..,b,d,a=>a.set b ⟨d,[]⟩
def bb.cU(s:bb k b){lt cx}{F i}(aH:k[d]?=f (.cells W [.c (.int .i64 F),.c (.int .i64 i),iv lt e,iv cx t]))(I:lt≠.nil->k[e]?=f (.J (ez W lt)))(J:cx≠.nil->k[t]?=f (.J (ez W cx)))(G:lt≠.nil->cx≠.nil->e≠t):
  ∃q,q.a=b.a/\(∃L,b.s[d]?=f L/\∃U,q.s[d]?=f U/\U.v=L.v)/\bb (jk cx t (jk lt e (k.set d (.J (ez W (.ax lt F i cx)))))) q/\cN k b (jk cx t (jk lt e (k.set d (.J (ez W (.ax lt F i cx)))))) q:=by
 have aT:d<c k:=(cO.1 aH).1;have aS:=s.len;have K:d<c b.s:=u;have ab:=bI K;generalize b.s[d]=L at ab;obtain⟨p,y,rfl,aJ,w,aK⟩:=s.box d _ L aH ab
 match y,w with
 |[aC,aB,Q,R],⟨ae,af,aL,ax,_⟩=>
 obtain⟨r,B,ah,aD,aE,aF,X⟩:=Hw s aL I;obtain⟨T,D,d1,d2,d3,d4,e2⟩:=Hw s ax J;have ae:Rd b.C aC (.int .i64 F):=ae;have af:Rd b.C aB (.int .i64 i):=af;cases ae with|int al=>
 cases af with|int an=>
 have aQ:p∉B:=λm=>by
  cases lt with
  |nil=>grind
  |ax=>have:=s.a0 d e _ _ ab X p C m;grind
 have aR:p∉D:=λm=>by
  cases cx with
  |nil=>grind
  |ax=>have:=s.a0 d t _ _ ab e2 p C m;grind
 have aO:∀h∈B,h∉D:=λh m aA=>by
  cases lt with
  |nil=>grind
  |ax=>
   cases cx with
   |nil=>grind
   |ax=>exact G nofun nofun (s.a0 e t _ _ X e2 h m aA)
 have x:r p=n:=by cases m:r p with|none=>rfl|some A=>grind
 have aP:T p=n:=by cases m:T p with|none=>rfl|some A=>grind
 have av:∀h A,r h=f A->T h=n:=λh A m=>by
  cases w:T h with
  |none=>rfl
  |some N=>grind
 have ok:∀V q,q.a=b.a->q.C=b.C->ew V q (.J (ez W (.ax lt F i cx))) ⟨.pointer (f ⟨p,0,n⟩),p::(B++D)⟩:=λV q ak ai=>by
  refine⟨λh=>if h=p then f (.cells #[.int .i64 F,.int .i64 i,Q,R] W (0,0))else(r h).or (T h),⟨p,Q,R,r,T,a,⟨al,an⟩,ah,d1,bo a,x,aP,λh A m=>⟨av h A m,M⟩,λh A m=>?_,λh A m=>?_⟩,λh A m=>?_,λh=>?_,λh E A=>?_⟩
  .have:h≠p:=M;dsimp only;rw[bm this,m];cases w:r h with
   |none=>rfl
   |some N=>grind
  .by_cases Z:h=p
   .grind
   dsimp only at m;rw[bm Z]at m;cases w:r h with
   |none=>grind
   |some N=>grind
  .rw[ak];by_cases Z:h=p
   .grind
   dsimp only at m;rw[bm Z]at m;cases w:r h with
   |none=>grind
   |some N=>grind
  .grind
  rw[ai];grind
 refine⟨{b with s:=rN cx t R (rN lt e Q (b.s.set d ⟨.pointer (f ⟨p,0,n⟩),p::(B++D)⟩))},rfl,?_⟩
 classical
 have aV:lt≠.nil->e<c k/\e≠d:=λm=>⟨(cO.1 (I m)).1,λZ=>by grind⟩
 have aM:cx≠.nil->t<c k/\t≠d:=λm=>⟨(cO.1 (J m)).1,λZ=>by grind⟩
 have aq:b.s[d]?=f ⟨.pointer (f ⟨p,0,n⟩),[p]⟩:=ab;let ac:Nat->Prop:=λo=>o=d∨(lt≠.nil/\o=e)∨(cx≠.nil/\o=t);have O:∀o,(jk cx t (jk lt e (k.set d (.J (ez W (.ax lt F i cx))))))[o]?=if o=d then f (.J (ez W (.ax lt F i cx)))else if(lt≠.nil/\o=e)∨(cx≠.nil/\o=t)then f .M else k[o]?:=λo=>by cases lt<;>cases cx<;>simp[jk,oR,wR]<;>grind
 have Y:∀o,(rN cx t R (rN lt e Q (b.s.set d ⟨.pointer (f ⟨p,0,n⟩),p::(B++D)⟩)))[o]?=if o=d then f ⟨.pointer (f ⟨p,0,n⟩),p::(B++D)⟩else if cx≠.nil/\o=t then f ⟨R,[]⟩else if lt≠.nil/\o=e then f ⟨Q,[]⟩else b.s[o]?:=λo=>by cases lt<;>cases cx<;>simp[rN,oR,wR]<;>grind
 have Zc:∀S e d,c (jk S e d)=c d:=λS e d=>by cases S<;>simp[jk]
 have Zd:∀S e ar d,c (rN S e ar d)=c d:=λS e ar d=>by cases S<;>simp[rN]
 have aG:∀h∈B,lt≠.nil/\b.s[e]?=f ⟨Q,B⟩:=λh E=>by grind
 have aI:∀h∈D,cx≠.nil/\b.s[t]?=f ⟨R,D⟩:=λh E=>by grind
 refine⟨⟨_,aq,_,(Y d).trans (bo a),a⟩,bb.hU (ac:=ac) s a a a M M (λo z aY=>M) (λo ag z j h E=>?_) (λo aN ag aw z ao j aa h E aU=>?_) (λo au ag z g j=>?_) (λ_ o au ag z g j=>?_)⟩
 .rw[Y]at j;split at j
  .cases j;rcases e8.1 E with rfl|E
   .grind
   rcases fy.1 E with E|E
   .grind
   grind
  have:o<c b.s∨c b.s<=o:=dW _ _;grind
 .rw[Y]at j aa;grind
 .rw[O,Y];rcases z with rfl|⟨m,rfl⟩|⟨m,rfl⟩
  .rw[aq]at j;cases j;rw[aH]at g;cases g;exact⟨_,_,bo a,bo a,a⟩
  .have H:b.s[o]?=f ⟨Q,B⟩:=M;rw[I m]at g;rw[H]at j;cases g;cases j;grind[fM]
  have H:b.s[o]?=f ⟨R,D⟩:=M;rw[J m]at g;rw[H]at j;cases g;cases j;grind[fM]
 rw[O]at g;rw[Y]at j;split at g
 .grind
 split at g
 .cases g;trivial
 grind
def eM:dG->K
 |.nil=>.bp
 |.ax d a b e=>.O [.int .i64 a,.int .i64 b,eM d,eM e]
def ez.rd{W}{bz}:∀{p:dG}{r:X}{e:Nat->Option Obj},ez W p r e->(∀d y b i,e d=f (.cells y b i)->∀o q,y[o]?=f q->bz d o=f q)->Rd bz r (eM p)
 |.nil,_,_,g,_=>by rw[g.1];exact .bp
 |.ax K t u N,_,e,⟨s,F,E,x,R,z,⟨C,B⟩,k,m,J,_,_,A,D,_⟩,j=>by
  subst z;have Q:=k.rd (bz:=bz) λd y b i g=>j d y b i (A d _ g).2;have M:=m.rd (bz:=bz) λd y b i g=>j d y b i (D d _ g);have O:=j s _ _ _ J;refine Rd.O s 0 (λh=>[Value.int .i64 t,.int .i64 u,F,E].getD h I) (λh w a=>?_) (λh w a=>?_)
  .match h,a with
   |0,_|1,_|2,_|3,_=>grind
  .match h,a with
   |0,a=>cases a;exact Rd.int C
   |1,a=>cases a;exact Rd.int B
   |2,a=>grind
   |3,a=>grind
def bb.gp(h:bb k b){o}(aH:k[d]?=f (.J (ez W o))):
  ∃j,j.a=b.a/\j.s=b.s/\(∀L,b.s[d]?=f L->Rd j.C L.v (eM o))/\bb (k.set d .M) j/\cN k b (k.set d .M) j:=by
 have N:d<c k:=(cO.1 aH).1;have M:=h.len;have x:=bI (show d<c b.s by omega);generalize b.s[d]=L at x;obtain⟨w,T,E,K,O⟩:=h.box d _ L aH x;let i:Mem:=λe g=>match w e with|some (.cells y _ _)=>y[g]?|_=>b.C e g
 have D:∀e,e∉L.aj->∀g,i e g=b.C e g:=λe t g=>by grind
 have Q:∀e g u,b.C e g=f u->i e g=f u:=λe g u r=>by grind
 have A:cN k b (k.set d .M) {b with C:=i}:=by
  refine⟨bA _,λ_ _ _=>rfl,Q,λe _ F g=>D e (F L (b8 x)) g,λp m e t=>.inr ⟨p,m,t⟩,λz B p q m=>?_,a,a,a,a⟩;by_cases s:d=z
  .subst s;rw[aH]at q;cases q;exact⟨.M,p,by grind,m,a⟩
  exact⟨B,p,by grind,m,.refl _ _⟩
 refine⟨{b with C:=i},rfl,rfl,λp m=>?_,⟨λe g u r=>?_,by grind,λz B p q m=>?_,h.a0,h.lt,h.own⟩,A⟩
 .rw[x]at m;cases m;exact T.rd λe y C U t g V X=>by grind
 .by_cases t:e∈L.aj
  .have r:i e g=f u:=r;cases I:w e with
   |none=>grind
   |some S=>
    have R:=E e S I;simp[i,I]at r;split at r
    .rename_i y C U s;cases s;show b.a.cell? _=_;simp[aJ,R,r]
    grind
  exact h.mem e g u ((D e t g).symm.trans r)
 by_cases s:d=z
 .subst s;rw[iq N]at q;cases q;trivial
 rw[j9 s]at q;exact(h.box z B p q m).b8 A.ext M λe t=>⟨a,λg=>D e (λJ=>s (h.a0 d z L p x m e J t)) g⟩
end
section
variable {p:ah P}
def bX.gA{d}{o}{i}(e:bX E k b F d)(h:c b.s=c k)(a:cN k b an aB)(p:bv an aB (d.tmps.getD o I) i):bX E an aB ((o,i)::F) d:=
 ⟨e.size,e.defers.imp λ_ g=>g.mono a.ext,λj=>by
  simp only[look];cases m:ad o j with
  |false=>exact(e.ak j).mono a.ext h
  |true=>grind[Nat.eq_of_beq_eq_true]⟩
def g.gB(o d){W}{lt cx}{q i}(B:look F o=.n (.R (.aV d)))(e:c' d k=f (.J (ez W (.ax lt q i cx))))(j:g p E bd (.code r::av) .normal ((o,aI d 0)::F) (k.set d (.cells W [.c (.int .i64 q),.c (.int .i64 i),iv lt (c k),iv cx (c k+c (ht W lt))])++(ht W lt++ht W cx))):g p E bd (.code r::av) .normal F k:=by refine g.aP (λN K s b=>?_) j;have w:=s.ak o;rw[B]at w;obtain⟨_,L,C,y,_⟩:=w;obtain⟨m,h,⟨D,J,a,u,z⟩,A,t⟩:=b.gB (eo e);rw[C]at a;cases a;have x:d<c k:=(cO.1 (eo e)).1;refine⟨m,h,s.gA b.len t ⟨λI aH=>?_,_,D,z,u,y.trans u⟩,A,t⟩;rw[j6 M,iq x]at aH;cases aH;rfl
def g.cU(o d e t){W}{lt cx}{a i}(S:look F o=aI d 0)(q:c' d k=f (.cells W [.c (.int .i64 a),.c (.int .i64 i),iv lt e,iv cx t]))(z:lt≠.nil->c' e k=f (.J (ez W lt)))(A:cx≠.nil->c' t k=f (.J (ez W cx)))(Q:lt≠.nil->cx≠.nil->e≠t)(C:g p E bd (.code r::av) .normal ((o,.n (.R (.aV d)))::F) (jk cx t (jk lt e (k.set d (.J (ez W (.ax lt a i cx))))))):g p E bd (.code r::av) .normal F k:=by
 refine g.aP (λaa Z I m=>?_) C;have M:=I.ak o;rw[S]at M;obtain⟨_,L,ae,V,O,af⟩:=M;obtain⟨D,y,⟨K,j,w,U,x⟩,R,J⟩:=m.cU (eo q) (λh=>eo (z h)) (λh=>eo (A h)) Q;rw[V]at j;cases j;have N:d<c k:=(cO.1 (eo q)).1;have s:(jk cx t (jk lt e (k.set d (.J (ez W (.ax lt a i cx))))))[d]?=f (.J (ez W (.ax lt a i cx)))∨(jk cx t (jk lt e (k.set d (.J (ez W (.ax lt a i cx))))))[d]?=f .M:=by
  have ab:(k.set d (.J (ez W (.ax lt a i cx))))[d]?=f (.J (ez W (.ax lt a i cx))):=iq N;have Y:∀u B b,b[d]?=f (.J (ez W (.ax lt a i cx)))∨b[d]?=f .M->(jk u B b)[d]?=f (.J (ez W (.ax lt a i cx)))∨(jk u B b)[d]?=f .M:=λu B b h=>by
   cases u with
   |nil=>exact h
   |ax=>simp[jk,oR];grind
  grind
 refine⟨D,y,I.gA m.len J ⟨λX aH=>?_,w,U,?_,?_⟩,R,J⟩
 .rcases s with s|s<;>(rw[s]at aH;cases aH;rfl)
 .grind
 exact hE
def g.gp(o d){W}{s}(w:look F o=.n (.R (.aV d)))(h:c' d k=f (.J (ez W s)))(b:g p E bd (.code r::av) .normal ((o,ax (eM s))::F) (db.cu d .M k)):g p E bd (.code r::av) .normal F k:=by rw[mM]at b;refine g.aP (λA z j a=>?_) b;have q:=j.ak o;rw[w]at q;obtain⟨_,L,y,t,_⟩:=q;obtain⟨i,e,_,x,u,m⟩:=a.gp (eo h);exact⟨i,e,j.gA a.len m (show Rd _ _ _ from t▸x L y),u,m⟩
end
section
variable {p:ah P}{aL:fw}{au:Exit}
def nS(h:Nat)(aL:fw):fw:=λk j g=>∃d a,(∀e i,bX h g e j i->bb g e->∃b:a6,b.a=e.a/\bX h a b d i/\bb a b/\cN g e a b)/\aL k d a
def nS.of(d:aL au F k):nS E aL au F k:=⟨F,k,λe g b a=>⟨e,rfl,b,a,.refl _ _⟩,d⟩
def nS.step{d}(w:∀b e,bX E k b F e->bb k b->∃a:a6,a.a=b.a/\bX E an a d e/\bb an a/\cN k b an a)(z:nS E aL au d an):nS E aL au F k:=by obtain⟨r,g,o,A⟩:=z;refine⟨r,g,λb e t p=>?_,A⟩;obtain⟨x,h,j,m,q⟩:=w b e t p;obtain⟨u,i,f3,y,s⟩:=o x e j m;exact⟨u,i.trans h,f3,y,q.trans s⟩
theorem nS.freeze(o d){W}{ag}{gN}(i:look F o=aI d 0)(b:c' d k=f (.cells W ag))(g:h5 ag=f gN)(e:nS E aL au ((o,ax (.O gN))::F) (db.cu d .M k)):nS E aL au F k:=by rw[mM]at e;exact .step (λm j h a=>bX.freeze o d i b g h a) e
def dd.i_(M:dd p E r (nS E aL) F k):dd p E r aL F k:=by
 intro T J R u K O o I t d s;refine M T J R u K O o I t d λB U D g b y q a h=>?_;obtain⟨j,m,S,y⟩:=y;obtain⟨e,Q,N,A,z⟩:=S g b q a;have C:=z.tooQ a;have i:=s B j m e b y N A (h.trans C);have x:eZ g e:=.of a A Q C;cases B<;>first
  |exact i.elim
  |exact .aP x i
  |exactλpre=>.aP x (i pre)
  |exactλpre w=>.aP x (i pre w)
def dd.a_(d)(an){cR}(q:iZ F d=f Y)(I:T Y)(b:jo k an=f cR)(K:T cR)(M:dd p E r aL d an):dd p E r aL F k:=by intro w A J a B u j z t e s;have m:=jM b K;have y:=(m w a).2.1;exact M w A ((J.le (eH q I)).aj m a) (m w a).1 B u j z t e λC D h x i N o b g=>s C D h x i N o b ((y.tooQ a).trans g)
def dd.jL{o}{Y}{assign body}{g}{o0}{d:ι->m ap}(q:∀e h,bX E k e F h->bb k e->∃i:m X,h.eval o=.func (.func g) #[] i.toArray/\b4 k e i o0)(r:bl p g (.n (.R (.aV (c k)))::o0) (k++[.loop E F {state:=.ready,pending:=n,fn:=0,tmps:=#[],params:=Y,assign:=assign,body:=body,defers:=0}]) res d)(a:∀b,∃gd,(d b)[c k]?=f (.loop E F gd)/\gd.state≠.busy/\∃j,yU gd.pending=f j/\aL j F ((d b).set (c k) .M++[.bl])):dd p E (.rangeFunc o Y assign body) aL F k:=
 dd.rangeFunc (gd:=λb=>(a b).choose) q r (λb=>⟨(a b).choose_spec.1,(a b).choose_spec.2.1⟩) λb=>(a b).choose_spec.2.2
def bl.ji{d}{fn}{args}{an:ι->m ap}(B:P.funcs[d]?=f fn)(x:(fn.name== "runtime.NumGoroutine")=v)(h:fn.body=f r)(u:ay args.length fn.ntmps=l)(y:dd p fn.ntmps r (nS fn.ntmps λw o b=>∃j,kZ P fn k.length (res j) (an j) w o b) (h4 0 args) k):bl p d args k res an:=
 bl.gz B x h (fq u) λC s d z t A e q i a g=>dd.i_ y C s d z t A e q i a g
def kZ.cells(aY:bZ P ac){fn}{d}{res}(aU)(e:tt ac fn.results.toList aU F res=f Y)(m:T Y)(j:dx aU k=f an)(i:l1 an=l)(h:fb aU=l)(g:∀b,b<d->aU[b]?=f b):kZ P fn d res an .ret F k:=by refine⟨.inl a,aU,?_⟩;unfold tt at e;grind[oL.fa]
end
def x4:O->Option X
 |.c (.val a)=>f a
 |_=>n
def u3:m O->Option (m X)
 |[]=>f []
 |a::d=>match x4 a with
  |some e=>match u3 d with
   |some b=>f (e::b)
   |none=>n
  |none=>n
def x5:x->Option X
 |.n (.R b)=>x4 b
 |.n (.agg a)=>match u3 a with
  |some d=>f (.agg d.toArray)
  |none=>n
 |_=>n
def sT:m x->Option (m X)
 |[]=>f []
 |a::d=>match x5 a with
  |some e=>match sT d with
   |some b=>f (e::b)
   |none=>n
  |none=>n
section
variable {p:ah P}
def Jh{d}:∀{a:O},cB k b aa a->x4 a=f d->aa=d
 |.c (.val h),g,e=>by cases e;exact Rd.ba g
theorem Ji:∀{e:m O}{y a:m X},bM k b y e->u3 e=f a->y=a
 |[],[],a,_,g=>by cases g;rfl
 |[],_::_,_,d,_=>d.elim
 |_::_,[],_,d,_=>d.elim
 |j::o,q::y,a,d,g=>by
  simp[u3]at g;cases h:x4 j with
  |none=>grind
  |some r=>
   cases i:u3 o with
   |none=>grind
   |some p=>
    simp[h,i]at g;subst g;rw[Jh d.1 h,Ji d.2 i]
def X7{g}:∀{d:x},bv k b aa d->x5 d=f g->aa=g
 |.n (.R i),e,a=>Jh e a
 |.n (.agg h),⟨y,j,e⟩,a=>by simp[x5]at a;grind[Ji]
def Co:∀{e:m x}{y a:m X},b4 k b y e->sT e=f a->y=a
 |[],[],a,_,g=>by cases g;rfl
 |[],_::_,_,d,_=>d.elim
 |_::_,[],_,d,_=>d.elim
 |j::o,q::y,a,d,g=>by
  simp[sT]at g;cases h:x5 j with
  |none=>grind
  |some r=>
   cases i:sT o with
   |none=>grind
   |some p=>
    simp[h,i]at g;subst g;rw[X7 d.1 h,Co d.2 i]
def h1(P:aE)(h:Nat)(e:ao)(g:bJ)(i:m ap)(d:a1)(args:m X):Prop:=∀j b,bX h i j g b->∀a,(ab b.eval e).run P a=(callFunc d args.toArray).run P a/\(ab b.eval e).events P a #[]=(callFunc d args.toArray).events P a #[]
def h1.dY{a}{args}(e:q.op=.call {callee:=.value (.func a),args:=af,argTypes:=ds})(i:sT (af.toList.map (bD F))=f args):h1 P E q F k a args:=by
 intro o b h p;have j:=Co (m1 (eF h) af.toList) i;have d:af.map b.eval=args.toArray:=M;have g:b.eval (.func a)=.func (.func a) #[] #[]:=rfl;have m:ab b.eval q=callFunc a args.toArray:=by simp[ab,e,resolve,g,Deferred.ofValue,invoke,d]
 grind
def h1.invoke{r}{o:ae}{h}{name}{e}{m t}{args}(j:q.op=.call {callee:=.invoke o name,args:=h,argTypes:=ds})(x:bD F o=ax (.val (.iface e m)))(w:sT (h.toList.map (bD F))=f args)(d:∀a,(Go.method (P.types.size+Made.depth) e m name).run P a=.ok (r,t) a/\∀b,(Go.method (P.types.size+Made.depth) e m name).events P a b=b):h1 P E q F k r (t::args):=by
 intro z y s a;have g:=eF s o;rw[x]at g;have g:=Rd.ba (b6 g);have i:=Co (m1 (eF s) h.toList) w;have p:∀a,(program:Sem aE).run P a=.ok P a:=λa=>by simp
 have u:∀a b,(program:Sem aE).events P a b=b:=λa b=>by simp
 rw[Cq j g,i];constructor
 .simp[callMethod,p,(d a).1]
 simp[callMethod,p,u,(d a).1,(d a).2]
structure jx(P:aE)(ak:a1)(au:Array X->Sem X):Prop where
 fn:∃fn,P.funcs[ak]?=f fn/\(fn.name== "runtime.NumGoroutine")=v/\fn.body.isNone=l/\Extern.findNext fn=n/\Extern.find fn=f au
def jx.run{d}{g:Array X->Sem X}(q:jx P d g){args}{e}(o:(g args).run P e=.ok aa bg):(callFunc d args).run P e=.ok (.value aa) bg/\∀a,(callFunc d args).events P e a=(g args).events P e (a.push ⟨.mark (.extern d),v,l⟩):=by
 obtain⟨fn,m,p,j,b,k⟩:=q.fn;have h:fn.name≠ "runtime.NumGoroutine":=M;have i:fn.body=n:=dB;constructor
 .rw[run_callFunc_extern m p j b k,o];rfl
 intro a;simp[callFunc,m,h,i,b,k,o]
def eg.ext{B:ι->x}{d:ι->m ap}{s}{r:Array X->Sem X}{args}(N:h1 P E q F k s args)(J:jx P s r)(o:∀g,bb k g->∃i b p,(r args.toArray).run P g.a=.ok p b.a/\bv (d i) b p (B i)/\bb (d i) b/\cN k g (d i) b/\∀j,∀e∈(r args.toArray).events P g.a j,e∈j∨h6 g e):eg P E q F k B d:=by
 intro g C I w;obtain⟨t,u⟩:=N g C I g.a;obtain⟨i,b,p,M,y,z,A,O⟩:=o g w;obtain⟨K,D⟩:=J.run M;refine⟨i,.value p,b,p,t.trans K,.inl a,y,z,A,λe h=>?_⟩;rw[u,D]at h;rcases O _ e h with o|o
 .simp at o;subst o;exact .inr ⟨s,a⟩
 grind
def eg.ea{h}{e:Array X->Sem X}{args}{D}(m:h1 P E q F k h args)(i:jx P h e)(j:∀d,(e args.toArray).run P d=.ok aa d)(r:∀d a,(e args.toArray).events P d a=a)(o:∀b,bv k b aa D):eg P E q F k (λ_:Unit=>D) λ_=>k:=
 .ext m i λb g=>⟨(),b,aa,j b.a,o b,g,.refl _ _,λa p s=>.inl M⟩
def eg.g5{t}{h:Array X->Sem X}{args}{aa:Nat->X}{D:Nat->x}{bx}(J:h1 P E q F k t args)(z:jx P t h)(I:∀o,(h args.toArray).run P o=.ok (aa o.heap.size) (o.alloc (.cells #[bx] W)))(Q:∀o i,(h args.toArray).events P o i=i)(K:∀p k d,bv k d (aa p) (D p)):
  eg P E q F k D λp=>k++[.J (ee p W bx)]:=
 .ext J z λd g=>by
  have s:cN k d k {d with a:=d.a.alloc (.cells #[bx] W)}:=⟨by simp,λe b _=>iX _ _ b,λ_ _ _ u=>u,λ_ _ _ _=>rfl,λL B e b=>.inr ⟨L,B,b⟩,λN bT L j r=>⟨bT,L,j,r,.refl _ _⟩,rfl,rfl,rfl,rfl⟩
  have O:∀q,d.C d.a.heap.size q=n:=λq=>by
   cases m:d.C d.a.heap.size q with
   |none=>rfl
   |some aa=>exact absurd (g.block m) (wV _)
  have j:=(g.cn (bg:=d.a.alloc (.cells #[bx] W)) (cg:=d.C) C (λe b=>iX d.a _ b) (λe b q=>rfl) (λe b q aa m=>by have:=g.block m;omega) a a a).1;obtain⟨y,w⟩:=j.bY (bT:=.J (ee d.a.heap.size W bx)) (L:=⟨.pointer (f ⟨d.a.heap.size,0,n⟩),[d.a.heap.size]⟩) s rfl g
   ⟨λe=>if e=d.a.heap.size then f (.cells #[bx] W (0,0))else n,⟨rfl,by simp,λe b=>by grind⟩,λe q b=>by
    by_cases h:e=d.a.heap.size
    .subst h;simp[dA]at b;grind[lS]
    grind,λe=>by by_cases h:e=d.a.heap.size<;>simp[h],λe b q=>by grind⟩
   (λe b=>by simp_all)
  exact⟨d.a.heap.size,_,_,I d.a,K _ _ _,y,w,λi A u=>.inl M⟩
def ee.own{B}(i:c' d k=f (.J (ee B W aa)))(bP:bb k b):b.a.heap[B]?=f (.cells #[aa] W (0,0))/\b.a.cell? ⟨B,0,n⟩=f aa/\(∀a,h6 b ⟨.cell ⟨B,a,n⟩,v,v⟩)/\∀a,h6 b ⟨.cell ⟨B,a,n⟩,l,v⟩:=by have aH:=eo i;have m:d<c b.s:=h0;have e:=bI m;generalize b.s[d]=L at e;obtain⟨o,⟨s,h,t⟩,q,r,p⟩:=bP.box d _ L aH e;have j:=q B _ h;have g:=(r B).2 M;exact⟨j,by simp[aJ,j],λa=>qf (b8 e) g,λa=>n_ (b8 e) g (p B g _)⟩
def ee.b6{d B}{W}{aa bx}(g:c' d k=f (.J (ee B W aa)))(bP:bb k b):bb (k.set d (.J (ee B W bx))) {b with a:=b.a.setRow B #[bx]}/\cN k b (k.set d (.J (ee B W bx))) {b with a:=b.a.setRow B #[bx]}:=by
 have g:=eo g;have r:d<c b.s:=h0;have m:=bI r;generalize b.s[d]=L at m;obtain⟨p,⟨i,j,D⟩,o,t,y⟩:=bP.box d _ L g m;have z:=(t B).2 M;have q:=o B _ j;have s:∀e,e≠B->(b.a.setRow B #[bx]).heap[e]?=b.a.heap[e]?:=λe h=>setRow_other b.a B e _ h;have x:=setRow_heap b.a B #[aa] #[bx] W (0,0) q;have w:b.s.set d L=b.s:=mU;have E:=bP.b6 (d:=d) (j1:=ee B W bx) (cu:=L) (bg:=b.a.setRow B #[bx]) g m a C
  (λe h u=>s e M) (λe h=>.inl h)
  ⟨λe=>if e=B then f (.cells #[bx] W (0,0))else n,⟨i,by simp,λe h=>by grind⟩,λe A h=>by grind,λe=>by grind⟩ a a a
 grind
def eg.g6{m}{i:Array X->Sem X}{args}{bx}{D}(d){B}(j:c' d k=f (.J (ee B W bx)))(w:h1 P E q F k m args)(p:jx P m i)(u:∀h,h.cell? ⟨B,0,n⟩=f bx->(i args.toArray).run P h=.ok aa h/\∀a,∀b∈(i args.toArray).events P h a,b∈a∨b=⟨.cell ⟨B,0,n⟩,v,v⟩)(x:∀g,bv k g aa D):eg P E q F k (λ_:Unit=>D) λ_=>k:=
 .ext w p λg e=>by obtain⟨_,s,y,_⟩:=ee.own j e;obtain⟨r,o⟩:=u g.a s;exact⟨(),g,aa,r,x g,e,.refl _ _,λa b t=>(o a b t).imp id λz=>by grind⟩
def eg.iP{p}{j:Array X->Sem X}{args}{bx cb}{D}(r w:Nat){B i}{h}(e:c' r k=f (.J (ee B W cb)))(s:c' w k=f (.J (ee i h bx)))(A:h1 P E q F k p args)(u:jx P p j)(y:∀g,g.heap[B]?=f (.cells #[cb] W (0,0))->g.cell? ⟨i,0,n⟩=f bx->(j args.toArray).run P g=.ok aa (g.setRow B #[bx])/\∀b,∀a∈(j args.toArray).events P g b,a∈b∨a=⟨.cell ⟨i,0,n⟩,v,v⟩∨a=⟨.cell ⟨B,0,n⟩,l,v⟩)(C:∀k m,bv k m aa D):eg P E q F k (λ_:Unit=>D) λ_=>k.set r (.J (ee B W bx)):=
 .ext A u λm d=>by obtain⟨t,_,_,I⟩:=ee.own e d;obtain⟨_,z,J,_⟩:=ee.own s d;obtain⟨x,M⟩:=y m.a t z;obtain⟨o,t2⟩:=ee.b6 (bx:=bx) e d;refine⟨(),_,aa,x,C _ _,o,t2,λb a K=>?_⟩;grind
def g.cX{N:ι->x}{b:ι->m ap}(S:oF all F q=l)(ag:fi E q.dst=l)(T:eg P E q F k N b)(U:∀o,g p E bd (.S all bq::av) .normal (gb q.dst (N o) F) (b o)):g p E bd (.S all (q::bq)::av) .normal F k:=by
 intro ai Q J j R C u O idx i a B;cases idx with
 |nil=>exact a.elim
 |cons ah idx=>
 refine rl i a.1 (jW S _ _ _ J) λae w=>?_;have h:=j.rely w;have d:=J.rely w j;obtain⟨o,aa,r,ab,A,e,af,K,M,Y⟩:=T ae Q d h;have z:=M.tooQ h;refine⟨aa,r,ab,A,e,⟨⟨k,b o,h,K,M⟩,Y⟩,?_⟩;refine U o r _ ?_ K R C u O idx i a.2 λV s D t X y e I=>B V s D t X y e ((w.aI.trans z).trans I);cases W:q.dst with
 |none=>exact d.mono z h.len
 |some Z=>exact(d.mono z h.len).put (k8 ag Z W) af
def g.iQ(o){ac}{ag}(y:look F o=ax (.cd ac (.O ag)))(m:∀q:Addr,g p E bd (.code r::av) .normal ((o,cM (.iface ac (.pointer (f q))))::F) k):g p E bd (.code r::av) .normal F k:=by
 refine b0.e2 (ι:=Addr) (dF:=λq=>(o,cM (.iface ac (.pointer (f q))))::F) (an:=λ_=>k) (λC t e j=>?_) m;have b:=e.ak o;rw[y]at b;have b:=b6 b;generalize x:t.tmps.getD o I=J at b;cases b with
 |@cd _ s _ h z=>
  cases h with
  |O u d D A B=>
   refine⟨⟨u,d,n⟩,C,a,⟨e.size,e.defers,λs=>?_⟩,j,.refl _ _⟩;simp only[look];cases i:ad o s with
   |false=>exact e.ak s
   |true=>
    have w:=dn i;subst w;rw[x];exact Rd.val a
def g.g4(o){ac}{j}(m:look F o=ax (.cd ac (.val j)))(i:g p E bd (.S all bq::av) .normal ((o,cM (.iface ac j))::F) k):g p E bd (.S all bq::av) .normal F k:=by
 refine ff.le i λk u w s b=>?_;simp[look];cases h:ad o s with
 |false=>exact b
 |true=>
  have q:=dn h;subst q;rw[m]at b;have d:=b;cases d with
  |@cd _ t _ e r=>
   obtain rfl:=Rd.ba e;exact Rd.val a
def g.hI(o d)(N:look F o=aI d 0)(i:c' d k=f (.cells W [.c .bp]))(w:∀b,g p E bd (.code r::av) .normal ((o,cM (.pointer (f ⟨b,0,n⟩)))::F) (k.set d (.J (ee b W (.pointer n))))):g p E bd (.code r::av) .normal F k:=by
 refine b0.e2 (ι:=Nat) (dF:=λb=>(o,cM (.pointer (f ⟨b,0,n⟩)))::F) (an:=λb=>k.set d (.J (ee b W (.pointer n)))) (λq Q t bP=>?_) w;have i:=eo i;have C:d<c q.s:=h0;have s:=bI C;generalize q.s[d]=L at s;obtain⟨b,y,rfl,S,K,U⟩:=bP.box d _ L i s
 match y,K with
 |[R],⟨x,_⟩=>
  have x:=x;cases x;obtain⟨M,m⟩:=bP.b4 (cg:=q.C) (bg:=q.a) (ec:=.J (ee b W (.pointer n))) (cu:=⟨.pointer (f ⟨b,0,n⟩),[b]⟩) i s rfl (bA _) (λ_ _ _=>rfl) (λ_ _ _ _=>rfl) (λ_ _ _ B=>B) bP.mem (λj e=>⟨.inl e,bP.lt _ (b8 s) j e⟩) rfl rfl rfl
   ⟨λj=>if j=b then f (.cells #[.pointer n] W (0,0))else n,⟨rfl,by simp,λj e=>by grind⟩,λj J e=>by grind,λj=>by by_cases u:j=b<;>simp[u],λj e J=>by grind⟩
  refine⟨b,{q with s:=q.s.set d ⟨.pointer (f ⟨b,0,n⟩),[b]⟩},rfl,⟨t.size,t.defers.imp λ_ h=>h.mono m.ext,λA=>?_⟩,M,m⟩;simp only[look];cases e:ad o A with
  |false=>exact(t.ak A).mono m.ext bP.len
  |true=>
   have u:=dn e;subst u;have h:=t.ak o;rw[N]at h;obtain⟨_,T,O,z,I,D⟩:=(h:cB k q _ (.ptr d 0));rw[s]at z;cases z;cases I;rw[D];exact Rd.val a
end
section
variable {p:ah P}
def vv:m O->Option (m X)
 |[]=>f []
 |.c (.int a b)::e=>match vv e with
  |some d=>f (.int a b::d)
  |none=>n
 |_=>n
def Ks:∀{e:m O}{y b:m X}{q:a6},bM k q y e->vv e=f b->y=b/\∀d h,bM d h b e
 |[],[],b,_,_,g=>by cases g;exact⟨a,λ_ _=>trivial⟩
 |[],_::_,_,_,i,_=>i.elim
 |_::_,[],_,_,i,_=>i.elim
 |.c (.int t u)::w,x::y,b,q,i,g=>by
  simp only[vv]at g;cases o:vv w with
  |none=>rw[o]at g;cases g
  |some z=>
   rw[o]at g;cases g;obtain⟨j,r⟩:=i;obtain⟨rfl,s⟩:=Ks r o;have j:Rd q.C x (.int t u):=j;cases j with
   |int p=>exact⟨rfl,λd h=>⟨Rd.int p,s d h⟩⟩
def eg.hs{b}{m:ae}{ag}{i}(p:q.op=.makeFunc (.func b) #[m] #[])(w:bD F m=.n (.agg ag))(h:vv ag=f i):
  eg P E q F k (λ_:{_u:Unit // ∀a j,bM a j i ag}=>ax (.val (.func (.func b) #[.agg i.toArray] #[]))) λ_=>k:=by
 intro r s t g;have o:=eF t m;rw[w]at o;obtain⟨y,u,d⟩:=o;obtain⟨rfl,e⟩:=Ks d h;refine⟨⟨(),e⟩,.value (.func (.func b) #[.agg y.toArray] #[]),r,_,?_,.inl rfl,Rd.val rfl,g,.refl _ _,?_⟩
 .simp only[ab,p,Instr.makeFunc];simp[u]
 have:(ab s.eval q).events P r.a #[]=#[]:=by simp only[ab,p,Instr.makeFunc];rfl
 rw[this];exact .nil
def LR{g:ae}(cv:q.op=.call {callee:=.value cP,args:=#[g],argTypes:=ds}){b}{fn}(N:P.funcs[b]?=f fn)(j:(fn.name== "runtime.NumGoroutine")=v)(h:fn.body.isNone=v){a:Act}{e}(B:a.eval cP=.func (.func b) #[e] #[])(d):
  (ab a.eval q).run P d=.ok (.enter b [e,a.eval g].toArray) d/\(ab a.eval q).events P d #[]=#[]:=by
 have r:fn.name≠ "runtime.NumGoroutine":=M;have i:fn.body≠n:=M;constructor
 .exact OD
 exact OD
def aZ.gZ{o:ae}(S:∀k C m,bX E k C F m->aS q (yielded all.toArray m.tmps)=l)(e:q.op=.call {callee:=.value cP,args:=#[o],argTypes:=ds}){J}{ag}{j}{d res}(W:bD F cP=ax (.val (.func (.func J) #[.agg j.toArray] #[])))(Y:∀r b,bM r b j ag)(X:BC (bD F o)=d)(O:Z p J [.n (.agg ag),d] [] res [])(t:hd 0 [.n (.agg ag),d]=l)(u:gn [] [.n (.agg ag),d]=[.n (.agg ag),d])(ab:fc [] res=res):aZ p E all q F k res k:=by
 intro C m s y ah V ai af ak B x z w;have N:=eF s cP;rw[W]at N;have Q:=Rd.ba (b6 N);obtain⟨fn,M,K,I⟩:=O.1;have R:=Ht (eF s o);rw[X]at R;have U:b4 k C [.agg j.toArray,m.eval o] (gn [] [.n (.agg ag),d]):=by rw[u];exact⟨⟨j,a,Y _ _⟩,R,A⟩
 refine Gi (aU:=[]) (dh:=[]) (aQ:=[]) x z (S _ _ _ s) y (λD=>(LR e M K I Q D).1) (λD=>(LR e M K I Q D).2) O U t a a a a (bA _) ?_;intro aa b g h i;have T:db [] [] k=k:=by simp[db]
 rw[T]at g h i;refine w aa b ?_ h i;simpa[ab,gU]using g
def dV.cI(ai:∀k h b,bX E k h F b->aS q (yielded all.toArray b.tmps)=l)(e:q.op=.call {callee:=.value cP,args:=af,argTypes:=ds}){I}(g:g1 (bD F cP)=f (I,cap))(O:bl p I cQ k res aQ)(W:lW (af.toList.map (bD F)++e' cap) cQ=f Y)(ag:T Y):dV p E all q F k res aQ:=by
 intro h b y s al aa S ak an A r t o;have N:=eF y cP;unfold g1 at g;split at g
 case h_2=>cases g
 case h_1 u4 uR he=>
  cases g;rw[he]at N;have J:=b6 N;generalize Q:b.eval cP=V at J;cases J with
  |fn j a w d U i X m ae z=>
   have ah:j=[]:=jB w;subst ah;have Z:b4 k h a (e' cap):=p' (λx R u=>⟨i x,m x M,z x R u⟩) d;have ab:b4 k h (af.toList.map b.eval++a) cQ:=s_ W ag ((m1 (eF y) af.toList).append Z);obtain⟨fn,K,D,C⟩:=O.1;exact Gj r t (ai _ _ _ y) s (λB=>(mL e K D C Q B).1) (λB=>(mL e K D C Q B).2) O ab o
def g.hh(d){q}(aH:k[d]?=f q)(B:∀L,fM q L .M L)(o:g p E bd (.code r::av) .normal F (k.set d .M)):g p E bd (.code r::av) .normal F k:=by
 refine g.aP (λb D m bP=>?_) o;have s:d<c b.s:=h0;have i:=bI s;generalize b.s[d]=L at i;have x:b.s.set d L=b.s:=by
  apply pZ;intro z;by_cases t:d=z
  .subst t;rw[iq s,i]
  rw[j9 t]
 obtain⟨u,h⟩:=bP.b4 (cg:=b.C) (bg:=b.a) aH i (B L) (bA _) (λ_ _ _=>rfl) (λ_ _ _ _=>rfl) (λ_ _ _ y=>y) bP.mem (λw e=>⟨.inl e,bP.lt L (b8 i) w e⟩) rfl rfl rfl A;rw[x]at u h;exact⟨b,a,⟨m.size,m.defers.imp λ_ j=>j.mono h.ext,λC=>(m.ak C).mono h.ext bP.len⟩,u,h⟩
def g.cL(d){b}(aH:c' d k=f b)(e:∀L,fM b L .M L)(a:g p E bd (.code r::av) .normal F (k.set d .M)):g p E bd (.code r::av) .normal F k:=.hh d (eo aH) e a
def g.eK{r}:∀d{b:m ap},g p E bd (.code r::av) .normal F (b++aW d .M)->g p E bd (.code r::av) .normal F b
 |0,b,a=>by simpa using a
 |d+1,b,a=>by refine g.fg 0 1 (g.hh (c b) (Ar) bk (g.eK d ?_));rw[List.set_append_right _ _ (bA _)];simpa[List.replicate_succ]using a
end
def Rd.jM{o}{h}(y:Rd bz aa (.A o h j U)):∃m a p b,aa=.slice m j a/\j<=a/\a<=9223372036854775807/\(0<j->m=f ⟨p,b,n⟩)/\(∀d,d<j->c (U d)=h)/\∀d,d<j->∀k e,(U d)[k]?=f e->∃w,bz p (b+d*h+k)=f w/\Rd bz w e:=by
 cases y with
 |@A m _ a _ _ _ p b B x r z s q t u=>exact⟨m,a,p,b,rfl,x,r,q,s,λd g k e i=>⟨_,t d g k e i,u d g k e i⟩⟩
def Rd.hQ{o}{cap h}(e:j<=cap)(g:cap<=9223372036854775807)(r:0<j->o=f ⟨i,off,n⟩)(q:∀a,a<j->c (U a)=h)(t:∀a,a<j->∀b d,(U a)[b]?=f d->∃p,bz i (off+a*h+b)=f p/\Rd bz p d):Rd bz (.slice o j cap) (.A v h j U):=by refine .A i off (λa b=>(bz i (off+a*h+b)).getD I) e g (λs=>by cases s) q r (λa k b d m=>M) λa k b d m=>?_;grind
section
variable {p:ah P}{N:m im}
end
section
variable {p:ah P}
def eg.ht(aY:bZ P ac){w y:ae}{R:cm}{U V:IntKind}(s:q.op=.makeSlice o w y)(I:bW ac o=f R)(ak:R.desc=.slice W)(ar:bW ac W=f a4)(M:bD F w=ax (.int U j))(N:bD F y=ax (.int V j))(au:j*a4.bytes<=140737488355328)(aB:j<=140737488355328):
  eg P E q F k (λ_:Unit=>ax (.A v a4.size j λ_=>a4.zero)) λ_=>k:=by
 intro h z aL D;have p:=eF aL w;rw[M]at p;have p:=b6 p;generalize af:z.eval w=av at p;cases p;have r:=eF aL y;rw[N]at r;have r:=b6 r;generalize ag:z.eval y=aw at r;cases r;have B:=(aY o R I).ec;rw[ak]at B;obtain⟨e,m,t,ao,X,Z,Y,aA,al⟩:=(aY W a4 ar).cW;have G:(e.bytes:Int)*(j:Int)<=281474976710656:=by
  have an:((e.bytes*j:Nat):Int)<=281474976710656:=by rw[X,wU];omega
  rwa [Int.natCast_mul]at an
 have aa:=run_make (P:=P) (w:=h.a) o W e m B t Z U V j j u (Int.le_refl _) G u;simp only[cZ]at aa;have ai:m.cells.size=a4.size:=by have:=eD List.length Y;simp at this;omega
 have O:madeCells m.cells (j*e.size)=Builtin.zeroCells m.cells j:=by rw[ao,<-ai];rfl
 let d:=(madeCells m.cells (j*e.size)).toList;have ah:eU h.C a4.size j (λ_=>a4.zero) d:=by show eU _ _ _ _ (madeCells _ _).toList;rw[O];exact Nz Y al
 obtain⟨C,L⟩:=D.newRow W d;refine⟨(),.value (.slice (f ⟨h.a.heap.size,0,n⟩) j j),h.newRow W d,_,?_,.inl a,?_,C,L,?_⟩
 .simp[ab,s,af,ag,aa,d,a6.newRow]
 .exact Rd.ek (ah.mono L.mem) (i:=h.a.heap.size) (off:=0) bk (bA _) u (λs=>by cases s) (KB h W d)
 have A:ab z.eval q=(do pure (.value (<-Instr.makeSlice o (.int U j) (.int V j)))):=by simp[ab,s,af,ag]
 rw[A];refine iU ?_;intro A g;have J:∀b,(underlying o).run P b=.ok (.slice W) b:=λb=>by simp[underlying,B]
 have x:∀b,(typeInfo W).run P b=.ok e b:=λb=>by simp[typeInfo,t]
 have K:∀b,(zeroValue W).run P b=.ok m b:=λb=>by simp[zeroValue,typeInfo,t,Z]
 have H:∀b,(sizeOf W).run P b=.ok e.size b:=λb=>by simp[sizeOf,typeInfo,t]
 have aq:IntKind.i64.wrap (j:Int)=j:=by rw[IntKind.wrap_i64];omega
 have S:¬(j:Int)<0:=u;have T:¬(281474976710656<(e.bytes:Int)*j):=u;simp[Instr.makeSlice,J,x,H,asInt,asIntOf,aq,S,T]at g;rw[K]at g;simp only[aF,(dz.newRow (P:=P)) _ _,ite_self]at g;unfold askRoom at g;split at g
 .have:A=⟨.mark .noRoom,v,l⟩:=by simpa using g
  rw[this];exact .inl a
 simp at g
end
section
open Go.Conc
def gv(d:a6):Prop:=∀a b e,d.C a b=f e->d.a.cell? ⟨a,b,n⟩=f e
def jy(a:Nat->Prop):Go.Loc->Prop
  |.cell b=>a b.block
  |.obj d=>a d
  |_=>False
structure gW(r:Nat->Prop)(b:a6):Prop where
  own:∀i,r i->¬b.own i
  s:∀i,r i->∀L∈b.s,i∉L.aj
  C:∀i,r i->∀q,b.C i q=n
  lt:∀i,r i->i<b.a.heap.size
section
variable {r:Nat->Prop}
def gW.step(g:gW r b)(e:cN k b an aB):gW r aB:=by
  refine⟨λd a=>by rw[e.own];exact g.own d a,λd a L j i=>?_,λd a p=>by rw[e.bC d (g.lt d a) (g.s d a)];exact g.C d a p,λd a=>eC (g.lt d a) e.size⟩;rcases e.bS L j d i with h|⟨o,m,h⟩
  · exact absurd (g.lt d a) (pX.2 h)
  · exact g.s d a o m h
theorem gW.aP(g:gW r b)(j:eZ b aB):gW r aB:=by
  have h:∀d,r d->¬(aB.own d∨∃L∈aB.s,d∈L.aj):=λd a e=>by
    rcases j.blk d e with e|⟨L,i,e⟩
    · exact g.own d a e
    · exact g.s d a L i e
  exact⟨λd a e=>h d a (.inl e),λd a L i e=>h d a (.inr ⟨L,i,e⟩),λd a k=>by rw[j.bC d (g.s d a)];exact g.C d a k,λd a=>by rw[j.a];exact g.lt d a⟩
def gW.b1(e:gW r b)(g:nR b aB):gW r aB:=by
  refine⟨λd a=>by rw[g.own];exact e.own d a,λd a=>by rw[g.s];exact e.s d a,λd a h=>?_,λd a=>by rw[g.a];exact e.lt d a⟩;cases i:aB.C d h with
  |none=>rfl
  |some j=>rw[<-g.e7 d h j i,e.C d a h]
def gW.at(a:gW r b)(d):gW r {b with a:=b.a.at d}:=⟨a.own,a.s,a.C,a.lt⟩
def gv.at(d:gv b)(a):gv {b with a:=b.a.at a}:=d
theorem gv.aP(a:eZ b aB):gv aB:=λe g h d=>by rw[a.a];exact a.cell e g h d
def gv.b1(i:gv b)(d:nR b aB):gv aB:=λa e g h=>by rw[d.a];exact i a e g (d.e7 a e g h)
def gv.lt(e:gv b){q}(d:b.C i q=f aa):i<b.a.heap.size:=by
  have:=e i q aa d;rcases dW i b.a.heap.size with a|a
  · exact a
  · simp[aJ,Aw a]at this
def cV.at(d:gv b)(a):cV b {b with a:=b.a.at a}:=⟨rfl,rfl,rfl,bA _,λ_ _=>rfl,d,rfl,rfl,rfl⟩
def TB{o}(p:bb k b)(q:gW r b)(g:h6 b o){s}(aH:b.a.heap.size<=s):EvL (jy r) s o:=by
  obtain⟨t,wr,y⟩:=o;cases t with
  |cell m=>
    obtain⟨i,j,a⟩:=g;simp only at i j a;subst i;have key:¬r m.block/\m.block<b.a.heap.size:=by
      rcases a with a|⟨⟨L,h,a⟩,_⟩|⟨_,A,a⟩
      · exact a.elim
      · exact⟨λe=>q.s _ e L h a,p.lt L h _ a⟩
      · refine⟨λe=>?_,gv.lt p.mem a⟩
        rw[q.C _ e]at a;cases a
    exact evL_cell m wr key.1 (eC key.2 aH)
  |obj z=>
    obtain⟨i,j⟩:=g;simp only at i j;subst i;obtain⟨L,h,a⟩:=j.resolve_left id;refine⟨λe d u=>?_,by simp,by simp,?_⟩
    · simp[aK,MemAct.touch?]at d
      subst d;exact absurd a (q.s _ u L h)
    · simp[aK,MemAct.low,Loc.low]
      exact eC (p.lt L h _ a) aH
  |mark x=>
    simp[h6]at g;rcases g with rfl|⟨w,rfl⟩
    · exact⟨λe d=>by simp[aK,MemAct.touch?]at d,by simp,by simp,by simp[aK,MemAct.low]⟩
    · exact⟨λe d=>by simp[aK,MemAct.touch?]at d,by simp,by simp,by simp[aK,MemAct.low]⟩
  |_=>exact g.elim
end
def m0(b:Trace):Prop:=∀a,NoRelease a b
def m0.app{o}(e:m0 o){B}{fn}{pos}{U}(i:∀d∈U,∀a,d.loc≠.mark (.release a)):m0 (o++MemOp.ofEvents B fn pos U):=
  λa=>(e a).app λh b g=>by grind[Go.Conc.mem_ofEvents,Go.ConcR.loc_of_ofEvent]
def TC{a}(h:h6 b a)(g):a.loc≠.mark (.release g):=by intro d;obtain⟨loc,wr,j⟩:=a;simp only at d;subst d;rcases h with e|⟨i,e⟩<;>cases e
def Kr{a:aR}(e:a.mute=l)(d):a.loc≠.mark (.release d):=by intro b;obtain⟨loc,wr,g⟩:=a;simp only at b;subst b;simp[Event.mute]at e
def kV(P:aE)(r:ai)(g:a6)(o:ai->a6->Prop):Prop:=
  ∀(k:Nat->Prop) b dD h (s:Nat->Nat),gv g->b[0]?=f r->Leavers P h b s->Past (jy k) g.a.heap.size h->gW k g->m0 h ->
    ∃(m:Nat) (j:Nat->Prop) (i:Array ai) (d:ai) (a:a6) (p:Option (Nat×Nat)) (e:Trace) (q:Nat->Nat),
      runNT P m (crowd b g.a dD) h=(.next (crowd i a.a p),e)/\gv a/\i[0]?=f d/\Leavers P e i q/\Past (jy j) a.a.heap.size e/\gW j a/\m0 e/\o d a
def ah.aF(P):ah P:={b3:=l,rely:=λb a=>cV b a/\∃d,a={b with a:=b.a.at d},dj:=kV P,bI:=λe=>e.1,dN:=True}
instance (P:aE):(ah.aF P).bZ:=⟨A⟩
theorem DU{P}:∀b a {e h:Machine} {i g:Trace},runNT P b e i=(.next h,g)->runNT P (b+a) e i=runNT P a h g
  |0,a,e,h,i,g,d=>by simp[runNT]at d;grind
  |b+1,a,e,h,i,g,d=>by
    rw[show b+1+a=(b+a)+1 by omega];simp[runNT]at d⊢;cases k:stepT P e with
    |mk o j=>
      rw[k]at d;cases o with
      |next m=>exact DU b a d
      |ended p q=>grind
def kV.trans{r:ai->a6->Prop}(C:kV P B b r)(I:∀a d,r a d->kV P a d br):kV P B b br:=by intro x e dD S Q m g i j k o;obtain⟨t,F,w,a,d,z,O,V,D,h,U,N,T,J,E,R⟩:=C x e dD S Q m g i j k o;obtain⟨s,u,y,K,q,A,t2,p,k1,M⟩:=I a d R F w z O V h U N T J E;exact⟨t+s,u,y,K,q,A,t2,p,by grind[DU],M⟩
def kV.jX{ac:ai->a6->Prop}(aA:B.status=.running)(S:∀(q:Nat->Prop) d D dD g (i:Nat->Nat),gv b->d[0]?=f B->Leavers P g d i->Past (jy q) b.a.heap.size g->gW q b->m0 g ->
      ∃F G z e,runT P (crowd d (b.a.at D) dD) 0=(.next (crowd F z.a dD),e)/\gv z/\F[0]?=f G/\Leavers P (g++e) F i/\Past (jy q) z.a.heap.size (g++e)/\gW q z/\m0 (g++e)/\ac G z):kV P B b ac:=by
  intro q d dD g i;have key:∀X d D dD g (i:Nat->Nat),Go.ConcN.sumTo d.size i<=X->gv b->d[0]?=f B->Leavers P g d i->Past (jy q) b.a.heap.size g->gW q b->m0 g ->
      ∃(Z:Nat) (W:Nat->Prop) (I:Array ai) (j:ai) (m:a6) (A:Option (Nat×Nat)) (O:Trace) (Y:Nat->Nat),
        runNT P Z (crowd d (b.a.at D) dD) g=(.next (crowd I m.a A),O)/\gv m/\I[0]?=f j/\Leavers P O I Y/\Past (jy W) m.a.heap.size O/\gW W m/\m0 O/\ac j m:=by
    intro X;induction X with
    |zero=>?_
    |succ X ao=>?_
    all_goals
      intro d D dD g i aF w r k s t o;have aq:∀B∈d,awake B:=by
        intro y aB;obtain⟨h,p,rfl⟩:=Array.mem_iff_getElem.1 aB;rcases nZ h with rfl|ae
        · grind[awake_of]
        · exact awake_of ((k.old h _ ae (iG p)).status.elim .inl λy=>.inr (.inr y))
      obtain⟨h,y,d2,A,p,aL,ag⟩:=crowd_pick (P:=P) (w:=b.a.at D) (sl:=dD) aq ⟨0,B,r,aA⟩;rw[show(b.a.at D).at d2=b.a.at d2 from a]at ag;rcases nZ h with rfl|ae
      · obtain⟨F,G,z,e,k1,L,av,ab,aw⟩:=S q d d2 A g i w r k s t o
        exact⟨1,q,F,G,z,A,g++e,i,by simp[runNT,ag,k1],L,av,ab,aw⟩
      · have T:=k.old h y ae p
        have ar:(h==0)=v:=M;have H:h<d.size:=(jd.1 p).1;cases ak:i h with
        |zero=>rw[ak]at T;rw[T.1]at aL;cases aL
        |succ E=>
          rw[ak]at T;rcases T with⟨aE,_⟩|⟨_,j,U,x,an,aK⟩
          · grind
          have aI:Go.ConcN.sumTo d.size (Go.ConcN.upd i h E)+(E+1)=Go.ConcN.sumTo d.size i+E:=by have:=Go.ConcN.sumTo_upd i E id H;simpa[ak]using this
          first
          | (exfalso;omega)
          | (have aG:=runT_crowd_go (P:=P) (sl:=A) (i:=h) p (by rw[ar];exact an (b.a.at d2))
             have aJ:((d.map (woken P y j (b.a.at d2))).setIfInBounds h j).size=d.size:=C;obtain⟨Z,W,I,au,m,K,O,Y,k1,L⟩:=ao ((d.map (woken P y j (b.a.at d2))).setIfInBounds h j) d2 A (g++MemOp.ofEvents h y.frame.fn y.frame.place U) (Go.ConcN.upd i h E) M w
              (by grind[woken_run])
              ⟨λV aM J R=>by
                by_cases ah:h=V
                · grind[Go.ConcN.upd_same,Deaf_own]
                · rw[sA ah,Array.getElem?_map]at R
                  obtain⟨aH,ax,rfl⟩:=q9.1 R;have al:=k.old V aH J ax;rw[woken_quitsD al,Go.ConcN.upd_ne i E (pY ah),Deaf_other g ah _ (λaf N=>by grind[Go.Conc.mem_ofEvents])];exact al,λV J=>by
                rw[Deaf_other g (g':=h) M _ (λaf N=>by grind[Go.Conc.mem_ofEvents])]
                exact k.above V M⟩
              (s.mute u x) t (o.app λaD aa aC=>Kr (x aD aa) aC)
             exact⟨Z+1,W,I,au,m,K,O,Y,by simp[runNT,ag,aG];exact k1,L⟩)
  intro w r k s t o;have:=key _ d b.a.drawn dD g i (bA _) w r k s t o
  rwa [show b.a.at b.a.drawn=b.a from a]at this
def _root_.Go.Conc.Leavers.own{d}{r}{o}{m:Nat->Nat}(k:Leavers P o gs m){aM}(g:∀b∈aM,b.g=0)(t:0<gs.size):Leavers P (o++aM) ((gs.map (woken P B d r)).setIfInBounds 0 d) m:=
  ⟨λi w e h=>by
    have p:0≠i:=u;rw[sA p,Array.getElem?_map]at h;obtain⟨s,q,rfl⟩:=q9.1 h;have j:=k.old i s e q;rw[woken_quitsD j,Deaf_other o u _ (λb a=>g b a)];exact j,λi e=>by
    rw[Deaf_other o (g':=0) M _ (λb a=>g b a)]
    exact k.above i M⟩
def ce.aF{P:aE}{O:ai->a6->Prop}{B}{b}(E:ce (ah.aF P) O B b):kV P B b O:=by
  induction E with
  |stop E=>intro p k dD u t m g h i j o;exact⟨0,p,k,_,_,dD,u,t,a,m,g,h,i,j,o,E⟩
  |aP d _ r=>
    intro p k dD u t m g h i j o;have:=r p k dD u t (.aP d) g h (by rw[d.a];exact i) (j.aP d) o
    rwa [d.a]at this
  |b1 _ d _ r=>
    intro p k dD u t m g h i j o;have:=r p k dD u t (m.b1 d) g h (by rw[d.a];exact i) (j.b1 d) o
    rwa [d.a]at this
  |dj K _ r=>exact kV.trans K r
  |@step B b ab z W M F I _ r=>
    refine kV.trans (kV.jX (ac:=λw A=>∃y,(ah.aF P).rely b y/\w=ab y/\A=z y) M λp k q dD u t m g h i j x=>?_) λw A ⟨y,k1,Z,aa⟩=>by subst Z aa;exact r y k1
    have C:(ah.aF P).rely b {b with a:=b.a.at q}:=⟨cV.at m q,q,rfl⟩;obtain⟨⟨ae,T,J,X,s⟩,S⟩:=I _ C;have V:=(jd.1 g).1;have R:gW p {b with a:=b.a.at q}:=j.at q;exact⟨_,_,z {b with a:=b.a.at q},_,runT_crowd_go (P:=P) (sl:=dD) (i:=0) g (show aq P (0==0) B (b.a.at q)=_ from F _ C),X.mem,by grind,
      h.own (λY Q=>by grind[Go.Conc.mem_ofEvents]) V,((i.mono s.size).own λD N=>TB J R (S D N) s.size),R.step s,x.app λD N U=>TC (S D N) U,_,C,rfl,rfl⟩
inductive cp where
 |leaf
 |node (ak:a6->cp)
def cp.lt:cp->cp->Prop
 |_,.leaf=>False
 |d,.node a=>∃b,d=a b∨cp.lt d (a b)
def cp.fs:∀g:cp,Acc cp.lt g
 |.leaf=>⟨_,λ_ b=>b.elim⟩
 |.node d=>⟨_,λ_ ⟨e,a⟩=>a.elim (λa=>a▸cp.fs (d e)) λb=>(cp.fs (d e)).inv b⟩
def cp.dG:Nat->cp
 |0=>.leaf
 |a+1=>.node λ_=>cp.dG a
def cp.gy(j)(b:a6):cp.lt (cp.dG j) (cp.dG (j+1)):=⟨b,.inl a⟩
def wK(e:Nat)(d x:Nat->cp):Prop:=∃a,a<e/\cp.lt (d a) (x a)/\∀b,b≠a->d b=x b
def Nk:∀b,WellFounded (wK b)
 |0=>⟨λ_=>⟨_,λ_ ⟨e,g,_⟩=>absurd g (iJ e)⟩⟩
 |b+1=>by
  have m:=Nk b;have key:∀d:cp,∀x:Nat->cp,x b=d->Acc (wK (b+1)) x:=by
   intro d;induction cp.fs d with
   |intro d _ q=>
    intro x;induction m.apply x with
    |intro x _ k=>
     intro r;refine⟨_,λp g=>?_⟩;obtain⟨e,o,j,h⟩:=g;rcases dW e b with i|i
     .exact k p ⟨e,i,j,h⟩ M
     grind
  exact⟨λx=>key _ x a⟩
section
def gI(g:ah P)(k:a6->a6->Array aR->Prop)(j:ai->a6->Prop):cp->ai->a6->Prop
 |.leaf,e,d=>j e d
 |.node m,e,d=>j e d∨(∃a,(eZ d a∨(g.dN/\nR d a))/\gI g k j (m d) e a) ∨
   (e.status=.running/\∀h,g.rely d h->∃i a b,aq P g.b3 e h.a=.go i a.a b/\(kB h a b∨k h a b)/\gI g k j (m h) i a)
variable {p:ah P}{W:a6->a6->Array aR->Prop}{r:ai->a6->Prop}
def du(d:ah P)(a:a6->a6->Array aR->Prop)(b:ai->a6->Prop)(e:ai)(h:a6):Prop:=∃g,gI d a b g e h
theorem du.aP(d:eZ b aB)(a:du p W br B aB):du p W br B b:=by obtain⟨e,a⟩:=a;exact⟨.node λ_=>e,.inr (.inl ⟨aB,.inl d,a⟩)⟩
def du.b1(a:p.dN)(e:nR b aB)(d:du p W br B aB):du p W br B b:=by obtain⟨g,d⟩:=d;exact⟨.node λ_=>g,.inr (.inl ⟨aB,.inr ⟨a,e⟩,d⟩)⟩
def du.step(o:B.status=.running)(j:∀e,p.rely b e->∃g a d,aq P p.b3 B e.a=.go g a.a d/\(kB e a d∨W e a d)/\du p W br g a):du p W br B b:=by
 classical
 have h:∀e,∃k:cp,p.rely b e->∃g a d,aq P p.b3 B e.a=.go g a.a d/\(kB e a d∨W e a d)/\gI p W br k g a:=by
  intro e;by_cases i:p.rely b e
  .obtain⟨g,a,d,c5,dt,k,m⟩:=j e i;exact⟨k,λ_=>⟨g,a,d,c5,dt,m⟩⟩
  exact⟨.leaf,λj=>absurd j i⟩
 exact⟨.node λe=>Classical.choose (h e),.inr (.inr ⟨o,λe i=>Classical.choose_spec (h e) i⟩)⟩
def du.bind(d:du p W br B b)(i:∀B b,br B b->du p W r B b):du p W r B b:=by
 obtain⟨j,d⟩:=d;induction j generalizing B b with
 |leaf=>exact i B b d
 |node q g=>
  rcases d with d|⟨k,a,e⟩|⟨h,d⟩
  .grind
  .rcases a with a|⟨gQ,a⟩
   .exact .aP a (g _ e)
   exact .b1 gQ a (g _ e)
  exact .step h λo m=>by grind
def ce.toW(r:∀B b q,¬p.dj B b q)(h:ce p br B b):du p W br B b:=by
 induction h with
 |stop h=>exact⟨.leaf,h⟩
 |step t u s m i j _ d=>exact .step m λg e=>⟨_,_,_,i g e,.inl (j g e),d g e⟩
 |aP a _ d=>exact .aP a d
 |b1 k a _ d=>exact .b1 k a d
 |dj o _ _=>grind
def gI.a_(m:a6->Prop)(C:∀g b,eZ g b->m g->m b)(A:p.dN->∀g b,nR g b->m g->m b):∀{D:cp}{r:ai}{g:a6},gI p W br D r g->m g ->
  (∃b,m b/\br r b)∨(r.status=.running/\∃b,m b/\∀k,p.rely b k->∃h i d o,aq P p.b3 r k.a=.go h i.a d/\(kB k i d∨W k i d)/\gI p W br o h i/\cp.lt o D)
 |.leaf,_,g,q,j=>.inl ⟨g,j,q⟩
 |.node E,r,g,q,j=>by
  rcases q with q|⟨b,x,y⟩|⟨I,q⟩
  .grind
  .have e:m b:=x.elim (λs=>C g b s j) λs=>A s.1 g b s.2 j;rcases gI.a_ m C A y e with B|⟨B,i,F,J⟩
   .grind
   refine .inr ⟨B,i,F,λk z=>?_⟩;obtain⟨h,u,d,o,k1,t,w,K⟩:=J k z;exact⟨h,u,d,o,k1,t,w,g,.inr K⟩
  refine .inr ⟨I,g,j,λk z=>?_⟩;obtain⟨h,u,d,k1,t,w⟩:=q k z;exact⟨h,u,d,E k,k1,t,w,k,.inl a⟩
def du.goes{dj:ar->ar->Prop}{x:ar->ar->Array aR->Prop}{Stop:ai->ar->Prop}(k:a6->Prop)(u:∀b d,k b->p.rely b d->k d)(q:∀b d,k b->p.rely b d->dj b.a d.a)(A:∀b e,k b->∀j,x b.a j e->j=b.a/\(kB b b e∨W b b e))(w:∀b,k b->p.rely b b)(y:∀h b,k b->Stop h b.a->du p W br h b):
  ∀r h b,k b->Goes P p.b3 dj x Stop r h b.a->du p W br h b
 |0,h,b,g,m=>y h b g (m b.a (q b b g (w b g)))
 |r+1,h,b,g,m=>by
  rcases m with m|⟨D,m⟩
  .grind
  refine .step D λd z=>?_;have i:=m d.a (q b d g z);have s:=u b d g z;cases t:aq P p.b3 h d.a with
  |go o j e=>
   rw[t,goes_go]at i;obtain⟨C,E⟩:=i;obtain⟨rfl,B⟩:=A d e s j C;exact⟨o,d,e,a,B,du.goes k u q A w y r o d s E⟩
  |_=>rw[t]at i;exact i.elim
end
theorem cV.aP{m}(h:cV b {b with a:=m})(g:eZ b aB):cV aB {aB with a:=m}:=by
 refine⟨a,a,a,by rw[g.a];exact h.size,λd e=>by rw[g.a];exact h.a3 d (g.blk d e),λd i j k=>?_,by rw[g.a];exact h.os,by rw[g.a];exact h.tape,by rw[g.a];exact h.output⟩;have p:=g.cell d i j k;by_cases e:∃L∈b.s,d∈L.aj
 .have:=h.a3 d (.inr e);simp only[aJ]at p⊢;grind
 have:b.C d i=f j:=by rw[<-g.bC d (λL q o=>e ⟨L,q,o⟩)];exact k
 exact h.mem d i j this
def cV.b1{j}(d:cV b {b with a:=j})(a:nR b aB):cV aB {aB with a:=j}:=
 ⟨rfl,rfl,rfl,by rw[a.a];exact d.size,λe g=>by rw[a.a];exact d.a3 e (by rw[<-a.own,<-a.s];exact g),λe h i k=>d.mem e h i (a.e7 e h i k),by rw[a.a];exact d.os,by rw[a.a];exact d.tape,by rw[a.a];exact d.output⟩
def cV.eo(a:gv b):cV b b:=⟨rfl,rfl,rfl,bA _,λ_ _=>rfl,a,rfl,rfl,rfl⟩
def cV.fY{a}(d:cV b {b with a:=a}):cV {b with a:=a} {b with a:=a}:=cV.eo d.mem
def cV.trans{b h b3}(a:cV b h)(d:cV h b3):cV b b3:=
 ⟨d.s.trans a.s,d.C.trans a.C,d.own.trans a.own,fG a.size d.size,λg e=>by rw[d.a3 g (by rw[a.own,a.s];exact e),a.a3 g e],λg j k i=>d.mem g j k (by rw[a.C];exact i),d.os.trans a.os,d.tape.trans a.tape,d.output.trans a.output⟩
end
section
open Go.Conc
open Go.ConcN (fork_knows RelBy)
open Go.ConcR (stA smA)
def h8:Go.Loc->Option Nat
 |.cell a=>f a.block
 |.obj b=>f b
 |_=>n
def Kg{d}(b:d.isMemory=l):∃a,h8 d=f a:=by cases d<;>simp[Go.Loc.isMemory]at b<;>exact⟨_,rfl⟩
def ads{d:MemAct}{e}{bT}(b:d.touch?=f e)(g:d.low bT)(a:h8 e.loc=f i):i<bT:=by
 cases d with
 |access h=>
  simp[MemAct.touch?]at b;subst b;simp only at a;obtain⟨loc,wr,k⟩:=h;cases loc<;>simp[h8]at a<;>subst a<;>exact g
 |mark j=>
  cases j<;>simp[MemAct.touch?]at b<;>subst b<;>simp[h8]at a<;>subst a<;>exact g
 |_=>exact cS
structure hL where
 bA:Nat->Prop
 bO:Nat
 f:Nat
 ah:Nat
 base:Nat
 aH:Nat
def oP(d:hL)(g:Nat->Nat)(e:Touch):Prop:=
 (∃a,e.loc=.cell a/\a.block=d.f/\e.kind≠.plain)∨(∃b,h8 e.loc=f b/\g b=0/\b≠d.f/\b≠d.ah/\¬d.bA b/\e.kind=.plain)
def nX(b:hL)(i:Nat->Nat)(j:Mem)(h:Nat)(a:Touch):Prop:=
 (∃e,a.loc=.cell e/\e.block=b.f/\a.kind=.atomic) ∨
 (a.kind=.plain/\((∃g,h8 a.loc=f g/\i g=b.base+h)∨(∃d,a.loc=.cell ⟨b.ah,d,n⟩/\b.aH*h<=d/\d<b.aH*h+b.aH)∨(a.write=v/\∃g d k,a.loc=.cell ⟨g,d,n⟩/\j g d=f k)))
structure fF(J:hL)(N:Nat->Nat)(ak:Nat->Mem)(o:Trace)(t bT:Nat):Prop where
 base:1<=J.base
 db:N J.f=0
 da:N J.ah=0
 bV:J.ah≠J.f
 dR:¬J.bA J.f
 ev:¬J.bA J.ah
 eu:∀i,J.bA i->N i=0
 bD:∀D,D<t->∀i q aa,ak D i q=f aa->N i=0/\i≠J.ah/\i≠J.f/\¬J.bA i
 bO:J.bO<=o.size
 ei:∀said,¬Race said o
 seen:∀op∈o,op.act.low bT
 old:∀e w,e<J.bO->touchAt o e=f w->w.loc.isMemory=l->Knows o 0 e∨(jy J.bA w.loc/\w.kind=.atomic)
 ed:∀D,D<t->∀e w,e<J.bO->touchAt o e=f w->w.loc.isMemory=l->Knows o (J.base+D) e∨(jy J.bA w.loc/\w.kind=.atomic)
 eH:∀e w i,e<J.bO->touchAt o e=f w->h8 w.loc=f i->N i=0
 new:∀e w,J.bO<=e->touchAt o e=f w->w.loc.isMemory=l->(o.g? e=f 0/\oP J N w)∨(∃D,D<t/\o.g? e=f (J.base+D)/\nX J N (ak D) D w)
 eh:∀D,D<t->∀e w,J.bO<=e->touchAt o e=f w->o.g? e=f 0->w.write=l->∀i q aa,w.loc=.cell ⟨i,q,n⟩->ak D i q=f aa->Knows o (J.base+D) e
 over:∀e B,e<J.bO->o.g? e=f B->B≠0->o.counts e->∃h,o.g? h=f 0/\HappensBefore o e h
section
variable {J:hL}{N ep:Nat->Nat}{ak:Nat->Mem}{o bx:Trace}{bT ec:Nat}
theorem zs{a}{B}(g:touchAt o e=f a)(b:o.g? e=f B):Knows o B e:=by
 obtain⟨h,d,_⟩:=touch_of g;have:h.g=B:=by simpa[Trace.g?,d]using b
 grind[knows_own]
def fF.low(j:fF J N ak o t bT){b}(g:touchAt o e=f b)(a:h8 b.loc=f i):i<bT:=by obtain⟨k,h,d⟩:=touch_of g;exact ads d (j.seen k (us h)) a
def fF.eM(d:fF J N ak o t bT)(e:∀b,b<bT->ep b=N b)(aH:bT<=ec)(B:J.f<bT)(u:J.ah<bT)(C:∀b,J.bA b->b<bT)(D:∀h,h<t->∀b r s,ak h b r=f s->b<bT):fF J ep ak o t ec:=by
 have F:∀k g,touchAt o k=f g->oP J N g->oP J ep g:=λk g m a=>by
  rcases a with a|⟨b,a,i,z⟩
  .exact .inl a
  exact .inr ⟨b,a,by rw[e b (d.low m a)];exact i,z⟩
 have E:∀h k g,touchAt o k=f g->nX J N (ak h) h g->nX J ep (ak h) h g:=λh k g m a=>by
  rcases a with a|⟨y,⟨b,a,i⟩|a⟩
  .exact .inl a
  .exact .inr ⟨y,.inl ⟨b,a,by rw[e b (d.low m a)];exact i⟩⟩
  exact .inr ⟨y,.inr a⟩
 refine⟨d.base,by rw[e _ B];exact d.db,by rw[e _ u];exact d.da,d.bV,d.dR,d.ev,λb j=>by rw[e b (C b j)];exact d.eu b j,λh A b r s x=>by rw[e b (D h A b r s x)];exact d.bD h A b r s x,
  d.bO,d.ei,λw q=>MemAct.low_mono aH (d.seen w q),d.old,d.ed,λk g b p m j=>by rw[e b (d.low m j)];exact d.eH k g b p m j,λk g p m N=>?_,d.eh,d.over⟩
 rcases d.new k g p m N with⟨a,i⟩|⟨h,a,i,z⟩
 .grind
 grind
def fF.fE(a:fF J N ak o t bT):J.bO<=(o++bx).size:=fG a.bO C
theorem oa(a:e<o.size):(o++bx).g? e=o.g? e:=by simp[Trace.g?,getElem?_append_old a]
def fF.fP(p:fF J N ak o t bT)(bx):∀a h,a<J.bO->(o++bx).g? a=f h->h≠0->(o++bx).counts a->∃g,(o++bx).g? g=f 0/\HappensBefore (o++bx) a g:=by
 intro a h d b e j;have m:=eC d p.bO;rw[oa m]at b;obtain⟨g,k,i⟩:=p.over a h d b e ((counts_old m).1 j);have q:g<o.size:=by unfold Trace.g? at k;grind
 exact⟨g,by grind[oa],hb_app bx i⟩
def Md{a:Nat->Prop}{d}(e:jy a d)(b:h8 d=f i):a i:=by cases d<;>simp[h8]at b<;>subst b<;>exact e
def fF.eB(s:fF J N ak o t bT){b}(k:b<t){a i}{said}(aY:oP J N i)(j:nX J N (ak b) b a)(gQ:a.loc=i.loc)(g:a.kind=.plain∨i.kind=.plain∨(said=l/\a.kind=.said/\i.kind=.said))(u:i.kind=.plain->i.write=l->∀B q aa,i.loc=.cell ⟨B,q,n⟩->ak b B q≠f aa)(p:a.write=l∨i.write=l):False:=by
 have m:=s.base;rcases j with⟨e,dJ,e3,jJ⟩|⟨w,⟨r,dJ,e3⟩|⟨q,dJ,_⟩|⟨dJ,B,q,aa,e3,jJ⟩⟩
 .rcases aY with⟨d,f1,f2,f3⟩|⟨r,f1,f2,f3,_⟩
  .grind
  exact QO
 .rcases aY with⟨d,f1,f2,f3⟩|⟨h,f1,f2,f3,_⟩
  .rw[gQ,f1]at dJ;exact Rb
  grind
 .rcases aY with⟨d,f1,f2,f3⟩|⟨h,f1,f2,f3,f4,_⟩
  .rw[<-gQ,dJ]at f1;cases f1;exact s.bV f2
  exact QO
 obtain⟨A,x,y,z⟩:=s.bD b k B q aa jJ;rcases aY with⟨d,f1,f2,f3⟩|⟨h,f1,f2,f3,f4,_,f5⟩
 .grind
 grind
def fF.app0(s:fF J N ak o t bT)(C:∀a∈bx,a.g=0)(B:∀a∈bx,a.act.low bT)(x:∀a∈bx,∀b,a.act.touch?=f b->b.loc.isMemory=l->oP J N b)(U:∀a∈bx,∀b,a.act.touch?=f b->b.kind=.plain->b.write=l->∀j,j<t->∀k u w,b.loc=.cell ⟨k,u,n⟩->ak j k u≠f w):fF J N ak (o++bx) t bT:=by
 have F:∀{d:Nat} {b:Touch},touchAt (o++bx) d=f b->(d<o.size/\touchAt o d=f b)∨(o.size<=d/\(o++bx).g? d=f 0/\∃a∈bx,a.act.touch?=f b):=by
  intro d b h;obtain⟨j,p,W⟩:=touch_of h;rcases getElem?_append_cases p with⟨bp,G⟩|⟨bp,Q⟩
  .grind [touchAt_of]
  exact .inr ⟨bp,by simp[Trace.g?,p,C j Q],j,Q,W⟩
 refine⟨s.base,s.db,s.da,s.bV,s.dR,s.ev,s.eu,s.bD,s.fE,λsaid=>?_,seen_app s.seen B,λd b bp h N=>?_,λj p d b bp h N=>?_,λd b k bp h q=>?_,λd b bp h N=>?_,λj p d b bp h y K k u w I D=>?_,s.fP bx⟩
 .refine noRace_append (s.ei said) C λd b h a g k q e=>?_;have V:k.loc.isMemory=l:=by rw[<-e.1];exact e.2.1
  have aY:=x a g k q V;rcases dW d J.bO with bp|bp
  .rcases s.old d b bp h e.2.1 with b2|⟨av,L⟩
   .exact b2
   exfalso;obtain⟨X,r⟩:=Kg e.2.1;have R:=Md av r;rcases aY with⟨A,dJ,e3,jJ⟩|⟨H,dJ,e3,jJ,E,bz,S⟩
   .rw[e.1,dJ]at r;simp[h8,e1]at r;rw[<-r,e3]at R;exact s.dR R
   rw[e.1,dJ]at r;grind
  rcases s.new d b bp h e.2.1 with⟨y,_⟩|⟨j,p,y,O⟩
  .grind [zs]
  exact(s.eB p aY O e.1 e.2.2.2 (λm i=>U a g k q m i j p) e.2.2.1).elim
 .have z:touchAt o d=f b:=Fv;exact(s.old d b bp z N).imp (·.app bx) id
 .have z:touchAt o d=f b:=Fv;exact(s.ed j p d b bp z N).imp (·.app bx) id
 .have z:touchAt o d=f b:=Fv;exact s.eH d b k bp z q
 .rcases F h with⟨m,i⟩|⟨_,i,a,g,M⟩
  .rw[oa m];exact s.new d b bp i N
  grind
 rcases F h with⟨m,i⟩|⟨_,i,a,g,M⟩
 .rw[oa m]at y;exact(s.eh j p d b bp i y K k u w I D).app bx
 exfalso;rcases x a g b M hE with⟨A,dJ,e3,jJ⟩|⟨H,_,_,_,_,_,S⟩
 .rw[I]at dJ;cases dJ;exact(s.bD j p k u w D).2.2.1 e3
 grind
def fF.ia(s:fF J N ak o t bT){r}(E:r<t)(U:∀k∈bx,k.g=J.base+r)(S:∀k∈bx,k.act.low bT)(ae:∀k∈bx,∀d,k.act.touch?=f d->d.loc.isMemory=l->nX J N (ak r) r d):fF J N ak (o++bx) t bT:=by
 have W:=s.base;have X:∀{e:Nat} {d:Touch},touchAt (o++bx) e=f d->(e<o.size/\touchAt o e=f d)∨(o.size<=e/\(o++bx).g? e=f (J.base+r)/\∃k∈bx,k.act.touch?=f d):=by
  intro e d j;obtain⟨w,y,aa⟩:=touch_of j;rcases getElem?_append_cases y with⟨bp,ao⟩|⟨bp,K⟩
  .grind [touchAt_of]
  exact .inr ⟨bp,by simp[Trace.g?,y,U w K],w,K,aa⟩
 refine⟨s.base,s.db,s.da,s.bV,s.dR,s.ev,s.eu,s.bD,s.fE,λsaid=>?_,seen_app s.seen S,λe d bp j N=>?_,λw y e d bp j N=>?_,λe d F bp j C=>?_,λe d bp j N=>?_,λw y e d bp j M T F i m O Q=>?_,s.fP bx⟩
 .refine noRace_append (s.ei said) U λe d j k A F C h=>?_;have H:F.loc.isMemory=l:=by rw[<-h.1];exact h.2.1
  have aY:=ae k A F C H;obtain⟨ar,u⟩:=Kg h.2.1;rcases dW e J.bO with bp|bp
  .rcases s.ed r E e d bp j h.2.1 with D|⟨af,aq⟩
   .exact D
   exfalso;have B:=Md af u;rw[h.1]at u;rcases aY with⟨R,dJ,e3,jJ⟩|⟨ac,⟨ah,dJ,e3⟩|⟨i,dJ,_⟩|⟨dJ,z,i,m,e3,jJ⟩⟩
   .rw[dJ]at u;simp[h8,e1]at u;rw[<-u,e3]at B;exact s.dR B
   .rw[dJ]at u;simp[e1]at u;rw[<-u]at B;rw[s.eu _ B]at e3;omega
   .rw[dJ]at u;simp[h8,e1]at u;rw[<-u]at B;exact s.ev B
   rw[e3]at u;simp[h8,e1]at u;rw[<-u]at B;exact(s.bD r E z i m jJ).2.2.2 B
  rcases s.new e d bp j h.2.1 with⟨M,G⟩|⟨w,y,M,L⟩
  ·
   by_cases x:d.write=l/\∃z i m,d.loc=.cell ⟨z,i,n⟩/\ak r z i=f m
   .obtain⟨g,z,i,m,p,br⟩:=x;exact s.eh r E e d bp j M g z i m p br
   exfalso;refine s.eB (said:=said) E G aY h.1.symm ?_ (λ_ Z z i m q Q=>x ⟨Z,z,i,m,q,Q⟩) h.2.2.1.symm;rcases h.2.2.2 with D|D|⟨g,p,br⟩
   .grind
   .grind
   grind
  by_cases Y:w=r
  .grind [zs]
  exfalso;obtain⟨q,_,T,al⟩:=h;rcases L with⟨R,dJ,e3,jJ⟩|⟨ac,⟨g9,dJ,e3⟩|⟨i,dJ,V,an⟩|⟨dJ,z,i,m,e3,jJ⟩⟩
  .rcases aY with⟨b,f1,f2,f3⟩|⟨f0,⟨iN,f1,f2⟩|⟨i,f1,_⟩|⟨f1,z,i,m,f2,f3⟩⟩
   .grind
   .rw[<-q,dJ]at f1;simp[h8,e1]at f1;rw[<-f1,e3,s.db]at f2;omega
   .rw[<-q,dJ]at f1;cases f1;exact s.bV e3
   rw[<-q,dJ]at f2;cases f2;exact(s.bD r E z i m f3).2.2.1 e3
  .rcases aY with⟨b,f1,f2,f3⟩|⟨f0,⟨iN,f1,f2⟩|⟨i,f1,_⟩|⟨f1,z,i,m,f2,f3⟩⟩
   .rw[q,f1]at dJ;exact Rb
   .grind
   .rw[q,f1]at dJ;simp[h8,e1]at dJ;rw[<-dJ,s.da]at e3;omega
   rw[q,f2]at dJ;simp[h8,e1]at dJ;rw[<-dJ,(s.bD r E z i m f3).1]at e3;omega
  .rcases aY with⟨b,f1,f2,f3⟩|⟨f0,⟨iN,f1,f2⟩|⟨av,f1,P,ab⟩|⟨f1,z,av,m,f2,f3⟩⟩
   .rw[<-q,dJ]at f1;cases f1;exact s.bV f2
   .rw[<-q,dJ]at f1;simp[h8,e1]at f1;rw[<-f1,s.da]at f2;omega
   .rw[<-q,dJ]at f1;cases f1;rcases Nat.lt_or_gt_of_ne Y with g|g
    .have:=wS J.aH (show w+1<=r from g);grind
    have:=wS J.aH (show r+1<=w from g);grind
   rw[<-q,dJ]at f2;cases f2;exact(s.bD r E _ _ m f3).2.1 a
  rcases aY with⟨b,f1,f2,f3⟩|⟨f0,⟨iN,f1,f2⟩|⟨av,f1,P,ab⟩|⟨f1,ag,av,ai,f2,f3⟩⟩
  .rw[<-q,e3]at f1;cases f1;exact(s.bD w y z i m jJ).2.2.1 f2
  .rw[<-q,e3]at f1;simp[h8,e1]at f1;rw[<-f1,(s.bD w y z i m jJ).1]at f2;omega
  .rw[<-q,e3]at f1;cases f1;exact(s.bD w y _ _ m jJ).2.1 a
  grind
 .have I:touchAt o e=f d:=Fu;exact(s.old e d bp I N).imp (·.app bx) id
 .have I:touchAt o e=f d:=Fu;exact(s.ed w y e d bp I N).imp (·.app bx) id
 .have I:touchAt o e=f d:=Fu;exact s.eH e d F bp I C
 .rcases X j with⟨g,p⟩|⟨_,p,k,A,aL⟩
  .rw[oa g];exact s.new e d bp p N
  grind
 rcases X j with⟨g,p⟩|⟨_,p,_⟩
 .rw[oa g]at M;exact(s.eh w y e d bp p M T F i m O Q).app bx
 grind
def fF.mute(b:fF J N ak o t bT){B}(z:∀h∈bx,h.g=B)(k:∀h∈bx,h.act.low bT)(u:∀h∈bx,h.act.touch?=n):fF J N ak (o++bx) t bT:=by
 have old:∀{d:Nat} {e:Touch},touchAt (o++bx) d=f e->d<o.size/\touchAt o d=f e:=by intro d e g;obtain⟨E,D,C⟩:=touch_of g;grind[touchAt_of]
 refine⟨b.base,b.db,b.da,b.bV,b.dR,b.ev,b.eu,b.bD,b.fE,λsaid=>noRace_append (b.ei said) z λd e _ h q j i _=>M,seen_app b.seen k,λd e a g N=>(b.old d e a (old g).2 N).imp (·.app bx) id,
  λp m d e a g N=>(b.ed p m d e a (old g).2 N).imp (·.app bx) id,λd e j a g i=>b.eH d e j a (old g).2 i,λd e a g N=>?_,λp m d e a g r w j x A s y=>?_,b.fP bx⟩
 .rw[oa (old g).1];exact b.new d e a (old g).2 N
 rw[oa (old g).1]at r;exact(b.eh p m d e a (old g).2 r w j x A s y).app bx
def fF.gk(h:fF J N ak o t bT){q r}(O:q.g=0/\q.act=.go (J.base+t))(E:r.g=J.base+t/\r.act=.start)(F:Deaf o 0=0)(z:Deaf o (J.base+t)=0)(V:∀e w y,ak t e w=f y->N e=0/\e≠J.ah/\e≠J.f/\¬J.bA e):fF J N ak (o++#[q,r]) (t+1) bT:=by
 have x:∀g∈#[q,r],g.act.touch?=n:=by
  intro g a;simp[List.mem_toArray,e8,ss,or_false]at a;rcases a with rfl|rfl
  .exact hE
  exact hE
 have Q:∀g∈#[q,r],g.act.low bT:=by
  intro g a;simp[List.mem_toArray,e8,ss,or_false]at a;rcases a with rfl|rfl
  .exact hE
  exact hE
 have old:∀{i:Nat} {k:Touch},touchAt (o++#[q,r]) i=f k->i<o.size/\touchAt o i=f k:=by intro i k m;obtain⟨p,D,U⟩:=touch_of m;grind[touchAt_of]
 have j:∀p,p<t+1->∀e w y,ak p e w=f y->N e=0/\e≠J.ah/\e≠J.f/\¬J.bA e:=λp D e w y A=>by
  rcases dW p t with b|b
  .exact h.bD p b e w y A
  grind
 refine⟨h.base,h.db,h.da,h.bV,h.dR,h.ev,h.eu,j,h.fE,λsaid=>?_,seen_app h.seen Q,λi k d m N=>(h.old i k d (old m).2 N).imp (·.app _) id,
  λp D i k d m N=>?_,λi k e d m s=>h.eH i k e d (old m).2 s,λi k d m N=>?_,λp D i k d m C S e w y R A=>?_,h.fP _⟩
 .have I:o++#[q,r]=(o++#[q])++#[r]:=M;rw[I];refine noRace_append (g:=J.base+t) (noRace_append (g:=0) (h.ei said) (λg a=>by grind) (λi k _ g a e s _=>M)) (λg a=>by grind) (λi k _ g a e s _=>?_);grind
 .rcases dW p t with b|b
  .exact(h.ed p b i k d (old m).2 N).imp (·.app _) id
  obtain rfl:p=t:=u;exact(h.old i k d (old m).2 N).imp (fork_knows O E F z) id
 .rw[oa (old m).1];rcases h.new i k d (old m).2 N with b|⟨p,b,K⟩
  .grind
  grind
 rw[oa (old m).1]at C;rcases dW p t with b|b
 .exact(h.eh p b i k d (old m).2 C S e w y R A).app _
 obtain rfl:p=t:=u;exact fork_knows O E F z (zs (old m).2 C)
def fF.jH(h:fF J N ak o t bT)(H:Deaf o 0=0)(z:NoRelease (stA J.f) o){bi}(F:o.act? bi=f (.mark (.acquire (stA J.f))))(C:o.g? bi=f 0)(E:o.heard bi)(Q:∀d,d<t->∃j,RelBy (stA J.f) o (J.base+d) j/\j<bi):Past (jy λp=>J.bA p∨p=J.f) bT o:=by
 have B:∀d,d<t->∀a,o.g? a=f (J.base+d)->o.counts a->HappensBefore o a bi:=by
  intro d r a i m;obtain⟨j,s,O⟩:=Q d r;have S:HappensBefore o j bi:=.single (.inr ⟨.marked O (.inr s.act) F (λU _ _=>z U),s.heard,E⟩);have L:a<=j:=Nat.le_of_not_lt λA=>s.after a A i m;rcases dW a j with A|G
  .exact .trans (.single (.inl ⟨A,_,i,s.g⟩)) S
  grind
 have V:∀{u:Go.Loc},jy J.bA u->jy (λp=>J.bA p∨p=J.f) u:=λ{u} q=>by cases u<;>first|exact .inl q|exact q
 refine⟨h.ei,λa g k N=>?_,λa T i K m=>?_,H,h.seen⟩
 .rcases dW a J.bO with b|b
  .exact(h.old a g b k N).imp id λ⟨e,w⟩=>⟨V e,w⟩
  rcases h.new a g b k N with⟨e,_⟩|⟨d,r,i,aY⟩
  .grind [zs]
  rcases aY with⟨R,dJ,e3,jJ⟩|⟨bz,_⟩
  .exact .inr ⟨by rw[dJ];exact .inr e3,jJ⟩
  left;have m:o.counts a:=⟨g,k,N,.inl M⟩
  obtain⟨W,I,D⟩:=q9.1 C;exact⟨bi,W,I,D,.inr (B d r a i m)⟩
 rcases dW a J.bO with b|b
 .exact h.over a T b i K m
 obtain⟨g,k,N,y⟩:=m;rcases h.new a g b k N with⟨e,_⟩|⟨d,r,x,aY⟩
 .grind
 exact⟨bi,C,B d r a x ⟨g,k,N,y⟩⟩
def fF.start{J}{o}{bT}{m:Nat->Mem}(d:Past (jy J.bA) bT o)(aY:J.bO=o.size)(h:1<=J.base)(g:J.ah≠J.f)(s:¬J.bA J.f)(q:¬J.bA J.ah):fF J (λ_=>0) m o 0 bT:=
 ⟨h,rfl,rfl,g,s,q,λ_ _=>rfl,λb a=>absurd a (iJ b),by omega,d.clean,d.seen,λe j _ i k=>d.known e j i k,λb a=>absurd a (iJ b),λ_ _ _ _ _ _=>rfl,
  λe j r i _=>by
   obtain⟨b,a,_⟩:=touch_of i
   grind,λb a=>absurd a (iJ b),λe p _ t g u=>d.over e p t g u⟩
end
end
section
open Go.Conc
open Go.ConcN (WD CTag Mode Vc Ssum pend phi cnt WgLive PayAt Has RW DWs WSit RelBy sumTo upd upd_same upd_ne AtR0 get_map_set get_map_set_same norel_of Deaf_still)
open Go.ConcR (KK WgAt stA smA rd wr mk Payload g_of_ofEvents)
def ah.c8(P):ah P:={b3:=v,rely:=cV,dj:=λ_ _ _=>False,bI:=id,dN:=True}
def ah.aD(P)(d:al)(a:Nat):ah P:={b3:=l,rely:=λe b=>cV e b/\(WgLive d a e.a->WgLive d a b.a),dj:=λ_ _ _=>False,bI:=λg=>g.1,dN:=False}
instance (P:aE):(ah.c8 P).bZ:=⟨A⟩
def eO:a6->a6->Array aR->Prop:=λ_ _ _=>False
def dQ(b:Nat):a6->a6->Array aR->Prop:=λg e a=>e=g/\∃d:Addr,d.block=b/\(a=#[mk (.read d)]∨a=#[mk (.write d)])
def pN:Nat->Go.Loc->Prop:=λ_ _=>False
variable [Payload]
structure RY(K E e5 h:Nat)(y:Nat->X)(Q bg:ar):Prop where
 tape:bg.tape=Q.tape
 os:bg.os=Q.os
 output:bg.output=Q.output
 size:bg.heap.size=Q.heap.size
 block:∀i,i≠K->bg.heap[i]?=Q.heap[i]?
 bQ:PayAt K E bg
 hv:∀q,(q<e5∨e5+h<=q)->bg.cell? ⟨K,q,n⟩=Q.cell? ⟨K,q,n⟩
 new:∀e,e<h->bg.cell? ⟨K,e5+e,n⟩=f (y e)
section
variable (P:aE)(ty:al)(J:hL)(E:Nat)(val:Nat->Nat->X)
def ub(a:Nat)(g:ai)(h:a6):Prop:=
 g.status=.running/\∀w1,cV h {h with a:=w1}->PayAt J.ah E w1->WgLive ty J.f w1 ->
  ∃d w2 b,aq P v g w1=.go d w2 b/\RY J.ah E (J.aH*a) J.aH (val a) w1 w2/\(∀i∈b,∃e,i=⟨.cell ⟨J.ah,e,n⟩,l,v⟩/\J.aH*a<=e/\e<J.aH*a+J.aH) /\
   ∃j,Goes P v (RW ty J.f J.ah E 0 (J.aH*a)) Go.ConcR.DC0 (AtR0 P ty J.f J.ah E 0 (J.aH*a+1) (val a 0)) j d w2
end
structure hz(ak:Nat->Nat)(a9:Mem)(B:Nat)(b:a6):Prop where
 blk:∀i,(b.own i∨∃L∈b.s,i∈L.aj)->ak i=B/\i<b.a.heap.size
 C:∀i q aa,b.C i q=f aa->(ak i=B∨a9 i q=f aa)/\i<b.a.heap.size
structure gu(J:hL)(ak:Nat->Nat)(O:Nat->Mem)(t:Nat)(b:a6):Prop where
 blk:∀i,(b.own i∨∃L∈b.s,i∈L.aj)->ak i=0/\i≠J.ah/\i≠J.f/\¬J.bA i/\i<b.a.heap.size
 C:∀i q aa,b.C i q=f aa->ak i=0/\i≠J.ah/\i≠J.f/\¬J.bA i/\i<b.a.heap.size
 bD:∀D,D<t->∀i q aa,O D i q=f aa->b.C i q=f aa
structure lB(J:hL)(ak:Nat->Nat)(a9:Mem)(bE:Nat)(Q bg:ar):Prop where
 size:Q.heap.size<=bg.heap.size
 blk:∀i,i<Q.heap.size->ak i=J.base+bE->bg.heap[i]?=Q.heap[i]?
 cell:∀i q aa,a9 i q=f aa->Q.cell? ⟨i,q,n⟩=f aa->bg.cell? ⟨i,q,n⟩=f aa
 bQ:∀q,J.aH*bE<=q->q<J.aH*bE+J.aH->bg.cell? ⟨J.ah,q,n⟩=Q.cell? ⟨J.ah,q,n⟩
 os:bg.os=Q.os
 tape:bg.tape=Q.tape
 output:bg.output=Q.output
omit [Payload]in
def lB.refl(J)(a:Nat->Nat)(d)(bE)(Q):lB J a d bE Q Q:=⟨bA _,λ_ _ _=>rfl,λ_ _ _ _ b=>b,λ_ _ _=>rfl,rfl,rfl,rfl⟩
omit [Payload]in
def lB.at(J)(b:Nat->Nat)(e)(bE)(Q)(a):lB J b e bE Q (Q.at a):=⟨bA _,λ_ _ _=>rfl,λ_ _ _ _ d=>d,λ_ _ _=>rfl,rfl,rfl,rfl⟩
structure q7(J:hL)(ak:Nat->Nat)(Q bg:ar):Prop where
 size:Q.heap.size<=bg.heap.size
 blk:∀i,i<Q.heap.size->ak i=0->i≠J.ah->i≠J.f->bg.heap[i]?=Q.heap[i]?
 os:bg.os=Q.os
 tape:bg.tape=Q.tape
 output:bg.output=Q.output
omit [Payload]in
def m_{a:ar}(b:bg.heap[i]?=a.heap[i]?)(q):bg.cell? ⟨i,q,n⟩=a.cell? ⟨i,q,n⟩:=by simp[aJ,b]
omit [Payload]in
def cV.eE{Q}(e:cV b {b with a:=Q})(p:Q.heap.size<=bg.heap.size)(k:∀d,(b.own d∨∃L∈b.s,d∈L.aj)->bg.heap[d]?=Q.heap[d]?)(a:∀d g h,b.C d g=f h->Q.cell? ⟨d,g,n⟩=f h->bg.cell? ⟨d,g,n⟩=f h)(m:bg.os=Q.os)(o:bg.tape=Q.tape)(q:bg.output=Q.output):cV b {b with a:=bg}:=
 ⟨rfl,rfl,rfl,fG e.size p,λd i=>by show bg.heap[d]?=_;rw[k d i];exact e.a3 d i,λd g h j=>a d g h j (e.mem d g h j),m.trans e.os,o.trans e.tape,q.trans e.output⟩
section
variable {J:hL}{ak ep:Nat->Nat}{O:Nat->Mem}{bE:Nat}{Q:ar}
omit [Payload]in
def hz.dg(k:hz ak (O bE) (J.base+bE) b)(j:cV b {b with a:=Q})(a:lB J ak (O bE) bE Q bg):cV b {b with a:=bg}:=by
 have m:=j.size;refine j.eE a.size (λe p=>?_) (λe g o q i=>?_) a.os a.tape a.output
 .obtain⟨d,h⟩:=k.blk e p;exact a.blk e (eC h m) d
 obtain⟨d,h⟩:=k.C e g o q;rcases d with d|d
 .rw[m_ (a.blk e (eC h m) d) g];exact i
 exact a.cell e g o d i
omit [Payload]in
def hz.eM{h}{B}(g:hz ak h B b)(p:b.a.heap.size<=Q.heap.size)(o:∀a,a<Q.heap.size->ep a=ak a):hz ep h B b:=
 ⟨λa i=>let ⟨d,e⟩:=g.blk a i;⟨by grind,e⟩,λa j m k=>let ⟨d,e⟩:=g.C a j m k;⟨by grind,e⟩⟩
omit [Payload]in
def gu.dg(j:gu J ak O t b)(i:cV b {b with a:=Q})(a:q7 J ak Q bg):cV b {b with a:=bg}:=by
 have m:=i.size;refine i.eE a.size (λe p=>?_) (λe k r q o=>?_) a.os a.tape a.output
 .obtain⟨d,g,h,H,x⟩:=j.blk e p;exact a.blk e (eC x m) d g h
 obtain⟨d,g,h,H,x⟩:=j.C e k r q;rw[m_ (a.blk e (eC x m) d g h) k];exact o
omit [Payload]in
def gu.eM(e:gu J ak O t b)(p:b.a.heap.size<=Q.heap.size)(o:∀a,a<Q.heap.size->ep a=ak a):gu J ep O t b:=
 ⟨λa i=>let ⟨d,g,h,H,x⟩:=e.blk a i;⟨by grind,g,h,H,x⟩,
  λa j m k=>let ⟨d,g,h,H,x⟩:=e.C a j m k;⟨by grind,g,h,H,x⟩,e.bD⟩
omit [Payload]in
def hz.rely{i}{B}(h:hz ak i B b)(g:b.a.heap.size<=Q.heap.size):hz ak i B {b with a:=Q}:=
 ⟨λa j=>let ⟨d,e⟩:=h.blk a j;⟨d,eC e g⟩,λa k o m=>let ⟨d,e⟩:=h.C a k o m;⟨d,eC e g⟩⟩
omit [Payload]in
def gu.rely(e:gu J ak O t b)(i:b.a.heap.size<=Q.heap.size):gu J ak O t {b with a:=Q}:=
 ⟨λa j=>let ⟨d,g,h,H,x⟩:=e.blk a j;⟨d,g,h,H,eC x i⟩,λa k o m=>let ⟨d,g,h,H,x⟩:=e.C a k o m;⟨d,g,h,H,eC x i⟩,e.bD⟩
omit [Payload]in
theorem hz.aP{e}{B}(a:hz ak e B b)(h:eZ b aB):hz ak e B aB:=by
 refine⟨λi r=>by rw[h.a];exact a.blk i (h.blk i r),λi g j bi=>?_⟩;rw[h.a];by_cases r:∃L∈b.s,i∈L.aj
 .obtain⟨d,k⟩:=a.blk i (.inr r);grind
 exact a.C i g j Ru
omit [Payload]in
def hz.b1{h}{B}(e:hz ak h B b)(a:nR b aB):hz ak h B aB:=
 ⟨λd j=>by rw[a.a];exact e.blk d (by rw[<-a.own,<-a.s];exact j),λd g i k=>by rw[a.a];exact e.C d g i (a.e7 d g i k)⟩
omit [Payload]in
theorem gu.aP(a:gu J ak O t b)(h:eZ b aB):gu J ak O t aB:=by
 refine⟨λi r=>by rw[h.a];exact a.blk i (h.blk i r),λi d e bi=>?_,λj g i d e bi=>h.mem _ _ _ (a.bD j g i d e bi)⟩;rw[h.a];by_cases r:∃L∈b.s,i∈L.aj
 .exact a.blk i (.inr r)
 exact a.C i d e Ru
def lT(d:Nat->Nat)(b e:Nat):Nat->Nat:=λa=>if a<b then d a else e
omit [Payload]in
theorem lf{b:Nat->Nat}{a B}(d:i<a):lT b a B i=b i:=by simp[lT,d]
omit [Payload]in
theorem CR{b:Nat->Nat}{a B}(d:a<=i):lT b a B i=B:=by simp[lT,pX.2 d]
omit [Payload]in
def hz.step{m}{B}(h:hz ak m B b)(G:bb an aB)(e:cN k b an aB):hz (lT ak b.a.heap.size B) m B aB:=by
 refine⟨λa d=>?_,λa q s j=>?_⟩
 .rcases d with d|⟨L,W,d⟩
  .rw[e.own]at d;obtain⟨g,r⟩:=h.blk a (.inl d);exact⟨by grind[lf],eC r e.size⟩
  have i:=G.lt L W a d;rcases e.bS L W a d with g|⟨p,o,g⟩
  .grind [CR]
  obtain⟨k1,aL⟩:=h.blk a (.inr ⟨p,o,g⟩);grind[lf]
 have i:=gv.lt G.mem j;rcases dW a b.a.heap.size with g|g
 .rw[lf g];by_cases d:∃L∈b.s,a∈L.aj
  .exact⟨.inl (h.blk a (.inr d)).1,i⟩
  rw[e.bC a g (λL W t=>d ⟨L,W,t⟩)]at j;exact⟨(h.C a q s j).1,i⟩
 grind[CR]
omit [Payload]in
def gu.step(h:gu J ak O t b)(G:bb an aB)(d:cN k b an aB)(B:J.f<b.a.heap.size)(z:J.ah<b.a.heap.size)(A:∀a,J.bA a->a<b.a.heap.size):gu J (lT ak b.a.heap.size 0) O t aB:=by
 have F:∀a,b.a.heap.size<=a->a<aB.a.heap.size->lT ak b.a.heap.size 0 a=0/\a≠J.ah/\a≠J.f/\¬J.bA a/\a<aB.a.heap.size:=λa g m=>
  ⟨CR g,by omega,by omega,λI=>by grind,m⟩
 refine⟨λa e=>?_,λa j o i=>?_,λD w a j o i=>d.mem _ _ _ (h.bD D w a j o i)⟩
 .rcases e with e|⟨L,W,e⟩
  .rw[d.own]at e;obtain⟨g,m,C,H,x⟩:=h.blk a (.inl e);exact⟨by grind[lf],m,C,H,eC x d.size⟩
  have s:=G.lt L W a e;rcases d.bS L W a e with g|⟨y,u,g⟩
  .grind
  obtain⟨k1,aL,p,r,q⟩:=h.blk a (.inr ⟨y,u,g⟩);grind[lf]
 have s:=gv.lt G.mem i;rcases dW a b.a.heap.size with g|g
 .by_cases e:∃L∈b.s,a∈L.aj
  .obtain⟨k1,aL,p,r,q⟩:=h.blk a (.inr e);grind[lf]
  rw[d.bC a g (λL W E=>e ⟨L,W,E⟩)]at i;obtain⟨k1,aL,p,r,q⟩:=h.C a j o i;grind[lf]
 grind
end
end
section
open Go.Conc
open Go.ConcN (WD CTag Mode Vc Ssum pend phi cnt WgLive PayAt Has RW DWs WSit RelBy sumTo upd upd_same upd_ne AtR0 get_map_set get_map_set_same norel_of Deaf_still)
open Go.ConcR (KK WgAt stA smA rd wr mk Payload g_of_ofEvents)
variable [Payload]
section
variable (P:aE)(ty:al)(J:hL)(E:Nat)(val:Nat->Nat->X)(d:Nat->Nat)(r:Nat->Mem)
inductive hM (D:Nat):Nat->Nat->cp->Nat->ai->ar->Prop
 |c_ {a9:cp} {B:ai} {b:a6} {Q:ar}:gI (ah.c8 P) eO (ub P ty J E val D) a9 B b->cV b {b with a:=Q}->hz d (r D) (J.base+D) b->hM D 1 7 a9 0 B Q
 |rel {z:Nat} {B:ai} {Q:ar}:Goes P v (RW ty J.f J.ah E 0 (J.aH*D)) Go.ConcR.DC0 (AtR0 P ty J.f J.ah E 0 (J.aH*D+1) (val D 0)) z B Q->hM D 0 7 (cp.dG z) 0 B Q
 |tail {b7 z N:Nat} {B:ai} {Q:ar}:b7<=6->WSit P ty J.f J.ah E pN pN 0 (J.aH*D+1) (val D 0) b7 z N B Q->hM D 0 b7 (cp.dG z) N B Q
structure ik(t:Nat)(gs:Array ai)(Q:ar)(o:Trace)(x:Nat->WD)(O:Nat->Nat)(av:Nat->cp)(d0:Nat):Prop where
 size:gs.size=J.base+t
 dp:∀e B,0<e->e<J.base->gs[e]?=f B->∃z,av e=cp.dG z/\QuitsD P z (Deaf o e) B
 above:∀e,J.base+t<=e->Deaf o e=0
 c7:∀D,D<t->∃B,gs[J.base+D]?=f B/\hM P ty J E val d r D (O D) (x D).stage (av (J.base+D)) (x D).deaf B Q
 bo:fF J d r o t Q.heap.size
 dP:m0 o
 dy:Deaf o 0=d0
 dz:∀D,D<t->Deaf o (J.base+D)=(x D).deaf
 rel:∀D,D<t->(x D).stage<=6->∃a9,RelBy (stA J.f) o (J.base+D) a9
 dk:∀D,D<t->O D=0->∀e,1<=e->e<J.aH->Q.cell? ⟨J.ah,J.aH*D+e,n⟩=f (val D e)
 dK:∀D,D<t->(x D).stage<=6->Has J.ah (J.aH*D) (val D 0) Q
 bQ:PayAt J.ah E Q
 cZ:WgLive ty J.f Q
 cg:J.f<Q.heap.size
 cw:J.ah<Q.heap.size
 dm:∀i,J.bA i->i<Q.heap.size
 aH:0<J.aH
 dE:∀bE,bE<t->∀i q aa,r bE i q=f aa->i<Q.heap.size
end
section
variable {P:aE}{ty:al}{J:hL}{E:Nat}{val:Nat->Nat->X}{d ep:Nat->Nat}{r:Nat->Mem}{D:Nat}{Q:ar}{o:Trace}{x:Nat->WD}{O:Nat->Nat}{av:Nat->cp}{d0:Nat}
def RW.dg(i:lB J d (r D) D Q bg)(b:WgLive ty J.f bg)(e:PayAt J.ah E bg)(h:0<J.aH):RW ty J.f J.ah E 0 (J.aH*D+1-1) Q bg:=
 ⟨λg a=>absurd a (iJ g),λ_=>b,λ_=>e,i.bQ _ (bA _) M⟩
def hM.dg{o b7 p}{s}{B}(t:hM P ty J E val d r D o b7 s p B Q)(m:lB J d (r D) D Q bg)(h:WgLive ty J.f bg)(q:PayAt J.ah E bg)(g:0<J.aH)(k:∀i,i<Q.heap.size->ep i=d i):
  hM P ty J E val ep r D o b7 s p B bg:=by
 cases t with
 |c_ a b e=>exact .c_ a (e.dg b m) (e.eM b.size k)
 |rel a=>exact .rel (Goes.rely (λ_ _ _ a b=>a.trans b) a (RW.dg m h q g))
 |tail j a=>exact .tail j (a.rely (RW.dg m h q g))
omit [Payload]in
def gI.run{i:ah P}{h:a6->a6->Array aR->Prop}{e:ai->a6->Prop}(g:∀b d,e b d->b.status=.running):∀{a9:cp}{b:ai}{d:a6},gI i h e a9 b d->b.status=.running
 |.leaf,_,_,a=>g _ _ a
 |.node j,b,d,a=>by
  rcases a with a|⟨k,_,a⟩|⟨a,_⟩
  .grind
  .exact gI.run g (a9:=j d) a
  grind
def hM.status{e b7 g}{h}{B}(b:hM P ty J E val d r D e b7 h g B Q):B.status=.running∨B.status=.finished:=by
 cases b with
 |c_ a _ _=>exact .inl (a.run λB i b=>b.1)
 |rel a=>exact .inl (Goes.running (λ_ _ D=>D.1) Q (Go.ConcN.RW.refl Q) a)
 |tail _ a=>exact a.status
def hM.woken{a b7 b}{h}{B}(g:hM P ty J E val d r D a b7 h b B Q)(i e)(bg):woken P i e bg B=B:=by
 unfold Go.Conc.woken;split
 .exact again_running _ g.status
 simp
def ik.at(a:ik P ty J E val d r t gs Q o x O av d0)(e):ik P ty J E val d r t gs (Q.at e) o x O av d0:=
 ⟨a.size,a.dp,a.above,λg b=>let ⟨B,c5,dt⟩:=a.c7 g b;⟨B,c5,dt.dg (.at ..) a.cZ a.bQ a.aH λ_ _=>rfl⟩,a.bo,a.dP,a.dy,a.dz,a.rel,a.dk,a.dK,a.bQ,a.cZ,a.cg,a.cw,a.dm,a.aH,a.dE⟩
def ik.aI(s:ik P ty J E val d r t gs Q o x O av d0)(V:D<t){m}{fn}{pos}{U}{y k z}{M}(I:∀p,p<Q.heap.size->ep p=d p)(N:Q.heap.size<=bg.heap.size)(Y:∀b,b<t->b≠D->lB J d (r b) b Q bg)(aA:hM P ty J E val ep r D y k M z m bg)(aw:∀g∈U,(aK g).low bg.heap.size)(aB:∀g∈U,∀C,(aK g).touch?=f C->C.loc.isMemory=l->nX J ep (r D) D C)(ai:∀g∈U,∀C,g.loc≠.mark (.release C))(L:deafBehind (x D).deaf U=z)(ax:k<=6->∃Z,RelBy (stA J.f) (o++MemOp.ofEvents (J.base+D) fn pos U) (J.base+D) Z)(ao:y=0->∀e,1<=e->e<J.aH->bg.cell? ⟨J.ah,J.aH*D+e,n⟩=f (val D e))(an:k<=6->Has J.ah (J.aH*D) (val D 0) bg)(G:PayAt J.ah E bg)(ag:WgLive ty J.f bg):
  ik P ty J E val ep r t ((gs.map (woken P B m bg)).setIfInBounds (J.base+D) m) bg (o++MemOp.ofEvents (J.base+D) fn pos U) (upd x D ⟨k,0,z⟩) (upd O D y) (upd av (J.base+D) M) d0:=by
 have F:=s.bo.base;have R:∀b,b≠D->J.base+D≠J.base+b:=λb i g=>i u;have al:∀e q,0<e->e<J.base->((gs.map (Go.Conc.woken P B m bg)).setIfInBounds (J.base+D) m)[e]?=f q->gs[e]?=f q:=by intro e q bp j h;rw[get_map_set _ _ _ _ u]at h;obtain⟨au,W,rfl⟩:=q9.1 h;obtain⟨af,_,ar⟩:=s.dp e au bp j W;grind[woken_quitsD]
 refine⟨by simp[s.size],λe q bp j h=>?_,λe bp=>?_,λb i=>?_,?_,s.dP.app ai,by rw[Deaf_other o u _ g_of_ofEvents,s.dy],λb i=>?_,λb i A=>?_,λb i S e ah ak=>?_,λb i A=>?_,G,ag,eC s.cg N,eC s.cw N,λp F=>eC (s.dm p F) N,s.aH,λb i p X aa aL=>eC (s.dE b i p X aa aL) N⟩
 .obtain⟨af,ab,ae⟩:=s.dp e q bp j (al e q bp j h);refine⟨af,by rw[upd_ne av _ u];omega,?_⟩;rw[Deaf_other o u _ g_of_ofEvents];omega
 .exact Oq
 .by_cases g:b=D
  .subst g;exact⟨m,get_map_set_same _ _ _ (by rw[s.size];omega),by rw[upd_same,upd_same,upd_same];omega⟩
  obtain⟨q,h,H⟩:=s.c7 b i;refine⟨q,by rw[get_map_set _ _ _ _ (R b g),h,lD,H.woken],?_⟩;rw[upd_ne O _ g,upd_ne x _ g,upd_ne av _ (R b g).symm];exact H.dg (Y b i g) ag G s.aH I
 .refine(s.bo.eM I N s.cg s.cw s.dm λb i p X aa aL=>?_).ia V (λK w=>by grind[Go.Conc.mem_ofEvents]) (λK w=>?_) (λK w C S a=>?_)
  .exact s.dE b i p X aa aL
  .exact E4
  grind[Go.Conc.mem_ofEvents]
 .by_cases g:b=D
  .subst g;rw[Deaf_own,s.dz b i,upd_same];omega
  rw[Deaf_other o (R b g) _ g_of_ofEvents,s.dz b i,upd_ne x _ g]
 .by_cases g:b=D
  .subst g;rw[upd_same]at A;grind
  rw[upd_ne x _ g]at A;obtain⟨Z,T⟩:=s.rel b i A;exact⟨Z,T.appOther g_of_ofEvents (R b g)⟩
 .by_cases g:b=D
  .subst g;rw[upd_same]at S;grind
  rw[upd_ne O _ g]at S;rw[(Y b i g).bQ _ u u];exact s.dk b i S e ah ak
 by_cases g:b=D
 .subst g;rw[upd_same]at A;grind
 rw[upd_ne x _ g]at A;have:=s.dK b i A;have aq:=s.aH;simp only[Has]at this⊢;rw[(Y b i g).bQ _ u u];omega
def ik.h3(s:ik P ty J E val d r t gs Q o x O av d0){hu}{fn}{pos}{U}(w:∀k,k<Q.heap.size->ep k=d k)(z:Q.heap.size<=bg.heap.size)(F:∀b,b<t->lB J d (r b) b Q bg)(ae:∀m∈U,(aK m).low bg.heap.size)(a:∀m∈U,∀i,(aK m).touch?=f i->i.loc.isMemory=l->oP J ep i)(af:∀m∈U,∀i,(aK m).touch?=f i->i.kind=.plain->i.write=l->∀R,R<t->∀k A I,i.loc=.cell ⟨k,A,n⟩->r R k A≠f I)(H:∀m∈U,∀i,m.loc≠.mark (.release i))(N:PayAt J.ah E bg)(M:WgLive ty J.f bg):
  ik P ty J E val ep r t ((gs.map (woken P B hu bg)).setIfInBounds 0 hu) bg (o++MemOp.ofEvents 0 fn pos U) x O av (deafBehind d0 U):=by
 have q:=s.bo.base;have Y:=s.aH;refine⟨by simp[s.size],λe aL bp y h=>?_,λe bp=>?_,λb g=>?_,?_,s.dP.app H,by rw[Deaf_own,s.dy],λb g=>by rw[Deaf_other o u _ g_of_ofEvents,s.dz b g],λb g C=>?_,λb g D e G S=>?_,λb g C=>?_,N,M,eC s.cg z,eC s.cw z,λk q=>eC (s.dm k q) z,s.aH,λb g k A I X=>eC (s.dE b g k A I X) z⟩
 .rw[get_map_set _ _ _ _ u]at h;obtain⟨ab,V,rfl⟩:=q9.1 h;obtain⟨Z,T,L⟩:=s.dp e ab bp y V;exact⟨Z,T,by rw[woken_quitsD L,Deaf_other o u _ g_of_ofEvents];omega⟩
 .exact Oq
 .obtain⟨aL,h,K⟩:=s.c7 b g;exact⟨aL,by rw[get_map_set _ _ _ _ u,h,lD,K.woken],K.dg (F b g) M N s.aH w⟩
 .refine(s.bo.eM w z s.cg s.cw s.dm s.dE).app0 (λp j=>by grind[Go.Conc.mem_ofEvents]) (λp j=>E4) (λp j i D ag=>E4) (λp j i D=>?_);grind[Go.Conc.mem_ofEvents]
 .obtain⟨aa,W⟩:=s.rel b g C;exact⟨aa,W.appOther g_of_ofEvents u⟩
 .rw[(F b g).bQ _ u u];exact s.dk b g D e G S
 have:=s.dK b g C;simp only[Has]at this⊢;rw[(F b g).bQ _ u u];omega
def ik.bs(b:ik P ty J E val d r t gs Q o x O av d0)(S:0<e)(K:e<J.base){i}{fn}{pos}{U}(V:∀g∈U,g.mute=l)(F:QuitsD P z (deafBehind (Deaf o e) U) i):
  ik P ty J E val d r t ((gs.map (woken P B i Q)).setIfInBounds e i) Q (o++MemOp.ofEvents e fn pos U) x O (upd av e (cp.dG z)) d0:=by
 have R:=b.bo.base;have T:∀g∈U,∀y,g.loc≠.mark (.release y):=λg C y=>Kr (V g C) y;refine⟨by simp[b.size],λw A j m a=>?_,λw j=>?_,λs k=>?_,?_,b.dP.app T,by rw[Deaf_other o u _ g_of_ofEvents,b.dy],λs k=>by rw[Deaf_other o u _ g_of_ofEvents,b.dz s k],λs k N=>?_,b.dk,b.dK,b.bQ,b.cZ,b.cg,b.cw,b.dm,b.aH,b.dE⟩
 .by_cases g:w=e
  .subst g;rw[get_map_set_same _ _ _ M]at a;cases a;exact⟨z,by rw[upd_same],by grind[Deaf_own]⟩
  rw[get_map_set _ _ _ _ (pY g)]at a;obtain⟨Y,I,rfl⟩:=q9.1 a;obtain⟨H,G,X⟩:=b.dp w Y j m I;exact⟨H,by rw[upd_ne av _ g];omega,by rw[woken_quitsD X,Deaf_other o (pY g) _ g_of_ofEvents];omega⟩
 .rw[Deaf_other o u _ g_of_ofEvents];exact b.above w j
 .obtain⟨A,a,q⟩:=b.c7 s k;exact⟨A,by rw[get_map_set _ _ _ _ u,a,lD,q.woken],by rw[upd_ne av _ u];omega⟩
 .exact b.bo.mute (B:=e) (λp h=>by grind[Go.Conc.mem_ofEvents]) (λp h=>by grind[Go.Conc.mem_ofEvents,low_mute]) (λp h=>by grind[Go.Conc.mem_ofEvents,touch_mute])
 obtain⟨W,D⟩:=b.rel s k N;exact⟨W,D.appOther g_of_ofEvents u⟩
def ik.spawn(e:ik P ty J E val d r t gs Q o x O av 0){fP ru}{D bE}{I}(aL:D.g=0/\D.act=.go (J.base+t))(G:bE.g=J.base+t/\bE.act=.start)(V:∀i A C,r t i A=f C->d i=0/\i≠J.ah/\i≠J.f/\¬J.bA i/\i<Q.heap.size)(W:gI (ah.c8 P) eO (ub P ty J E val t) I ru b)(K:cV b {b with a:=Q})(U:hz d (r t) (J.base+t) b):
  ik P ty J E val d r (t+1) ((gs.setIfInBounds 0 fP).push ru) Q (o++#[D,bE]) (upd x t ⟨7,0,0⟩) (upd O t 1) (upd av (J.base+t) I) 0:=by
 have X:=e.bo.base;have L:∀h∈#[D,bE],h=D∨h=bE:=M;have F:∀h∈#[D,bE],h.act≠.mark .disable/\h.act≠.mark .enable:=M;have Y:∀j,0<j->j<J.base+t->((gs.setIfInBounds 0 fP).push ru)[j]?=gs[j]?:=λj k a=>by rw[Array.getElem?_push_lt (by simp[e.size];omega),<-iG,sA u]
 refine⟨by simp[e.size];omega,λj R k y s=>?_,λj k=>?_,λg B=>?_,e.bo.gk aL G e.dy (e.above _ (bA _)) λi A C S=>let ⟨p,q,bz,H,_⟩:=V i A C S;⟨p,q,bz,H⟩,λN=>(e.dP N).app λh z=>?_,by rw[Deaf_still o 0 _ F,e.dy],λg B=>?_,λg B m=>?_,λg B T=>?_,λg B m=>?_,e.bQ,e.cZ,e.cg,e.cw,e.dm,e.aH,λg B i A C S=>?_⟩
 .rw[Y j k u]at s;obtain⟨Z,p,q⟩:=e.dp j R k y s;exact⟨Z,by rw[upd_ne av _ u];exact p,by rw[Deaf_still o _ _ F];exact q⟩
 .rw[Deaf_still o _ _ F];exact e.above j u
 .rcases dW g t with a|w
  .obtain⟨R,s,aa⟩:=e.c7 g a;exact⟨R,by grind,by rw[upd_ne x _ u,upd_ne O _ u,upd_ne av _ u];omega⟩
  obtain rfl:g=t:=u;refine⟨ru,?_,by rw[upd_same,upd_same,upd_same];exact .c_ W K U⟩;rw[show J.base+g=(gs.setIfInBounds 0 fP).size by simp[e.size],Array.getElem?_push_size]
 .grind
 .rw[Deaf_still o _ _ F];rcases dW g t with a|w
  .rw[e.dz g a,upd_ne x _ u]
  obtain rfl:g=t:=u;rw[upd_same];exact e.above _ (bA _)
 .rcases dW g t with a|w
  .rw[upd_ne x _ u]at m;obtain⟨I,K⟩:=e.rel g a m;refine⟨I,K.appNot λh z=>?_⟩;grind
  obtain rfl:g=t:=u;rw[upd_same]at m;grind
 .rcases dW g t with a|w
  .rw[upd_ne O _ u]at T;exact e.dk g a T
  obtain rfl:g=t:=u;rw[upd_same]at T;grind
 .rcases dW g t with a|w
  .rw[upd_ne x _ u]at m;exact e.dK g a m
  obtain rfl:g=t:=u;rw[upd_same]at m;grind
 rcases dW g t with a|w
 .exact e.dE g a i A C S
 grind
end
end
section
open Go.Conc
open Go.ConcN (WD CTag Mode Vc Ssum pend phi cnt WgLive PayAt Has RW DWs WSit RelBy sumTo upd upd_same upd_ne AtR0)
open Go.ConcR (KK WgAt stA smA rd wr mk Payload g_of_ofEvents again_blocked)
variable [Payload]
section
variable (P:aE)(ty:al)(J:hL)(E:Nat)(val:Nat->Nat->X)(j:Nat)(ac d:ai->a6->Prop)
def z5(d:ai)(g:a6):Prop:=d.status=.running/\∃a,(∀e,aq P l d e=.go a e #[mk (.acquire (stA J.f))])/\∀b,(ah.aD P ty J.f).rely g b->ac a b
def wE(d:ai)(g:a6):Prop:=d.status=.running/\∃a,(∀e,aq P l d e=.go a e #[mk .enable])/\∀b,(ah.aD P ty J.f).rely g b->(du (ah.aD P ty J.f) (dQ J.f)) (z5 P ty J ac) a b
def z_(d:ai)(e:a6):Prop:=d.status=.running/\∀a,(ah.aD P ty J.f).rely e a->WgAt ty J.f a.a 0 0->∃b,aq P l d a.a=.go b a.a #[rd (stA J.f)]/\(du (ah.aD P ty J.f) (dQ J.f)) (wE P ty J ac) b a
def oK(b:ai)(g:a6):Prop:=b.status=.running/\b.offers=n/\∀a,(ah.aD P ty J.f).rely g a ->
 ((∃e,WgAt ty J.f a.a e 0)->aq P l b a.a=.go {b with status:=.blocked} a.a #[]) /\
 (WgAt ty J.f a.a 0 1->∃d,aq P l b a.a=.go d (a.a.setCell (smA J.f) (.int .u32 0)) (semEvents (smA J.f))/\(du (ah.aD P ty J.f) (dQ J.f)) (z_ P ty J ac) d {a with a:=a.a.setCell (smA J.f) (.int .u32 0)})
def z9(y:Nat)(g:ai)(h:a6):Prop:=g.status=.running/\∀b,(ah.aD P ty J.f).rely h b->∀e:Nat,e<2147483648->WgAt ty J.f b.a (e*KK) 0 ->
 (e=y->∃a,aq P l g b.a=.go a (b.a.setCell (stA J.f) (.int .u64 (e*KK+1))) #[rd (stA J.f),wr (stA J.f)]/\(du (ah.aD P ty J.f) (dQ J.f)) (oK P ty J ac) a {b with a:=b.a.setCell (stA J.f) (.int .u64 (e*KK+1))}) /\
 (e≠y->∃a,aq P l g b.a=.go a b.a #[rd (stA J.f)]/\d a b)
def q0(g:ai)(h:a6):Prop:=g.status=.running/\∀b,(ah.aD P ty J.f).rely h b->∀e:Nat,e<2147483648->WgAt ty J.f b.a (e*KK) 0 ->
 ∃a,aq P l g b.a=.go a b.a #[rd (stA J.f)]/\(e=0->(du (ah.aD P ty J.f) (dQ J.f)) (wE P ty J ac) a b)/\(e≠0->(du (ah.aD P ty J.f) (dQ J.f)) (z9 P ty J ac d e) a b)
def z6(e:ai)(h:a6):Prop:=e.status=.running/\∃a,(∀g,aq P l e g=.go a g #[mk .disable])/\∀b,(ah.aD P ty J.f).rely h b->d a b
def a6.dw(a:a6):a6:={s:=[],C:=a.C,a:=a.a,own:=λ_=>False}
def wD(g:Nat)(Next:ai->a6->Prop)(e:ai)(h:a6):Prop:=e.status=.running/\∀b,(ah.aD P ty J.f).rely h b ->
 ∃d a,aq P l e b.a=.spawn d a b.a #[]/\a.status=.running/\du (ah.c8 P) eO (ub P ty J E val g) a b.dw/\Next d b
def z8(g:Nat)(Next:ai->a6->Prop)(d:ai)(h:a6):Prop:=d.status=.running/\∃a,(∀e,aq P l d e=.go a e #[mk .enable])/\∀b,(ah.aD P ty J.f).rely h b->(du (ah.aD P ty J.f) (dQ J.f)) (wD P ty J E val g Next) a b
def z4(g:Nat)(Next:ai->a6->Prop)(e:ai)(h:a6):Prop:=e.status=.running/\∀a,(ah.aD P ty J.f).rely h a->∀d:Nat,d<2147483647->WgAt ty J.f a.a (d*KK) 0 ->
 ∃b,aq P l e a.a=.go b (a.a.setCell (stA J.f) (.int .u64 ((d+1)*KK))) #[rd (stA J.f),wr (stA J.f)]/\(du (ah.aD P ty J.f) (dQ J.f)) (z8 P ty J E val g Next) b {a with a:=a.a.setCell (stA J.f) (.int .u64 ((d+1)*KK))}
def z7(g:Nat)(Next:ai->a6->Prop)(d:ai)(h:a6):Prop:=d.status=.running/\∃a,(∀e,aq P l d e=.go a e #[mk .disable])/\∀b,(ah.aD P ty J.f).rely h b->(du (ah.aD P ty J.f) (dQ J.f)) (z4 P ty J E val g Next) a b
def oO:Nat->ai->a6->Prop
 |0,a,b=>(du (ah.aD P ty J.f) (dQ J.f)) (z6 P ty J d) a b
 |e+1,a,b=>(du (ah.aD P ty J.f) (dQ J.f)) (z7 P ty J E val (j-(e+1)) (oO e)) a b
def cp.ee:cp->cp
 |.leaf=>.node λ_=>.leaf
 |.node a=>.node λb=>cp.ee (a b)
omit [Payload]in
def cp.hk:∀{d b:cp},cp.lt d b->cp.lt d.ee b.ee
 |_,.leaf,a=>a.elim
 |_,.node _,⟨g,a⟩=>⟨g,a.elim (λe=>.inl (by rw[e])) λa=>.inr (cp.hk a)⟩
omit [Payload]in
def cp.js(a:a6):∀d:cp,∃e,cp.lt e d.ee
 |.leaf=>⟨.leaf,a,.inl rfl⟩
 |.node b=>⟨(b a).ee,a,.inl rfl⟩
inductive hl:CTag->Nat->cp->Nat->ai->a6->Prop
 |ff {a9:Nat} {c6:cp} {B:ai} {b:a6}:a9<j->(gI (ah.aD P ty J.f) (dQ J.f)) (z7 P ty J E val (j-(a9+1)) (oO P ty J E val j d a9)) c6 B b->hl (.sp a9 5) (j-(a9+1)) c6 0 B b
 |fS {a9:Nat} {c6:cp} {B:ai} {b:a6}:a9<j->(gI (ah.aD P ty J.f) (dQ J.f)) (z4 P ty J E val (j-(a9+1)) (oO P ty J E val j d a9)) c6 B b->hl (.sp a9 4) (j-(a9+1)) c6 1 B b
 |fU {a9:Nat} {c6:cp} {B:ai} {b:a6}:a9<j->(gI (ah.aD P ty J.f) (dQ J.f)) (z8 P ty J E val (j-(a9+1)) (oO P ty J E val j d a9)) c6 B b->hl (.sp a9 3) (j-(a9+1)) c6 1 B b
 |fT {a9:Nat} {c6:cp} {B:ai} {b:a6}:a9<j->(gI (ah.aD P ty J.f) (dQ J.f)) (wD P ty J E val (j-(a9+1)) (oO P ty J E val j d a9)) c6 B b->hl (.sp a9 2) (j-(a9+1)) c6 0 B b
 |kd {c6:cp} {B:ai} {b:a6}:(gI (ah.aD P ty J.f) (dQ J.f)) (z6 P ty J d) c6 B b->hl .kd j c6 0 B b
 |w1 {c6:cp} {B:ai} {b:a6}:(gI (ah.aD P ty J.f) (dQ J.f)) (q0 P ty J ac d) c6 B b->hl .w1 j c6 1 B b
 |w2 {y:Nat} {c6:cp} {B:ai} {b:a6}:(gI (ah.aD P ty J.f) (dQ J.f)) (z9 P ty J ac d y) c6 B b->hl (.w2 y) j c6 1 B b
 |w3 {c6:cp} {B:ai} {b:a6}:(gI (ah.aD P ty J.f) (dQ J.f)) (oK P ty J ac) c6 B b->hl .w3 j c6.ee 1 B b
 |blk {c6:cp} {B:ai} {b:a6}:oK P ty J ac B b->hl .blk j c6 1 {B with status:=.blocked} b
 |w4 {c6:cp} {B:ai} {b:a6}:(gI (ah.aD P ty J.f) (dQ J.f)) (z_ P ty J ac) c6 B b->hl .w4 j c6 1 B b
 |ke {c6:cp} {B:ai} {b:a6}:(gI (ah.aD P ty J.f) (dQ J.f)) (wE P ty J ac) c6 B b->hl .ke j c6 1 B b
 |acq {c6:cp} {B:ai} {b:a6}:(gI (ah.aD P ty J.f) (dQ J.f)) (z5 P ty J ac) c6 B b->hl .acq j c6 0 B b
structure wH(S:Nat->Nat)(q:Nat->Mem)(z:Machine)(o:Trace):Prop where
 hv:∃(gs:Array ai) (Q:ar) (dD:Option (Nat×Nat)) (w:ai) (b:a6) (bi:Nat->Nat),z=crowd gs Q dD/\gs[0]?=f w/\gs.size=J.base+j/\ac w {b with a:=Q}/\cV b {b with a:=Q}/\gu J S q j b /\
  Leavers P o gs bi/\Past (jy λi=>J.bA i∨i=J.f) Q.heap.size o/\m0 o/\PayAt J.ah E Q/\(∀D,D<j->∀e,e<J.aH->Q.cell? ⟨J.ah,J.aH*D+e,n⟩=f (val D e))/\J.ah<Q.heap.size/\J.f<Q.heap.size/\∀i,J.bA i->i<Q.heap.size
abbrev pL:=Nat×((Nat->cp)×cp)
def kY(a:Nat):pL->pL->Prop:=Prod.Lex (· < ·) (Prod.Lex (wK a) cp.lt)
omit [Payload]in
def Zo(bz):WellFounded (kY bz):=(Prod.lex Nat.lt_wfRel ⟨_,(Prod.lex ⟨wK bz,Nk bz⟩ ⟨cp.lt,⟨cp.fs⟩⟩).wf⟩).wf
structure lz(μ:pL)(gs:Array ai)(Q:ar)(o:Trace)(S:Nat->Nat)(q:Nat->Mem)(t:Nat)(x:Nat->WD)(O:Nat->Nat)(av:Nat->cp)(d0:Nat)(tag:CTag)(c6:cp)(w:ai)(b:a6)(b7 oC:Int):Prop where
 dt:gs[0]?=f w
 dx:hl P ty J E val j ac d tag t c6 d0 w b
 rely:cV b {b with a:=Q}
 aD:gu J S q t b
 au:ik P ty J E val S q t gs Q o x O av d0
 bX:WgAt ty J.f Q b7 oC
 mode:Go.ConcN.Mode t x tag b7 oC
 eF:μ=(phi j (Vc t x) tag+Ssum t x+sumTo t O,(av,c6))
def gX(o:pL)(q:Machine)(u:Trace):Prop:=
 ∃(a:Array ai) (i:ar) (dD:Option (Nat×Nat)) (s:Nat->Nat) (r:Nat->Mem) (p:Nat) (x:Nat->WD) (O:Nat->Nat) (k:Nat->cp) (b:Nat) (tag:CTag) (e:cp) (m:ai) (t:a6) (h g:Int),
  q=crowd a i dD/\lz P ty J E val j ac d o a i u s r p x O k b tag e m t h g
end
section
variable {P:aE}{ty:al}{J:hL}{E:Nat}{val:Nat->Nat->X}{j:Nat}{ac d:ai->a6->Prop}{S ep:Nat->Nat}{q:Nat->Mem}{tag:CTag}{c6:cp}{N:Nat}{w:ai}{Q:ar}
omit [Payload]in
def mD(d:cV b {b with a:=Q})(a:WgLive ty J.f Q):(ah.aD P ty J.f).rely b {b with a:=Q}:=⟨d,λ_=>a⟩
omit [Payload]in
def oK.rely{r}(a:oK P ty J ac B b)(g:(ah.aD P ty J.f).rely b r):oK P ty J ac B r:=
 ⟨a.1,a.2.1,λd e=>a.2.2 d ⟨g.1.trans e.1,λh=>e.2 (g.2 h)⟩⟩
def hl.status(a:hl P ty J E val j ac d tag t c6 N w b):(w.status=.running/\tag≠.blk)∨(w.status=.blocked/\tag=.blk):=by
 cases a with
 |ff _ a=>exact .inl ⟨a.run λ_ _ e=>e.1,by simp⟩
 |fS _ a=>exact .inl ⟨a.run λ_ _ e=>e.1,by simp⟩
 |fU _ a=>exact .inl ⟨a.run λ_ _ e=>e.1,by simp⟩
 |fT _ a=>exact .inl ⟨a.run λ_ _ e=>e.1,by simp⟩
 |kd a=>exact .inl ⟨a.run λ_ _ e=>e.1,by simp⟩
 |w1 a=>exact .inl ⟨a.run λ_ _ e=>e.1,by simp⟩
 |w2 a=>exact .inl ⟨a.run λ_ _ e=>e.1,by simp⟩
 |w3 a=>exact .inl ⟨a.run λ_ _ e=>e.1,by simp⟩
 |blk a=>grind
 |w4 a=>exact .inl ⟨a.run λ_ _ e=>e.1,by simp⟩
 |ke a=>exact .inl ⟨a.run λ_ _ e=>e.1,by simp⟩
 |acq a=>exact .inl ⟨a.run λ_ _ e=>e.1,by simp⟩
def hl.h9(m:hl P ty J E val j ac d tag t c6 N w b)(B h)(bg):
  ∃a k,hl P ty J E val j ac d a t k N (woken P B h bg w) b/\(a=tag∨(tag=.blk/\a=.w3))/\(mayWake P B=l->h.status=.running->a≠.blk):=by
 unfold Go.Conc.woken;split
 .rcases m.status with⟨e,i⟩|⟨_,rfl⟩
  .grind [again_running]
  cases m with
  |blk g=>exact⟨.w3,cp.ee .leaf,by rw[again_blocked g.1 g.2.1];exact .w3 (show gI _ _ _ .leaf _ _ from g),.inr ⟨rfl,rfl⟩,λ_ _=>by simp⟩
 grind
def wb{W:pL}{dD:Option (Nat×Nat)}{aw:Trace}{x:Nat->WD}{O:Nat->Nat}{X:Nat->cp}{av au:Int}(p:lz P ty J E val j ac d W gs Q aw S q t x O X N tag c6 w b av au){g:Nat}(Y:g<t){o:ai}{m:Array aR}{k h i:Nat}{z:cp}{ae G:Int}(an:gs[J.base+g]?=f B)(D:aq P v B Q=.go o bg m)(F:∀af,af<Q.heap.size->ep af=S af)(R:Q.heap.size<=bg.heap.size)(aF:∀ab,ab<t->ab≠g->lB J S (q ab) ab Q bg)(aD:q7 J S Q bg)(aJ:hM P ty J E val ep q g k h z i o bg)(L:∀A∈m,(aK A).low bg.heap.size)(U:∀A∈m,∀w,(aK A).touch?=f w->w.loc.isMemory=l->nX J ep (q g) g w)(K:∀A∈m,∀w,A.loc≠.mark (.release w))(aE:deafBehind (x g).deaf m=i)(aL:h<=6->∃aS,RelBy (stA J.f) (aw++MemOp.ofEvents (J.base+g) B.frame.fn B.frame.place m) (J.base+g) aS)(al:k=0->∀Z,1<=Z->Z<J.aH->bg.cell? ⟨J.ah,J.aH*g+Z,n⟩=f (val g Z))(ak:h<=6->Has J.ah (J.aH*g) (val g 0) bg)(aH:PayAt J.ah E bg)(ax:WgAt ty J.f bg ae G)(H:∀e,(e=tag∨(tag=.blk/\e=.w3))->(mayWake P B=l->o.status=.running->e≠.blk)->Go.ConcN.Mode t (upd x g ⟨h,0,i⟩) e ae G)(a:(h+k<(x g).stage+O g/\cnt ⟨h,0,i⟩<=cnt (x g))∨(h=(x g).stage/\k=O g/\cp.lt z (X (J.base+g))))(aA:J.base+t<=J.base+j):
  ∃aC r y,runT P (crowd gs Q dD) (J.base+g)=(.next aC,r)/\kY (J.base+j) y W/\gX P ty J E val j ac d y aC (aw++r):=by
 have aQ:=p.au.bo.base;obtain⟨e,s,aI,aB,V⟩:=p.dx.h9 B o bg;have I:(J.base+g==0)=v:=M;have aG:=runT_crowd_go (P:=P) (sl:=dD) (i:=J.base+g) an (by rw[I];exact D)
 have aM:=Go.ConcN.sumTo_upd x (⟨h,0,i⟩:WD) cnt Y;have aN:=Go.ConcN.sumTo_upd x (⟨h,0,i⟩:WD) WD.stage Y;have aO:sumTo t (upd O g k)+O g=sumTo t O+k:=Go.ConcN.sumTo_upd O k id Y;refine⟨_,_,(phi j (Vc t (upd x g ⟨h,0,i⟩)) e+Ssum t (upd x g ⟨h,0,i⟩)+sumTo t (upd O g k),(upd X (J.base+g) z,s)),aG,?_,
  _,bg,dD,ep,q,t,_,_,_,N,e,s,woken P B o bg w,b,ae,G,rfl,⟨by rw[Go.ConcN.get_map_set _ _ _ _ u,p.dt];rfl,aI,p.aD.dg p.rely aD,p.aD.eM p.rely.size F,
   p.au.aI Y F R aF aJ L U K aE aL al ak aH ⟨_,_,ax⟩,ax,H e aB V,rfl⟩⟩
 rw[p.eF,Go.ConcN.phi_retag j _ aB];simp only[Vc,Ssum]at *;rcases a with⟨ar,DK⟩|⟨ar,DK,tn⟩
 .refine Prod.Lex.left _ _ ?_;have:=Go.ConcN.phi_mono j (v':=sumTo t λw=>cnt (upd x g ⟨h,0,i⟩ w)) (v:=sumTo t λw=>cnt (x w)) u tag;omega
 have aP:cnt (⟨h,0,i⟩:WD)=cnt (x g):=hE;have ah:(sumTo t λw=>cnt (upd x g ⟨h,0,i⟩ w))=sumTo t λw=>cnt (x w):=u;have C:(sumTo t λw=>(upd x g ⟨h,0,i⟩ w).stage)=sumTo t λw=>(x w).stage:=u;have ag:sumTo t (upd O g k)=sumTo t O:=u;rw[ah,C,ag];exact Prod.Lex.right _ (Prod.Lex.left _ _ ⟨J.base+g,by omega,by rw[upd_same];exact tn,λaT ao=>upd_ne X _ ao⟩)
end
end
section
open Go.Conc
open Go.ConcN (WD CTag Vc Ssum pend phi cnt WgLive PayAt Has RW DWs WSit RelBy sumTo upd upd_same upd_ne AtR0 isW3 isOpen OpenSt deafBehind_idle bk_cell okW_none Vc_upd Vc_le le_sumTo others_uncounted)
open Go.ConcR (KK WgAt stA smA rd wr mk Payload g_of_ofEvents Bk bk_of_mute ofEvent_loc_mark ofEvent_cell)
variable [Payload]
section
variable {J:hL}{ac G:ai->a6->Prop}{W ep:Nat->Nat}{mc:Nat->Mem}{tag:CTag}{c6:cp}{N:Nat}{w:ai}{Q:ar}
omit [Payload]in
def lB.bX(b:Aside J.f Q bg)(k:W J.f=0)(o:1<=J.base)(g:∀a d h,mc t a d=f h->a≠J.f)(e:J.ah≠J.f):lB J W (mc t) t Q bg:=
 ⟨by rw[b.size];grind,λa _ i=>b.block a (λm=>by grind),λa d h H j=>by rw[m_ (b.block a (g a d h H))];exact j,λd _ _=>m_ (b.block _ e) d,b.os,b.tape,b.output⟩
omit [Payload]in
def q7.bX(a:Aside J.f Q bg):q7 J W Q bg:=⟨by rw[a.size];grind,λb _ _ _ d=>a.block b d,a.os,a.tape,a.output⟩
omit [Payload]in
def q7.refl(Q):q7 J W Q Q:=⟨bA _,λ_ _ _ _ _=>rfl,rfl,rfl,rfl⟩
omit [Payload]in
def Gx{d}{b:Array aR}(i:∀a∈b,Bk J.f a)(j:J.f<d):∀a∈b,(aK a).low d:=by
 intro a h;rcases i a h with g|g|⟨e,wr,rfl,k⟩
 .rw[ofEvent_loc_mark g];trivial
 .rw[ofEvent_loc_mark g];trivial
 rw[ofEvent_cell];show e.block<d;grind
omit [Payload]in
def St{j}{e:Array aR}(o:∀d∈e,Bk J.f d):∀d∈e,∀g,(aK d).touch?=f g->g.loc.isMemory=l->nX J W (mc j) j g:=by
 intro d m p b _;rcases o d m with i|i|⟨h,wr,rfl,k⟩
 .rw[ofEvent_loc_mark i]at b;cases b
 .rw[ofEvent_loc_mark i]at b;cases b
 rw[ofEvent_cell]at b;simp[MemAct.touch?,e1]at b;subst b;exact .inl ⟨h,a,k,a⟩
omit [Payload]in
def Gy{b:Array aR}(h:∀a∈b,Bk J.f a):∀a∈b,∀d,a.loc≠.mark (.release d):=by
 intro a g d i;rcases h a g with j|j|⟨e,wr,rfl,_⟩
 .grind
 .grind
 grind
omit [Payload]in
def adI{m}{b3}{U}(u:hz W (mc m) (J.base+m) b)(t:bb k b)(y:dv b U)(q:cN k b an b3):
  (∀e∈U,(aK e).low b3.a.heap.size)/\(∀e∈U,∀j,(aK e).touch?=f j->j.loc.isMemory=l->nX J (lT W b.a.heap.size (J.base+m)) (mc m) m j) /\
  (∀e∈U,e.loc≠.mark .disable/\e.loc≠.mark .enable)/\∀e∈U,∀j,e.loc≠.mark (.release j):=by
 have key:∀e∈U,(aK e).low b3.a.heap.size/\(∀j,(aK e).touch?=f j->j.loc.isMemory=l->nX J (lT W b.a.heap.size (J.base+m)) (mc m) m j)/\(e.loc≠.mark .disable/\e.loc≠.mark .enable)/\∀j,e.loc≠.mark (.release j):=by
  intro e A;have o:=y e A;obtain⟨loc,wr,C⟩:=e;cases loc with
  |cell g=>
   obtain⟨p,s,d⟩:=o;simp only at p s d;subst p;have r:g.block<b.a.heap.size:=by
    rcases d with d|⟨⟨L,aL,d⟩,_⟩|⟨_,x,d⟩
    .exact d.elim
    .exact t.lt L aL _ d
    exact gv.lt t.mem d
   refine⟨by rw[ofEvent_cell];exact eC r q.size,λi h _=>?_,⟨by simp,by simp⟩,by simp⟩;rw[ofEvent_cell]at h;simp[MemAct.touch?,e1]at h;subst h;refine .inr ⟨a,?_⟩;rcases d with d|⟨⟨L,aL,d⟩,_⟩|⟨z,x,d⟩
   .exact d.elim
   .exact .inl ⟨g.block,a,by rw[lf r];exact(u.blk _ (.inr ⟨L,aL,d⟩)).1⟩
   rcases(u.C _ _ _ d).1 with w|w
   .exact .inl ⟨g.block,a,by grind[lf]⟩
   refine .inr (.inr ⟨z,g.block,g.off,x,?_,w⟩);obtain⟨i,F,sp⟩:=g;grind
  |obj B=>
   obtain⟨p,s⟩:=o;simp only at p s;subst p;obtain⟨L,aL,d⟩:=s.resolve_left id;have r:=t.lt L aL _ d;refine⟨?_,λi h _=>?_,⟨by simp,by simp⟩,by simp⟩
   .simp[aK,MemAct.low,Loc.low];exact eC r q.size
   simp[aK,MemAct.touch?]at h;subst h;exact .inr ⟨a,.inl ⟨B,a,by rw[lf r];exact(u.blk _ (.inr ⟨L,aL,d⟩)).1⟩⟩
  |mark E=>
   simp[h6]at o;rcases o with rfl|⟨D,rfl⟩
   .exact QT
   exact QT
  |_=>exact o.elim
 grind
def ab2{a9}{dD}{o}{x:Nat->WD}{O:Nat->Nat}{b5:Nat->cp}{b7 oC}(i:lz P ty J E val j ac G a9 gs Q o W mc t x O b5 N tag c6 w b b7 oC)(cw:j<2147483648)(cv:t<=j)(cb:t+pend tag<=j){h}(hc:h<t)(a2:gs[J.base+h]?=f B)(a3:B.status=.running):
  ∃p I R,runT P (crowd gs Q dD) (J.base+h)=(.next p,I)/\kY (J.base+j) R a9/\gX P ty J E val j ac G R p (o++I):=by
 have bb:=i.au.bo.base;obtain⟨br,bP,a4⟩:=i.au.c7 h hc;obtain rfl:B=br:=M;generalize X:(x h).stage=aM at a4;generalize bj:b5 (J.base+h)=b3 at a4;generalize a1:(x h).deaf=aA at a4;generalize aQ:O h=cm at a4;have bg:Deaf o (J.base+h)=aA:=by rw[i.au.dz h hc,a1]
 have b8:=Vc_le t x;have same:∀z q,Go.ConcN.Mode t (upd x h ⟨aM,z,q⟩) tag b7 oC:=λz q=>by have:=i.mode.same (i:=h) z q;grind
 cases a4 with
 |@c_ b3 B aU Q bz aV bQ=>
  rcases bz.a_ (λaU=>cV aU {aU with a:=Q}/\hz W (mc h) (J.base+h) aU) (λaU A aC aH=>⟨aH.1.aP aC,aH.2.aP aC⟩) (λ_ aU A aC aH=>⟨aH.1.b1 aC,aH.2.b1 aC⟩) ⟨aV,bQ⟩with⟨A,⟨k1,bO⟩,g⟩|⟨_,A,⟨k1,bO⟩,e⟩
  ·
   obtain⟨k,w2,U,d,ax,bh,bB,ae⟩:=g.2 Q k1 i.au.bQ i.au.cZ;have b_:=i.au.aH;refine wb i hc a2 d (ep:=W) (λ_ _=>rfl) (by rw[ax.size];grind) (λba aS bn=>⟨by rw[ax.size];grind,λY _ aP=>ax.block Y (λau=>by rw[au,i.au.bo.da]at aP;omega),λY aT al H bS=>?_,λaT bl bm=>ax.hv aT ?_,ax.os,ax.tape,ax.output⟩)
    ⟨by rw[ax.size];grind,λY _ _ aV _=>ax.block Y aV,ax.os,ax.tape,ax.output⟩ (.rel ae) (λau r=>?_) (λau r Y aP _=>?_) (λau r=>?_) ?_ (λs=>absurd s ca) (λ_ b2 _ aH=>ax.new b2 aH) (λs=>absurd s ca) ax.bQ
    (i.bX.of_block (ax.block _ (pY i.au.bo.bV))) (λ_ ag _=>(same _ _).retag ag) (.inl ⟨by omega,by simp[cnt,X]⟩) u
   .rw[m_ (ax.block Y (i.au.bo.bD ba aS Y aT al H).2.1)];exact bS
   .rcases Nat.lt_or_gt_of_ne bn with s|s
    .have:=wS J.aH (show ba+1<=h from s);grind
    have:=wS J.aH (show h+1<=ba from s);grind
   .obtain⟨aT,rfl,_⟩:=bh au r;rw[ofEvent_cell];show J.ah<_;rw[ax.size];exact i.au.cw
   .obtain⟨aT,rfl,bl,bm⟩:=bh au r;rw[ofEvent_cell]at aP;simp[MemAct.touch?,e1]at aP;subst aP;exact .inr ⟨a,.inr (.inl ⟨aT,a,bl,bm⟩)⟩
   .grind
   rw[a1];exact deafBehind_idle (λau r=>by grind) 0
  ·
   obtain⟨k,b4,U,cy,d,bF,bL,bR⟩:=e _ k1;obtain⟨⟨cz,cj,ck,bk,D⟩,cg⟩:=bF.resolve_right id;have bx:hz W (mc h) (J.base+h) {A with a:=Q}:=bO.rely k1.size;obtain⟨aF,aG,bq,bV⟩:=adI bx ck cg D;have Z:∀Y,Y<Q.heap.size->W Y≠J.base+h->b4.a.heap[Y]?=Q.heap[Y]?:=λY aP bJ=>D.a3 Y aP λL aL bD=>bJ (bx.blk Y (.inr ⟨L,aL,bD⟩)).1;refine wb i hc a2 d (ep:=lT W Q.heap.size (J.base+h)) (λY aP=>lf aP) D.size (λba aS bn=>⟨D.size,λY aP b9=>Z Y aP u,λY aT al H bS=>?_,λaT _ _=>m_ (Z _ i.au.cw (by rw[i.au.bo.da];omega)) aT,D.os,D.tape,D.output⟩)
    ⟨D.size,λY aP cr _ _=>Z Y aP u,D.os,D.tape,D.output⟩ (.c_ bL (cV.eo bk.mem) (bx.step bk D)) aF aG bV (by rw[a1];exact deafBehind_idle bq 0) (λs=>absurd s ca) (λs=>absurd s ca) (λs=>absurd s ca) ?_
    (i.bX.of_block (Z _ i.au.cg (by rw[i.au.bo.db];omega))) (λ_ ag _=>(same _ _).retag ag) (.inr ⟨X.symm,aQ.symm,by grind⟩) u
   .rw[m_ (Z Y (i.au.dE ba aS Y aT al H) (by rw[(i.au.bo.bD ba aS Y aT al H).1];omega))];exact bS
   obtain⟨bp,bT,bU⟩:=i.au.bQ;exact⟨bp,(Z _ i.au.cw (by rw[i.au.bo.da];omega)).trans bT,bU⟩
 |@rel bB B Q s=>
  rcases Goes.cases s with g|⟨z,rfl,e⟩
  ·
   obtain⟨_,bX,k,d,aw,ae⟩:=g Q (Go.ConcN.RW.refl Q);refine wb i hc a2 d (ep:=W) (λ_ _=>rfl) (bA _) (λba _ _=>.refl ..) (.refl Q) (.tail ca (.k1 ae)) (λau r=>?_) (λau r Y aP _=>?_) (λau r=>?_) hE (λ_=>⟨o.size,RelBy.new bg _ _⟩) (λ_=>i.au.dk h hc aQ) (λ_=>by grind) i.au.bQ i.bX
    (λ_ ag _=>(i.mode.counted hc u (.inl a) _ _).retag ag) (.inl ⟨by omega,by simp[cnt,X]⟩) u
   .simp at r;subst r;exact i.au.cg
   .simp at r;subst r;exact cS
   simp at r;subst r;simp[mk]
  obtain⟨k,K,U,d,⟨rfl,rfl⟩,F⟩:=e Q (Go.ConcN.RW.refl Q);exact wb i hc a2 d (ep:=W) (λ_ _=>rfl) (bA _) (λba _ _=>.refl ..) (.refl K) (.rel F) C C C cS (λs=>absurd s ca) (λ_=>i.au.dk h hc aQ) (λs=>absurd s ca) i.au.bQ i.bX (λ_ ag _=>(same _ _).retag ag)
   (.inr ⟨X.symm,aQ.symm,by rw[bj];exact cp.gy _ b⟩) u
 |@tail aM bB aA B Q bW s=>
  have aN:∀{k:ai} {K:ar} {U:Array aR} {A z q:Nat} {ao an:Int},aq P v B Q=.go k K U->Aside J.f Q K->WgAt ty J.f K ao an->(∀au∈U,Bk J.f au) ->
    (∀hS au,U[hS]?=f au->(aK au).touch?=n∨0<deafBehind aA (U.extract 0 hS))->A<=6->WSit P ty J.f J.ah E pN pN 0 (J.aH*h+1) (val h 0) A z q k K->deafBehind aA U=q ->
    (∀S,(S=tag∨(tag=.blk/\S=.w3))->(mayWake P B=l->k.status=.running->S≠.blk)->Go.ConcN.Mode t (upd x h ⟨A,0,q⟩) S ao an)->((A<aM/\cnt ⟨A,0,q⟩<=cnt (x h))∨(A=aM/\z+1=bB)) ->
    ∃p I R,runT P (crowd gs Q dD) (J.base+h)=(.next p,I)/\kY (J.base+j) R a9/\gX P ty J E val j ac G R p (o++I):=by
   intro k K U A z q ao an d V aJ ab bu a5 aD bf af bR;obtain⟨bp,bs,bt⟩:=i.au.bQ;refine wb i hc a2 d (ep:=W) (λ_ _=>rfl) (by rw[V.size];grind) (λba aS _=>.bX V i.au.bo.db bb (λY aT al H=>(i.au.bo.bD ba aS Y aT al H).2.2.1) i.au.bo.bV) (.bX V) (.tail a5 aD) (Gx ab (by rw[V.size];exact i.au.cg)) (St ab) (Gy ab) M
    (λ_=>let ⟨b3,bZ⟩:=i.au.rel h hc u;⟨b3,bZ.book bg _ _ ab bu⟩) (λ_ b2 bG bH=>(m_ (V.block _ i.au.bo.bV) _).trans (i.au.dk h hc aQ b2 bG bH)) (λ_=>(m_ (V.block _ i.au.bo.bV) _).trans (i.au.dK h hc u)) ⟨bp,(V.block _ i.au.bo.bV).trans bs,bt⟩ aJ af
    (bR.imp (λs=>⟨by omega,s.2⟩) λs=>⟨by omega,aQ.symm,by rw[bj,<-s.2];exact cp.gy _ b⟩) u
  have book:∀{k:ai} {K:ar} {U:Array aR} {A z q:Nat} {ao an:Int},aq P v B Q=.go k K U->Aside J.f Q K->WgAt ty J.f K ao an->(∀au∈U,Bk J.f au) ->
    (∀hS au,U[hS]?=f au->(aK au).touch?=n∨0<deafBehind aA (U.extract 0 hS))->A<=6->WSit P ty J.f J.ah E pN pN 0 (J.aH*h+1) (val h 0) A z q k K->deafBehind aA U=q ->
    Go.ConcN.Mode t (upd x h ⟨A,0,q⟩) tag ao an->((A<aM/\cnt ⟨A,0,q⟩<=cnt (x h))∨(A=aM/\z+1=bB)) ->
    ∃p I R,runT P (crowd gs Q dD) (J.base+h)=(.next p,I)/\kY (J.base+j) R a9/\gX P ty J E val j ac G R p (o++I):=
   λd V aJ ab bu a5 aD bf af bR=>aN d V aJ ab bu a5 aD bf (λ_ ag _=>af.retag ag) bR
  have ah:∀{k:ai} {z:Nat},aq P v B Q=.go k Q #[]->WSit P ty J.f J.ah E pN pN 0 (J.aH*h+1) (val h 0) aM z aA k Q->z+1=bB ->
    ∃p I R,runT P (crowd gs Q dD) (J.base+h)=(.next p,I)/\kY (J.base+j) R a9/\gX P ty J E val j ac G R p (o++I):=by intro k z d aD W;exact book d (.refl J.f Q) i.bX C C bW aD a (same _ _) (.inr ⟨a,W⟩)
  cases s with
  |r0 s=>omega
  |k1 s=>
   rcases Goes.cases s with g|⟨z,rfl,e⟩
   .obtain⟨_,k,d,aw,ae⟩:=g Q (Go.ConcN.RW.refl Q);exact book d (.refl J.f Q) i.bX (by intro au r;simp at r;subst r;exact .inl a) (by intro hS au r;exact .inl (by have:=us r;simp at this;exact hE)) ca (.d1 ae) a (i.mode.counted hc u (.inr a) _ _) (.inl ⟨by omega,by simp[cnt,X]⟩)
   obtain⟨k,K,U,d,⟨rfl,rfl⟩,F⟩:=e Q (Go.ConcN.RW.refl Q);exact ah d (.k1 F) a
  |d1 s=>
   rcases Goes.cases s with g|⟨z,rfl,e⟩
   .obtain⟨_,a0⟩:=g Q (Go.ConcN.RW.refl Q);have m:=i.bX;have av:=i.mode;have bE:cnt (x h)=1:=by simp[cnt,X]
    have b6:1<=Vc t x:=by have:=le_sumTo (f:=λh=>cnt (x h)) hc;simp[Vc];omega
    have aY:∀au∈#[rd (stA J.f),wr (stA J.f)],Bk J.f au:=by intro au r;simp at r;rcases r with rfl|rfl<;>exact bk_cell _ _ rfl
    have aZ:∀hS au,(#[rd (stA J.f),wr (stA J.f)]:Array aR)[hS]?=f au->(aK au).touch?=n∨0<deafBehind 1 ((#[rd (stA J.f),wr (stA J.f)]:Array aR).extract 0 hS):=by
     intro hS au r
     match hS,r with
     |0,_=>exact .inr ad'
     |1,_=>exact .inr (by simp[deafBehind,rd])
     |hS+2,r=>simp at r
    have cc:∀a_,cnt (⟨1,a_,1⟩:WD)=0:=λ_=>rfl;have bo:∀a_,OpenSt t x->OpenSt t (upd x h ⟨1,a_,1⟩):=λa_ s w bd=>by
     by_cases au:w=h
     .subst au;exact wh
     rw[upd_ne x _ au];exact s w bd
    generalize b1:b7=cf at av m;generalize b0:oC=cd at av m;cases av with
    |opn bz aV bQ=>
     obtain⟨al,H⟩:∃al,Vc t x+pend tag=al+1:=⟨Vc t x+pend tag-1,by omega⟩
     rw[H]at m;have a6:WgAt ty J.f Q (((al:Nat)+1)*KK+((0:Nat):Int)) 0:=M;obtain⟨k,d,_,aa⟩:=a0 al 0 u u a6;obtain⟨a_,aa⟩:=aa u;have bM:Vc t (upd x h ⟨1,0,1⟩)+pend tag=al:=NG;refine book d (aside_setCell Q (stA J.f) _) (m.setSt _) aY aZ ca (.quit aa) a ?_ (.inl ⟨by omega,by grind⟩);have au:((al:Nat):Int)*KK+((0:Nat):Int)=((Vc t (upd x h ⟨1,0,1⟩)+pend tag:Nat):Int)*KK:=M;rw[au];exact .opn bz (bo 0 aV) (λy cq=>by grind)
    |reg bz aV bQ=>
     obtain⟨al,H⟩:∃al,Vc t x=al+1:=⟨Vc t x-1,by omega⟩
     rw[H]at m;have cx:pend tag=0:=by cases tag<;>first|rfl|exact bz.elim
     have a6:WgAt ty J.f Q (((al:Nat)+1)*KK+((1:Nat):Int)) 0:=M;obtain⟨k,d,bY,aa⟩:=a0 al 1 u u a6;by_cases bN:al=0
     .subst bN;obtain⟨aw,ae⟩:=bY ⟨rfl,rfl⟩;refine book d (aside_setCell Q (stA J.f) _) (m.setSt _) aY aZ ca (.d2 ae) a ?_ (.inl ⟨by omega,by simp[cnt]⟩);have aI:∀w,w<t->w≠h->(x w).stage=1:=λw bd au=>by have bC:=others_uncounted hc H bE w bd au;have:=aV w bd;simp only[cnt]at bC;split at bC<;>omega
      have:=Go.ConcN.Mode.last (j:=t) (D:=upd x h ⟨4,0,1⟩) (tag:=tag) h bz hc wh (λw bd au=>by rw[upd_ne x _ au];grind);rw[upd_same]at this;grind
     obtain⟨a_,aa⟩:=aa u;have bM:Vc t (upd x h ⟨1,0,1⟩)=al:=NG;refine book d (aside_setCell Q (stA J.f) _) (m.setSt _) aY aZ ca (.quit aa) a ?_ (.inl ⟨by omega,by grind⟩);have au:((al:Nat):Int)*KK+((1:Nat):Int)=((Vc t (upd x h ⟨1,0,1⟩):Nat):Int)*KK+1:=M;rw[au];exact .reg bz (bo 0 aV) u
    |last L _ aV bQ cA=>
     grind
    |sema aV=>have:=aV h hc;omega
    |fin _ aV=>have:=aV h hc;omega
   obtain⟨k,K,U,d,⟨rfl,rfl⟩,F⟩:=e Q (Go.ConcN.RW.refl Q);exact ah d (.d1 F) a
  |d2 s=>
   rcases Goes.cases s with g|⟨z,rfl,e⟩
   .obtain⟨_,aE⟩:=g Q (Go.ConcN.RW.refl Q);obtain⟨aB,aI,aF,aG⟩:=i.mode.isLast hc u;have m:=i.bX;rw[aF,aG,X]at m;obtain⟨k,d,aw,ae⟩:=aE M;refine book d (.refl J.f Q) m Rs Ri ca (.d3 ae) a ?_ (.inl ⟨by omega,by simp[cnt]⟩);have:=Go.ConcN.Mode.last (j:=t) (D:=upd x h ⟨3,0,1⟩) (tag:=tag) h aB hc wh (λw bd au=>by rw[upd_ne x _ au];grind);rw[upd_same]at this;grind
   obtain⟨k,K,U,d,⟨rfl,rfl⟩,F⟩:=e Q (Go.ConcN.RW.refl Q);exact ah d (.d2 F) a
  |d3 s=>
   rcases Goes.cases s with g|⟨z,rfl,e⟩
   .obtain⟨_,aE⟩:=g Q (Go.ConcN.RW.refl Q);obtain⟨aB,aI,aF,aG⟩:=i.mode.isLast hc u;have m:=i.bX;rw[aF,aG,X]at m;obtain⟨k,d,aw,ae⟩:=aE M;refine book d (aside_setCell Q (stA J.f) _) (m.setSt 0) Rs Ri ca (.d4 ae) a ?_ (.inl ⟨by omega,by simp[cnt]⟩);have:=Go.ConcN.Mode.last (j:=t) (D:=upd x h ⟨2,0,1⟩) (tag:=tag) h aB hc wh (λw bd au=>by rw[upd_ne x _ au];grind);rw[upd_same]at this;grind
   obtain⟨k,K,U,d,⟨rfl,rfl⟩,F⟩:=e Q (Go.ConcN.RW.refl Q);exact ah d (.d3 F) a
  |d4 s=>
   rcases Goes.cases s with g|⟨z,rfl,e⟩
   .obtain⟨_,bI,aE⟩:=g Q (Go.ConcN.RW.refl Q);obtain⟨aB,aI,aF,aG⟩:=i.mode.isLast hc u;have m:=i.bX;rw[aF,aG,X]at m;obtain⟨k,d,a_,aa⟩:=aE M;have bc:k.status=.running:=by
     cases a_ with
     |zero=>exact absurd aa.2 ca
     |succ a_=>exact aa.elim (λh=>absurd h.2 ca) (λh=>h.1)
    refine aN d (aside_setCell Q (smA J.f) _) (m.setSm 1) (U:=semEvents (smA J.f)) ?_ ?_ ca (.quit aa) cS ?_ (.inl ⟨by omega,by simp[cnt]⟩)
    .intro au r;simp[semEvents]at r;rcases r with rfl|rfl|rfl|rfl
     .exact .inl a
     .exact bk_cell _ _ a
     .exact bk_cell _ _ a
     exact .inr (.inl a)
    .intro hS au r
     match hS,r with
     |0,r=>simp[semEvents]at r;subst r;exact .inl a
     |1,_=>exact .inr N4
     |2,_=>exact .inr N4
     |3,r=>simp[semEvents]at r;subst r;exact .inl a
     |hS+4,r=>simp[semEvents]at r
    intro S ag cl;have b':=cl bI bc;have bq:S=.w3:=by
     rcases ag with rfl|⟨_,rfl⟩
     .cases S<;>first|rfl|exact aB.elim|grind
     simp
    subst bq;simp only[dA];exact .sema λw bd=>by
     by_cases au:w=h
     .subst au;rw[upd_same]
     rw[upd_ne x _ au];grind
   obtain⟨k,K,U,d,⟨rfl,rfl⟩,F⟩:=e Q (Go.ConcN.RW.refl Q);exact ah d (.d4 F) a
  |quit s=>
   cases bB with
   |zero=>rw[s.1]at a3;cases a3
   |succ a_=>
    rcases s with⟨cu,_⟩|⟨_,k,U,aO,e,aa⟩
    .grind
    have ab:∀au∈U,Bk J.f au:=λau r=>bk_of_mute (aO au r);have bK:∀hS au,U[hS]?=f au->(aK au).touch?=n∨0<deafBehind aA (U.extract 0 hS):=λhS au r=>.inl (touch_mute (aO au (us r)));exact book (e Q) (.refl J.f Q) i.bX ab bK ca (.quit aa) a (same _ _) (.inr ⟨a,a⟩)
end
end
section
open Go.Conc
open Go.ConcN (WD CTag Vc Ssum pend phi cnt WgLive PayAt Has RW DWs WSit RelBy sumTo upd upd_same upd_ne AtR0 isW3 isOpen OpenSt deafBehind_idle bk_cell okW_none Vc_upd Vc_le le_sumTo others_uncounted sumTo_upd_out bk_dis bk_en bk_rd bk_rw bk_sem allQuit_of exists_counted)
open Go.ConcR (KK WgAt stA smA rd wr mk Payload g_of_ofEvents Bk bk_of_mute ofEvent_loc_mark ofEvent_cell ofEvent_mk)
variable [Payload]
section
variable {J:hL}{ac h:ai->a6->Prop}{d ep:Nat->Nat}{eI G:Nat->Mem}{tag:CTag}{c6:cp}{N:Nat}{w:ai}{Q:ar}{dj:pL}{dD:Option (Nat×Nat)}{o:Trace}{x:Nat->WD}{O:Nat->Nat}{av:Nat->cp}{b7 oC:Int}
omit [Payload]in
def fF.congr{i}(b:fF J d eI o t i)(j:∀h,h<t->G h=eI h):fF J d G o t i:=
 ⟨b.base,b.db,b.da,b.bV,b.dR,b.ev,b.eu,λe H=>by rw[j e H];exact b.bD e H,b.bO,b.ei,b.seen,b.old,b.ed,b.eH,λm k g a d=>(b.new m k g a d).imp id λ⟨e,H,p,q⟩=>⟨e,H,p,by grind⟩,
  λe H=>by rw[j e H];exact b.eh e H,b.over⟩
def hM.congr{b w b7 N}{g}(i:hM P ty J E val d eI b w b7 g N B Q)(k:G b=eI b):hM P ty J E val d G b w b7 g N B Q:=by
 cases i with
 |c_ a h j=>exact .c_ a h M
 |rel a=>exact .rel a
 |tail e a=>exact .tail e a
def ik.congr{e:Nat}(a:ik P ty J E val d eI t gs Q o x O av e)(g:∀b,b<t->G b=eI b):ik P ty J E val d G t gs Q o x O av e:=
 ⟨a.size,a.dp,a.above,λi H=>let ⟨B,k,j⟩:=a.c7 i H;⟨B,k,j.congr (g i H)⟩,a.bo.congr g,a.dP,a.dy,a.dz,a.rel,a.dk,a.dK,a.bQ,a.cZ,a.cg,a.cw,a.dm,a.aH,λb h=>by rw[g b h];exact a.dE b h⟩
omit [Payload]in
def Zb{b3}{U}(D:gu J d eI t b)(R:bb k b)(aL:dv b U)(A:cN k b an b3):
  (∀g∈U,(aK g).low b3.a.heap.size)/\(∀g∈U,∀e,(aK g).touch?=f e->e.loc.isMemory=l->oP J (lT d b.a.heap.size 0) e) /\
  (∀g∈U,∀e,(aK g).touch?=f e->e.kind=.plain->e.write=l->∀o,o<t->∀i m u,e.loc=.cell ⟨i,m,n⟩->eI o i m≠f u) /\
  (∀g∈U,g.loc≠.mark .disable/\g.loc≠.mark .enable)/\∀g∈U,∀e,g.loc≠.mark (.release e):=by
 have key:∀g∈U,(aK g).low b3.a.heap.size/\(∀e,(aK g).touch?=f e->e.loc.isMemory=l->oP J (lT d b.a.heap.size 0) e) /\
   (∀e,(aK g).touch?=f e->e.kind=.plain->e.write=l->∀o,o<t->∀i m u,e.loc=.cell ⟨i,m,n⟩->eI o i m≠f u)/\(g.loc≠.mark .disable/\g.loc≠.mark .enable)/\∀e,g.loc≠.mark (.release e):=by
  intro g K;have x:=aL g K;obtain⟨loc,wr,Q⟩:=g;cases loc with
  |cell h=>
   obtain⟨B,C,j⟩:=x;simp only at B C j;subst B;have E:h.block<b.a.heap.size/\d h.block=0/\h.block≠J.ah/\h.block≠J.f/\¬J.bA h.block:=by
    rcases j with j|⟨⟨L,I,j⟩,_⟩|⟨_,u,j⟩
    .exact j.elim
    .obtain⟨k1,p,F,q,s⟩:=D.blk _ (.inr ⟨L,I,j⟩);grind
    obtain⟨k1,p,F,q,s⟩:=D.C _ _ _ j;grind
   refine⟨by rw[ofEvent_cell];exact eC E.1 A.size,λi r _=>?_,λi r _ y o H w m u z M=>?_,⟨by simp,by simp⟩,by simp⟩
   .rw[ofEvent_cell]at r;simp[MemAct.touch?,e1]at r;subst r;exact .inr ⟨h.block,a,by grind[lf],E.2.2.2.1,E.2.2.1,E.2.2.2.2,a⟩
   rw[ofEvent_cell]at r;simp[MemAct.touch?,e1]at r;subst r;simp only at y z;have N:=D.bD o H w m u M;grind
  |obj O=>
   obtain⟨B,C⟩:=x;simp only at B C;subst B;obtain⟨L,I,j⟩:=C.resolve_left id;obtain⟨k1,p,F,q,s⟩:=D.blk _ (.inr ⟨L,I,j⟩);refine⟨?_,λi r _=>?_,λi r _ _ o _ w m u z=>?_,⟨by simp,by simp⟩,by simp⟩
   .simp[aK,MemAct.low,Loc.low];exact eC s A.size
   .simp[aK,MemAct.touch?]at r;subst r;exact .inr ⟨O,a,by grind[lf],F,p,q,a⟩
   simp[aK,MemAct.touch?]at r;grind
  |mark T=>
   simp[h6]at x;rcases x with rfl|⟨S,rfl⟩
   .exact Pg
   exact Pg
  |_=>exact x.elim
 grind
def Dc(cH:lz P ty J E val j ac h dj gs Q o d eI t x O av N tag c6 w b b7 oC){s}{U}{qL}{nD}{k i}(I:aq P l w Q=.go s bg U)(Y:∀F,F<Q.heap.size->ep F=d F)(M:Q.heap.size<=bg.heap.size)(D:∀T,T<t->lB J d (eI T) T Q bg)(A:∀y∈U,(aK y).low bg.heap.size)(R:∀y∈U,∀w,(aK y).touch?=f w->w.loc.isMemory=l->oP J ep w)(S:∀y∈U,∀w,(aK y).touch?=f w->w.kind=.plain->w.write=l->∀W,W<t->∀F V af,w.loc=.cell ⟨F,V,n⟩->eI W F V≠f af)(K:∀y∈U,∀w,y.loc≠.mark (.release w))(B:PayAt J.ah E bg)(p:WgAt ty J.f bg k i)(z:hl P ty J E val j ac h qL t nD (deafBehind N U) s aB)(m:cV aB {aB with a:=bg})(Z:gu J ep eI t aB)(ab:Go.ConcN.Mode t x qL k i)(aa:phi j (Vc t x) qL<phi j (Vc t x) tag∨(phi j (Vc t x) qL=phi j (Vc t x) tag/\cp.lt nD c6)):
  ∃g q r,runT P (crowd gs Q dD) 0=(.next g,q)/\kY (J.base+j) r dj/\gX P ty J E val j ac h r g (o++q):=by
 have ag:=cH.au.bo.base;have C:=runT_crowd_go (P:=P) (sl:=dD) (i:=0) cH.dt (by simpa using I)
 refine⟨_,_,(phi j (Vc t x) qL+Ssum t x+sumTo t O,(av,nD)),C,?_,_,bg,dD,ep,eI,t,x,O,av,deafBehind N U,qL,nD,s,aB,k,i,a,
  ⟨Go.ConcN.get_map_set_same _ _ _ EI,z,m,Z,cH.au.h3 Y M D A R S K B ⟨_,_,p⟩,p,ab,rfl⟩⟩
 rw[cH.eF];rcases aa with ah|⟨ae,X⟩
 .exact Prod.Lex.left _ _ u
 rw[ae];exact Prod.Lex.right _ (Prod.Lex.right _ X)
def nA(m:lz P ty J E val j ac h dj gs Q o d eI t x O av N tag c6 w b b7 oC){I}{U}{nD}{s1}(ak:cV s1 {s1 with a:=Q})(ai:gu J d eI t s1)(C:aq P l w Q=.go I aB.a U)(S:kB {s1 with a:=Q} aB U∨dQ J.f {s1 with a:=Q} aB U)(r:hl P ty J E val j ac h tag t nD N I aB)(au:cp.lt nD c6):
  ∃y D F,runT P (crowd gs Q dD) 0=(.next y,D)/\kY (J.base+j) F dj/\gX P ty J E val j ac h F y (o++D):=by
 rcases S with⟨⟨k,an,aD,s,B⟩,aL⟩|⟨rfl,A,K,ao⟩
 .have X:gu J d eI t {s1 with a:=Q}:=ai.rely ak.size;obtain⟨ab,ae,af,ag,ah⟩:=Zb X aD aL B;have e:∀g,g<Q.heap.size->(d g≠0∨g=J.ah∨g=J.f)->aB.a.heap[g]?=Q.heap[g]?:=λg p ar=>B.a3 g p λL aA R=>by obtain⟨aF,aG,aH,_⟩:=X.blk g (.inr ⟨L,aA,R⟩);grind
  have V:=m.au.bo.base;refine Dc m C (ep:=lT d Q.heap.size 0) (λg p=>lf p) B.size (λax T=>⟨B.size,λg p al=>e g p (.inl u),λg W aw aC _=>s.mem g W aw (B.mem _ _ _ (ai.bD ax T g W aw aC)),λW _ _=>m_ (e _ m.au.cw (.inr (.inl a))) W,B.os,B.tape,B.output⟩) ab ae af ah ?_
   (m.bX.of_block (e _ m.au.cg (.inr (.inr a)))) (aB:=aB) (qL:=tag) (nD:=nD) (by rw[deafBehind_idle ag];exact r) (cV.eo s.mem) (X.step s B m.au.cg m.au.cw m.au.dm) m.mode (.inr ⟨rfl,au⟩)
  obtain⟨aa,Y,Z⟩:=m.au.bQ;exact⟨aa,(e _ m.au.cw (.inr (.inl a))).trans Y,Z⟩
 have i:∀q∈U,q=mk (.read A)∨q=mk (.write A):=M;refine Dc m C (ep:=d) (λg p=>rfl) (bA _) (λax T=>.refl ..) (λq z=>?_) (λq z g p _=>?_) (λq z g p aE=>?_) (λq z=>?_) m.au.bQ m.bX (aB:={s1 with a:=Q}) (qL:=tag) (nD:=nD) ?_ (ak.fY ) (ai.rely ak.size) m.mode (.inr ⟨rfl,au⟩)
 .have hW:=m.au.cg;rcases i q z with rfl|rfl<;>(rw[ofEvent_mk];show A.block<_;grind)
 .rcases i q z with rfl|rfl<;>(rw[ofEvent_mk]at p;simp[MemAct.touch?]at p;subst p;exact .inl ⟨A,rfl,K,by simp⟩)
 .rcases i q z with rfl|rfl<;>(rw[ofEvent_mk]at p;simp[MemAct.touch?]at p;grind)
 .rcases i q z with rfl|rfl<;>simp[mk]
 rw[deafBehind_idle (λq z=>by rcases i q z with rfl|rfl<;>simp[mk])];exact r
def lY(p:lz P ty J E val j ac h dj gs Q o d eI t x O av N tag c6 w b b7 oC){C}{U}{e}{s}{y u}{s1}(af:cV s1 {s1 with a:=Q})(i:gu J d eI t s1)(R:aq P l w Q=.go C bg U)(I:Aside J.f Q bg)(B:WgAt ty J.f bg y u)(g:∀F∈U,Bk J.f F)(A:hl P ty J E val j ac h e t s (deafBehind N U) C {s1 with a:=bg})(k:Go.ConcN.Mode t x e y u)(ae:phi j (Vc t x) e<phi j (Vc t x) tag∨(phi j (Vc t x) e=phi j (Vc t x) tag/\cp.lt s c6)):
  ∃m q z,runT P (crowd gs Q dD) 0=(.next m,q)/\kY (J.base+j) z dj/\gX P ty J E val j ac h z m (o++q):=by
 obtain⟨V,K,M⟩:=p.au.bQ;have X:cV s1 {s1 with a:=bg}:=i.dg af (q7.bX I);refine Dc p R (ep:=d) (λS r=>rfl) (by rw[I.size];grind) (λah W=>.bX I p.au.bo.db p.au.bo.base (λS ab ag Z=>(p.au.bo.bD ah W S ab ag Z).2.2.1) p.au.bo.bV) (Gx g (by rw[I.size];exact p.au.cg)) (λF T S r d=>?_) (λF T S r aa=>?_) (Gy g)
  ⟨V,(I.block _ p.au.bo.bV).trans K,M⟩ B A X.fY (i.rely X.size) k ae
 .rcases g F T with bi|bi|⟨D,wr,rfl,Y⟩
  .exact zG
  .exact zG
  rw[ofEvent_cell]at r;simp[MemAct.touch?,e1]at r;subst r;exact .inl ⟨D,a,Y,by simp⟩
 rcases g F T with bi|bi|⟨D,wr,rfl,Y⟩
 .exact zG
 .exact zG
 rw[ofEvent_cell]at r;simp[MemAct.touch?,e1]at r;grind
end
section
variable {J:hL}{ac ak:ai->a6->Prop}{S ep:Nat->Nat}{bx h:Nat->Mem}{tag:CTag}{c6:cp}{N:Nat}{w:ai}{Q:ar}{bT:pL}{dD:Option (Nat×Nat)}{o:Trace}{x:Nat->WD}{O:Nat->Nat}{av:Nat->cp}{b7 W:Int}
def hl.gh(a:hl P ty J E val j ac ak tag t c6 N w b):t+pend tag<=j:=by cases a<;>simp[pend]<;>(try simp)<;>omega
omit [Payload]in
def nv(p:gI (ah.aD P ty J.f) (dQ J.f) br c6 w b)(q:cV b {b with a:=Q})(o:gu J S bx t b)(h:WgLive ty J.f Q):
  (∃a,cV a {a with a:=Q}/\gu J S bx t a/\br w a)∨∃a,cV a {a with a:=Q}/\gu J S bx t a/\∃i e g k,aq P l w Q=.go i e.a g/\(kB {a with a:=Q} e g∨dQ J.f {a with a:=Q} e g)/\gI (ah.aD P ty J.f) (dQ J.f) br k i e/\cp.lt k c6:=by
 rcases p.a_ (λd=>cV d {d with a:=Q}/\gu J S bx t d) (λd a K j=>⟨j.1.aP K,j.2.aP K⟩) (λG=>False.elim G) ⟨q,o⟩with⟨a,⟨k1,r⟩,m⟩|⟨_,a,⟨k1,r⟩,m⟩
 .grind
 exact .inr ⟨a,k1,r,m _ ⟨k1,λ_=>h⟩⟩
def hM.quits{g w b7 N}{e}{B}(b:hM P ty J E val S bx g w b7 e N B Q)(a:b7=1):∃d,QuitsD P d N B:=by
 cases b with
 |c_ _ _ _=>cases a
 |rel _=>cases a
 |tail _ b=>exact⟨_,b.quits a⟩
def hM.jZ{e w b7 N}{d}(a:hM P ty J E val S bx e w b7 d N B Q)(b:b7=1):w=0:=by
 cases a with
 |c_ _ _ _=>cases b
 |rel _=>rfl
 |tail _ a=>rfl
def abY(cH:lz P ty J E val j ac ak bT gs Q o S bx t x O av N tag c6 w b b7 W)(bN:j<2147483648)(a0:∀B b,ak B b->du (ah.aD P ty J.f) (dQ J.f) (q0 P ty J ac ak) B b)(ba:w.status=.running):
  ∃ax i,runT P (crowd gs Q dD) 0=(.next ax,i)/\((∃ep aR,wH P J E val j ac ep aR ax (o++i))∨∃k,kY (J.base+j) k bT/\gX P ty J E val j ac ak k ax (o++i)):=by
 have bG:=Vc_le t x;have bu:=cH.au.bo.base;have e:=cH.au.cZ;have fin:∀{p:Prop},(∃ax i k,runT P (crowd gs Q dD) 0=(.next ax,i)/\kY (J.base+j) k bT/\gX P ty J E val j ac ak k ax (o++i)) ->
   ∃ax i,runT P (crowd gs Q dD) 0=(.next ax,i)/\((∃ep aR,wH P J E val j ac ep aR ax (o++i))∨∃k,kY (J.base+j) k bT/\gX P ty J E val j ac ak k ax (o++i)):=
  λ{_} ⟨ax,i,k,aC,ai,aG⟩=>⟨ax,i,aC,.inr ⟨k,ai,aG⟩⟩
 have bj:=cH.dx.gh;have bz:=cH.dx;have z:=cH.bX;have ag:=cH.mode;cases bz with
 |@ff g c6 B b F X=>
  rcases nv X cH.rely cH.aD e with⟨aB,k1,r,_,hu,H,d⟩|⟨aB,k1,r,hu,b3,U,h,H,Z,d,aL⟩
  .obtain⟨aa,d⟩:=d {aB with a:=Q} (mD k1 e);exact fin (p:=True) (lY cH k1 r (H Q) (.refl J.f Q) z bk_dis (.fS F d) (ag.reopen A A a C) (.inl l7))
  exact fin (p:=True) (nA cH k1 r H Z (.ff F d) aL)
 |@fS g c6 B b F X=>
  rcases nv X cH.rely cH.aD e with⟨aB,k1,r,_,aA⟩|⟨aB,k1,r,hu,b3,U,h,H,Z,d,aL⟩
  .obtain⟨an,I,R,_⟩:=ag.open_inv A;rw[I,R]at z;obtain⟨fP,H,aa,d⟩:=aA {aB with a:=Q} (mD k1 e) (Vc (j-(g+1)) x) u (by simpa[pend]using z);refine fin (p:=True) (lY cH k1 r H (aside_setCell Q (stA J.f) _) (z.setSt _) bk_rw (.fU F d) ?_ (.inl l7));have af:(((Vc (j-(g+1)) x:Nat):Int)+1)*KK=((Vc (j-(g+1)) x+pend (.sp g 3):Nat):Int)*KK:=by simp[pend]
   rw[af];exact .opn A an C
  exact fin (p:=True) (nA cH k1 r H Z (.fS F d) aL)
 |@fU g c6 B b F X=>
  rcases nv X cH.rely cH.aD e with⟨aB,k1,r,_,hu,H,d⟩|⟨aB,k1,r,hu,b3,U,h,H,Z,d,aL⟩
  .obtain⟨aa,d⟩:=d {aB with a:=Q} (mD k1 e);exact fin (p:=True) (lY cH k1 r (H Q) (.refl J.f Q) z bk_en (.fT F d) (ag.reopen A A a C) (.inl l7))
  exact fin (p:=True) (nA cH k1 r H Z (.fU F d) aL)
 |@fT g c6 B b F X=>
  rcases nv X cH.rely cH.aD e with⟨aB,k1,r,_,aA⟩|⟨aB,k1,r,hu,b3,U,h,H,Z,d,aL⟩
  .obtain⟨fP,ru,bm,_,⟨rc,bo⟩,ar⟩:=aA {aB with a:=Q} (mD k1 e);obtain⟨an,I,R,_⟩:=ag.open_inv A;rw[I,R]at z;have q:=runT_crowd_spawn (P:=P) (sl:=dD) (i:=0) cH.dt (by simpa using bm);rw[cH.au.size]at q;have bs:=r.rely k1.size;let aR:=upd bx (j-(g+1)) aB.C;have a1:∀bE,bE<j-(g+1)->aR bE=bx bE:=λbE bb=>upd_ne bx _ u;have aH:aR (j-(g+1))=aB.C:=upd_same bx _ _;have aJ:cV (a6.dw {aB with a:=Q}) {a6.dw {aB with a:=Q}with a:=Q}:=cV.eo k1.mem;have aY:hz S (aR (j-(g+1))) (J.base+(j-(g+1))) (a6.dw {aB with a:=Q}):=by
    refine⟨λaZ aw=>?_,λaZ bq br s=>⟨.inr (by rw[aH];exact s),(bs.C aZ bq br s).2.2.2.2⟩⟩;rcases aw with aw|⟨L,bF,_⟩
    .exact aw.elim
    simp[a6.dw]at bF
   have V:=(cH.au.congr a1).spawn (fP:=fP) (D:={g:=0,fn:=w.frame.fn,pos:=w.frame.place,act:=.go (J.base+(j-(g+1)))}) (bE:={g:=J.base+(j-(g+1)),fn:=ru.frame.fn,pos:=w.frame.place,act:=.start}) ⟨rfl,rfl⟩ ⟨rfl,rfl⟩
    (λaZ bq br s=>by rw[aH]at s;exact bs.C aZ bq br s) bo aJ aY
   have bf:Vc (j-(g+1)+1) (upd x (j-(g+1)) ⟨7,0,0⟩)=Vc (j-(g+1)) x+1:=by simp[Vc,sumTo,upd_same];rw[sumTo_upd_out x _ cnt (bA _)];rfl
   have bd:Ssum (j-(g+1)+1) (upd x (j-(g+1)) ⟨7,0,0⟩)=Ssum (j-(g+1)) x+7:=by simp[Ssum,sumTo,upd_same];rw[sumTo_upd_out x _ WD.stage (bA _)]
   have bc:sumTo (j-(g+1)+1) (upd O (j-(g+1)) 1)=sumTo (j-(g+1)) O+1:=by have:sumTo (j-(g+1)) (upd O (j-(g+1)) 1)=sumTo (j-(g+1)) O:=sumTo_upd_out O 1 id (i:=j-(g+1)) (j:=j-(g+1)) (bA _);show sumTo (j-(g+1)) (upd O (j-(g+1)) 1)+upd O (j-(g+1)) 1 (j-(g+1))=_;rw[upd_same];grind
   have au:OpenSt (j-(g+1)+1) (upd x (j-(g+1)) ⟨7,0,0⟩):=λY al=>by
    by_cases af:Y=j-(g+1)
    .subst af;exact wh
    rw[upd_ne x _ af];exact an Y u
   have a2:((gs.setIfInBounds 0 fP).push ru)[0]?=f fP:=by have bh:0<gs.size:=EI;grind
   have bt:gu J S aR (j-(g+1)+1) {aB with a:=Q}:=⟨bs.blk,bs.C,λbE bb aZ bq br s=>by
    rcases dW bE (j-(g+1))with aC|aC
    .rw[a1 bE aC]at s;exact bs.bD bE aC aZ bq br s
    .obtain rfl:bE=j-(g+1):=u
     rw[aH]at s;exact s⟩
   have bB:j-(g+1)+1=j-g:=u;rw[bB]at V bf bd bc au bt;have aF:∀aq,pend aq=0->((Vc (j-(g+1)) x+pend (.sp g 2):Nat):Int)*KK=((Vc (j-g) (upd x (j-(g+1)) ⟨7,0,0⟩)+pend aq:Nat):Int)*KK:=λaq bO=>by exact hE
   cases g with
   |zero=>
    obtain⟨aQ,d⟩:=ar;simp only[sr]at V bf bd bc au aF bt;refine⟨_,_,q,.inr ⟨(phi j (Vc j (upd x (j-(0+1)) ⟨7,0,0⟩)) .kd+Ssum j (upd x (j-(0+1)) ⟨7,0,0⟩)+sumTo j (upd O (j-(0+1)) 1),(upd av (J.base+(j-(0+1))) rc,aQ)),by rw[cH.eF];exact Prod.Lex.left _ _ l7,
     _,Q,dD,S,aR,j,_,_,_,0,.kd,aQ,fP,{aB with a:=Q},_,_,rfl,⟨a2,.kd d,k1.fY,bt,V,z,?_,rfl⟩⟩⟩
    rw[aF .kd a];exact .opn A au C
   |succ h=>
    obtain⟨aQ,d⟩:=ar;refine⟨_,_,q,.inr ⟨(phi j (Vc (j-(h+1)) (upd x (j-(h+1+1)) ⟨7,0,0⟩)) (.sp h 5)+Ssum (j-(h+1)) (upd x (j-(h+1+1)) ⟨7,0,0⟩)+sumTo (j-(h+1)) (upd O (j-(h+1+1)) 1),(upd av (J.base+(j-(h+1+1))) rc,aQ)),by rw[cH.eF];exact Prod.Lex.left _ _ l7,
     _,Q,dD,S,aR,j-(h+1),_,_,_,0,.sp h 5,aQ,fP,{aB with a:=Q},_,_,rfl,⟨a2,.ff u d,k1.fY,bt,V,z,?_,rfl⟩⟩⟩
    rw[aF (.sp h 5) a];exact .opn A au C
  exact fin (p:=True) (nA cH k1 r H Z (.fT F d) aL)
 |kd X=>
  rcases nv X cH.rely cH.aD e with⟨aB,k1,r,_,hu,H,d⟩|⟨aB,k1,r,hu,b3,U,h,H,Z,d,aL⟩
  .obtain⟨aa,d⟩:=a0 _ _ (d {aB with a:=Q} (mD k1 e));exact fin (p:=True) (lY cH k1 r (H Q) (.refl J.f Q) z bk_dis (.w1 d) (ag.reopen A A a C) (.inl l7))
  exact fin (p:=True) (nA cH k1 r H Z (.kd d) aL)
 |w1 X=>
  rcases nv X cH.rely cH.aD e with⟨aB,k1,r,_,aA⟩|⟨aB,k1,r,hu,b3,U,h,H,Z,d,aL⟩
  .obtain⟨an,I,R,_⟩:=ag.open_inv A;rw[I,R]at z;have bM:=Vc_le j x;obtain⟨fP,H,bh,bl⟩:=aA {aB with a:=Q} (mD k1 e) (Vc j x) u M;by_cases s:Vc j x=0
   .obtain⟨aa,d⟩:=bh s;refine fin (p:=True) (lY cH k1 r H (.refl J.f Q) z bk_rd (.ke d) ?_ (.inl l7));have af:((Vc j x+pend .w1:Nat):Int)*KK=0:=M;rw[af];exact .fin A (allQuit_of an s)
   obtain⟨aa,d⟩:=bl s;refine fin (p:=True) (lY cH k1 r H (.refl J.f Q) z bk_rd (.w2 d) ?_ (.inl l7));have:=ag.reopen (tag':=.w2 (Vc j x)) A A a (λy af=>by grind);grind
  exact fin (p:=True) (nA cH k1 r H Z (.w1 d) aL)
 |@w2 y c6 B b X=>
  rcases nv X cH.rely cH.aD e with⟨aB,k1,r,_,aA⟩|⟨aB,k1,r,hu,b3,U,h,H,Z,d,aL⟩
  .obtain⟨an,I,R,bn⟩:=ag.open_inv A;rw[I,R]at z;obtain⟨bJ,aC⟩:=bn y rfl;obtain⟨a9,aS⟩:=aA {aB with a:=Q} (mD k1 e) (Vc j x) u M;by_cases af:Vc j x=y
   .obtain⟨fP,H,aa,d⟩:=a9 af;exact fin (p:=True) (lY cH k1 r H (aside_setCell Q (stA J.f) _) (z.setSt _) bk_rw (.w3 d) (.reg A an u) (.inl l7))
   obtain⟨fP,H,d⟩:=aS af;obtain⟨aa,d⟩:=a0 _ _ d;refine fin (p:=True) (lY cH k1 r H (.refl J.f Q) z bk_rd (.w1 d) ?_ (.inl l7));have:=ag.reopen (tag':=.w1) A A a C;grind
  exact fin (p:=True) (nA cH k1 r H Z (.w2 d) aL)
 |@w3 c6 B b X=>
  rcases nv X cH.rely cH.aD e with⟨aB,k1,r,aU⟩|⟨aB,k1,r,hu,b3,U,h,H,Z,d,aL⟩
  .obtain⟨_,a_,aA⟩:=aU;obtain⟨aI,aV⟩:=aA {aB with a:=Q} (mD k1 e);obtain⟨D,m⟩:=cp.js b c6;have aP:=oK.rely ⟨ba,a_,aA⟩ (mD k1 e);generalize b7=bL at ag z;generalize W=bK at ag z;cases ag with
   |opn aC _ _=>exact aC.elim
   |reg aC ai aG=>exact fin (p:=True) (lY cH k1 r (aI ⟨_,z⟩) (.refl J.f Q) z C (.blk (c6:=D) aP) (.reg A ai aG) (.inr ⟨rfl,m⟩))
   |last L aC ai aG bD=>exact fin (p:=True) (lY cH k1 r (aI ⟨_,z⟩) (.refl J.f Q) z C (.blk (c6:=D) aP) (.last L A ai aG bD) (.inr ⟨rfl,m⟩))
   |sema ai=>
    obtain⟨fP,H,aa,d⟩:=aV z;exact fin (p:=True) (lY cH k1 r H (aside_setCell Q (smA J.f) _) (z.setSm 0) bk_sem (.w4 d) (.fin A ai) (.inl l7))
   |fin aC _=>exact aC.elim
  exact fin (p:=True) (nA cH k1 r H Z (.w3 d) (cp.hk aL))
 |blk X=>grind
 |w4 X=>
  rcases nv X cH.rely cH.aD e with⟨aB,k1,r,_,aA⟩|⟨aB,k1,r,hu,b3,U,h,H,Z,d,aL⟩
  .obtain⟨ae,I,R⟩:=ag.fin_inv A;rw[I,R]at z;obtain⟨fP,H,aa,d⟩:=aA {aB with a:=Q} (mD k1 e) z;exact fin (p:=True) (lY cH k1 r H (.refl J.f Q) z bk_rd (.ke d) (.fin A ae) (.inl l7))
  exact fin (p:=True) (nA cH k1 r H Z (.w4 d) aL)
 |ke X=>
  rcases nv X cH.rely cH.aD e with⟨aB,k1,r,_,hu,H,d⟩|⟨aB,k1,r,hu,b3,U,h,H,Z,d,aL⟩
  .obtain⟨aa,d⟩:=d {aB with a:=Q} (mD k1 e);obtain⟨ae,I,R⟩:=ag.fin_inv A;rw[I,R]at z;exact fin (p:=True) (lY cH k1 r (H Q) (.refl J.f Q) z bk_en (.acq d) (.fin A ae) (.inl l7))
  exact fin (p:=True) (nA cH k1 r H Z (.ke d) aL)
 |acq X=>
  rcases nv X cH.rely cH.aD e with⟨aB,k1,r,_,fP,H,d⟩|⟨aB,k1,r,hu,b3,U,h,H,Z,d,aL⟩
  .obtain⟨ae,I,R⟩:=ag.fin_inv A;have q:=runT_crowd_go (P:=P) (sl:=dD) (i:=0) cH.dt (by simpa using H Q);have a5:MemOp.ofEvents 0 w.frame.fn w.frame.place #[mk (.acquire (stA J.f))]=#[{g:=0,fn:=w.frame.fn,pos:=w.frame.place,act:=.mark (.acquire (stA J.f))}]:=by rw[ofEvents_eq];simp[ofEvent_mk]
   have aD:=cH.au.h3 (B:=w) (hu:=fP) (fn:=w.frame.fn) (pos:=w.frame.place) (U:=#[mk (.acquire (stA J.f))]) (ep:=S) (bg:=Q) (λ_ _=>rfl) (bA _) (λbE _=>.refl ..) (by simp;exact cH.au.cg) (by intro af ab aZ aw;simp at ab;subst ab;exact cS) (by intro af ab aZ aw;simp at ab;subst ab;simp[mk,aK,MemAct.touch?]at aw) (by intro af ab;simp at ab;subst ab;simp[mk]) cH.au.bQ e;have bH:deafBehind 0 #[mk (.acquire (stA J.f))]=0:=rfl;have bb:(o++#[({g:=0,fn:=w.frame.fn,pos:=w.frame.place,act:=.mark (.acquire (stA J.f))}:MemOp)])[o.size]?=f {g:=0,fn:=w.frame.fn,pos:=w.frame.place,act:=.mark (.acquire (stA J.f))}:=C
   have aT:=aD.bo.jH (by rw[aD.dy];rfl) (aD.dP _) (bi:=o.size) (by rw[a5,act?_of bb]) (by rw[a5];simp[Trace.g?]) (by rw[a5];exact⟨0,by simp[Trace.g?],by rw[deaf_old (bA _)];exact cH.au.dy⟩) (λD m=>by
    obtain⟨g,F⟩:=cH.au.rel D m (by rw[ae D m];omega)
    exact⟨g,F.appOther g_of_ofEvents u,lt_of_act? F.act⟩)
   have aN:∃bi,Leavers P (o++MemOp.ofEvents 0 w.frame.fn w.frame.place #[mk (.acquire (stA J.f))]) ((gs.map (woken P w fP Q)).setIfInBounds 0 fP) bi:=by
    have aE:∀Y,∃bp,∀B,0<Y->((gs.map (woken P w fP Q)).setIfInBounds 0 fP)[Y]?=f B->QuitsD P bp (Deaf (o++MemOp.ofEvents 0 w.frame.fn w.frame.place #[mk (.acquire (stA J.f))]) Y) B:=by
     intro Y;cases aM:((gs.map (woken P w fP Q)).setIfInBounds 0 fP)[Y]? with
     |none=>simp
     |some B=>
      rcases nZ Y with af|ao
      .exact⟨0,λhu X=>by omega⟩
      rcases dW Y J.base with aL|bI
      .obtain⟨bp,_,bk⟩:=aD.dp Y B ao aL aM;exact⟨bp,λhu _ a3=>by grind⟩
      obtain⟨D,rfl⟩:∃D,Y=J.base+D:=⟨Y-J.base,by omega⟩
      have m:D<j:=by have:=(jd.1 aM).1;rw[aD.size]at this;omega
      obtain⟨bC,a4,aO⟩:=aD.c7 D m;rw[aM]at a4;cases a4;obtain⟨bp,bk⟩:=aO.quits (ae D m);refine⟨bp,λhu _ a3=>?_⟩;cases a3;rw[aD.dz D m];omega
    exact⟨λY=>Classical.choose (aE Y),λY B al K=>Classical.choose_spec (aE Y) B al K,λY al=>aD.above Y (by rw[aD.size]at al;exact al)⟩
   obtain⟨bi,aN⟩:=aN;refine⟨_,_,q,.inl ⟨S,bx,⟨_,Q,dD,fP,aB,bi,rfl,Go.ConcN.get_map_set_same _ _ _ EI,aD.size,d {aB with a:=Q} (mD k1 e),k1,r,aN,aT,aD.dP,cH.au.bQ,λD m Y al=>?_,cH.au.cw,cH.au.cg,cH.au.dm⟩⟩⟩;obtain⟨bC,_,aO⟩:=cH.au.c7 D m;rcases nZ Y with af|ao
   .subst af;exact cH.au.dK D m (by rw[ae D m];omega)
   exact cH.au.dk D m (aO.jZ (ae D m)) Y ao al
  exact fin (p:=True) (nA cH k1 r H Z (.acq d) aL)
end
end
section
open Go.Conc
open Go.ConcN (WD CTag Vc Ssum pend phi cnt WgLive PayAt Has WSit RelBy sumTo upd upd_same upd_ne exists_counted)
open Go.ConcR (KK WgAt stA smA Payload)
variable [Payload]
section
variable {J:hL}{ac r:ai->a6->Prop}{d:Nat->Nat}{bx:Nat->Mem}{tag:CTag}{c6:cp}{N:Nat}{w:ai}{Q:ar}{ak:pL}{dD:Option (Nat×Nat)}{o:Trace}{x:Nat->WD}{O:Nat->Nat}{av:Nat->cp}{b7 S:Int}
def hM.running_of{b w b7 N}{h}{B}(g:hM P ty J E val d bx b w b7 h N B Q)(e:b7≠1):B.status=.running:=by
 cases g with
 |c_ a _ _=>exact a.run λ_ _ b=>b.1
 |rel a=>exact Goes.running (λ_ _ b=>b.1) Q (Go.ConcN.RW.refl Q) a
 |tail _ a=>exact a.running_of e
def abJ(g:lz P ty J E val j ac r ak gs Q o d bx t x O av N tag c6 w b b7 S):∃(m:Nat)(e:ai),gs[m]?=f e/\e.status=.running:=by
 rcases g.dx.status with⟨h,_⟩|⟨_,rfl⟩
 .exact⟨0,w,g.dt,h⟩
 have q:=g.mode;cases q with
 |opn a _ _=>exact a.elim
 |reg _ _ p=>
  obtain⟨m,k,y⟩:=exists_counted p;obtain⟨e,i,h⟩:=g.au.c7 m k;exact⟨_,e,i,h.running_of u⟩
 |last L _ s p _=>
  obtain⟨e,i,h⟩:=g.au.c7 L s;exact⟨_,e,i,h.running_of u⟩
 |fin a _=>exact a.elim
def R9(e:lz P ty J E val j ac r ak gs Q o d bx t x O av N tag c6 w b b7 S):∀m∈gs,awake m:=by
 intro m A D;obtain⟨i,a⟩:=Array.mem_iff_getElem?.1 A;rcases nZ i with rfl|q
 .rw[e.dt]at a;cases a;rcases e.dx.status with⟨h,_⟩|⟨h,_⟩<;>rw[h]<;>simp
 rcases dW i J.base with u|C
 .obtain⟨z,_,y⟩:=e.au.dp i m q u a;rcases y.status with g|g<;>rw[g]<;>simp
 obtain⟨k,rfl⟩:∃k,i=J.base+k:=⟨i-J.base,by omega⟩
 have B:k<t:=by have:=(jd.1 a).1;rw[e.au.size]at this;omega
 obtain⟨s,p,h⟩:=e.au.c7 k B;rw[a]at p;cases p;rcases h.status with g|g<;>rw[g]<;>simp
def lz.at(e:lz P ty J E val j ac r ak gs Q o d bx t x O av N tag c6 w b b7 S)(Ie):lz P ty J E val j ac r ak gs (Q.at Ie) o d bx t x O av N tag c6 w b b7 S:=
 ⟨e.dt,e.dx,e.rely.eE (bA _) (λ_ _=>rfl) (λ_ _ _ _ g=>g) a a a,e.aD,e.au.at Ie,e.bX,e.mode,e.eF⟩
def abX(h:lz P ty J E val j ac r ak gs Q o d bx t x O av N tag c6 w b b7 S)(q:0<e)(F:e<J.base)(z:gs[e]?=f B)(A:B.status=.running):
  ∃D i m,runT P (crowd gs Q dD) e=(.next D,i)/\kY (J.base+j) m ak/\gX P ty J E val j ac r m D (o++i):=by
 obtain⟨y,G,K⟩:=h.au.dp e B q F z;cases y with
 |zero=>rw[K.1]at A;cases A
 |succ y=>
  rcases K with⟨H,_⟩|⟨_,p,U,X,V,I⟩
  .grind
  .have Y:(e==0)=v:=M;have T:=runT_crowd_go (P:=P) (sl:=dD) (i:=e) z (by rw[Y];exact V Q)
   obtain⟨g,k,W,C,Z⟩:=h.dx.h9 B p Q;have R:Go.ConcN.Mode t x g b7 S:=h.mode.retag C;refine⟨_,_,(phi j (Vc t x) g+Ssum t x+sumTo t O,(upd av e (cp.dG y),k)),T,?_,_,Q,dD,d,bx,t,x,O,_,N,g,k,woken P B p Q w,b,b7,S,a,
    ⟨by rw[Go.ConcN.get_map_set _ _ _ _ u,h.dt];rfl,W,h.rely,h.aD,h.au.bs q F X I,h.bX,R,rfl⟩⟩
   rw[h.eF,Go.ConcN.phi_retag j _ C];exact Prod.Lex.right _ (Prod.Lex.left _ _ ⟨e,by omega,by rw[upd_same,G];exact cp.gy _ b,λaa s=>upd_ne av _ s⟩)
def Yv(K:j<2147483648)(y:∀q t,r q t->du (ah.aD P ty J.f) (dQ J.f) (q0 P ty J ac r) q t){z}(D:gX P ty J E val j ac r ak z o):
  ∃e a,stepT P z=(.next e,a)/\((∃g d,wH P J E val j ac g d e (o++a))∨∃h,kY (J.base+j) h ak/\gX P ty J E val j ac r h e (o++a)):=by
 obtain⟨C,Q,dD,X,Z,x,T,S,V,B,tag,N,W,t,O,Y,rfl,b⟩:=D;obtain⟨k,q,m,s,i,p,I⟩:=crowd_pick (P:=P) (w:=Q) (sl:=dD) (R9 b) (abJ b);rw[I];have w:=b.at m;have A:x<=j:=by have:=b.dx.gh;omega
 rcases nZ k with rfl|M
 .rw[b.dt]at i;cases i;exact abY (dD:=s) w K y p
 rcases dW k J.base with R|U
 .obtain⟨e,a,h,H,G,F⟩:=abX (dD:=s) w M R i p;grind
 obtain⟨u,rfl⟩:∃u,k=J.base+u:=⟨k-J.base,by omega⟩
 have L:u<x:=by have:=(jd.1 i).1;rw[b.au.size]at this;omega
 obtain⟨e,a,h,H,G,F⟩:=ab2 (dD:=s) w K A b.dx.gh L i p;grind
def Yw(B:j<2147483648)(x:∀s u,r s u->du (ah.aD P ty J.f) (dQ J.f) (q0 P ty J ac r) s u):∀i(p:Machine)g,gX P ty J E val j ac r i p g ->
  ∃o m k b a,runNT P o p g=(.next m,k)/\wH P J E val j ac b a m k:=by
 intro i;induction(Zo (J.base+j)).apply i with
 |intro i _ z=>
  intro p g w;obtain⟨q,d,t,e⟩:=Yv B x w;rcases e with⟨b,a,e⟩|⟨h,e,A⟩
  .exact⟨1,q,g++d,b,a,by simp[runNT,t],e⟩
  obtain⟨o,m,k,b,a,k1,y⟩:=z h e q (g++d) A;exact⟨o+1,m,k,b,a,by simp only[runNT,t];exact k1,y⟩
def kV.gk{cG}{Y:ai->a6->Prop}(vm)(an:0<vm)(bn K)(aI:j<2147483648)(au:K≠bn)(Z:eZ b cG)(aM:B.status=.running)(ae:∃L∈b.s,K∈L.aj)(ag:∃L∈b.s,bn∈L.aj)(aC:∀d,(b.own d∨∃L∈b.s,d∈L.aj)->d<b.a.heap.size)(bf:∀d,(d=K∨d=bn)->¬cG.own d/\(∀L∈cG.s,d∉L.aj)/\∀o,cG.C d o=n)(aE:WgAt ty bn b.a 0 0)(Q:PayAt K E b.a)(bd:∀k:hL,k.f=bn->k.ah=K->k.aH=vm->∃X U,(∀B b,U B b->du (ah.aD P ty k.f) (dQ k.f) (q0 P ty k X U) B b)/\oO P ty k E val j U j B cG /\
   ∀aa i,X aa i->gv i->PayAt K E i.a->(∀g,g<j->∀r,r<vm->i.a.cell? ⟨K,vm*g+r,n⟩=f (val g r))->K<i.a.heap.size->(∀d,(d=K∨d=bn)->¬i.own d/\(∀L∈i.s,d∉L.aj)/\∀o,i.C d o=n) ->
    ∃w,Y aa w/\w.a=i.a/\gv w/\∀h:Nat->Prop,gW h i->¬h K->gW h w):kV P B b Y:=by
 intro h p T aO a8 bl N G af y av;have bb:¬h K:=λS=>let ⟨L,G,e⟩:=ae;y.s K S L G e
 have bc:¬h bn:=λS=>let ⟨L,G,e⟩:=ag;y.s bn S L G e
 have O:=aC K (.inr ae);have a':=aC bn (.inr ag);have R:1<=p.size:=(jd.1 N).1;let k:hL:={bA:=h,bO:=aO.size,f:=bn,ah:=K,base:=p.size,aH:=vm}
 obtain⟨X,U,ab,V,ba⟩:=bd k rfl rfl rfl;have aL:=y.aP Z;have I:gv cG:=.aP Z;have aQ:gu k (λ_=>0) (λ_ _ _=>n) 0 cG:=by
  refine⟨λd e=>⟨a,λm=>M,λm=>M,λm=>?_,by rw[Z.a];exact aC d (Z.blk d e)⟩,λd o aB u=>⟨a,λm=>?_,λm=>?_,λm=>?_,gv.lt I u⟩,λg q=>absurd q (iJ g)⟩
  .rcases e with e|⟨L,G,e⟩
   .exact aL.own d m e
   exact aL.s d m L G e
  .grind
  .grind
  rw[aL.C d m o]at u;cases u
 have aS:ik P ty k E val (λ_=>0) (λ_ _ _=>n) 0 p b.a aO (λ_=>⟨0,0,0⟩) (λ_=>0) (λr=>cp.dG (a8 r)) 0:=
  ⟨rfl,λr B s _ al=>⟨a8 r,rfl,G.old r B s al⟩,G.above,λg q=>absurd q (iJ g),fF.start af a R au bc bb,av,af.hears,λg q=>absurd q (iJ g),λg q=>absurd q (iJ g),λg q=>absurd q (iJ g),λg q=>absurd q (iJ g),
   Q,⟨_,_,aE⟩,a',O,y.lt,an,λg q=>absurd q (iJ g)⟩
 have aT:cV cG {cG with a:=b.a}:=by have:=cV.eo I;rw[<-Z.a];exact this
 have aP:∃aG,gX P ty k E val j X U aG (crowd p b.a T) aO:=by
  cases j with
  |zero=>
   obtain⟨aA,V⟩:=V;exact⟨_,p,b.a,T,_,_,0,_,_,_,0,.kd,aA,B,cG,_,_,a,⟨N,.kd V,aT,aQ,aS,aE,by have:=Go.ConcN.Mode.opn (j:=0) (D:=λ_=>(⟨0,0,0⟩:WD)) (tag:=.kd) A (λr s=>absurd s (iJ r)) C;simpa[Vc,sumTo,pend]using this,a⟩⟩
  |succ j=>
   obtain⟨aA,V⟩:=V;have D:hl P ty k E val (j+1) X U (.sp j 5) (j+1-(j+1)) aA 0 B cG:=.ff (Nat.lt_succ_self j) V;rw[sw]at D;exact⟨_,p,b.a,T,_,_,0,_,_,_,0,.sp j 5,aA,B,cG,_,_,a,⟨N,D,aT,aQ,aS,aE,by have:=Go.ConcN.Mode.opn (j:=0) (D:=λ_=>(⟨0,0,0⟩:WD)) (tag:=.sp j 5) A (λr s=>absurd s (iJ r)) C;simpa[Vc,sumTo,pend]using this,a⟩⟩
 obtain⟨aG,aP⟩:=aP;obtain⟨bk,bg,bj,F,W,ax,⟨aU,z,a9,aF,H,bh,rfl,a1,_,aY,J,ao,aV,aZ,aJ,aw,a_,aq,a4,ar⟩⟩:=Yw aI ab aG _ _ aP;have aD:gu k F W j {H with a:=z}:=ao.rely J.size;have aR:∀d,(d=K∨d=bn∨h d)->¬H.own d/\(∀L∈H.s,d∉L.aj)/\∀o,H.C d o=n:=by
  intro d e;have key:∀g,(F g=0/\g≠k.ah/\g≠k.f/\¬k.bA g/\g<z.heap.size)->g≠d:=M;refine⟨λaK=>key d (aD.blk d (.inl aK)) a,λL G ak=>key d (aD.blk d (.inr ⟨L,G,ak⟩)) a,λo=>?_⟩;cases aH:H.C d o with
  |none=>rfl
  |some aB=>exact absurd rfl (key d (aD.C d o aB aH))
 obtain⟨w,a0,a7,a5,a2⟩:=ba aF {H with a:=z} aY (λd o aB u=>J.mem d o aB u) aw a_ aq (λd e=>aR d (e.elim .inl λm=>.inr (.inl m)));have a3:gW (λd=>h d∨d=bn) {H with a:=z}:=by have aN:∀d,(h d∨d=bn)->¬H.own d/\(∀L∈H.s,d∉L.aj)/\∀o,H.C d o=n:=λd e=>aR d (e.elim (λm=>.inr (.inr m)) λm=>.inr (.inl m));exact⟨λd e=>(aN d e).1,λd e=>(aN d e).2.1,λd e=>(aN d e).2.2,λd e=>e.elim (ar d) λm=>by grind⟩
 grind
end
end
section
open Go.Conc Go.RowKit Go.Conc.Lib Go.ConcR.Gen
open Go.ConcN (WgLive)
open Go.ConcR (KK WgAt stA smA rd wr mk DC0)
variable {L:WgLink}
section
variable (P:aE)(dj:ar->ar->Prop)(L:WgLink)(bn:Nat)(hv:ai)
def Ad(b:ai)(_:ar):Prop:=b.status=.running/\∃a,(∀d,aq P l b d=.go a d #[mk .enable])/\∀w1,WgLive L.tWg bn w1->∃e,Goes P l dj DC0 (λb _=>b=hv) e a w1
def RK(d:ai)(_:ar):Prop:=d.status=.running/\∃b a,a.block=bn/\(∀e,aq P l d e=.go b e #[mk (.read a)])/\∀w1,WgLive L.tWg bn w1->∃g,Goes P l dj DC0 (Ad P dj L bn hv) g b w1
def FO(b:ai)(a:ar):Prop:=b.status=.running/\∀e:Nat,e<2147483647->WgAt L.tWg bn a (e*KK) 0 ->
 ∃d,aq P l b a=.go d (a.setCell (stA bn) (.int .u64 ((e+1)*KK))) #[rd (stA bn),wr (stA bn)]/\∃g,Goes P l dj DC0 (λb a=>RK P dj L bn hv b a∨Ad P dj L bn hv b a) g d (a.setCell (stA bn) (.int .u64 ((e+1)*KK)))
def RJ(b:ai)(_:ar):Prop:=b.status=.running/\∃a,(∀d,aq P l b d=.go a d #[mk .disable])/\∀w1,WgLive L.tWg bn w1->∃e,Goes P l dj DC0 (FO P dj L bn hv) e a w1
end
set_option maxRecDepth 100000 in
def R6{P}(H:WgLib P L){dj:ar->ar->Prop}{bn}(d:∀{g w1},WgLive L.tWg bn g->dj g w1->WgLive L.tWg bn w1){hO:aG}{hN}{gl:Array ao}{hR:Nat}{hV:m Nat}{hT:m Item}(g:ar)(b:WgLive L.tWg bn g):
  Goes P l dj DC0 (RJ P dj L bn (G (hO.at (hN.put ((gl[hR]?).bind (·.dst)) (.tuple #[])) (.inRegion gl hV::hT)) ag)) 12
   (G ((base L.add).at ⟨#[.pointer (f ⟨bn,0,n⟩),.int .i64 1,I,I,I,I,I,I,I,I,I,I,I,I,I,I,I,I,I,I,I,I,I,I,I,I,I,I,I,I,I,I,I,I,I,I,I,I,I,I,I,I,I,I,I,I,I,I,I,I,I,I,I,I,I,I,I,I,I,I,I,I,I,I,I,I,I,I,I,I,I,I,I,I,I,I,I,I,I,I,I,I,I,I,I,I,I,I,I,I,I,I,I,I,I,I,I,I,I,I,I,I,I,I,I,I,I,I,I,I,I,I,I,I,I,I,I],[]⟩ [.code (body_add L)]) (hO.at hN (.inRegion gl (hR::hV)::hT)::ag)) g:=by
 lib_facts
 simp only[body_add,addFn,h3]
 repeat (u_c aw d b)
 u_cond l d b
 repeat (u_c aw d b)
 u_reg d b
 u_op d b
 u_op d b
 u_c aC d b
 repeat (u_c aw d b)
 u_cond v d b
 u_c stepG_skip d b
 repeat (u_c aw d b)
 u_reg d b
 refine Goes.stop (λy k=>?_);refine⟨a,_,λg=>stepG_mark0 .disable C a a (by k_ne) a H.f_disable (x_disable_n L) (x_disable_b L) (x_disable_x L) (x_disable_f L),λg b=>?_⟩;clear k;refine⟨40,?_⟩
 walk_nrm
 u_c aC d b
 repeat (u_c aw d b)
 u_reg d b
 u_defer d b
 u_c aC d b
 repeat (u_c aw d b)
 u_reg d b
 u_op d b
 u_c aC d b
 repeat (u_c aw d b)
 u_reg d b
 u_bub d b
 u_c aC d b
 repeat (u_c aw d b)
 u_cond v d b
 u_c stepG_skip d b
 repeat (u_c aw d b)
 u_reg d b
 u_op d b
 u_op d b
 u_op d b
 u_op d b
 u_op d b
 u_op d b
 u_call H.f_uAdd (nm_uAdd L) uAddFn d b
 repeat (u_c aw d b)
 u_reg d b
 u_op d b
 u_c aC d b
 repeat (u_c aw d b)
 u_reg d b
 u_op d b
 u_op d b
 u_op d b
 u_op d b
 refine Goes.stop (λo j=>?_);replace b:=d b j;clear j;refine⟨a,λe B h=>?_⟩;have t:KK=4294967296:=rfl;have w:IntKind.u64.wrap ((e:Int)*KK+4294967296)=((e:Int)+1)*KK:=by rw[IntKind.wrap_u64];simp only[t];omega
 refine⟨_,(stepG_add_atomic a a (by k_ne) a H.f_addU64 (x_addU64_n L) (x_addU64_b L) (x_addU64_x L) .u64 (x_addU64_f L) a a h.cellSt (h.thaw 0)).trans (by rw[w];rfl),110,?_⟩;replace b:WgLive L.tWg bn (o.setCell (stA bn) (.int .u64 (((e:Int)+1)*KK))):=⟨_,_,h.setSt _⟩
 clear h
 walk_nrm
 u_op d b
 u_c aC d b
 u_c stepG_ret' d b
 u_leave1 H.f_uAdd d b
 u_op d b
 u_c aC d b
 have p:bits .and .u64 (((e:Int)+1)*4294967296) 2147483648=0:=by have:=Go.ConcN.st_flag (e+1) 0 u u;grind
 have q:bits .and .u64 (((e:Int)+1)*4294967296) 2147483647=0:=by have:=Go.ConcN.st_waiters (e+1) 0 u u;grind
 have f3:((e:Int)+1+2147483648) % 4294967296-2147483648=(e:Int)+1:=u;have f5:¬((e:Int)+1<0):=u;have f6:(0:Int)<(e:Int)+1:=u
 repeat (u_c aw d b)
 u_reg d b
 u_op d b
 u_op d b
 u_op d b
 u_op d b
 u_skip d b
 u_skip d b
 u_op d b
 u_c aC d b
 repeat (u_c aw d b)
 u_cond v d b
 u_c stepG_skip d b
 repeat (u_c aw d b)
 u_reg d b
 u_op d b
 u_op d b
 u_op d b
 u_op d b
 u_c aC d b
 repeat (u_c aw d b)
 u_reg d b
 u_op d b
 u_op d b
 u_op d b
 u_op d b
 u_c aC d b
 by_cases A:(e:Int)+1=1
 .repeat (u_c aw d b)
  u_reg d b
  u_op d b
  u_op d b
  u_op d b
  u_op d b
  u_op d b
  u_op d b
  u_op d b
  u_op d b
  u_op d b
  u_op d b
  u_c aC d b
  repeat (u_c aw d b)
  u_cond l d b
  repeat (u_c aw d b)
  u_reg d b
  u_op d b
  u_op d b
  u_op d b
  u_conv H.underlying_tPU32 H.room_tU32 (Go.ConcN.Gen.WgLive.cell1 b).choose_spec d b
  refine Goes.stop (λx r=>.inl ?_);clear r;refine⟨a,_,⟨bn,1,n⟩,a,λg=>stepG_markAt .read C a a (by k_ne) a H.f_raceRead (x_raceRead_n L) (x_raceRead_b L) (x_raceRead_x L) (x_raceRead_f L) (ad:=⟨bn,1,n⟩) (by simp[Act.eval]),λg b=>⟨50,?_⟩⟩
  walk_nrm
  u_c aC d b
  repeat (u_c aw d b)
  u_reg d b
  u_op d b
  u_op d b
  u_c aC d b
  repeat (u_c aw d b)
  u_cond v d b
  u_c stepG_skip d b
  repeat (u_c aw d b)
  u_reg d b
  u_op d b
  u_op d b
  u_op d b
  u_skip d b
  u_skip d b
  u_op d b
  u_op d b
  u_skip d b
  u_skip d b
  u_skip d b
  u_skip d b
  u_op d b
  u_c aC d b
  repeat (u_c aw d b)
  u_cond v d b
  u_c stepG_skip d b
  repeat (u_c aw d b)
  u_reg d b
  u_op d b
  u_op d b
  u_op d b
  u_skip d b
  u_skip d b
  u_op d b
  u_c aC d b
  repeat (u_c aw d b)
  u_cond l d b
  u_c stepG_ret' d b
  refine Goes.stop (λs i=>?_);clear i;refine⟨a,_,λg=>stepG_unwind_entry (v:=.tuple #[]) (evs:=#[mk .enable]) a H.f_enable (x_enable_n L) (x_enable_b L) (x_enable_x L) (x_enable_f L) (by simp[Extern.Race.none_]) we we,λg b=>⟨1,?_⟩⟩
  u_leave0 H.f_add d b
  grind[Goes.stop]
 have z:((e:Int)+1==1)=v:=M
 repeat (u_c aw d b)
 u_reg d b
 u_op d b
 u_op d b
 u_op d b
 u_op d b
 u_op d b
 u_op d b
 u_op d b
 u_op d b
 u_op d b
 u_op d b
 u_c aC d b
 repeat (u_c aw d b)
 u_cond v d b
 u_c stepG_skip d b
 repeat (u_c aw d b)
 u_reg d b
 u_op d b
 u_op d b
 u_c aC d b
 repeat (u_c aw d b)
 u_cond v d b
 u_c stepG_skip d b
 repeat (u_c aw d b)
 u_reg d b
 u_op d b
 u_op d b
 u_op d b
 u_skip d b
 u_skip d b
 u_op d b
 u_op d b
 u_skip d b
 u_skip d b
 u_skip d b
 u_skip d b
 u_op d b
 u_c aC d b
 repeat (u_c aw d b)
 u_cond v d b
 u_c stepG_skip d b
 repeat (u_c aw d b)
 u_reg d b
 u_op d b
 u_op d b
 u_op d b
 u_skip d b
 u_skip d b
 u_op d b
 u_c aC d b
 repeat (u_c aw d b)
 u_cond l d b
 u_c stepG_ret' d b
 refine Goes.stop (λs i=>.inr ?_);clear i;refine⟨a,_,λg=>stepG_unwind_entry (v:=.tuple #[]) (evs:=#[mk .enable]) a H.f_enable (x_enable_n L) (x_enable_b L) (x_enable_x L) (x_enable_f L) (by simp[Extern.Race.none_]) we we,λg b=>⟨1,?_⟩⟩
 u_leave0 H.f_add d b
 grind[Goes.stop]
end
section
open Go.Conc Go.RowKit Go.Conc.Lib Go.ConcR.Gen
open Go.ConcN (WgLive)
open Go.ConcR (KK WgAt stA smA rd wr mk DC0)
section
variable (P:aE)(dj:ar->ar->Prop)(L:WgLink)(bn:Nat)(hv:ai)(w:ai->Prop)
def FP(b:ai)(_:ar):Prop:=b.status=.running/\∃a,(∀d,aq P l b d=.go a d #[mk (.acquire (stA bn))])/\∀w1,WgLive L.tWg bn w1->∃e,Goes P l dj DC0 (λb _=>b=hv) e a w1
def Ae(b:ai)(_:ar):Prop:=b.status=.running/\∃a,(∀d,aq P l b d=.go a d #[mk .enable])/\∀w1,WgLive L.tWg bn w1->∃e,Goes P l dj DC0 (FP P dj L bn hv) e a w1
def FS(d:ai)(b:ar):Prop:=d.status=.running/\(WgAt L.tWg bn b 0 0->∃a,aq P l d b=.go a b #[rd (stA bn)]/\∃e,Goes P l dj DC0 (Ae P dj L bn hv) e a b)
def FR(b:ai)(a:ar):Prop:=b.status=.running/\b.offers=n/\((∃e,WgAt L.tWg bn a e 0)->aq P l b a=.go {b with status:=.blocked} a #[]) /\
 (WgAt L.tWg bn a 0 1->∃d,aq P l b a=.go d (a.setCell (smA bn) (.int .u32 0)) (semEvents (smA bn))/\∃g,Goes P l dj DC0 (FS P dj L bn hv) g d (a.setCell (smA bn) (.int .u32 0)))
def FT(d:ai)(_:ar):Prop:=d.status=.running/\∃b a,a.block=bn/\(∀e,aq P l d e=.go b e #[mk (.write a)])/\∀w1,WgLive L.tWg bn w1->∃g,Goes P l dj DC0 (FR P dj L bn hv) g b w1
def FQ(y:Nat)(e:ai)(b:ar):Prop:=e.status=.running/\∀d:Nat,d<2147483648->WgAt L.tWg bn b (d*KK) 0 ->
 (d=y->∃a,aq P l e b=.go a (b.setCell (stA bn) (.int .u64 (d*KK+1))) #[rd (stA bn),wr (stA bn)]/\∃g,Goes P l dj DC0 (FT P dj L bn hv) g a (b.setCell (stA bn) (.int .u64 (d*KK+1)))) /\
 (d≠y->∃a,aq P l e b=.go a b #[rd (stA bn)]/\∃g,Goes P l dj DC0 (λe _=>w e) g a b)
def RM(g:ai)(d:ar):Prop:=g.status=.running/\∀b:Nat,b<2147483648->WgAt L.tWg bn d (b*KK) 0 ->
 ∃a,aq P l g d=.go a d #[rd (stA bn)]/\(b=0->∃e,Goes P l dj DC0 (Ae P dj L bn hv) e a d)/\(b≠0->∃e,Goes P l dj DC0 (FQ P dj L bn hv w b) e a d)
def RL(b:ai)(_:ar):Prop:=b.status=.running/\∃a,(∀d,aq P l b d=.go a d #[mk .disable])/\∀w1,WgLive L.tWg bn w1->∃e,Goes P l dj DC0 (λb _=>w b) e a w1
end
def qZ(L:WgLink)(b:Nat)(e:aG)(d:m aG)(g:ai):Prop:=
 ∃a:Array X,g=G ((base L.wait).at ⟨a,[]⟩ [.code (L7 L),.inLoop (L7 L),.inBlock 0]) (e::d)/\a.size=84/\a[0]?=f (.pointer (f ⟨b,0,n⟩))
set_option maxRecDepth 100000 in
def adE{L}(H:WgLib P L){dj:ar->ar->Prop}{bn}(d:∀{e w1},WgLive L.tWg bn e->dj e w1->WgLive L.tWg bn w1){r}(e)(b:WgLive L.tWg bn e):
  Goes P l dj DC0 (RL P dj L bn (qZ L bn r ag)) 6 (G ((base L.wait).at ⟨#[.pointer (f ⟨bn,0,n⟩),I,I,I,I,I,I,I,I,I,I,I,I,I,I,I,I,I,I,I,I,I,I,I,I,I,I,I,I,I,I,I,I,I,I,I,I,I,I,I,I,I,I,I,I,I,I,I,I,I,I,I,I,I,I,I,I,I,I,I,I,I,I,I,I,I,I,I,I,I,I,I,I,I,I,I,I,I,I,I,I,I,I,I],[]⟩ [.code (body_wait L)]) (r::ag)) e:=by
 lib_facts
 unfold qZ;simp only[L7,body_wait,waitFn,h3]
 repeat (u_c aw d b)
 u_cond l d b
 repeat (u_c aw d b)
 u_reg d b
 refine Goes.stop (λh g=>?_);clear g;refine⟨a,_,λe=>stepG_mark0 .disable C a a (by k_ne) a H.f_disable (x_disable_n L) (x_disable_b L) (x_disable_x L) (x_disable_f L),λe b=>⟨6,?_⟩⟩
 walk_nrm
 u_c aC d b
 repeat (u_c aw d b)
 u_c stepG_block d b
 u_c stepG_loop d b
 exact Goes.stop λ_ _=>⟨_,a,a,a⟩
end
section
open Go.Conc Go.RowKit Go.Conc.Lib Go.ConcR.Gen
open Go.ConcN (WgLive)
open Go.ConcN.Gen
open Go.ConcR (KK WgAt stA smA rd wr mk DC0)
set_option maxRecDepth 100000 in
def adD{L:WgLink}(H:WgLib P L){dj:ar->ar->Prop}{bn:Nat}(e:∀{h w1},WgLive L.tWg bn h->dj h w1->WgLive L.tWg bn w1){hO:aG}{hN:Act}{gl:Array ao}{hR:Nat}{hV:m Nat}{hT:m Item}(y:ai)(aL:qZ L bn (hO.at hN (.inRegion gl (hR::hV)::hT)) ag y)(h:ar)(b:WgLive L.tWg bn h):
  ∃a',Goes P l dj DC0 (RM P dj L bn (G (hO.at (hN.put ((gl[hR]?).bind (·.dst)) (.tuple #[])) (.inRegion gl hV::hT)) ag) (qZ L bn (hO.at hN (.inRegion gl (hR::hV)::hT)) ag)) a' y h:=by
 lib_facts
 obtain⟨a4,rfl,ba,q⟩:=aL;obtain⟨bk,bl,bm,bo,bp,bq,br,bs,bt,bu,F,I,J,bO,N,bR,bz,Q,R,S,T,bP,U,V,bx,W,X,bJ,Y,Z,aa,ab,bN,ae,bH,bB,af,ah,ak,bF,bD,bE,al,an,aq,bC,O,au,av,ax,aA,aB,aD,aE,bw,aF,aH,aI,bK,aJ,bI,aK,aM,aN,aO,bQ,x,bA,aP,aQ,aR,aS,aT,aU,bL,aV,aY,aZ,K,a0,a1,a2,a3,bG,rfl⟩:=array84 a4 ba;simp only[j8,mf,e1]at q;subst q;refine⟨30,?_⟩;unfold qZ;simp only[L7,body_wait,waitFn,h3]
 u_c stepG_block e b
 repeat (u_c aw e b)
 u_reg e b
 u_op e b
 u_op e b
 u_op e b
 u_call H.f_uLoad (nm_uLoad L) uLoadFn e b
 repeat (u_c aw e b)
 u_reg e b
 u_op e b
 u_c aC e b
 repeat (u_c aw e b)
 u_reg e b
 u_op e b
 u_op e b
 u_op e b
 refine Goes.stop (λbb D=>?_);replace b:=e b D;clear D;refine⟨a,λo a_ g=>?_⟩;rcases nZ o with rfl|A
 .replace g:WgAt L.tWg bn bb 0 0:=M;refine⟨_,stepG_load_atomic (v:=0) a a (by k_ne) a H.f_loadU64 (x_loadU64_n L) (x_loadU64_b L) (x_loadU64_x L) .u64 (x_loadU64_f L) a g.cellSt,λ_=>⟨80,?_⟩,λa9=>absurd a a9⟩;clear g
  walk_nrm
  u_op e b
  u_c aC e b
  u_c stepG_ret' e b
  u_leave1 H.f_uLoad e b
  u_op e b
  u_c aC e b
  repeat (u_c aw e b)
  u_reg e b
  u_op e b
  u_op e b
  u_op e b
  u_op e b
  u_c aC e b
  repeat (u_c aw e b)
  u_reg e b
  u_op e b
  u_op e b
  u_op e b
  u_op e b
  u_c aC e b
  repeat (u_c aw e b)
  u_reg e b
  u_op e b
  u_op e b
  u_c aC e b
  repeat (u_c aw e b)
  u_cond l e b
  repeat (u_c aw e b)
  u_cond l e b
  repeat (u_c aw e b)
  u_reg e b
  refine Goes.stop (λp k=>?_);clear k;refine⟨a,_,λh=>stepG_mark0 .enable C a a (by k_ne) a H.f_enable (x_enable_n L) (x_enable_b L) (x_enable_x L) (x_enable_f L),λh b=>⟨20,?_⟩⟩
  walk_nrm
  u_c aC e b
  repeat (u_c aw e b)
  u_reg e b
  u_op e b
  u_conv H.underlying_tWgP H.room_tWg (Go.ConcN.Gen.WgLive.cell0 b).choose_spec e b
  refine Goes.stop (λp k=>?_);clear k;refine⟨a,_,λh=>stepG_markAt .acquire C a a (by k_ne) a H.f_acquire (x_acquire_n L) (x_acquire_b L) (x_acquire_x L) (x_acquire_f L) EL,λh b=>⟨40,?_⟩⟩
  walk_nrm
  u_c aC e b
  repeat (u_c aw e b)
  u_reg e b
  u_op e b
  u_op e b
  u_op e b
  u_op e b
  u_op e b
  u_op e b
  u_op e b
  u_op e b
  u_skip e b
  u_skip e b
  u_op e b
  u_c aC e b
  repeat (u_c aw e b)
  u_cond v e b
  u_c stepG_skip e b
  u_c stepG_ret' e b
  u_leave0 H.f_wait e b
  grind[Goes.stop]
 obtain⟨i,d⟩:∃i:Int,(o:Int)*KK=i:=⟨_,rfl⟩;have a5:i / 4294967296=(o:Int):=N2
 have a6:bits .and .u64 i 2147483648=0:=by rw[<-d];have:=Go.ConcN.st_flag o 0 u u;simpa[KK]using this
 have a7:bits .and .u64 i 2147483647=0:=by rw[<-d];have:=Go.ConcN.st_waiters o 0 u u;simpa[KK]using this
 have a8:IntKind.i32.wrap (o:Int)=(o:Int):=by grind[IntKind.wrap_i32]
 have w1:IntKind.u64.wrap (i+1)=i+1:=by rw[IntKind.wrap_u64,<-d];simp only[KK];omega
 have bd:decide ((o:Int)<0)=v:=oS u;have bf:decide (0<(o:Int))=l:=fQ u;have bg:((o:Int)==0)=v:=M;have bh:decide ((o:Int)=0)=v:=oS u;rw[d]at g;refine⟨_,stepG_load_atomic (v:=i) a a (by k_ne) a H.f_loadU64 (x_loadU64_n L) (x_loadU64_b L) (x_loadU64_x L) .u64 (x_loadU64_f L) a g.cellSt,λs=>absurd s u,λ_=>⟨80,?_⟩⟩;clear g
 walk_nrm
 u_op e b
 u_c aC e b
 u_c stepG_ret' e b
 u_leave1 H.f_uLoad e b
 u_op e b
 u_c aC e b
 repeat (u_c aw e b)
 u_reg e b
 u_op e b
 u_op e b
 u_op e b
 u_op e b
 u_c aC e b
 repeat (u_c aw e b)
 u_reg e b
 u_op e b
 u_op e b
 u_op e b
 u_op e b
 u_c aC e b
 repeat (u_c aw e b)
 u_reg e b
 u_op e b
 u_op e b
 u_c aC e b
 repeat (u_c aw e b)
 u_cnd v e b
 u_c stepG_skip e b
 repeat (u_c aw e b)
 u_reg e b
 u_op e b
 u_op e b
 u_op e b
 u_op e b
 u_op e b
 u_op e b
 u_call H.f_uCas (nm_uCas L) uCasFn e b
 repeat (u_c aw e b)
 u_reg e b
 u_op e b
 u_c aC e b
 repeat (u_c aw e b)
 u_reg e b
 u_op e b
 u_op e b
 u_op e b
 u_op e b
 u_op e b
 refine Goes.stop (λp k=>?_);replace b:=e b k;clear k;refine⟨a,λt z g=>⟨λw=>?_,λw=>?_⟩⟩
 .subst w;rw[d]at g⊢;refine⟨_,(stepG_cas_hit (v:=i) (n:=i+1) a a (by k_ne) a H.f_casU64 (x_casU64_n L) (x_casU64_b L) (x_casU64_x L) .u64 (x_casU64_f L) a a a g.cellSt (g.thaw 0)).trans oI,90,?_⟩;replace b:WgLive L.tWg bn (p.setCell (stA bn) (.int .u64 (i+1))):=⟨_,_,g.setSt _⟩
  clear g
  walk_nrm
  u_op e b
  u_c aC e b
  u_c stepG_ret' e b
  u_leave1 H.f_uCas e b
  u_c aC e b
  repeat (u_c aw e b)
  u_cond l e b
  repeat (u_c aw e b)
  u_reg e b
  u_op e b
  u_op e b
  u_op e b
  u_op e b
  u_c aC e b
  repeat (u_c aw e b)
  u_cond l e b
  repeat (u_c aw e b)
  u_reg e b
  u_op e b
  u_op e b
  u_op e b
  u_conv H.underlying_tPU32 H.room_tU32 (Go.ConcN.Gen.WgLive.cell1 b).choose_spec e b
  refine Goes.stop (λp k=>?_);clear k;refine⟨a,_,⟨bn,1,n⟩,a,λh=>stepG_markAt .write C a a (by k_ne) a H.f_raceWrite (x_raceWrite_n L) (x_raceWrite_b L) (x_raceWrite_x L) (x_raceWrite_f L) (ad:=⟨bn,1,n⟩) (by simp[Act.eval]),λh b=>⟨60,?_⟩⟩
  walk_nrm
  u_c aC e b
  repeat (u_c aw e b)
  u_reg e b
  u_op e b
  u_c aC e b
  repeat (u_c aw e b)
  u_reg e b
  u_op e b
  u_op e b
  u_op e b
  u_op e b
  u_skip e b
  u_op e b
  u_c aC e b
  repeat (u_c aw e b)
  u_cond v e b
  u_c stepG_skip e b
  repeat (u_c aw e b)
  u_reg e b
  u_op e b
  u_op e b
  u_op e b
  u_op e b
  refine Goes.stop (λbc E=>?_);replace b:=e b E;clear E;refine⟨a,a,λ⟨bj,g⟩=>stepG_semacquire_wait a a a H.f_semacquire (x_semacquire_n L) (x_semacquire_b L) (x_semacquire_x L) (x_semacquire_f L) (by simp[Act.eval,smA]) g.cellSm,λr=>?_⟩;refine⟨_,(stepG_semacquire (n:=1) a a (by k_ne) a H.f_semacquire (x_semacquire_n L) (x_semacquire_b L) (x_semacquire_x L) (x_semacquire_f L) (by simp[Act.eval,smA]) r.cellSm (by k_ne) (r.thaw 1)).trans oI,40,?_⟩;replace b:WgLive L.tWg bn (bc.setCell (smA bn) (.int .u32 0)):=⟨_,_,r.setSm 0⟩
  clear r
  walk_nrm
  u_c aC e b
  repeat (u_c aw e b)
  u_reg e b
  u_op e b
  u_op e b
  u_op e b
  u_call H.f_uLoad (nm_uLoad L) uLoadFn e b
  repeat (u_c aw e b)
  u_reg e b
  u_op e b
  u_c aC e b
  repeat (u_c aw e b)
  u_reg e b
  u_op e b
  u_op e b
  u_op e b
  refine Goes.stop (λbM B=>?_);replace b:=e b B;clear B;refine⟨a,λg=>⟨_,stepG_load_atomic (v:=0) a a (by k_ne) a H.f_loadU64 (x_loadU64_n L) (x_loadU64_b L) (x_loadU64_x L) .u64 (x_loadU64_f L) a g.cellSt,40,?_⟩⟩;clear g
  walk_nrm
  u_op e b
  u_c aC e b
  u_c stepG_ret' e b
  u_leave1 H.f_uLoad e b
  u_op e b
  u_op e b
  u_c aC e b
  repeat (u_c aw e b)
  u_cond l e b
  repeat (u_c aw e b)
  u_reg e b
  refine Goes.stop (λp k=>?_);clear k;refine⟨a,_,λh=>stepG_mark0 .enable C a a (by k_ne) a H.f_enable (x_enable_n L) (x_enable_b L) (x_enable_x L) (x_enable_f L),λh b=>⟨20,?_⟩⟩
  walk_nrm
  u_c aC e b
  repeat (u_c aw e b)
  u_reg e b
  u_op e b
  u_conv H.underlying_tWgP H.room_tWg (Go.ConcN.Gen.WgLive.cell0 b).choose_spec e b
  refine Goes.stop (λp k=>?_);clear k;refine⟨a,_,λh=>stepG_markAt .acquire C a a (by k_ne) a H.f_acquire (x_acquire_n L) (x_acquire_b L) (x_acquire_x L) (x_acquire_f L) EL,λh b=>⟨40,?_⟩⟩
  walk_nrm
  u_c aC e b
  repeat (u_c aw e b)
  u_reg e b
  u_op e b
  u_c aC e b
  repeat (u_c aw e b)
  u_cond v e b
  u_c stepG_skip e b
  u_c stepG_ret' e b
  u_leave0 H.f_wait e b
  grind[Goes.stop]
 refine⟨_,stepG_cas_miss (v:=(t:Int)*KK) (old:=i) (n:=i+1) a a (by k_ne) a H.f_casU64 (x_casU64_n L) (x_casU64_b L) (x_casU64_x L) .u64 (x_casU64_f L) a a a g.cellSt (g.thaw 0) N2,30,?_⟩;clear g
 walk_nrm
 u_op e b
 u_c aC e b
 u_c stepG_ret' e b
 u_leave1 H.f_uCas e b
 u_c aC e b
 repeat (u_c aw e b)
 u_cond v e b
 u_c stepG_skip e b
 u_c stepG_inBlock e b
 u_c stepG_inLoop e b
 exact Goes.stop λ_ _=>⟨_,a,by simp,by simp⟩
end
section
open Go.Conc Go.Conc.Lib
open Go.ConcN (WgLive)
open Go.ConcR (KK WgAt stA smA rd wr mk DC0 Payload)
def fE(b:al)(a:Nat)(d w1:ar):Prop:=WgLive b a d->WgLive b a w1
def fE.refl{ty}{bn}(a):fE ty bn a a:=id
def fE.trans{ty}{bn}{a i r}(b:fE ty bn a i)(d:fE ty bn i r):fE ty bn a r:=λe=>d (b e)
def nO(b:ar->ar->Prop)(a:ai->ar->Prop)(d:ai)(e:ar):Prop:=∀w1,b e w1->a d w1
def Goes.eA{P}{eS}{e:ar->ar->Prop}{x:ar->ar->Array aR->Prop}{a:ai->ar->Prop}(aY:∀k m o,e k m->e m o->e k o):
  ∀{j:Nat} {g:ai} {i:ar},Goes P eS e x a j g i->Goes P eS e x (nO e a) j g i
 |0,g,i,d=>λw1 h w2 b=>d w2 (aY _ _ _ h b)
 |j+1,g,i,d=>by
  rcases d with d|⟨q,d⟩
  .exact .inl λw1 h w2 b=>d w2 (aY _ _ _ h b)
  refine .inr ⟨q,λw1 h=>?_⟩;have b:=d w1 h;cases p:aq P eS g w1 with
  |go s t r=>
   rw[p,goes_go]at b;rw[goes_go];exact⟨b.1,Goes.eA aY b.2⟩
  |_=>rw[p]at b;exact b.elim
structure kU(bn:Nat)(ed:a6->Prop):Prop where
 rely:∀b aB,ed b->cV b aB->ed aB
 heap:∀b,ed b->∃k,bb k b
 iY:∀b,ed b->¬b.own bn/\(∀L∈b.s,bn∉L.aj)/\∀q,b.C bn q=n
section
variable {P:aE}{L:WgLink}{bn:Nat}{ed:a6->Prop}
def ip(b:al)(a:Nat)(e:a6->Prop)(d:a6):Prop:=e d/\WgLive b a d.a
def kU.hz(O:kU bn ed){b}(a:ed b):gv b:=(O.heap b a).choose_spec.mem
def kU.set(O:kU bn ed){b}(i:ed b)(e)(p:e.block=bn)(aa):cV b {b with a:=b.a.setCell e aa}:=by
 obtain⟨q,r,s⟩:=O.iY b i;have g:∀d,d≠bn->(b.a.setCell e aa).heap[d]?=b.a.heap[d]?:=λd h=>by have:=(aside_setCell b.a e aa).block d M;omega
 refine⟨a,a,a,Nat.le_of_eq (aside_setCell b.a e aa).size.symm,λd h=>g d M,λd j o m=>?_,(aside_setCell b.a e aa).os,(aside_setCell b.a e aa).tape,(aside_setCell b.a e aa).output⟩;have k:d≠bn:=M;show(b.a.setCell e aa).cell? _=_;rw[m_ (g d k) j];exact O.hz i d j o m
def kU.next(O:kU bn ed){ty}{b e}(a:ip ty bn ed b)(a9:(ah.aD P ty bn).rely b e):ip ty bn ed e:=⟨O.rely b e a.1 a9.1,a9.2 a.2⟩
def kU.jd(O:kU bn ed){ty}{b}(a:ip ty bn ed b):(ah.aD P ty bn).rely b b:=⟨cV.eo (O.hz a.1),id⟩
def kU.goes(O:kU bn ed){ty}{g:ai->a6->Prop}{Stop:ai->ar->Prop}(o:∀B b,ip ty bn ed b->nO (fE ty bn) Stop B b.a->du (ah.aD P ty bn) (dQ bn) g B b){j}{B}{b}(h:ip ty bn ed b)(k:Goes P l (fE ty bn) DC0 Stop j B b.a):du (ah.aD P ty bn) (dQ bn) g B b:=by refine du.goes (p:=ah.aD P ty bn) (dj:=fE ty bn) (x:=DC0) (Stop:=nO (fE ty bn) Stop) (ip ty bn ed) (λb m d e=>O.next d e) (λb m _ e=>e.2) ?_ (λb d=>O.jd d) o j B b h (Goes.eA (λ_ _ _ q r=>q.trans r) k);rintro b i d s ⟨rfl,rfl⟩;exact⟨a,.inl (.aS (O.heap b d.1).choose_spec)⟩
end
set_option maxRecDepth 100000 in
def Tx{P}{L}(H:WgLib P L){bn}:Frame.enter P L.add #[.pointer (f ⟨bn,0,n⟩),.int .i64 1] .normal=(base L.add).at ⟨#[.pointer (f ⟨bn,0,n⟩),.int .i64 1,I,I,I,I,I,I,I,I,I,I,I,I,I,I,I,I,I,I,I,I,I,I,I,I,I,I,I,I,I,I,I,I,I,I,I,I,I,I,I,I,I,I,I,I,I,I,I,I,I,I,I,I,I,I,I,I,I,I,I,I,I,I,I,I,I,I,I,I,I,I,I,I,I,I,I,I,I,I,I,I,I,I,I,I,I,I,I,I,I,I,I,I,I,I,I,I,I,I,I,I,I,I,I,I,I,I,I,I,I,I,I,I,I,I,I],[]⟩ [.code (Go.ConcR.Gen.body_add L)]:=
 (enter_at (c:=Go.ConcR.Gen.body_add L) _ H.f_add bF).trans bF
set_option maxRecDepth 100000 in
def Ty{P}{L}(H:WgLib P L){bn}:Frame.enter P L.wait #[.pointer (f ⟨bn,0,n⟩)] .normal=(base L.wait).at ⟨#[.pointer (f ⟨bn,0,n⟩),I,I,I,I,I,I,I,I,I,I,I,I,I,I,I,I,I,I,I,I,I,I,I,I,I,I,I,I,I,I,I,I,I,I,I,I,I,I,I,I,I,I,I,I,I,I,I,I,I,I,I,I,I,I,I,I,I,I,I,I,I,I,I,I,I,I,I,I,I,I,I,I,I,I,I,I,I,I,I,I,I,I,I],[]⟩ [.code (Go.ConcR.Gen.body_wait L)]:=
 (enter_at (c:=Go.ConcR.Gen.body_wait L) _ H.f_wait bF).trans bF
section
variable [Payload]{P:aE}{L:WgLink}{J:hL}{ed:a6->Prop}{E j:Nat}{val:Nat->Nat->X}
def R5(H:WgLib P L)(O:kU J.f ed){t}{Next:ai->a6->Prop}{hO:aG}{hN}{gl}{hR}{hV}{hT}{ag}(D:∀b,ip L.tWg J.f ed b->du (ah.aD P L.tWg J.f) (dQ J.f) (wD P L.tWg J E val t Next) (G (hO.at (hN.put ((gl[hR]?).bind (·.dst)) (.tuple #[])) (.inRegion gl hV::hT)) ag) b){b}(g:ip L.tWg J.f ed b):
  du (ah.aD P L.tWg J.f) (dQ J.f) (z7 P L.tWg J E val t Next) (G (Frame.enter P L.add #[.pointer (f ⟨J.f,0,n⟩),.int .i64 1] .normal) (hO.at hN (.inRegion gl (hR::hV)::hT)::ag)) b:=by
 have C:∀h b,ip L.tWg J.f ed b->Ad P (fE L.tWg J.f) L J.f (G (hO.at (hN.put ((gl[hR]?).bind (·.dst)) (.tuple #[])) (.inRegion gl hV::hT)) ag) h b.a->du (ah.aD P L.tWg J.f) (dQ J.f) (z8 P L.tWg J E val t Next) h b:=by rintro h b g ⟨m,d,p,q⟩;refine⟨.leaf,m,d,p,λj k=>?_⟩;have i:=O.next g k;obtain⟨w,o⟩:=q j.a i.2;exact O.goes (λh b g e=>by obtain rfl:=e b.a (.refl _);grind) i o
 have z:∀h b,ip L.tWg J.f ed b->nO (fE L.tWg J.f) (FO P (fE L.tWg J.f) L J.f (G (hO.at (hN.put ((gl[hR]?).bind (·.dst)) (.tuple #[])) (.inRegion gl hV::hT)) ag)) h b.a->du (ah.aD P L.tWg J.f) (dQ J.f) (z4 P L.tWg J E val t Next) h b:=by
  rintro h b g e;refine⟨.leaf,(e b.a (.refl _)).1,λj k x y r=>?_⟩;have i:=O.next g k;obtain⟨d,m,w,o⟩:=(e j.a k.2).2 x y r;have A:ip L.tWg J.f ed {j with a:=j.a.setCell (stA J.f) (.int .u64 ((x+1)*KK))}:=⟨O.rely _ _ i.1 (O.set i.1 _ rfl _),⟨_,_,r.setSt _⟩⟩;refine⟨d,m,O.goes (λh b g e=>?_) A o⟩
  rcases e b.a (.refl _)with e|e
  .obtain⟨m,d,s,p,q,u⟩:=e;refine .step m λj k=>⟨d,j,_,q j.a,.inr ⟨a,s,p,.inl a⟩,?_⟩
   have i:=O.next g k;obtain⟨w,o⟩:=u j.a i.2;exact O.goes (λh b g e=>C h b g (e b.a (.refl _))) i o
  grind
 have r:=R6 (P:=P) (L:=L) H (dj:=fE L.tWg J.f) (bn:=J.f) (λe B=>B e) (hO:=hO) (hN:=hN) (gl:=gl) (hR:=hR) (hV:=hV) (hT:=hT) (ag:=ag) b.a g.2;rw[Tx H];refine O.goes (λh b g e=>?_) g r;obtain⟨m,d,p,q⟩:=e b.a (.refl _);refine⟨.leaf,m,d,p,λj k=>?_⟩;have i:=O.next g k;obtain⟨w,o⟩:=q j.a i.2;exact O.goes z i o
section
variable (P L J ed)
def fN(b a:ai)(d:a6):Prop:=ip L.tWg J.f ed d/\∃e,Goes P l (fE L.tWg J.f) DC0 (λa _=>a=b) e a d.a
def wC(e:aG)(a:m aG)(b:ai)(d:a6):Prop:=ip L.tWg J.f ed d/\∃g,Goes P l (fE L.tWg J.f) DC0 (λb _=>qZ L J.f e a b) g b d.a
end
variable {hO:aG}{hN:Act}{gl:Array ao}{hR:Nat}{hV:m Nat}{hT:m Item}{ag:m aG}
omit [Payload]in
def Sc(H:WgLib P L)(O:kU J.f ed){r x:ai->a6->Prop}(E:∀B b,fN P L J ed (G (hO.at (hN.put ((gl[hR]?).bind (·.dst)) (.tuple #[])) (.inRegion gl hV::hT)) ag) B b->r B b)(K:∀B b,wC P L J ed (hO.at hN (.inRegion gl (hR::hV)::hT)) ag B b->x B b){B}{b}(g:wC P L J ed (hO.at hN (.inRegion gl (hR::hV)::hT)) ag B b):
  du (ah.aD P L.tWg J.f) (dQ J.f) (q0 P L.tWg J r x) B b:=by
 generalize u:hO.at hN (.inRegion gl (hR::hV)::hT)=T at *;generalize aL:G (hO.at (hN.put ((gl[hR]?).bind (·.dst)) (.tuple #[])) (.inRegion gl hV::hT)) ag=m at E;have M:∀B b,ip L.tWg J.f ed b->nO (fE L.tWg J.f) (FP P (fE L.tWg J.f) L J.f m) B b.a->du (ah.aD P L.tWg J.f) (dQ J.f) (z5 P L.tWg J r) B b:=by intro B b h g;obtain⟨k,d,s,t⟩:=g b.a (.refl _);exact⟨.leaf,k,d,s,λi e=>E _ _ ⟨O.next h e,t i.a (O.next h e).2⟩⟩
 have F:∀B b,ip L.tWg J.f ed b->nO (fE L.tWg J.f) (Ae P (fE L.tWg J.f) L J.f m) B b.a->du (ah.aD P L.tWg J.f) (dQ J.f) (wE P L.tWg J r) B b:=by intro B b h g;obtain⟨k,d,s,t⟩:=g b.a (.refl _);refine⟨.leaf,k,d,s,λi e=>?_⟩;obtain⟨p,j⟩:=t i.a (O.next h e).2;exact O.goes M (O.next h e) j
 have Q:∀B b,ip L.tWg J.f ed b->nO (fE L.tWg J.f) (FS P (fE L.tWg J.f) L J.f m) B b.a->du (ah.aD P L.tWg J.f) (dQ J.f) (z_ P L.tWg J r) B b:=by intro B b h g;refine⟨.leaf,(g b.a (.refl _)).1,λi e o=>?_⟩;obtain⟨d,k,p,j⟩:=(g i.a e.2).2 o;exact⟨d,k,O.goes F (O.next h e) j⟩
 have N:∀B b,ip L.tWg J.f ed b->nO (fE L.tWg J.f) (FR P (fE L.tWg J.f) L J.f m) B b.a->du (ah.aD P L.tWg J.f) (dQ J.f) (oK P L.tWg J r) B b:=by intro B b h g;refine⟨.leaf,(g b.a (.refl _)).1,(g b.a (.refl _)).2.1,λi e=>⟨(g i.a e.2).2.2.1,λo=>?_⟩⟩;obtain⟨d,k,p,j⟩:=(g i.a e.2).2.2.2 o;exact⟨d,k,O.goes Q (b:={i with a:=i.a.setCell (smA J.f) (.int .u32 0)}) ⟨O.rely _ _ (O.next h e).1 (O.set (O.next h e).1 _ rfl _),⟨_,_,o.setSm 0⟩⟩ j⟩
 have S:∀B b,ip L.tWg J.f ed b->nO (fE L.tWg J.f) (FT P (fE L.tWg J.f) L J.f m) B b.a->du (ah.aD P L.tWg J.f) (dQ J.f) (oK P L.tWg J r) B b:=by
  intro B b h g;obtain⟨k,d,z,s,t,D⟩:=g b.a (.refl _);refine .step k λi e=>⟨d,i,_,t i.a,.inr ⟨a,z,s,.inr a⟩,?_⟩
  obtain⟨p,j⟩:=D i.a (O.next h e).2;exact O.goes N (O.next h e) j
 have R:∀q B b,ip L.tWg J.f ed b->nO (fE L.tWg J.f) (FQ P (fE L.tWg J.f) L J.f m (qZ L J.f T ag) q) B b.a->du (ah.aD P L.tWg J.f) (dQ J.f) (z9 P L.tWg J r x q) B b:=by
  intro y B b h g;refine⟨.leaf,(g b.a (.refl _)).1,λi e q w o=>⟨λA=>?_,λA=>?_⟩⟩
  .obtain⟨d,k,p,j⟩:=((g i.a e.2).2 q w o).1 A;exact⟨d,k,O.goes S (b:={i with a:=i.a.setCell (stA J.f) (.int .u64 (q*KK+1))}) ⟨O.rely _ _ (O.next h e).1 (O.set (O.next h e).1 _ rfl _),⟨_,_,o.setSt _⟩⟩ j⟩
  obtain⟨d,k,p,j⟩:=((g i.a e.2).2 q w o).2 A;exact⟨d,k,K _ _ ⟨O.next h e,p,j⟩⟩
 obtain⟨h,p,j⟩:=g;refine O.goes (λB b h g=>?_) h j;obtain⟨p,o⟩:=adD (P:=P) (L:=L) H (dj:=fE L.tWg J.f) (bn:=J.f) (λg U=>U g) (hO:=hO) (hN:=hN) (gl:=gl) (hR:=hR) (hV:=hV) (hT:=hT) (ag:=ag) B (by rw[u];exact g b.a (.refl _)) b.a h.2;rw[u,aL]at o;refine O.goes (λB b h g=>?_) h o;refine⟨.leaf,(g b.a (.refl _)).1,λi e q w o=>?_⟩;obtain⟨d,k,s,t⟩:=(g i.a e.2).2 q w o;refine⟨d,k,λC=>?_,λI=>?_⟩
 .obtain⟨p,j⟩:=s C;exact O.goes F (O.next h e) j
 obtain⟨p,j⟩:=t I;exact O.goes (R q) (O.next h e) j
omit [Payload]in
def adC(H:WgLib P L)(O:kU J.f ed){r}{h:ai->a6->Prop}(K:∀d b,wC P L J ed r ag d b->h d b){b}(a:ip L.tWg J.f ed b):
  du (ah.aD P L.tWg J.f) (dQ J.f) (z6 P L.tWg J h) (G (Frame.enter P L.wait #[.pointer (f ⟨J.f,0,n⟩)] .normal) (r::ag)) b:=by have p:=adE (P:=P) (L:=L) H (dj:=fE L.tWg J.f) (bn:=J.f) (λg o=>o g) (r:=r) (ag:=ag) b.a a.2;rw[Ty H];refine O.goes (λd b a g=>?_) a p;obtain⟨k,e,m,q⟩:=g b.a (.refl _);exact⟨.leaf,k,e,m,λj i=>K _ _ ⟨O.next a i,q j.a (O.next a i).2⟩⟩
end
end
section
open Go.Conc Go.RowKit Go.Conc.Lib Go.ConcR.Gen
open Go.ConcN (WgLive Has RW DWs AtR0 EvW)
open Go.ConcN.Gen
open Go.ConcR (KK WgAt stA smA rd wr mk DC0 Payload)
section
variable {dj:ar->ar->Prop}{x:ar->ar->Array aR->Prop}{Stop O:ai->ar->Prop}
def Goes.hB(k:∀a,dj a a)(u:∀b a,Stop b a->∃h s,aq P v b a=.go h a #[s])(r:∀g b a,O b a->¬Goes P v dj x Stop g b a):
  ∀p g b a,Goes P v dj DC0 O p b a->¬Goes P v dj x Stop g b a
 |0,g,b,a,j,i=>r g b a (j a (k a)) i
 |p+1,g,b,a,j,i=>by
  rcases j with j|⟨_,j⟩
  .grind
  have e:=j a (k a);cases m:aq P v b a with
  |go h d t=>
   rw[m,goes_go]at e;obtain⟨⟨rfl,rfl⟩,o⟩:=e;have q:¬Stop b d:=λw=>by grind
   cases g with
   |zero=>exact q (i d (k d))
   |succ g=>
    rcases i with i|⟨_,i⟩
    .grind
    have k1:=i d (k d);rw[m,goes_go]at k1;exact Goes.hB k u r p g h d o k1.2
  |_=>rw[m]at e;exact e.elim
def Goes.hy(q:∀b,dj b b)(z:∀d b,Stop d b->∃j w,aq P v d b=.go j b #[w])(r:∀e d b,O d b->Goes P v dj x Stop e d b->∀w1,dj b w1->Stop d w1):
  ∀o e d b,Goes P v dj DC0 O o d b->Goes P v dj x Stop e d b->Goes P v dj DC0 Stop o d b
 |0,e,d,b,k,i=>r e d b (k b (q b)) i
 |o+1,e,d,b,k,i=>by
  rcases k with k|⟨u,k⟩
  .exact .inl (r e d b (k b (q b)) i)
  refine .inr ⟨u,λw1 m=>?_⟩;have g:=k w1 m;cases p:aq P v d w1 with
  |go j h y=>
   rw[p,goes_go]at g;rw[goes_go];obtain⟨⟨rfl,rfl⟩,s⟩:=g;have t:¬Stop d h:=λu=>by grind
   refine⟨⟨a,a⟩,?_⟩;cases e with
   |zero=>exact absurd (i h m) t
   |succ e=>
    rcases i with i|⟨_,i⟩
    .grind
    have k1:=i h m;rw[p,goes_go]at k1;exact Goes.hy q z r o e j h s k1.2
  |_=>rw[p]at g;exact g.elim
end
variable [Payload]{L:WgLink}{bn K mZ D:Nat}{val:X}{r:aG}
def RU(P:aE)(d:ai)(_:ar):Prop:=∃b,∀a,aq P v d a=.go b a #[mk .disable]
def RV(P:aE)(L:WgLink)(a g m e h:Nat)(d:X)(j:ai)(b:ar):Prop:=
 (WgLive L.tWg a b/\Has g (h-1) d b)/\∃i,(∀b,aq P v j b=.go i b #[mk (.releaseMerge (stA a))])/\∀b,WgLive L.tWg a b/\Has g (h-1) d b->∃k,Goes P v (RW L.tWg a g m e (h-1)) DC0 (RU P) k i b
set_option maxRecDepth 100000 in
def Th(H:WgLib P L)(d)(b:WgLive L.tWg bn d/\Has K (D-1) val d):
  Goes P v (RW L.tWg bn K j mZ (D-1)) DC0 (RV P L bn K j mZ D val) 23 (G ((baseD L.done).at ⟨#[.pointer (f ⟨bn,0,n⟩),I,I,I],[]⟩ [.code (body_done L)]) (r::ag)) d:=by
 lib_facts
 simp only[body_done,body_add,doneFn,addFn,h3]
 u_reg kn_rely b
 u_op kn_rely b
 u_in kn_rely b
 refine goes_call a a (by k_ne) a H.f_add (nm_add L) a ⟨by u_nil,?_⟩
 walk_nrmf addFn
 repeat (u_c aw kn_rely b)
 u_cond l kn_rely b
 repeat (u_c aw kn_rely b)
 u_reg kn_rely b
 u_op kn_rely b
 u_op kn_rely b
 u_c aC kn_rely b
 repeat (u_c aw kn_rely b)
 u_cond l kn_rely b
 u_reg kn_rely b
 u_op kn_rely b
 u_conv H.underlying_tWgP H.room_tWg (Go.ConcN.Gen.WgLive.cell0 b.1).choose_spec kn_rely b
 refine Goes.stop (λg e=>?_);replace b:=kn_rely b e;clear e;refine⟨b,_,λd=>stepG_markAt .releaseMerge C a a (by k_ne) a H.f_relMerge (x_relMerge_n L) (x_relMerge_b L) (x_relMerge_x L) (x_relMerge_f L) EL,λd b=>⟨10,?_⟩⟩
 walk_nrm
 u_c aC kn_rely b
 repeat (u_c aw kn_rely b)
 u_reg kn_rely b
 exact Goes.stop λg e=>⟨_,λd=>stepG_mark0 .disable C a a (by k_ne) a H.f_disable (x_disable_n L) (x_disable_b L) (x_disable_x L) (x_disable_f L)⟩
def Tg(H:WgLib P L){o}(w:r.mode=.returning)(aY:QuitsD P o 0 (G r ag))(b)(m:WgLive L.tWg bn b/\Has K (D-1) val b):
  Goes P v (RW L.tWg bn K j mZ (D-1)) DC0 (AtR0 P L.tWg bn K j mZ D val) 23 (G ((baseD L.done).at ⟨#[.pointer (f ⟨bn,0,n⟩),I,I,I],[]⟩ [.code (body_done L)]) (r::ag)) b:=by
 have J:=doneN (Own:=λ_ _=>False) (Rd:=λ_ _=>False) (Low:=mZ) (n:=j) H w aY b m;have s:∀h b,AtR0 P L.tWg bn K j mZ D val h b->∃i x,aq P v h b=.go i b #[x]:=λh b g=>by obtain⟨_,_,i,A,_⟩:=g;grind
 have R:(mk (.releaseMerge (stA bn)):aR)≠mk .disable:=we;refine Goes.hy (λb=>.refl b) s ?_ _ _ _ _ (Th H b m) J;intro p h b g d w1 k;obtain⟨m,z,A,y⟩:=g;have u:AtR0 P L.tWg bn K j mZ D val h w1∨∃t,Goes P v (RW L.tWg bn K j mZ (D-1)) (DWs bn (λ_ _=>False) (λ_ _=>False) K j D) (AtR0 P L.tWg bn K j mZ D val) t z w1:=by
  cases p with
  |zero=>exact .inl (d w1 k)
  |succ p=>
   rcases d with d|⟨_,d⟩
   .grind
   grind[goes_go]
 rcases u with g|⟨t,g⟩
 .exact g
 exfalso;obtain⟨Q,F⟩:=y w1 (kn_rely m k);refine Goes.hB (λb=>.refl b) s ?_ _ _ _ _ F g;rintro q C w4 ⟨O,B⟩ d;have e:∀b,¬AtR0 P L.tWg bn K j mZ D val C b:=λb E=>by obtain⟨_,_,M,N,_⟩:=E;grind
 cases q with
 |zero=>exact e w4 (d w4 (.refl w4))
 |succ q=>
  rcases d with d|⟨_,d⟩
  .exact e w4 (d w4 (.refl w4))
  have k1:=d w4 (.refl w4);rw[B w4,goes_go]at k1;have:=(k1.1.2 _ (Array.mem_singleton.2 a)).2.1;exact this a
end
section
open Go.RowKit
open Go.Conc (G solo crowd AtRel Past EvL Leavers)
def a6.bw(b:ar):a6:={s:=[],C:=λa d=>b.cell? ⟨a,d,n⟩,a:=b,own:=λa=>a<b.heap.size}
def bb.bw(d):bb [] (a6.bw d):=⟨λ_ _ _ b=>b,rfl,by simp,by simp[a6.bw],by simp[a6.bw],λe a=>⟨a,by simp[a6.bw]⟩⟩
def abq{m}{r}(e:l' P m r aa b)(k:P.inits.idxOf? m=n)(h)(q:∀a g i,b.C a g=f i->h.cell? ⟨a,g,n⟩=f i):∃d,aq P l (G r []) h=.ended (.done aa) h d/\∀j∈d,∃a g i,j=⟨.cell ⟨a,g,n⟩,v,v⟩/\b.C a g=f i:=by
 obtain⟨fn,s,o⟩:=e.fn;obtain⟨w,u⟩:=o h q;refine⟨seen P r.fn ((results fn r.tmps).events P h #[]),?_,λj t=>u j (Go.Conc.mem_seen t)⟩;have p:P.inits.idxOf? r.fn=n:=by rw[e.jj];exact k
 simp[G,aq,unwind,doReturn,e.mode,e.defers,e.kind,s,w,p,GStep.after]
abbrev ud:=Nat×al×X
abbrev my(a:m ud):m ap:=a.map λb=>.J (ee b.1 b.2.1 b.2.2)
def a6.cR(a:m ud)(d:ar):a6:={s:=a.map λe=>⟨.pointer (f ⟨e.1,0,n⟩),[e.1]⟩,C:=λb g=>if b∈a.map (·.1)then n else d.cell? ⟨b,g,n⟩,a:=d,own:=λb=>b<d.heap.size/\b∉a.map (·.1)}
def bb.cR{gs}{t}(C:(gs.map (·.1)).Nodup)(y:∀d∈gs,t.heap[d.1]?=f (.cells #[d.2.2] d.2.1 (0,0))):bb (my gs) (a6.cR gs t):=by
 have D:∀d∈gs,d.1<t.heap.size:=λd s=>(jd.1 (y d s)).1;have k:∀(e:Nat) L,(a6.cR gs t).s[e]?=f L->∃d,gs[e]?=f d/\L=⟨.pointer (f ⟨d.1,0,n⟩),[d.1]⟩:=λe L m=>by simp[a6.cR,m6,q9]at m;grind
 refine⟨λh z J r=>?_,by simp[a6.cR],λe F L aH g=>?_,λe o L u i w h b j=>?_,λL m h b=>?_,λh b=>⟨b.1,λL m x=>?_⟩⟩
 .simp only[a6.cR]at r;split at r
  .cases r
  exact r
 .obtain⟨d,i,rfl⟩:=k e L g;simp[my,m6,i,lD,e1]at aH;subst aH;have s:=b8 i;refine⟨λh=>if h=d.1 then f (.cells #[d.2.2] d.2.1 (0,0))else n,⟨a,bo a,λh b=>bm b⟩,λh z b=>?_,λh=>?_,λh b z=>?_⟩
  .simp only at b;split at b
   .rename_i q;cases b;rw[q];exact y d s
   grind
  .by_cases q:h=d.1<;>simp[q]
  rw[gJ]at b;subst b;exact bo (hq.2 ⟨d,s,a⟩)
 .obtain⟨d,p,rfl⟩:=k e L i;obtain⟨E,I,rfl⟩:=k o u w;rw[gJ]at b j;have q:d.1=E.1:=b.symm.trans j;have A:(gs.map (·.1))[e]?=f d.1:=M;have B:(gs.map (·.1))[o]?=f d.1:=M;grind[List.getElem?_inj]
 .obtain⟨e,g⟩:=AB m;obtain⟨d,p,rfl⟩:=k e L g;rw[gJ]at b;subst b;exact D d (b8 p)
 obtain⟨e,g⟩:=AB m;obtain⟨d,p,rfl⟩:=k e L g;rw[gJ]at x;subst x;exact b.2 (hq.2 ⟨d,b8 p,a⟩)
def bb.iZ{gs}(e:bb (my gs) b){a}(h:a∈gs):b.a.heap[a.1]?=f (.cells #[a.2.2] a.2.1 (0,0)):=by
 obtain⟨d,k⟩:=AB h;have aH:(my gs)[d]?=f (.J (ee a.1 a.2.1 a.2.2)):=M;have g:d<c b.s:=by rw[e.len];grind
 obtain⟨i,⟨_,j,_⟩,m,_⟩:=e.box d _ _ aH (bI g);grind
def bl.ja{o}{args}{gs}(i:bl (ah.aF P) o args (my gs) res (λ_=>my gs))(w:P.inits.idxOf? o=n){g}(Q:(gs.map (·.1)).Nodup)(W:∀C∈gs,g.heap[C.1]?=f (.cells #[C.2.2] C.2.1 (0,0)))(af:b4 (my gs) (a6.cR gs g) y args){fw:X->ar->Prop}(ag:∀s m b,bv (my gs) b m (res s)->Below g.heap.size g b.a->∀D,fw m (b.a.at D)):
  ∃S last r k z,runNT P (S+1) (solo (G (Frame.enter P o y.toArray .normal) []) g) #[]=(.ended r k,z)/\runN P S (solo (G (Frame.enter P o y.toArray .normal) []) g)=.next last /\
   step P last=.ended r k/\Go.Conc.Good P fw last r k z:=by
 have T:=bb.cR Q W;have key:=i.2 (a6.cR gs g) y af T (λal b=>∃s m h,al=G h []/\l' P o h m b/\bv (my gs) b m (res s)/\Below g.heap.size g b.a) []
  (λs h m b p q u e=>.stop ⟨s,m,h,rfl,p,q,⟨e.os,e.tape,e.output,e.size,λU N=>by
   by_cases A:U∈gs.map (·.1)
   .obtain⟨C,Z,rfl⟩:=hq.1 A;rw[u.iZ Z,W C Z]
   .exact e.a3 U ⟨N,A⟩⟩⟩)
 have aL:AM.jy (λ_=>False)=λ_=>False:=by funext d;cases d<;>rfl
 obtain⟨t,ao,aq,an,b,V,z,ax,p,q,u,e,aa,ab,aw,⟨s,m,h,rfl,k1,ae,ai⟩⟩:=key.aF (λ_=>False) #[G (Frame.enter P o y.toArray .normal) []] n #[] (λ_=>0) T.mem rfl (Go.Conc.leavers_one P _)
  (by rw[aL];exact Go.Conc.past_nil.mono (gZ _)) ⟨λ_ i=>i.elim,λ_ i=>i.elim,λ_ i=>i.elim,λ_ i=>i.elim⟩ (λaB=>by intro s w;simp[Trace.act?]at w)
 have ak:=Go.Conc.beside_ends (P:=P) (Shun:=AM.jy ao) (B:=b.a.heap.size) (D:=λ_ _ _=>False) (Post:=fw) (λ_ _ _ i=>i.elim) (sl:=V) (n:=0) u e aa (Go.Conc.Goes.stop λw1 B=>by
  obtain⟨D,rfl⟩:=B;obtain⟨M,I,J⟩:=abq k1 w (b.a.at D) (λF r Y R=>q F r Y R);refine⟨a,m,M,I,λA L=>?_,ag s m b ae ai D⟩;obtain⟨F,r,Y,rfl,R⟩:=J A L;refine Go.Conc.evL_cell _ _ (λH=>?_) (gv.lt q R);have:=ab.C F H r
  grind)
 obtain⟨E,last,r,k,t2,O,aA,au,K⟩:=ak;refine⟨t+E,last,r,k,t2,?_,?_,au,K⟩
 .rw[show t+E+1=t+(E+1) by omega];exact(DU t (E+1) p).trans O
 have A:=runNT_fst P t (crowd #[G (Frame.enter P o y.toArray .normal) []] g n) #[];have av:(runNT P t (crowd #[G (Frame.enter P o y.toArray .normal) []] g n) #[]).1=.next (crowd aq b.a V):=by have:runNT P t (crowd #[G (Frame.enter P o y.toArray .normal) []] g n) #[]=_:=p;grind
 grind[Go.Conc.solo_eq_crowd,runN_add]
def Rd.cR{gs}{p}(S:∀a∈gs,p.heap[a.1]?=f (.cells #[a.2.2] a.2.1 (0,0)))(u:∀a∈gs,∃B z,a.2.2=.iface B z){aa}{o}{h j}{b:Nat->m K}(I:∀(g i:Nat)d,(b g)[i]?=f d->∃kd x,d=K.int kd x)(M:Rd (a6.bw p).C aa (.A o h j b)):Rd (a6.cR gs p).C aa (.A v h j b):=by
 obtain⟨T,D,C,k,rfl,r,s,R,N,Q⟩:=M.jM;refine .hQ r s R N λg J i d e=>?_;obtain⟨z,q,y⟩:=Q g J i d e;obtain⟨kd,x,rfl⟩:=I g i d e;cases y with
 |int w=>
  refine⟨_,?_,.int w⟩;have q:p.cell? ⟨C,k+g*h+i,n⟩=f (.int kd x):=q;show(if C∈gs.map (·.1)then n else p.cell? _)=_;rw[bm,q];intro t;obtain⟨a,E,rfl⟩:=hq.1 t;obtain⟨B,z,F⟩:=u a E;simp[aJ,S a E,F]at q;grind
end
section
open Go.ChangeShapes Go.WideShapes Go.ChangeAt Go.RowKit
def aaY{H:Type}{a:al×X->H}{y}{K}{os}{r}{fn}{b}{h:m PathCond}{rk JA handsOn again}{p:ar->Array X->Prop}(aa:∀d g args,d.heap=g.heap->p d args->p g args)(own:ownKnob K.prog.godebug=n)(I:os.Started)(W:K.prog.funcs[r]?=f fn)(M:∃(d:ar) (i:Tape) (e:Input),d.os=os/\(d.forCall i e).Shaped K.prog/\e.vars=[]/\Input.okWide K.prog (d.forCall i e) .any d.heap.size r e /\
   ((b.pre a K.prog fn h rk (d.forCall i e).memory e.args/\p (d.forCall i e).memory e.args)/\sizedMet a K.prog fn (OpenSpec.ofChange b) rk (d.forCall i e).memory e.args)/\y.holds K.prog (lone (Frame.enter K.prog r e.args .normal) [] (d.forCall i e)))(N:∀(k:ar) (base:Nat) (args:Array X) (o q:m (DataW H)) (w:m MemPlace),
   (∀(z:Nat) A t,fn.params[z]?=f A->args[z]?=f t->Value.okWide K.prog k .any base A t) ->
   DataW.Whole a K.prog fn.params.toList b.vars rk k args.toList o q w->k.ShapedOpen K.prog->p k args ->
   ∃u last s g j,runNT K.prog (u+1) (Conc.solo (Conc.G (Frame.enter K.prog r args .normal) []) k) #[]=(.ended s g,j)/\runN K.prog u (Conc.solo (Conc.G (Frame.enter K.prog r args .normal) []) k)=.next last /\
    step K.prog last=.ended s g/\Conc.Good K.prog (λt O=>b.post a K.prog fn rk JA handsOn again k args t O) last s g j):
  ReturnsInLeavingWide y K os r .any (λd args=>(b.pre a K.prog fn h rk d args/\p d args)/\sizedMet a K.prog fn (OpenSpec.ofChange b) rk d args) (b.post a K.prog fn rk JA handsOn again):=by refine returnsInLeavingWide_of_good own I M ?_;intro d i e _ V _ U S ae;obtain⟨_,_,_,Y,R,_,_,_,_,Q⟩:=U;have J:Y=fn:=su (R.symm.trans W);subst J;obtain⟨⟨⟨o,q,w,C,L⟩,F⟩,ab⟩:=S;have T:=DataW.Whole.of_heap (w':=d.forCall i e) oI C;obtain⟨u,last,s,g,j,x,Z,E,B⟩:=N (d.forCall i e) d.heap.size e.args o q w Q T V (aa (d.forCall i e).memory (d.forCall i e) e.args rfl F);exact⟨u,last,s,g,j,x,Z,E,B.mono λt D=>ChangeSpec.post_blind D⟩
def MZ(h){a}{b}{r}(d)(kinds)(e)(i)(iz)(D:r.holds a b)(A:∀x∈d,(r.withDomain x).holds a b)(B:r.wfByText b=l)(y:∀x∈d,(r.withDomain x).wfByText b=l)(u:r.laidByTextAt h a kinds e)(g:r.start=.entering)(k:r.noBlocks=v/\r.again=v)(m:a.checked.prog.mainIs=f (i.1,i.2.toList))(E:(!i.1&&i.2.isEmpty&&!iz)=v)(p:∀j fn,a.checked.prog.funcNamed r.func=f j->a.checked.prog.funcs[j]?=f fn->iz=a.checked.prog.looks []/\∀(z:Nat) s,fn.params[z]?=f s->a.checked.prog.wantsStandIn s=v)(C:l=r.goesBy a.checked.prog):
  Claim7.holds a (.plain b) {stood:={row:=r,standIns:=[],harness:=i,looks:=iz},kinds:=[],alts:=d,goes:=l,laidByText:=l,laidKinds:=kinds,laidTests:=e,laidLooks:=h}:=by
 have o:∀q:OpenClaim,Claim7.isSixth {stood:={row:=q,standIns:=[],harness:=i,looks:=iz},kinds:=[]}=v:=λq=>by exact cS
 refine⟨Claim7.tied_new_at h kinds e (Claim7.new_of_sixth D i iz g k m (o r) p) B,λx t=>?_,u,(λw=>by cases w),C⟩;exact Claim7.tied_new_at h kinds e (Claim7.new_of_sixth (A x t) i iz g k m (o _) p) (y x t)
end
namespace R1
def xR(b:bC)(a:Nat):Int:=(dq b a-97) % 256
def pA(b:bC)(a:Nat):Bool:=(xR b (a-1)+2*xR b (a-2)+3*xR b (a-3)) % 5==0
def lL(b:bC)(a:Nat):Nat->Nat
 |0=>min (a+8) (c b)
 |d+1=>if c b<=a+(7-d)then c b else if pA b (a+(7-d))then a+(7-d)else lL b a d
def en(b:bC)(a:Nat):Nat:=lL b a 5
def H1(o)(a)(d:a<c o):∀b,b<=5->a<lL o a b/\lL o a b<=c o/\lL o a b<=a+8
 |0,_=>by simp only[lL];omega
 |b+1,e=>by
  simp only[lL];split
  .omega
  split
  .omega
  exact H1 o a d b u
theorem rz(o)(a)(b:a<c o):a<en o a/\en o a<=c o/\en o a<=a+8:=H1 o a b 5 u
def k_(a:bC):Nat->Nat->m Nat
 |0,_=>[]
 |d+1,b=>if b<c a then en a b::k_ a d (en a b)else[]
def S4(a:bC):m Nat:=k_ a (c a) 0
def iB(b:bC):Nat->Nat->m bC
 |0,_=>[]
 |d+1,a=>if a<c b then(b.drop a).take (en b a-a)::iB b d (en b a)else[]
def ck(a:bC):m bC:=iB a (c a) 0
def iQ(a:m bC):Option bC:=if fK a.flatten&&(ck a.flatten==a)then f a.flatten else n
def cC(a:bC):Bool:=decide (1<=c a)&&decide (c a<=8)&&dX a
def gj(d:bC):Int:=d.foldl (λb a=>27*b+((a.toNat:Int)-97) % 256+1) 0
def cj(a:Int):Bool:=decide (1<=a)&&decide (a<=99)
def dY(a:Int)(b:bC):Int:=(gj b*(2*a+1)+a*7919) % 999999999989
def fa(a:Nat):Nat:=if a<1∨8<a then 0 else if a<=2 then 2 else if a<=4 then 4 else 8
def fJ(a:bC):bC:=if cC a then a++aW (fa (c a)-c a) 46 else[]
def fm(a:bC):bC:=(a.reverse.dropWhile (·==46)).reverse
def hJ(a:bC):Option bC:=if cC (fm a)&&(fJ (fm a)==a)then f (fm a)else n
abbrev cX:=Int×bC
abbrev b':=Int×m cX
def right(b:Int)(a:cX):Bool:=match hJ a.2 with|some d=>dY b d==a.1|none=>v
def D_(b:m Int):Bool:=(az (c b)).all λa=>a==0||decide (b.getD (a-1) 0<b.getD a 0)
def ia(b:Int)(a:b'):Bool:=
 decide (1<=a.1)&&decide (a.1<=99)&&cj b&&decide (1<=c a.2)&&decide (c a.2<=4)&&a.2.all (right b)&&D_ (a.2.map (·.1))
def iO(a:Int)(d:cX):Option bC:=match hJ d.2 with|some b=>if cj a&&(dY a b==d.1)then f b else n|none=>n
def fS(b:Int)(e:b')(d:Int):Option bC:=match e.2.find? (λa=>a.1==d)with|some a=>iO b a|none=>n
def hI(b:b')(a:m Int):b':=(b.1,b.2.filter λd=>a.contains d.1)
def fB(e:m cX)(a:cX):m cX:=match e with
 |[]=>[a]
 |b::d=>if a.1<b.1 then a::b::d else b::fB d a
def jP(a e:Int)(b:m bC):b':=(a,b.foldl (λg d=>fB g (dY e d,fJ d)) [])
abbrev fg:=Int×Int
def fX(a:fg):Bool:=decide (0<=a.1)&&decide (a.1<999999999989)&&decide (1<=a.2)&&decide (a.2<=99)
def ea(e:m fg)(a:fg):m fg:=match e with
 |[]=>[a]
 |b::d=>if b.1<a.1 then b::ea d a else a::(b::d).filter (λg=>!(g.1==a.1))
def iW(b:m fg)(d:Int):Int:=match b.find? (λa=>a.1==d)with|some a=>a.2|none=>0
def dE(b:m b'):m fg:=b.flatMap λa=>a.2.map λd=>(d.1,a.1)
def eB(a:m b'):m fg:=if(dE a).all fX then(dE a).foldl ea []else[]
abbrev mY:=bC×m Int
abbrev eK:=Int×m mY
def kN(b:Int)(a:c7):mY:=(a.1,(ck a.2).map (dY b))
def fW(a b:Int)(d:m c7):eK:=(a,d.map (kN b))
def e6(d:Int)(e:m fg)(a:m bC)(b:bC):m bC:=if iW e (dY d b)==0&&!a.contains b then a++[b]else a
def fV(b:Int)(e:m c7)(d:m fg):m bC:=(e.flatMap λa=>ck a.2).foldl (e6 b d) []
def dg(b:Int)(a:m b')(d:Int):Option bC:=a.findSome? λe=>fS b e d
def qv{b}(e:dX b=l):∀a∈b,97<=a.toNat/\a.toNat<=122:=by intro a d;have:=aX.1 e a d;simpa[jp]using this
def BL:∀(e:bC) (a d:Int)(h:Nat),(∀b∈e,97<=b.toNat/\b.toNat<=122)->0<=a->a<d->1<=d ->
  0<=e.foldl (λa b=>27*a+((b.toNat:Int)-97) % 256+1) a/\e.foldl (λa b=>27*a+((b.toNat:Int)-97) % 256+1) a<d*27 ^ c e
 |[],a,d,_,_,j,i,_=>by grind
 |b::e,a,d,h,g,j,i,p=>by obtain⟨o,k⟩:=g b C;have:=BL e (27*a+((b.toNat:Int)-97) % 256+1) (d*27) h (λm q=>g m M) u u u;grind[Int.mul_assoc]
def Lo:∀{j:Nat},j<=8->(27:Int) ^ j<=282429536481:=by
 intro j a
 match j,a with
 |0,_|1,_|2,_|3,_|4,_|5,_|6,_|7,_|8,_=>decide
def xx{b:bC}(d:cC b=l):0<=gj b/\gj b<282429536481:=by simp[cC,cn,bw]at d;obtain⟨e,a⟩:=BL b 0 1 0 (qv d.2) u u u;have:=Lo d.1.2;rw[Int.one_mul]at a;exact⟨e,Int.lt_of_lt_of_le a this⟩
def S0:∀a:Fin 200,a.val≠0->Nat.gcd 999999999989 a.val=1:=aee
def ZO{w:Nat}{P r a}(b:P=(w:Int))(g:P ∣ r*a)(i:0<r)(k:r<P)(h:Nat.gcd w a.natAbs=1):False:=by
 subst b;have e:w ∣ r.natAbs*a.natAbs:=by have:=Int.natAbs_dvd_natAbs.2 g;grind[Int.natAbs_mul,Int.natAbs_natCast]
 have d:w ∣ r.natAbs:=Nat.Coprime.dvd_of_dvd_mul_right h e;have j:=Nat.le_of_dvd u d;omega
def Tu{a b P:Int}(d:a % P=b % P):P ∣ a-b:=Int.dvd_of_emod_eq_zero (by rw[Int.sub_emod,d,Int.sub_self,Int.zero_emod])
def o1(b:bC):Int:=b.foldr (λa d=>27*d+((a.toNat:Int)-97) % 256+1) 0
def HF:∀a:bC,0<=o1 a
 |[]=>by simp[o1]
 |b::a=>by have:=HF a;simp[o1,List.foldr_cons]at *;omega
def HE:∀{S bi:bC},(∀a∈S,97<=a.toNat/\a.toNat<=122)->(∀a∈bi,97<=a.toNat/\a.toNat<=122)->o1 S=o1 bi->S=bi
 |[],[],_,_,_=>rfl
 |[],r::bi,_,b,d|r::bi,[],b,_,d=>by have:=HF bi;simp[o1,List.foldr_cons,List.foldr_nil]at *;omega
 |a::S,r::bi,g,b,d=>by have j:=g a C;have k:=b r C;have h:=HE (S:=S) (bi:=bi) (λe i=>g e M) (λe i=>b e M);simp[o1,List.foldr_cons]at d h;grind[UInt8.toNat_inj]
def SU{a d}(g:cC a=l)(h:cC d=l)(j:gj a=gj d):a=d:=by
 have i:∀a,gj a=o1 a.reverse:=λa=>by simp[gj,o1,List.foldr_reverse]
 simp[cC,cn]at g h;rw[i,i]at j;exact List.reverse_inj.1 (HE (λe b=>qv g.2 e (List.mem_reverse.1 b)) (λe b=>qv h.2 e (List.mem_reverse.1 b)) j)
def yE(o:cj h=l){j k}(p:cC j=l)(q:cC k=l)(i:dY h j=dY h k):j=k:=by
 refine SU p q ?_;simp[cj,cn,bw]at o;obtain⟨r,m⟩:=xx p;obtain⟨g,d1⟩:=xx q;have key:∀d e:Int,0<=d->0<=e->d<282429536481->d>e->(d*(2*h+1)+h*7919) % 999999999989=(e*(2*h+1)+h*7919) % 999999999989->False:=by intro d e z y x t i;have b:=Tu i;rw[show(d*(2*h+1)+h*7919)-(e*(2*h+1)+h*7919)=(d-e)*(2*h+1) by grind]at b;have s:(2*h+1).natAbs<200:=u;exact ZO (w:=999999999989) a b u u (S0 ⟨_,s⟩ M)
 rcases Int.lt_trichotomy (gj j) (gj k)with b|b|b
 .exact(key _ _ g r d1 b i.symm).elim
 .exact b
 exact(key _ _ r g m b i).elim
theorem ab6{a}(h:dX a=l)(j):fm (a++aW j 46)=a:=by
 have i:∀j,List.dropWhile (·==46) ((aW j (46:UInt8))++a.reverse)=a.reverse:=by
  intro j;induction j with
  |zero=>
   simp[List.replicate_zero,pW];cases k:a.reverse with
   |nil=>rfl
   |cons b m=>
    have g:b∈a:=List.mem_reverse.1 M;have:=qv h b g;have d:(b==46)=v:=by simp[e0];rintro rfl;grind
    simp[d]
  |succ j e=>simpa[List.replicate_succ]using e
 unfold fm;grind
def aab{a}(b:cC a=l):hJ (fJ a)=f a:=by
 have e:dX a=l:=by simp[cC,cn]at b;exact b.2
 have g:fJ a=a++aW (fa (c a)-c a) 46:=by simp[fJ,b]
 have d:fm (fJ a)=a:=by grind[ab6]
 simp[hJ,d,b]
def ju(a:m cX)(b d:Nat):m cX:=(a.set b (a.getD d (0,[]))).set d (a.getD b (0,[]))
def nx(a:m cX)(b d:Nat):Bool:=decide ((a.getD b (0,[])).1<(a.getD d (0,[])).1)
def i7:Nat->m cX->Nat->m cX
  |0,b,_=>b
  |d+1,b,a=>if(a-1) / 2=a then b else if nx b a ((a-1) / 2)=l then i7 d (ju b ((a-1) / 2) a) ((a-1) / 2)else b
def jn(b:m cX)(a d:Nat):Nat:=if 2*a+2<d/\nx b (2*a+2) (2*a+1)=l then 2*a+2 else 2*a+1
def g':Nat->m cX->Nat->Nat->m cX
  |0,a,_,_=>a
  |e+1,a,b,d=>if d<=2*b+1 then a else if nx a (jn a b d) b=l then g' e (ju a b (jn a b d)) (jn a b d) d else a
def hK(a:m cX)(b:cX):m cX:=i7 (c a+1) (a++[b]) (c a)
def hf(a:m cX):m cX:=g' (c a) (ju a 0 (c a-1)) 0 (c a-1)
def kR:Nat->m cX->m cX
  |0,_=>[]
  |b+1,a=>if c a=0 then[]else(hf a).getD (c a-1) (0,[])::kR b ((hf a).take (c a-1))
def l4(a:m cX):m cX:=kR (c a) (a.foldl hK [])
theorem px(d)(e t):c (ju d e t)=c d:=by simp[ju]
def M':∀a b d,c (i7 a b d)=c b
  |0,_,_=>rfl
  |a+1,b,d=>by unfold i7;split;rfl;split;rw[M' a,px];rfl
def Id:∀a b d e,c (g' a b d e)=c b
  |0,_,_,_=>rfl
  |a+1,b,d,e=>by unfold g';split;rfl;split;rw[Id a,px];rfl
def Lt(d)(a):c (hK d a)=c d+1:=by simp[hK,M']
theorem Ll(d):c (hf d)=c d:=by simp[hf,Id,px]
def ab_{d}(g:e<c d)(h:t<c d){a}:a∈ju d e t->a∈d:=by intro b;unfold ju at b;grind
def DF(a):hK [] a=[a]:=cS
def DG(a b):hK [a] b=if b.1<a.1 then[b,a]else[a,b]:=FE
def Ls(a i b):hK [a,i] b=if b.1<a.1 then[b,i,a]else[a,i,b]:=FE
def aau(b i r a):hK [b,i,r] a=if a.1<i.1 then(if a.1<b.1 then[a,b,r,i]else[b,a,r,i])else[b,i,r,a]:=FE
def DE(a){d a9}{D}(e:c d=j+1)(b:hf d=a9++[D])(g:c a9=j):kR (a+1) d=D::kR a a9:=by rw[kR,bm u,b];grind
def aan(a):kR 1 [a]=[a]:=cS
def Lm(b i):kR 2 [b,i]=[b,i]:=by rw[DE 1 (a9:=[i]) (D:=b) (j:=1) a cS a,aan]
def Ln(b i r):kR 3 [b,i,r]=if i.1<r.1 then[b,i,r]else[b,r,i]:=by rw[DE 2 (a9:=if i.1<r.1 then[i,r]else[r,i]) (D:=b) (j:=2) a (by simp[hf,g',ju,jn,nx];split<;>rfl) (by split<;>rfl)];split<;>rw[Lm]
def aao(d i r b):kR 4 [d,i,r,b]=d::kR 3 (if r.1<i.1 then(if r.1<b.1 then[r,i,b]else[b,i,r])else if i.1<b.1 then[i,b,r]else[b,i,r]):=by rw[DE 3 (a9:=if r.1<i.1 then(if r.1<b.1 then[r,i,b]else[b,i,r])else if i.1<b.1 then[i,b,r]else[b,i,r]) (D:=d) (j:=3) a ?_ (by split<;>split<;>rfl)];by_cases e:r.1<i.1<;>by_cases g:r.1<b.1<;>by_cases h:i.1<b.1<;>simp[hf,g',ju,jn,nx,e,g,h]
theorem aay(d)(r:c d<=4)(i:d.Pairwise λa b=>a.1≠b.1):l4 d=d.foldl fB []:=by
  match d,r with
  |[],_=>rfl
  |[a],_=>exact cS
  |[a,b],_=>
    simp at i;simp[l4,List.foldl,DF,DG,fB,fh,gK];split<;>simp[Lm]
  |[a,b,e],_=>
    simp at i;obtain⟨⟨x,w⟩,y⟩:=i;simp[l4,List.foldl,DF,DG,fB,fh,gK];by_cases o:b.1<a.1<;>by_cases h:e.1<a.1<;>by_cases p:e.1<b.1<;>first|omega |
      (have m:(a.1<b.1)=¬(b.1<a.1):=by grind
       have j:(a.1<e.1)=¬(e.1<a.1):=M;have k:(b.1<e.1)=¬(e.1<b.1):=M
       simp[o,h,p,m,j,k,Ls,Ln,fB])
  |[a,b,e,g],_=>
    simp at i;obtain⟨⟨x,w,y⟩,⟨C,D⟩,B⟩:=i;simp[l4,List.foldl,DF,DG,fB,fh,gK];by_cases o:b.1<a.1<;>by_cases h:e.1<a.1<;>by_cases p:e.1<b.1<;>by_cases q:g.1<a.1<;>by_cases A:g.1<b.1<;>by_cases u:g.1<e.1<;>first|omega |
      (have m:(a.1<b.1)=¬(b.1<a.1):=by grind
       have j:(a.1<e.1)=¬(e.1<a.1):=M;have k:(b.1<e.1)=¬(e.1<b.1):=M;have s:(a.1<g.1)=¬(g.1<a.1):=M;have z:(b.1<g.1)=¬(g.1<b.1):=M;have t:(e.1<g.1)=¬(g.1<e.1):=M
       simp[o,h,p,q,A,u,m,j,k,s,z,t,Ls,aau,aao,Ln,fB])
def yF{a:Type}[BEq a][LawfulBEq a]:∀(L b:m a),L.Nodup->(∀d∈L,d∈b)->c L<=c b
 |[],b,_,_=>gZ _
 |e::L,b,p,i=>by
  obtain⟨o,k⟩:=List.nodup_cons.1 p;have h:=i e ir;have:=yF L (b.erase e) k λd g=>by have:d≠e:=λj=>o (j▸g);exact(List.mem_erase_of_ne this).2 (i d (mg _ g))
  have j:=List.length_erase_of_mem h;have:=List.length_pos_of_mem h;simp[fh];omega
def AV:∀{j k:m Int},j.Pairwise (· < ·)->k.Pairwise (· < ·)->(∀e,e∈j↔e∈k)->j=k
 |[],[],_,_,_=>rfl
 |[],h::k,_,_,a=>by have:=(a h).2 ir;cases this
 |g::j,[],_,_,a=>by have:=(a g).1 ir;cases this
 |g::j,h::k,u,w,a=>by
  obtain⟨r,p⟩:=iH.1 u;obtain⟨s,q⟩:=iH.1 w;have d:=(a g).1 ir;have b:=(a h).2 ir;simp[e8]at d b;have t:g=h:=by
   rcases d with d|d
   .exact d
   rcases b with b|b
   .exact b.symm
   have:=r h b;have:=s g d;omega
  subst t;rw[AV p q λe=>?_];have o:=a e;simp[e8]at o;constructor
  .intro B;have:=r e B;rcases o.1 (.inr B)with i|i
   .omega
   exact i
  intro B;have:=s e B;rcases o.2 (.inr B)with i|i
  .omega
  exact i
section
variable {p:ah V}
def Bd:bK:=λargs a=>match args,a with
 |[.n (.R (.c (.V b)))],[]=>f (bh (fT b),[],[])
 |_,_=>n
def ack:bL p 54 Bd:=by intro args g b d a e _;unfold Bd at e;grind[WS]
def xj:bK:=λargs a=>match args,a with
 |[.n (.R (.c (.V b)))],[]=>f (bh (fK b),[],[])
 |_,_=>n
def MC:bL p 55 xj:=by intro args g b d a e _;unfold xj at e;grind[XO]
def Be:bK:=λargs d=>match args,d with
 |[.n (.R (.c (.V a))),.n (.R (.c (.V b)))],[]=>f (bh (k6 a b),[],[a≠[],b≠[]])
 |_,_=>n
def acl:bL p 56 Be:=by
 intro args h e g d b a;unfold Be at b;split at b
 .cases b;exact T5 _ _ a.1 a.2
 grind
def HW:m (Nat×bK):=(54,Bd)::(55,xj)::(56,Be)::HM
def lK:ba p HW:=ba.cons ack (ba.cons MC (ba.cons acl qb))
def ct(b:m c7)(a:Nat):bC:=(b.getD a ([],[])).1
def lu(b:m c7)(a:Nat):bC:=(b.getD a ([],[])).2
def kt(o)(e):(o.getD e bB.D).1=ct o e:=rfl
def tN(o)(e):(o.getD e bB.D).2=lu o e:=rfl
def i5(b:m c7)(a:Nat):Bool:=fT (ct b a)&&fK (lu b a)&&(a==0||aT (ct b (a-1)) (ct b a))&&(az a).all λd=>!k6 (ct b d) (ct b a)
def dN(a:m c7):Bool:=(az (c a)).all (i5 a)&&decide (c a<=6)
def fZ{b:Nat->Bool}:(az j).all b=l↔∀a,a<j->b a=l:=M
def yT{b}(a:fT b=l):b≠[]:=by rintro rfl;exact cS
def zv{o}(b:e<c o)(d:i5 o e=v):dN o=v:=by
 cases a:dN o with
 |false=>rfl
 |true=>
  simp only[dN,cn]at a;grind
def XR(o):Z p 32 [bB.A o] [] (bh (dN o)) []:=by
 refine Z.I func32 rfl λy=>?_;have E:=y.A 0 a;refine b_ lK a A (g.ef (λb=>b<=c o/\∀e,e<b->i5 o e=l) (λb:Nat=>[(0,bB.A o),(3,R b)]) (λ_=>[]) (λb=>c o-b) 0 a FH ⟨by omega,by omega⟩ a ?_);rintro b ⟨w,x⟩;by_cases s:b<c o
 .by_cases i:fT (ct o b)=l
  .by_cases N:fK (lu o b)=l
   .by_cases j:b=0∨aT (ct o (b-1)) (ct o b)=l
    .apply g.cf [(0,bB.A o),(3,R b),(4,R 0)] []
     .intro b2;by_cases k:b=0
      .refine a_ lK [8,16,24,-29] a ?_ (b2 _ _ a ?_)
       .simp[-aj,s,kt,tN,i,N];omega
       simp[bs]
      have B:=j.resolve_left k;have r:a8 .i64 ((b:Int)-1):=cS;have z:((b:Int)-1).toNat=b-1:=u;refine a_ lK [8,16,24,29,-42] a P1 (b2 _ _ a ?_);simp[bs]
     ·
      have D:i5 o b=(az b).all (λe=>!k6 (ct o e) (ct o b)):=by
       rcases j with rfl|B
       .simp[i5,i,N]
       simp[i5,i,N,B]
      refine g.ef (λe=>e<=b/\∀m,m<e->k6 (ct o m) (ct o b)=v) (λe:Nat=>[(0,bB.A o),(3,R b),(4,R e)]) (λ_=>[]) (λe=>b-e) 0 a FH ⟨by omega,by omega⟩ a ?_;rintro e ⟨I,F⟩;by_cases h:e<b
      .have d:fT (ct o e)=l:=by have:=x e h;simp only[i5,cn]at this;exact this.1.1.1
       cases q:k6 (ct o e) (ct o b)with
       |true=>
        refine a_ lK [47,60] a ?_ (g.bR (g.dL (bY.zero a ?_)))
        .simp[-aj,s,h,kt,q,yT i,yT d];omega
        have:i5 o b=v:=M;simp[zv s this]
       |false=>
        refine a_ lK [47,-60] a ?_ (g.again (e+1) a ?_ ?_ ?_ a)
        .simp[-aj,s,h,kt,q,yT i,yT d,a8];omega
        .simp[bs]
        .grind
        omega
      have h:e=b:=u;subst h;refine a_ lK [-47] a C (g.bs a a ?_);exact b_ lK a cS (g.again (e+1) a FH M u a)
    have k:b≠0:=λt=>j (.inl t);have B:aT (ct o (b-1)) (ct o b)=v:=M;have r:a8 .i64 ((b:Int)-1):=cS;have z:((b:Int)-1).toNat=b-1:=u;refine a_ lK [8,16,24,29,42] a P1 (g.bR (bY.zero a ?_));simp[T,zv s (by simp[i5,k,B])]
   refine a_ lK [8,16,-24] a ?_ (g.bR (bY.zero a ?_))
   .simp[-aj,s,kt,tN,i,N]
   simp[T,zv s (by simp[i5,N])]
  refine a_ lK [8,-16] a ?_ (g.bR (bY.zero a ?_))
  .simp[-aj,s,kt,i]
  simp[T,zv s (by simp[i5,i])]
 refine a_ lK [-8] a bQ (g.bs a a ?_);refine b_ lK a A (g.aq a ?_);simp only[T,dN];grind
end
section
open Go.Proofs Go.Conc.Lib
def qP:WgLink:={add:=231,done:=233,wait:=235,relMerge:=263,disable:=264,enable:=265,inBubble:=266,associate:=267,fatal:=268,uOr:=269,uAdd:=270,raceRead:=271,uLoad:=272,uStore:=273,disassociate:=274,semrelease:=275,acquire:=277,isAssociated:=278,uCas:=279,raceWrite:=280,semacquire:=281,orU64:=298,addU64:=299,loadU64:=300,storeU64:=301,casU64:=304,tWgP:=328,tUP:=201,tAssoc:=330,tWg:=294,tAU:=292,tU64:=285,tUint:=233,tU32:=283,tPU32:=334,tPAU:=362,tPU64:=364,tNoCopy:=288,tANoCopy:=289,tAlign64:=290}
def v':WgLib V qP where
 f_add:=Tryz.func231.trans (eD f bF)
 f_done:=Tryz.func233.trans (eD f bF)
 f_wait:=Tryz.func235.trans (eD f bF)
 f_relMerge:=Tryz.func263.trans (eD f bF)
 f_disable:=Tryz.func264.trans (eD f bF)
 f_enable:=Tryz.func265.trans (eD f bF)
 f_inBubble:=Tryz.func266.trans (eD f bF)
 f_associate:=Tryz.func267.trans (eD f bF)
 f_fatal:=Tryz.func268.trans (eD f bF)
 f_uOr:=Tryz.func269.trans (eD f bF)
 f_uAdd:=Tryz.func270.trans (eD f bF)
 f_raceRead:=Tryz.func271.trans (eD f bF)
 f_uLoad:=Tryz.func272.trans (eD f bF)
 f_uStore:=Tryz.func273.trans (eD f bF)
 f_disassociate:=Tryz.func274.trans (eD f bF)
 f_semrelease:=Tryz.func275.trans (eD f bF)
 f_acquire:=Tryz.func277.trans (eD f bF)
 f_isAssociated:=Tryz.func278.trans (eD f bF)
 f_uCas:=Tryz.func279.trans (eD f bF)
 f_raceWrite:=Tryz.func280.trans (eD f bF)
 f_semacquire:=Tryz.func281.trans (eD f bF)
 f_orU64:=Tryz.func298.trans (eD f bF)
 f_addU64:=Tryz.func299.trans (eD f bF)
 f_loadU64:=Tryz.func300.trans (eD f bF)
 f_storeU64:=Tryz.func301.trans (eD f bF)
 f_casU64:=Tryz.func304.trans (eD f bF)
 underlying_tWgP:=Tryz.underlying328
 runUnderlying_tWgP:=Tryz.runUnderlying328
 sizeOf_tWgP:=Tryz.sizeOf328
 isAgg_tWgP:=Tryz.isAgg328
 zeroValue_tWgP:=Tryz.zeroValue328
 underlying_tUP:=Tryz.underlying201
 runUnderlying_tUP:=Tryz.runUnderlying201
 sizeOf_tUP:=Tryz.sizeOf201
 isAgg_tUP:=Tryz.isAgg201
 zeroValue_tUP:=Tryz.zeroValue201
 underlying_tI32:=Tryz.underlying330
 runUnderlying_tI32:=Tryz.runUnderlying330
 sizeOf_tI32:=Tryz.sizeOf330
 isAgg_tI32:=Tryz.isAgg330
 zeroValue_tI32:=Tryz.zeroValue330
 underlying_tWg:=Tryz.underlying294
 runUnderlying_tWg:=Tryz.runUnderlying294
 sizeOf_tWg:=Tryz.sizeOf294
 isAgg_tWg:=Tryz.isAgg294
 zeroValue_tWg:=Tryz.zeroValue294
 underlying_tAU:=Tryz.underlying292
 runUnderlying_tAU:=Tryz.runUnderlying292
 sizeOf_tAU:=Tryz.sizeOf292
 isAgg_tAU:=Tryz.isAgg292
 zeroValue_tAU:=Tryz.zeroValue292
 underlying_tU64:=Tryz.underlying285
 runUnderlying_tU64:=Tryz.runUnderlying285
 sizeOf_tU64:=Tryz.sizeOf285
 isAgg_tU64:=Tryz.isAgg285
 zeroValue_tU64:=Tryz.zeroValue285
 underlying_tSh:=Tryz.underlying233
 runUnderlying_tSh:=Tryz.runUnderlying233
 sizeOf_tSh:=Tryz.sizeOf233
 isAgg_tSh:=Tryz.isAgg233
 zeroValue_tSh:=Tryz.zeroValue233
 underlying_tU32:=Tryz.underlying283
 runUnderlying_tU32:=Tryz.runUnderlying283
 sizeOf_tU32:=Tryz.sizeOf283
 isAgg_tU32:=Tryz.isAgg283
 zeroValue_tU32:=Tryz.zeroValue283
 underlying_tPU32:=Tryz.underlying334
 runUnderlying_tPU32:=Tryz.runUnderlying334
 sizeOf_tPU32:=Tryz.sizeOf334
 isAgg_tPU32:=Tryz.isAgg334
 zeroValue_tPU32:=Tryz.zeroValue334
 underlying_tPAU:=Tryz.underlying362
 runUnderlying_tPAU:=Tryz.runUnderlying362
 sizeOf_tPAU:=Tryz.sizeOf362
 isAgg_tPAU:=Tryz.isAgg362
 zeroValue_tPAU:=Tryz.zeroValue362
 underlying_tPU64:=Tryz.underlying364
 runUnderlying_tPU64:=Tryz.runUnderlying364
 sizeOf_tPU64:=Tryz.sizeOf364
 isAgg_tPU64:=Tryz.isAgg364
 zeroValue_tPU64:=Tryz.zeroValue364
 underlying_t0:=Tryz.underlying0
 runUnderlying_t0:=Tryz.runUnderlying0
 sizeOf_t0:=Tryz.sizeOf0
 isAgg_t0:=Tryz.isAgg0
 zeroValue_t0:=Tryz.zeroValue0
 underlying_t3:=Tryz.underlying3
 runUnderlying_t3:=Tryz.runUnderlying3
 sizeOf_t3:=Tryz.sizeOf3
 isAgg_t3:=Tryz.isAgg3
 zeroValue_t3:=Tryz.zeroValue3
 underlying_t4:=Tryz.underlying4
 runUnderlying_t4:=Tryz.runUnderlying4
 sizeOf_t4:=Tryz.sizeOf4
 isAgg_t4:=Tryz.isAgg4
 zeroValue_t4:=Tryz.zeroValue4
 underlying_t9:=Tryz.underlying9
 runUnderlying_t9:=Tryz.runUnderlying9
 sizeOf_t9:=Tryz.sizeOf9
 isAgg_t9:=Tryz.isAgg9
 zeroValue_t9:=Tryz.zeroValue9
 underlying_t20:=Tryz.underlying20
 runUnderlying_t20:=Tryz.runUnderlying20
 sizeOf_t20:=Tryz.sizeOf20
 isAgg_t20:=Tryz.isAgg20
 zeroValue_t20:=Tryz.zeroValue20
 underlying_t21:=Tryz.underlying21
 runUnderlying_t21:=Tryz.runUnderlying21
 sizeOf_t21:=Tryz.sizeOf21
 isAgg_t21:=Tryz.isAgg21
 zeroValue_t21:=Tryz.zeroValue21
 room_tWg:=bF
 room_tU32:=bF
end
end R1
def b4.imp{h g}{bf a}(i:∀e,bv k b e h->bv k b e g)(j:∀y,b4 k b y bf->b4 k b y a):∀y,b4 k b y (h::bf)->b4 k b y (g::a)
 |[],d=>d.elim
 |e::y,d=>⟨i e d.1,j y d.2⟩
abbrev xM(a:c7):x:=.n (.agg [.c (.V a.1),.c (.V a.2)])
abbrev r1(a:m c7)(b:Bool):x:=.Q [.R (.c (.A v 2 (c a) (bB.fn a))),.R (.c (.bool b))]
namespace R1
variable {p:ah V}
def sH:bK:=λargs d=>match args,d with
 |[e],[]=>match jT 2 e with
  |none=>n
  |some (a,b)=>f (bh (dN (bB.ad a b)),[],[bB.bM a b])
 |_,_=>n
def t32:bL p 32 sH:=by
 intro args j e g d a b;unfold sH at a;split at a
 .split at a
  .cases a
  rename_i k m h;cases a;exact(XR _ ).args (λ_ y=>b4.imp (λ_=>bB.cA h b) (λ_ i=>i) y)
 grind
def HX:m (Nat×bK):=(32,sH)::HW
def SV:ba p HX:=ba.cons t32 lK
end R1
def c1.aW(a:c1 α)(d)(e):bs (c d+1) (cf (c d) (a.fn d) (λb=>[a.a2 e].getD b [])) (a.fn (d++[e])):=by intro b g;unfold cf c1.fn gG;grind
@[simp] theorem bs.same{a:Nat->m K}:bs j a a:=λ_ _=>rfl
@[simp] theorem bs.nil{a b:Nat->m K}:bs 0 a b:=λe d=>by omega
namespace R1
variable {p:ah V}
def HY:m (Nat×bK):=HX
def SW:ba p HY:=SV
end R1
def kA.ga{args}(h:kA args k)(m:Nat){ag}(d:args[m]?=f (.n (.agg ag)))(i:Nat){o}{p}(b:ag[i]?=f (O.c (.A o p j U))):j<=9223372036854775807:=by obtain⟨q,s,g⟩:=h.at d;obtain⟨y,_,a⟩:=g;obtain⟨r,_,e⟩:=bM.get a b;cases e<;>omega
namespace R1
def lF{S:Nat->Bool}(a:e<j)(b:S e=v):(az j).all S=v:=M
def jf{S:Nat->Bool}(b:∀a,a<e->S a=l)(g:S e=l):∀a,a<e+1->S a=l:=λa d=>by grind
end R1
def dG.put(a b:Int):dG->dG
 |.nil=>.ax .nil a b .nil
 |.ax d D g e=>if a<D then .ax (d.put a b) D g e else if D<a then .ax d D g (e.put a b)else .ax d a b e
def dG.ad:dG->m (Int×Int)
 |.nil=>[]
 |.ax a d e b=>a.ad++(d,e)::b.ad
def dG.find(a:Int):dG->Int
 |.nil=>0
 |.ax d b g e=>if a=b then g else if a<b then d.find a else e.find a
namespace R1
theorem aaC{d}{b}(g:∀a∈d,a.1<b.1):ea d b=d++[b]:=by
 induction d with
 |nil=>rfl
 |cons i h e=>
  simp[ea];grind
def Lx{d a}{b}(h:∀e∈d,e.1<b.1):ea (d++a) b=d++ea a b:=by
 induction d with
 |nil=>rfl
 |cons i d g=>
  simp[uw,ea];grind
def aaF{d a9}{b}(g:∀a∈a9,b.1<a.1):ea (d++a9) b=ea d b++a9:=by
 have k:a9.filter (λh=>!(h.1==b.1))=a9:=sm.2 λa j=>by grind
 induction d with
 |nil=>
  cases a9 with
  |nil=>rfl
  |cons e a9=>
   have:=g e ir;simp[pW,ea];grind
 |cons e d i=>
  simp[uw,ea];grind
abbrev dG.fp(a:dG):Prop:=a.ad.Pairwise λb d=>b.1<d.1
theorem DJ{g i}:∀{o:dG},dG.fp o->(o.put g i).ad=ea o.ad (g,i)
 |.nil,_=>rfl
 |.ax d e h a9,q=>by
  obtain⟨s,p,t⟩:=m5.1 q;have r:=iH.1 p;have m:∀a∈d.ad,a.1<e:=λa b=>t a b (e,h) ir;simp[dG.put,dG.ad];split
  .rename_i j;simp[dG.ad];rw[DJ (o:=d) s,aaF (a9:=(e,h)::a9.ad)];grind
  split
  .rename_i _ j;simp[dG.ad];rw[DJ (o:=a9) r.2,Lx (d:=d.ad) λa b=>by grind];simp[ea];grind
  have k:g=e:=u;subst k;simp[dG.ad];rw[Lx (d:=d.ad) λa b=>m a b];simp only[ea];rw[bm C,rg,bm C,sm.2 λa b=>by grind]
theorem aaH{d}{b}(j:d.Pairwise λe a=>e.1<a.1):(ea d b).Pairwise (λe a=>e.1<a.1)/\∀g∈ea d b,g=b∨g∈d:=by
 induction d with
 |nil=>simp[ea]
 |cons a p h=>
  obtain⟨m,i⟩:=iH.1 j;obtain⟨k,o⟩:=h i;simp[ea];grind[List.pairwise_cons]
def Cz{j}:∀{o:dG},dG.fp o->o.find j=iW o.ad j
 |.nil,_=>rfl
 |.ax b d q p,m=>by obtain⟨h,e,i⟩:=m5.1 m;have g:=iH.1 e;have s:∀a∈b.ad,a.1<d:=λa k=>i a k (d,q) ir;simp[dG.find,dG.ad];have r:=Cz (j:=j) (o:=b) h;have t:=Cz (j:=j) (o:=p) g.2;unfold iW at *;grind
end R1
namespace R1
section
variable {p:ah V}
def mH(b:c7)(a:m c7×Bool)(d:bC):m c7×Bool:=if a.2=l then a else if aT d b.1=l then a else(a.1++[b],l)
def yZ(d:c7)(a:m c7×Bool)(b:c7):m c7×Bool:=if b.1=d.1 then a else(a.1++[b],a.2)
def rV(b:c7)(a:m c7×Bool)(d:c7):m c7×Bool:=yZ b (mH b a d.1) d
def mI(a:c7)(b:m c7):m c7×Bool:=b.foldl (rV a) ([],v)
def ll(b:m c7)(a:c7):m c7:=if(mI a b).2=l then(mI a b).1 else(mI a b).1++[a]
theorem o7{o}(b:e<c o):o[e]=(ct o e,lu o e):=by have a:o.getD e ([],[])=o[e]:=M;simp only[ct,lu,a]
def aax{a}{o}(b:e<c o):mI a (o.take (e+1))=rV a (mI a (o.take e)) (ct o e,lu o e):=by rw[sy,bI b,o7 b];simp[mI]
def Lu(a)(uA)(B):(mH a uA B).1.length<=c uA.1+1:=zZ
def aaw(a)(uA)(B):(yZ a uA B).1.length<=c uA.1+1:=by unfold yZ;grind
def Lv(b):∀e(a:m c7×Bool),(e.foldl (rV b) a).1.length<=c a.1+2*c e
 |[],a=>by simp
 |d::g,a=>by
  have h:=Lv b g (rV b a d);have i:=Lu b a d.1;have j:=aaw b (mH b a d.1) d;simp only[iL,fh];have:(rV b a d).1.length<=c a.1+2:=by unfold rV;omega
  omega
abbrev xO(b:Nat)(a:m c7):x:=.n (.R (.w b 2 (c a) (bB.fn a)))
abbrev m8(a:m c7):ap:=.w 91 2 (c a) (bB.fn a)
def W2(o)(ak)(F:c o<=4000000):Z p 91 [bB.A o,xM ak] [] (xO 0 (ll o ak)) [m8 (ll o ak)]:=by
 refine Z.I func91 rfl λE=>?_;refine aO a A (g.bB 5 91 2 a a ?_);let O:Nat->m c7×Bool:=λe=>mI ak (o.take e);have t:∀e,e<=c o->(O e).1.length<=8000000:=by intro e k;have:=Lv ak (o.take e) ([],v);simp at this;show(mI ak (o.take e)).1.length<=_;unfold mI;omega
 refine g.b' (λe=>e<=c o) (λe:Nat=>[(0,bB.A o),(3,aI 0 0),(7,R e),(5,xO 1 (O e).1),(6,bh (O e).2)]) (λe=>[.cells 91 [.c (.V ak.1),.c (.V ak.2)],m8 (O e).1]) (λe=>c o-e) 0 a ?_ a ?_ u ?_
 .simp[bs,O,mI]
 .simp[bs,O,mI]
 intro e k;by_cases s:e<c o
 .have z:O (e+1)=rV ak (O e) (ct o e,lu o e):=aax s;have y:=t e k;generalize O e=b at *;have B:=Lu ak b (ct o e);apply g.cf [(0,bB.A o),(3,aI 0 0),(7,R e),(5,xO 1 (mH ak b (ct o e)).1),(6,bh (mH ak b (ct o e)).2)] [.cells 91 [.c (.V ak.1),.c (.V ak.2)],m8 (mH ak b (ct o e)).1]
  .intro b2;cases r:b.2 with
   |true=>
    have j:mH ak b (ct o e)=b:=zZ;rw[j]at b2;refine bR [12,15,909] a g6 (b2 _ _ a ?_);exact bu
   |false=>
    cases x:aT (ct o e) ak.1 with
    |true=>
     have j:mH ak b (ct o e)=b:=zZ;rw[j]at b2;refine bR [12,-15,-25,909] a ?_ (b2 _ _ a ?_)
     .simp[-aj,s,kt,x]
     exact bu
    |false=>
     have j:mH ak b (ct o e)=(b.1++[ak],l):=zZ;rw[j]at b2;refine bR [12,-15,25,909] a ?_ (g.a_ _ a ?_ (b2 _ _ a ?_))
     .simp[-aj,s,kt,x,show rI.bytes=32 from a];omega
     .exact Qy
     exact Qy
  have w:O (e+1)=yZ ak (mH ak b (ct o e)) (ct o e,lu o e):=z;generalize mH ak b (ct o e)=h at *;by_cases q:ct o e=ak.1
  .have i:O (e+1)=h:=by rw[w];exact bo q
   refine bR [-38] a ?_ (g.b5 (e+1) a ?_ a ?_ ?_ ?_)
   .simp[-aj,s,kt,q,a8];omega
   .simp_all
   .simp_all
   .omega
   omega
  have i:O (e+1)=(h.1++[(ct o e,lu o e)],h.2):=by rw[w];exact bm q
  refine bR [38] a ?_ (g.b5 (e+1) a ?_ a ?_ ?_ ?_)
  .simp[-aj,s,kt,q,a8,show rI.bytes=32 from a];omega
  .exact PU
  .exact PU
  .omega
  omega
 have:e=c o:=u;subst this;have D:O (c o)=mI ak o:=M;have y:=t (c o) (bA _);refine a5 [-12] a C (g.bs a a ?_);have d:ll o ak=if(O (c o)).2=l then(O (c o)).1 else(O (c o)).1++[ak]:=hE;cases r:(O (c o)).2 with
 |true=>
  rw[r,bo a]at d;refine a5 [46] a C (g.a_ [.cells 91 [.c (.V ak.1),.c (.V ak.2)],m8 (ll o ak)] a dB (g.aJ [1] a dB ?_));grind
 |false=>
  rw[r,bm C]at d;refine a5 [-46] a ?_ (g.a_ [.cells 91 [.c (.V ak.1),.c (.V ak.2)],m8 (ll o ak)] a ?_ (g.aJ [1] a ?_ ?_))
  .simp[show rI.bytes=32 from a];omega
  .exact Pb
  .exact Pb
  grind
end
end R1
def bs.app0{b a:Nat->m K}:bs j (cf 0 b a) a:=λd _=>by simp[cf]
namespace R1
variable {p:ah V}
def Bl:bK:=λargs g=>match args,g with
 |[h,.n (.agg [.c (.V a),.c (.V b)])],[]=>match jT 2 h with
  |none=>n
  |some (d,e)=>f (xO 0 (ll (bB.ad d e) (a,b)) ,[ m8 (ll (bB.ad d e) (a,b))],[bB.bM d e,c ((bB.ad d e))<=4000000])
 |_,_=>n
def t91:bL p 91 Bl:=by
 intro args j g h e a b;unfold Bl at a;split at a
 .split at a
  .cases a
  rename_i k m i;cases a;exact(W2 _ _ (b.2)).args (λ_ y=>b4.imp (λ_=>bB.cA i b.1) (b4.imp (λ_ d=>d) (λ_ d=>d)) y)
 cases a
def HZ:m (Nat×bK):=(91,Bl)::HY
def sK:ba p HZ:=ba.cons t91 (SW)
def jv(a:m c7)(b d:bC):m c7×Bool:=
 if dN a=l/\fT b=l/\fK d=l then(if dN (ll a (b,d))=l then(ll a (b,d),l)else(a,v))else([],v)
abbrev adk(d:Nat)(a:m c7)(b:Bool):x:=.Q [.R (.w d 2 (c a) (bB.fn a)),.R (.c (.bool b))]
def M4{o}(a:dN o=l):c o<=6:=by simp only[dN,cn,bw]at a;omega
def Jc(o)(b d):Z p 50 [bB.A o,b1 b,b1 d] [] (adk 0 (jv o b d).1 (jv o b d).2) [m8 (jv o b d).1]:=by
 refine Z.I func50 rfl λr=>?_;have e:¬(dN o=l/\fT b=l/\fK d=l)->jv o b d=([],v):=λq=>bm q;cases h:dN o with
 |false=>
  rw[e M];refine a_ sK [-10] a ?_ ?_
  .simp[bB.l,bB.T,h]
  exact E9
 |true=>
  have s:=M4 h;cases i:fT b with
  |false=>
   rw[e M];refine a_ sK [10,-14] a ?_ ?_
   .simp[bB.l,bB.T,h,i]
   exact E9
  |true=>
   cases m:fK d with
   |false=>
    rw[e M];refine a_ sK [10,14,-19] a ?_ ?_
    .simp[bB.l,bB.T,h,i,m]
    exact E9
   |true=>
    have j:jv o b d=if dN (ll o (b,d))=l then(ll o (b,d),l)else(o,v):=bo ⟨h,i,m⟩;cases k:dN (ll o (b,d))with
    |true=>
     rw[k,bo a]at j;rw[j];refine a_ sK [10,14,19,29] a ?_ (g.a_ [m8 (ll o (b,d))] a ?_ (g.aJ [0] a ?_ ?_))
     .simp[bB.l,bB.T,h,i,m,k];omega
     .simp[bB.l]
     .simp[bB.l]
     grind
    |false=>
     rw[k,bm C]at j;rw[j];refine a_ sK [10,14,19,-29] a ?_ (g.a_ [m8 (ll o (b,d)),m8 o] a ?_ (g.aJ [1] a ?_ ?_))
     .simp[bB.l,bB.T,h,i,m,k,show rI.bytes=32 from a];omega
     .simp[bB.l,bs.app0]
     .simp[bs.app0]
     grind
def XS(o)(b d):Z p 50 [bB.A o,b1 b,b1 d] [] (r1 (jv o b d).1 (jv o b d).2) []:=
 (Jc o b d).b1 a C a
def Bc:bK:=λargs g=>match args,g with
 |[h,.n (.R (.c (.V d))),.n (.R (.c (.V e)))],[]=>match jT 2 h with
  |none=>n
  |some (a,b)=>f (r1 (jv (bB.ad a b) d e).1 (jv (bB.ad a b) d e).2,[],[bB.bM a b])
 |_,_=>n
def acj:bL p 50 Bc:=by
 intro args j g h e a d;unfold Bc at a;split at a
 .split at a
  .cases a
  rename_i k m i;cases a;exact(XS _ _ _ ).args (λ_ y=>b4.imp (λ_=>bB.cA i d) (b4.imp (λ_ b=>b) (b4.imp (λ_ b=>b) (λ_ b=>b))) y)
 cases a
def H0:m (Nat×bK):=(50,Bc)::HZ
def SX:ba p H0:=ba.cons acj (sK)
end R1
def oB(a:m K)(d:Nat):Nat×(Nat->m K):=match c' d a with|some (.A _ _ e b)=>(e,b)|_=>(0,λ_=>[])
def aA:c1 Int:={bj:=1,a2:=λb=>[.int .i64 b],b7:=λa=>ns a 0,D:=0,inv:=λ_=>rfl,len:=λ_=>rfl}
def bS:c1 bC:={bj:=1,a2:=λb=>[.V b],b7:=λa=>tG a 0,D:=[],inv:=λ_=>rfl,len:=λ_=>rfl}
namespace R1
def bH:c1 cX:={bj:=2,a2:=λb=>[.int .i64 b.1,.V b.2],b7:=λa=>(ns a 0,tG a 1),D:=(0,[]),inv:=λ_=>rfl,len:=λ_=>rfl}
def e_:c1 fg:={bj:=2,a2:=λb=>[.int .i64 b.1,.int .i64 b.2],b7:=λa=>(ns a 0,ns a 1),D:=(0,0),inv:=λ_=>rfl,len:=λ_=>rfl}
abbrev lm(a:b'):K:=.A v 2 (c a.2) (bH.fn a.2)
def a2:c1 b':={bj:=2,a2:=λb=>[.int .i64 b.1,lm b],b7:=λa=>(ns a 0,bH.ad (oB a 1).1 (oB a 1).2),D:=(0,[]),inv:=λb=>by show(b.1,bH.ad (c b.2) (bH.fn b.2))=b;rw[bH.l],len:=λ_=>rfl}
def cA:c1 mY:={bj:=2,a2:=λd=>[.V d.1,.A v 1 (c d.2) (aA.fn d.2)],b7:=λa=>(tG a 0,aA.ad (oB a 1).1 (oB a 1).2),D:=([],[]),inv:=λb=>by show(b.1,aA.ad (c b.2) (aA.fn b.2))=b;rw[aA.l],len:=λ_=>rfl}
def bj:c1 eK:={bj:=2,a2:=λd=>[.int .i64 d.1,.A v 2 (c d.2) (cA.fn d.2)],b7:=λa=>(ns a 0,cA.ad (oB a 1).1 (oB a 1).2),D:=(0,[]),inv:=λb=>by show(b.1,cA.ad (c b.2) (cA.fn b.2))=b;rw[cA.l],len:=λ_=>rfl}
def a3:c1 (Int×Int):=e_
abbrev fH(a:b'):x:=.n (.agg [.c (.int .i64 a.1),.c (lm a)])
abbrev xK(a:Option bC):x:=.n (.agg [.c (.V (a.getD [])),.c (.bool a.isSome)])
end R1
structure i'(α:Type) where
 a2:α->x
 dV:x->Option (α×m Prop)
 ok:∀{N w q},dV N=f (w,q)->T q->∀{k:m ap} {b:a6} {aa:X},bv k b aa N->bv k b aa (a2 w)
def c8:i' Int:=⟨R,λa=>match a with|.n (.R (.c (.int .i64 b)))=>f (b,[])|_=>n,λ{a d g} e _ _ _ _ h=>by grind⟩
def eE:i' bC:=⟨b1,λa=>match a with|.n (.R (.c (.V b)))=>f (b,[])|_=>n,λ{a d g} e _ _ _ _ h=>by grind⟩
def dC:i' Bool:=⟨bh,λa=>match a with|.n (.R (.c (.bool b)))=>f (b,[])|_=>n,λ{a d g} e _ _ _ _ h=>by grind⟩
def e7(b:c1 α):i' (m α):=⟨b.A,λh=>match jT b.bj h with|some (g,a)=>f (b.ad g a,[b.bM g a])|none=>n,λ{h j k} d e _ _ _ i=>by
 split at d
 .rename_i g a he;cases d;exact b.cA he e i
 .cases d⟩
def sl:i' (Int×bC):=⟨λd=>.n (.agg [.c (.int .i64 d.1),.c (.V d.2)]),λb=>match b with|.n (.agg [.c (.int .i64 a),.c (.V e)])=>f ((a,e),[])|_=>n,λ{b a h} g _ _ _ _ i=>by grind⟩
def sk:i' (Int×Int):=⟨λd=>.n (.agg [.c (.int .i64 d.1),.c (.int .i64 d.2)]),λb=>match b with|.n (.agg [.c (.int .i64 a),.c (.int .i64 e)])=>f ((a,e),[])|_=>n,λ{b a h} g _ _ _ _ i=>by grind⟩
def jA(e:c1 α):i' (Int×m α):=⟨λj=>.n (.agg [.c (.int .i64 j.1),.c (.A v e.bj (c j.2) (e.fn j.2))]),λp=>match p with
 |.n (.agg [.c (.int .i64 o),.c q])=>match jT e.bj (.n (.R (.c q)))with|some (i,d)=>f ((o,e.ad i d),[e.bM i d])|none=>n
 |_=>n,λ{p o u} g h _ b _ t=>by
 split at g
 .split at g
  .rename_i i d he;cases g;obtain⟨y,r,a⟩:=t
   match y,a with
   |[],a=>exact a.elim
   |[_],a=>exact a.2.elim
   |_::_::_::_,a=>exact a.2.2.elim
   |[w,s],a=>exact⟨_,r,a.1,e.cA (k:=[]) (b:=b) (aa:=s) he h a.2.1,A⟩
  cases g
 .cases g⟩
def dk(d:i' α)(a:α->x)(pre:α->m Prop):bK:=λargs e=>match args,e with
 |[g],[]=>match d.dV g with
  |some (b,h)=>f (a b,[],gM h (pre b))
  |none=>n
 |_,_=>n
def er{b:Type}(g:i' α)(h:i' b)(a:α->b->x)(pre:α->b->m Prop):bK:=λargs i=>match args,i with
 |[j,k],[]=>match g.dV j with
  |some (d,o)=>match h.dV k with
   |some (e,p)=>f (a d e,[],gM o (gM p (pre d e)))
   |none=>n
  |none=>n
 |_,_=>n
def kh{b d:Type}(i:i' α)(j:i' b)(k:i' d)(a:α->b->d->x)(pre:α->b->d->m Prop):bK:=λargs o=>match args,o with
 |[p,q,r],[]=>match i.dV p with
  |some (e,s)=>match j.dV q with
   |some (g,t)=>match k.dV r with
    |some (h,u)=>f (a e g h,[],gM s (gM t (gM u (pre e g h))))
    |none=>n
   |none=>n
  |none=>n
 |_,_=>n
section
variable {p:ah P}{ak:a1}{e t:Type}{O:i' α}{bT:i' e}{K:i' t}
def bL.a7{b:α->x}{pre:α->m Prop}(k:∀e,T (pre e)->Z p ak [O.a2 e] [] (b e) []):bL p ak (dk O b pre):=by
 intro args o g j h a d;unfold dk at a;split at a
 .split at a
  .rename_i r e q i;cases a;rw[T.Z]at d;exact(k e d.2).args λs y=>b4.imp (λ_ g=>O.ok i d.1 g) (λ_ g=>g) y
  cases a
 cases a
def bL.bh{d:α->e->x}{pre:α->e->m Prop}(o:∀h i,T (pre h i)->Z p ak [O.a2 h,bT.a2 i] [] (d h i) []):bL p ak (er O bT d pre):=by
 intro args s g k j a b;unfold er at a;split at a
 .split at a
  .rename_i t u h q r;split at a
   .rename_i i w cT;cases a;rw[T.Z,T.Z]at b;exact(o h i b.2.2).args λz y=>b4.imp (λ_ g=>O.ok r b.1 g) (b4.imp (λ_ g=>bT.ok cT b.2.1 g) (λ_ g=>g)) y
   cases a
  cases a
 cases a
def bL.c5{j:α->e->t->x}{pre:α->e->t->m Prop}(u:∀k i r,T (pre k i r)->Z p ak [O.a2 k,bT.a2 i,K.a2 r] [] (j k i r) []):bL p ak (kh O bT K j pre):=by
 intro args w g s o a b;unfold kh at a;split at a
 .split at a
  .rename_i z A B k q h;split at a
   .rename_i i C cT;split at a
    .rename_i r D d;cases a;rw[T.Z,T.Z,T.Z]at b;exact(u k i r b.2.2.2).args λE y=>b4.imp (λ_ g=>O.ok h b.1 g) (b4.imp (λ_ g=>bT.ok cT b.2.1 g) (b4.imp (λ_ g=>K.ok d b.2.2.1 g) (λ_ g=>g))) y
    cases a
   cases a
  cases a
 cases a
end
namespace R1
def e9(d:m x)(a:x):bK:=λargs b=>match b with|[]=>f (a,[],[args=d])|_=>n
def fu{b:ah V}{ak}{d}{res}(j:Z b ak d [] res []):bL b ak (e9 d res):=by
 intro args i k g e a h;unfold e9 at a;split at a
 .cases a;simp_all
 cases a
def k3(g:m x)(d:m ap)(a:x)(b:m ap):bK:=λargs e=>f (a,b,[args=g,e=d])
def l5{d:ah V}{ak}{e}{a aQ}{res}(k:Z d ak e a res aQ):bL d ak (k3 e a res aQ):=by intro args j m h g b i;cases b;simp_all
end R1
def lA(b:Mem):m X->m K->Prop
 |[],[]=>True
 |e::y,d::a=>Rd b e d/\lA b y a
 |_,_=>False
structure q3(α:Type) where
 a2:α->m K
 b7:m K->Option (α×m Prop×m K)
 ok:∀{ag w q a9},b7 ag=f (w,q,a9)->T q->∀{bz:Mem} {y:m X},lA bz y ag->∃v1 v2,y=v1++v2/\lA bz v1 (a2 w)/\lA bz v2 a9
def lA.app{bz}:∀{g h:m X}{a b:m K},lA bz g a->lA bz h b->lA bz (g++h) (a++b)
 |[],_,[],_,_,d=>d
 |_::_,_,_::_,_,e,i=>⟨e.1,e.2.app i⟩
 |[],_,_::_,_,d,_=>d.elim
 |_::_,_,[],_,d,_=>d.elim
def lA.R{r}{e}(d:lA bz y (r::e)):∃a b,y=a::b/\Rd bz a r/\lA bz b e:=by
 cases y with
 |nil=>exact d.elim
 |cons a y=>exact⟨a,y,rfl,d⟩
def u5(e:c1 α):q3 (m α):=⟨λp=>[.A v e.bj (c p) (e.fn p)],λg=>match g with
 |t::q=>match jT e.bj (.n (.R (.c t)))with|some (o,d)=>f (e.ad o d,[e.bM o d],q)|none=>n
 |_=>n,λ{g x z q} h i r y j=>by
 split at h
 .split at h
  .rename_i o d he;cases h;obtain⟨aa,s,rfl,u,w⟩:=j.R;exact⟨[aa],s,a,⟨e.cA (k:=[]) (b:=⟨[],r,default,λ_=>True⟩) (aa:=aa) he i u,A⟩,w⟩
  cases h
 .cases h⟩
def x6{k:Type}(O:q3 α)(e:q3 k):q3 (α×k):=⟨λp=>O.a2 p.1++e.a2 p.2,λb=>match O.b7 b with
 |some (j,m,o)=>match e.b7 o with|some (q,z,A)=>f ((j,q),gM m z,A)|none=>n
 |none=>n,λ{b j m o} d a C y g=>by
 split at d
 .rename_i t;split at d
  .rename_i B;cases d;rw[T.Z]at a;obtain⟨h,D,rfl,u,s⟩:=O.ok t a.1 g;obtain⟨w,i,rfl,x,r⟩:=e.ok B a.2 s;exact⟨h++w,i,(mh _ _ _).symm,u.app x,r⟩
  cases d
 .cases d⟩
def zx:m O->Option (m K)
 |[]=>f []
 |.c d::b=>match zx b with|some a=>f (d::a)|none=>n
 |_=>n
def DS:m K->m O
 |[]=>[]
 |b::a=>.c b::DS a
def M8{k}{b}:∀{e:m O}{g:m K}{y:m X},zx e=f g->bM k b y e->lA b.C y g
 |[],g,y,a,d=>by cases a;cases y with|nil=>trivial|cons=>exact d.elim
 |.c o::h,g,y,a,d=>by
  simp only[zx]at a;split at a
  .rename_i i;cases a;cases y with
   |nil=>exact d.elim
   |cons j y=>exact⟨d.1,M8 i d.2⟩
  cases a
 |.ptr ..::_,_,_,a,_=>by cases a
 |.w ..::_,_,_,a,_=>by cases a
 |.aV ..::_,_,_,a,_=>by cases a
 |.N ..::_,_,_,a,_=>by cases a
 |.any::_,_,_,a,_=>by cases a
def LI{k}{b}:∀{d:m K}{y:m X},lA b.C y d->bM k b y (DS d)
 |[],[],_=>trivial
 |_::_,_::_,a=>⟨a.1,LI a.2⟩
 |[],_::_,a=>a.elim
 |_::_,[],a=>a.elim
def Am(d:q3 α):i' α:=⟨λb=>.n (.agg (DS (d.a2 b))),λj=>match j with
 |.n (.agg i)=>match zx i with
  |some e=>match d.b7 e with|some (b,k,[])=>f (b,k)|_=>n
  |none=>n
 |_=>n,λ{j b k} a g t u w s=>by
 split at a
 .split at a
  .rename_i B;split at a
   .rename_i p;cases a;obtain⟨y,rfl,r⟩:=s;obtain⟨h,q,rfl,o,m⟩:=d.ok p g (M8 B r);cases q with
    |nil=>exact⟨h,by simp,LI o⟩
    |cons=>exact m.elim
   cases a
  cases a
 .cases a⟩
end Go.AM
