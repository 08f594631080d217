/- Part 5. No condition. -/
import Derived.Test.YtacjdcdlmahinaaGreatDoorA4
import Derived.Conc.DeferLaws
import Derived.RowKit
set_option linter.all false
set_option maxHeartbeats 8000000
open Go.Proofs
open List renaming length → V, getD_eq_getElem?_getD → aj, range → bl, all_eq_true → bL
open Go renaming Value → ah, TypeId → av, Frame → bd, FuncId → aO, execOp → ar, Event → bg, undef → ai, Operand → aG, World → aB, Program → aR, Oper → aJ, Goroutine → au, stepG → aU
open Option renaming some → O, none → af
open Bool renaming true → W, false → ae
open Go.World renaming cell? → a9
open Go.Sem renaming events_bind → aM, events_pure → bG
open Go.Result renaming evThen_ok → aP
open Nat renaming beq → aC
open Go.Op renaming equalIn → bx, bytesLess → bC
open Go.Proofs.Tryz renaming prog → ag
open Go.Conc renaming stepG_seq → aF, stepG_region_end → aD
namespace Go.AM
variable {n:Nat}{k:Int}{l b i j:Nat}{E:av}{L:Array Bool}{M:Mem}{N:Nat}{P:aR}{S:au->St->Prop}{c:Code}{g:au}{o:aJ}{s:St}{t:av}{v:ah}{w:aB}{x y:aG}{α:Type}{η:aG->D}{ι:Type}{U:List bq}{J:Fr}{all:List aJ}{lh:Array av}{cap:List C}{cR:List D}{cs:List bd}{ds:List (Nat×Bool)}{es:Nat->List C}{fo:aG}{gs:Array au}{ks:List Nat}{obs:List Prop}{off:Nat}{op:BinOp}{ops:Array aJ}{ps:List Prop}{rest:List aJ}{s':St}{tx:Bool}{ty:av}{val:Nat->Nat->ah}{vs:List ah}{w':aB}{xs:Array aG}{U' Us:List bq}{res:ι->D}{σ1:ι->List bq}
variable {CT:List (Nat×eP)}{K:List It}{Qf:Post}{T:List (Nat×TI)}{ie:TI}
namespace R1
section
open Go.Proofs Go.Conc Go.Conc.Lib Go.ConcR.Gen
open Go.ConcN (WgLive PayAt Has RW AtR0)
open Go.ConcN.Gen
open Go.ConcR (KK WgAt stA smA rd wr mk Payload DC0)
def TM:TH=#[{dst:=af,op:=.defer {callee:=.value (.func 171),args:=#[.tmp 0],argTypes:=#[238]},type:=0,pos:= "l12_snap.go:81",after:=#[],guard:=af}]:=bw
def bW(a:ah):bd:={baseD 170 with defers:=[dcall 171 #[a]]}
abbrev tW(v0 v1 v2 v3 v4 v5:ah):Array ah:=#[v0,v1,v2,v3,v4,v5,ai,ai,ai,ai,ai,ai,ai]
def acr(v0 v1 v2 v3 v4 v5:ah)(w:aB):Goes ag ae (λ_ _=>True) DC0 (λg _=>g=G ((bW v0).aT ⟨tW v0 v1 v2 v3 v4 v5,[]⟩ [.code (.region 1 TJ W)]) [zF]) 8 (born ag (BS #[v0,v1,v2,v3,v4,v5])) w:=by
  have b:True:=an;have a:True->True->True:=λ_ _=>trivial;refine Goes.step Z (λw1 h1=>?_);rw[Pb];simp only[goes_go];refine⟨⟨Z,Z⟩,?_⟩;clear h1;rw[TM]
  u_c aF a b
  u_reg a b
  u_defer a b
  u_c aD a b
  exact Goes.stop λ_ _=>rfl
def ajn(T:Array ah):QuitsD ag 2 0 (G {(baseD 170).at ⟨T,[]⟩ []with mode:=.returning} [zF]):=by
  have a:Tryz.f170.results=#[]:=bw;refine QuitsD.ctl (g':=G zF []) Z (λw=>?_) ?_
  · simp[G,aU,unwind,doReturn,results,Frame.at,baseD,zF,Tryz.func170,a,seen,GStep.after,goexitEntry]
  refine QuitsD.ctl (g':={G zF []with status:=.finished}) rfl (λw=>?_) ⟨rfl,rfl⟩;simp[G,aU,unwind,zF,goexitEntry,Frame.catches];rfl
section
variable {Y:zA}
def afv(x:Nat)(b:Y.kc=2)(T:Array ah)(w:aB)(a:WgLive 238 Y.Wg w/\Has Y.C (Y.kc*x+1-1) (val x 0) w):
    ∃m,Goes ag ae (RW 238 Y.Wg Y.C (2*n) 0 (Y.kc*x+1-1)) DC0 (AtR0 ag 238 Y.Wg Y.C (2*n) 0 (Y.kc*x+1) (val x 0)) m (G ((bW (.pointer (O ⟨Y.Wg,0,af⟩))).aT ⟨T,[]⟩ [.inRegion zD.toArray []]) [zF]) w:=by
  refine⟨26,?_⟩;have e:(bW (.pointer (O ⟨Y.Wg,0,af⟩))).aT ⟨T,[]⟩ [.inRegion zD.toArray []]=(baseD 170).at ⟨T,[dcall 171 #[.pointer (O ⟨Y.Wg,0,af⟩)]]⟩ [.inRegion zD.toArray []]:=rfl;rw[e]
  u_c aD kn_rely a
  u_c stepG_end kn_rely a
  u_in kn_rely a
  rw[stepG_unwind_enter (c:=body_done wgL) Z Ix.f_done bw bw];simp only[goes_go];refine⟨by u_nil,?_⟩;have d:=afw (P:=ag) (L:=wgL) (Wg:=Y.Wg) (C:=Y.C) (n:=2*n) (Low:=0) (x:=Y.kc*x+1) (val:=val x 0) (c:={(baseD 170).at ⟨T,[]⟩ []with mode:=.returning}) (cs:=[zF]) Ix rfl (ajn T) _ a;exact d
def acs{l:Bs}(h:Rd M v (.du l)):v=.string ⟨l.toArray⟩:=by
  cases h with
  | du h1 h2=>rw[<-h1]
def Gm{b:Bool}(h:Rd M v (.bool b)):v=.bool b:=by cases h;rfl
def SWs:aJ:=oW af (.store 240 (.tmp 12) (.tmp 11)) 0 #[⟨6,.data⟩,⟨5,.data⟩,⟨5,.chain⟩,⟨0,.phase⟩,⟨1,.phase⟩,⟨2,.phase⟩,⟨3,.phase⟩,⟨4,.phase⟩,⟨5,.phase⟩]
def afx{x:Nat}(hx:x<n)(D:Y.kc=2){ps:List bz}{AK:Int}(B:val x 0=.string ⟨((dx k ps AK).getD []).toArray⟩)(z:val x 1=.bool (dx k ps AK).isSome){T:Array ah}(p:ey [] s (T.getD 12 ai) (xW k ps AK n x Y.C 6))(l:ey [] s (T.getD 11 ai) (dFe (dx k ps AK))):
    Su ag 238 Y (2*n) val x (G ((bW (.pointer (O ⟨Y.Wg,0,af⟩))).aT ⟨T,[]⟩ [.inRegion zD.toArray [7]]) [zF]) s:=by
  have p:T.getD 12 ai=.pointer (O ⟨Y.C,x*2,af⟩):=Rd.fM p;have l:T.getD 11 ai=.agg #[val x 0,val x 1]:=by
    obtain⟨vs,S,d⟩:=l
    match vs,d with
    | [],d=>exact d.elim
    | [_],d=>exact d.2.elim
    | _::_::_::_,d=>exact d.2.2.elim
    | [u0,u1],d =>
      rw[S,acs d.1,Gm d.2.1,B,z]
  refine⟨aK,λw1 hr abJ afy=>?_⟩;obtain⟨cs,c,U⟩:=abJ;have K:Y.kc*x=x*2:=az;have A:∀v∈[val x 0,val x 1],v.oneCell'=W:=by
    intro v N;simp only[eQ,rO,mS]at N;rcases N with rfl|rfl
    · rw[B];rfl
    · rw[z];rfl
  have r:x*2+0+[val x 0,val x 1].length<=cs.size:=az;have m:=run_storeCells_at ag Y.C (x*2) 240 [val x 0,val x 1] 0 cs w1 c r A;simp only[iN,eU,gk,b8]at m;generalize q:(cs.toList.take (x*2)++[val x 0,val x 1]++cs.toList.drop (x*2+2)).toArray=new at m;have Q:new.size=cs.size:=az;have u:=setRow_heap w1 Y.C cs new 240 (0,0) c;have w:∀o,(w1.setRow Y.C new).cell? ⟨Y.C,o,af⟩=new[o]?:=λo=>cell_setRow_same w1 Y.C o cs new 240 (0,0) c;have J:∀o,w1.cell? ⟨Y.C,o,af⟩=cs[o]?:=λo=>by simp[a9,c]
  have Z:∀i,i<2->new[x*2+i]?=O (val x i):=by
    intro i hi;rw[<-q];have L:V (cs.toList.take (x*2))=x*2:=az;rw[lZ];simp only[j9];rw[iy aq,L]
    match i,hi with
    | 0,_=>simp
    | 1,_=>simp
  have M:∀o,(o<x*2∨x*2+2<=o)->new[o]?=cs[o]?:=by
    intro o ho;rw[<-q];have L:V (cs.toList.take (x*2))=x*2:=az;rw[lZ];simp only[j9];rcases ho with ho|ho
    · grind
    · rw[iy aq,L,iy az]
      simp only[eU,gk,pJ];rw[show x*2+2+(o-x*2-(0+1+1))=o by omega];simp
  have F:(Value.agg #[val x 0,val x 1]).cells=#[val x 0,val x 1]:=rfl;have H:(ar (⟨T,[]⟩:Act).eval SWs).run ag w1=.ok .skip (w1.setRow Y.C new):=by have y:(⟨T,[]⟩:Act).eval (.tmp 12)=.pointer (O ⟨Y.C,x*2,af⟩):=p;have t:(⟨T,[]⟩:Act).eval (.tmp 11)=.agg #[val x 0,val x 1]:=l;simp[ar,SWs,oW,y,t,Instr.storeAt,Instr.sureAddr,storeVar,(bO 240 Iy aK).b6,Iy,F,m]
  have f:∀e∈(ar (⟨T,[]⟩:Act).eval SWs).events ag w1 #[],∃j,j<2/\e=Ot Y.C (x*2+j):=by
    intro aa f;have y:(⟨T,[]⟩:Act).eval (.tmp 12)=.pointer (O ⟨Y.C,x*2,af⟩):=p;have t:(⟨T,[]⟩:Act).eval (.tmp 11)=.agg #[val x 0,val x 1]:=l;have e:ar (⟨T,[]⟩:Act).eval SWs=(do storeVar 240 ⟨Y.C,x*2,af⟩ (.agg #[val x 0,val x 1]);pure .skip):=by simp[ar,SWs,oW,y,t,Instr.storeAt,Instr.sureAddr]
    rw[e]at f;have E:aa∈(storeCells ⟨Y.C,x*2,af⟩ [val x 0,val x 1]).events ag w1 #[]:=by simp only[storeVar,aM,(bO 240 Iy aK).b6,Iy,F,aP,events_sizeOf,dO,cC,cf,cA,bG]at f;simpa[m]using f
    rcases fj [val x 0,val x 1] 0 cs w1 #[] c r A aa E with X|⟨j,_,R,rfl⟩
    · grind
    grind
  have g:WgLive 238 Y.Wg (w1.setRow Y.C new):=by
    obtain⟨st,P,h⟩:=afy;refine⟨st,P,?_⟩;show(w1.setRow Y.C new).heap[Y.Wg]?=_;rw[setRow_other w1 Y.C Y.Wg new ?_]
    · exact h
    · intro e
      have d:w1.heap[Y.Wg]?=O (Go.ConcR.wgBlock 238 st P):=h;rw[e,c]at d;simp[Go.ConcR.wgBlock]at d;exact absurd d.2 ee
  refine⟨_,w1.setRow Y.C new,_,MQ (b:=bW (.pointer (O ⟨Y.Wg,0,af⟩))) (a:=⟨T,[]⟩) (k:=[]) (ops:=zD.toArray) (i:=7) (rest:=[]) (o:=SWs) aK aK (by simp[bW,baseD]) H,?_,?_,?_⟩
  · refine⟨rfl,rfl,rfl,by simp,λb ak=>setRow_other w1 Y.C b new ak,⟨new,u,by grind⟩,λo ho=>?_,λi hi=>?_⟩
    · grind
    · rw[D]at hi
      rw[w,K];grind
  · intro e ab
    obtain⟨j,R,rfl⟩:=f e (Go.Conc.mem_seen ab);exact⟨x*2+j,aK,by omega,by omega⟩
  · exact afv x D T _ ⟨g,by show(w1.setRow Y.C new).cell? _=_;grind⟩
def acu(l:fp (Cx.zB ag) 172 (pf k)){x:Nat}(o:x<n)(j:Y.kc=2){ps:List bz}{d:Int}(i:val x 0=.string ⟨((dx k ps d).getD []).toArray⟩)(e:val x 1=.bool (dx k ps d).isSome)(w:aH [] s)(F:s.β=[]){v1 v2 v3 v4 v5:ah}(r:Rd s.M v1 (.rp [.int .i64 k]))(q:Rd s.M v2 (.rp [.sl ae 2 (V ps) (cP.fn ps)]))(m:Rd s.M v3 (.rp [.int .i64 d]))(p:Rd s.M v4 (.rp [.val (.slice (O ⟨Y.C,0,af⟩) n n)]))(u:Rd s.M v5 (.rp [.int .i64 x])):
    gd (Cx.zB ag) E0 (Su ag 238 Y (2*n) val x) (born ag (BS #[.pointer (O ⟨Y.Wg,0,af⟩),v1,v2,v3,v4,v5])) s:=by
  refine gd.goes (X:=Cx.zB ag) (R:=λ_ _=>True) (D:=DC0) (Stop:=λg _=>g=G ((bW (.pointer (O ⟨Y.Wg,0,af⟩))).aT ⟨tW (.pointer (O ⟨Y.Wg,0,af⟩)) v1 v2 v3 v4 v5,[]⟩ [.code (.region 1 TJ W)]) [zF])
    (λb=>aH [] b/\b.M=s.M) (λb s2 h v=>⟨h.1.rely v,v.M.trans h.2⟩) (λ_ _ _ _=>trivial) ?_ (λb h=>cK.Bi h.1.mem) ?_ 8 _ s ⟨w,rfl⟩ (acr _ _ _ _ _ _ _)
  · rintro b es h w' ⟨rfl,rfl⟩
    exact⟨Z,.inl (.dw h.1)⟩
  · rintro g b ⟨f,y⟩ rfl
    rw[XR];refine ia.toE (λ_ _ _ h=>h) ?_;refine(afu l ps d n x Y.C o (.pointer (O ⟨Y.Wg,0,af⟩))).region bw (by simp[bW,baseD]) ⟨by simp[tW],⟨[],an⟩,λt=>?_⟩ Z f λs2 a A c E B st=>.stop ?_
    · rw[<-y]at r q m p u
      match t with
      | 0=>exact Rd.val rfl
      | 1=>exact r
      | 2=>exact q
      | 3=>exact m
      | 4=>exact p
      | 5=>exact u
      | t+6=>trivial
    · obtain⟨T,z⟩:=a
      obtain rfl:z=[]:=E;exact afx o j i e (c 12) (c 11)
end
end
section
open Go.Proofs Go.Conc Go.Conc.Lib
open Go.ConcN (WgLive PayAt Has RW AtR0)
open Go.ConcR (KK WgAt stA smA rd wr mk Payload DC0)
def BT:Code->Code|.seq a _=>a|c=>c
def nL:Code->Code|.seq _ a=>a|c=>c
def afz:Code->Code|.block _ a=>a|c=>c
def ajo:Code->Code|.loop a=>a|c=>c
def acv:Code->Array aJ|.region _ o _=>o|_=>#[]
noncomputable def Lt:Code:=(Tryz.f108.body).getD .skip
noncomputable def kJ:Code:=ajo (afz (nL (BT (nL (nL (nL Lt))))))
noncomputable def cR4:Code:=BT kJ
noncomputable def acw:Code:=afz (BT (nL (nL kJ)))
noncomputable def cR5:Code:=BT acw
noncomputable def Gn:Array aJ:=acv (BT (nL acw))
noncomputable def Di:Array aJ:=acv (nL (nL acw))
noncomputable def Wk:Code:=nL (nL (nL kJ))
noncomputable def rm:Code:=nL (nL (nL (nL Lt)))
noncomputable def Dj:Array aJ:=acv (BT rm)
noncomputable def vi:Code:=nL rm
def Iz:kJ=.seq cR4 (.seq (.cond (.tmp 21) .skip (.exit 0)) (.seq (.block 1 (.seq cR5 (.seq (.region 6 Gn ae) (.region 7 Di ae)))) Wk)):=bw
def TN:rm=.seq (.region 9 Dj ae) vi:=bw
def NQ(j:Fr)(σ1:List bq):Post:=λe J U=>e=.normal/\rS J j/\U=σ1
structure At(U0:List bq)(s0:St)(J:Fr)(U:List bq)(a:Act)(s:St):Prop where
 fr:c7 45 U s J a
 hh:aH U s
 st:dE U0 s0 U s
section
variable {U0:List bq}{s0:St}{J j:Fr}{U σ1:List bq}{a:Act}{s:St}
def At.rely(h:At U0 s0 J U a s){d:St}(c:cK s d):At U0 s0 J U a d:=⟨h.fr.rely c h.hh,h.hh.rely c,h.st.trans c.db⟩
structure Wl(b:Nat)(s:St):Prop where
 own:¬s.own b
 β:∀L∈s.β,b∉L.bs
 M:∀o,s.M b o=af
 lt:b<s.w.heap.size
def Wl.step{b:Nat}(h:Wl b s0)(st:dE U0 s0 U s):Wl b s :=
 ⟨by rw[st.own];exact h.own,λL c hb=>by
  rcases st.Ab L c b hb with h1|⟨e,d,h1⟩
  .have:=h.lt;omega
  .exact h.β e d h1,λo=>by rw[st.lJ b h.lt h.β];exact h.M o,eb h.lt st.size⟩
def At.pY{Wg:Nat}(e:Wl Wg s0):qa Wg (At U0 s0 J U a) :=
 ⟨λ_ _ h d=>h.rely d,λ_ h=>⟨U,h.hh⟩,λ_ h=>let c:=e.step h.st;⟨c.own,c.β,c.M⟩⟩
variable {X:Cx ag}{S:au->St->Prop}{b:bd}{k:List Item}{cs:List bd}
def At.ctl(h:At U0 s0 J U a s){g g':au}(d:g.status=.running)(e:∀w,aU ag X.main g w=.go g' w #[])(kk:∀c,At U0 s0 J U a c->ia X S g' c):ia X S g s :=
 .ctl h.hh d e λc h1=>kk c (h.rely h1)
def At.code(h:At U0 s0 J U a s)(hb:b.kind≠.early){c:Code}(f:AW X 45 c (NQ j σ1) J U)(kk:∀a1 s1,At U0 s0 j σ1 a1 s1->ia X S (G (b.aT a1 k) cs) s1):ia X S (G (b.aT a (.code c::k)) cs) s:=by refine f s a h.fr h.hh b k cs S hb ?_;rintro e J' U' s' a' ⟨rfl,hl,rfl⟩ i g d;exact kk a' s' ⟨i.le hl,g,h.st.trans d⟩
end
def ia.jU{Wg:Nat}{E:St->St->Array bg->Prop}{S:au->St->Prop}{g:au}{s:St}(h:ia (Cx.ez ag 238 Wg) S g s)(e:jI (λb=>b=Wg) s)(hl:WgLive 238 Wg s.w):
  gd (Cx.ez ag 238 Wg) E (λg s=>S g s/\WgLive 238 Wg s.w) g s:=by
 induction h with
 |stop h=>exact⟨.leaf,h,hl⟩
 |@step g s q ns ne hr h1 h2 _ m =>
  refine .step hr λf c=>?_;have i:=c.2 hl;have d:jI (λb=>b=Wg) f:=⟨λb hb=>by rw[c.1.own];exact e.own b hb,λb hb=>by rw[c.1.β];exact e.β b hb,λb hb o=>by rw[c.1.M];exact e.M b hb o,λb hb=>eb (e.lt b hb) c.1.size⟩
  obtain⟨⟨U,U',hh,n,st⟩,l⟩:=h2 f c;refine⟨_,_,_,h1 f c,.inl ⟨⟨U,U',hh,n,st⟩,l⟩,m f c (d.step st) ?_⟩;obtain⟨x,y,p⟩:=i;exact⟨x,y,by show(ns f).w.heap[Wg]?=_;rw[st.keep Wg (d.lt Wg Z) (d.β Wg Z)];exact p⟩
 |c8 hg _ m=>exact .c8 hg (m (e.c8 hg) (by rw[hg.w];exact hl))
 |jz hx _ _ _=>exact hx.elim
 |AL hj _ _=>exact hj.elim
def Wl.clear{Wg:Nat}{s:St}(h:Wl Wg s):jI (λb=>b=Wg) s:=⟨λb e=>e▸h.own,λb e=>e▸h.β,λb e=>e▸h.M,λb e=>e▸h.lt⟩
section
variable (k:Int)(ps:List bz)(ns:List Int)(C Wg:Nat)
def qz(i:Nat):Fr:=[(3,b7 (.rp [.int .i64 k])),(4,b7 (.rp [.sl ae 2 (V ps) (cP.fn ps)])),(8,b7 (.rp [.val (.slice (O ⟨C,0,af⟩) (V ns) (V ns))])),(9,jA (.pointer (O ⟨Wg,0,af⟩))),
 (18,cI.sl ns),(19,dI (V ns)),(20,dI i)]
variable {k ps ns C Wg}{X:Cx ag}{U:List bq}
def pR4{i:Nat}(hi:i<=V ns):AW X 45 cR4 (NQ ((21,dB (decide (i<V ns)))::qz k ps ns C Wg i) U) (qz k ps ns C Wg i) U:=by
 refine I.dX ?_;by_cases h:i<V ns
 .refine ba [(21,W)] Z c6 ⟨Z,dJ Z ?_,Z⟩;exact c9
 refine ba [(21,ae)] Z c6 ⟨Z,dJ Z ?_,Z⟩;exact c9
abbrev d5:List bq:=[.cg,.cg,.cg,.cg,.cg]
def pR5{i:Nat}(hi:i<V ns):AW X 45 cR5 (NQ ((10,cE 5 0)::(11,cE 6 0)::qz k ps ns C Wg i) [.cg,.cg,.cg,.cg,.cg,.cells 3 [.c (.int .i64 i)],.cells 3 [.c (.int .i64 (ns.getD i 0))]]) (qz k ps ns C Wg i) d5:=by refine I.dX ?_;refine bt Z c6 ⟨Z,dJ Z ay,?_⟩;grind
def pR8{i:Nat}(hi:i<V ns)(c:V ns<=4000000):AW X 45 Wk (NQ (qz k ps ns C Wg (i+1)) d5) (qz k ps ns C Wg i) d5:=by refine I.dX ?_;refine bt Z ek ⟨Z,dJ Z ?_,Z⟩;simp
variable {U0:List bq}{s0:St}{S:au->St->Prop}{b:bd}{kk:List Item}{cs:List bd}
abbrev d7:List bq:=[.cg,.cg,.cg,.cg,.cg,.cg,.cg]
variable (k ps ns C Wg)in
abbrev vQ(i:Nat):Fr:=(11,b7 (.rp [.int .i64 (ns.getD i 0)]))::(10,b7 (.rp [.int .i64 i]))::qz k ps ns C Wg i
noncomputable abbrev yo(kk:List Item):List Item:=.code (.region 7 Di ae)::.inBlock 1::.code Wk::.inLoop kJ::.inBlock 0::kk
def Aq{P:aR}{main:Bool}{b:bd}{a:Act}{k:List Item}{cs:List bd}{w:aB}{c x y:Code}(h:c=.seq x y):aU P main (G (b.aT a (.code c::k)) cs) w=.go (G (b.aT a (.code x::.code y::k)) cs) w:=by grind[rQ]
def toAdd{i:Nat}(hi:i<V ns)(n:b.kind≠.early){a:Act}{s:St}(h:At U0 s0 (qz k ps ns C Wg i) d5 a s)(K:∀m l,At U0 s0 (vQ k ps ns C Wg i) d7 m l->ia X S (G (b.aT m (.inRegion Gn [0]::yo kk)) cs) l):
  ia X S (G (b.aT a (.code kJ::.inLoop kJ::.inBlock 0::kk)) cs) s:=by
 refine h.ctl Z (λw=>Aq Iz) λs h=>?_;refine h.code n (pR4 (Nat.le_of_lt hi)) λa s h=>?_;refine h.ctl Z (λw=>rQ) λs h=>?_;have o:a.eval (.tmp 21)=.bool W:=by have:=h.fr.ff 21;simp only[hi,lI]at this;exact Gm (gG this)
 refine h.ctl Z (λw=>Ac o) λs h=>?_;refine h.ctl Z (λw=>MO) λs h=>?_;refine h.ctl Z (λw=>rQ) λs h=>?_;refine h.ctl Z (λw=>wQ) λs h=>?_;refine h.ctl Z (λw=>rQ) λs h=>?_;have h:At U0 s0 (qz k ps ns C Wg i) d5 a s:=⟨h.fr.le (dJ Z ay),h.hh,h.st⟩
 refine h.code n (pR5 hi) λa s h=>?_;obtain⟨l,w1,q,d,f⟩:=c7.freeze 10 5 (E:=3) (cs:=[.c (.int .i64 i)]) (cc:=[.int .i64 i]) rfl rfl rfl h.fr h.hh;refine .c8 (.of h.hh d w1 (f.pC h.hh)) ?_;obtain⟨s2,w2,p,e,g⟩:=c7.freeze 11 6 (E:=3) (cs:=[.c (.int .i64 (ns.getD i 0))]) (cc:=[.int .i64 (ns.getD i 0)]) rfl rfl rfl q d;refine .c8 (.of d e w2 (g.pC d)) ?_;have h:At U0 s0 (vQ k ps ns C Wg i) d7 a s2:=⟨p.le (dJ Z ay),e,h.st.trans ((f.pC h.hh).trans (g.pC d))⟩
 refine h.ctl Z (λw=>rQ) λs h=>?_;refine h.ctl Z (λw=>uq) λs h=>?_;exact K a s h
def o6:aJ:={dst:=O 25,op:=.call {callee:=.value (.func 169),args:=#[.tmp 9,.const (.int .i64 1)],argTypes:=#[238,3]},type:=0,pos:= "l12_snap.go:79",after:=#[],guard:=af}
theorem NG:Gn=#[o6]:=bw
def TO{i:Nat}(g:b.kind≠.early){a:Act}{s:St}(h:At U0 s0 (vQ k ps ns C Wg i) d7 a s)(K:∀c,At U0 s0 (vQ k ps ns C Wg i) d7 a c->ia X S (G (Frame.enter ag 169 #[.pointer (O ⟨Wg,0,af⟩),.int .i64 1] .normal) (b.aT a (.inRegion Gn [0]::yo kk)::cs)) c):
  ia X S (G (b.aT a (.inRegion Gn [0]::yo kk)) cs) s:=by
 refine .next Z λc d=>?_;have e:=h.rely (X.kq d);have m:a.eval (.tmp 9)=.pointer (O ⟨Wg,0,af⟩):=Rd.fM (e.fr.ff 9);have l:(ar a.eval o6).run ag c.w=.ok (.enter 169 #[.pointer (O ⟨Wg,0,af⟩),.int .i64 1]) c.w:=by have:=run_call_body (P:=ag) (a:=a) (w:=c.w) (o:=o6) (f:=169) (fn:=Tryz.f169) Z Tryz.func169 bw bw;rw[this,<-m];simp only[List.map_toArray,mR,List.map_nil];rfl
 have p:(ar a.eval o6).events ag c.w #[]=#[]:=events_call_body (P:=ag) (a:=a) (w:=c.w) (o:=o6) (f:=169) (fn:=Tryz.f169) Z Tryz.func169 bw bw #[];have n:listed ag b.fn a o6 c.w=#[]:=by unfold listed;grind[seen_none]
 refine⟨_,c,#[],?_,.dw e.hh,K c e⟩;have:=qK (P:=ag) (main:=X.main) (b:=b) (a:=a) (k:=yo kk) (cs:=cs) (w:=c.w) (ops:=Gn) (i:=0) (rest:=[]) (o:=o6) (by grind[NG]) Z g l;grind
def o70:aJ:={dst:=O 26,op:=.makeFunc (.func 170) #[] #[.tmp 9,.tmp 3,.tmp 4,.tmp 11,.tmp 8,.tmp 10],type:=1,pos:= "l12_snap.go:80",after:=#[],guard:=af}
def XU:aJ:={dst:=af,op:=.go {callee:=.value (.tmp 26),args:=#[],argTypes:=#[]},type:=0,pos:= "l12_snap.go:80",after:=#[⟨0,.data⟩],guard:=af}
theorem NH:Di=[o70,XU].toArray:=bw
variable (k ps ns C Wg)in
abbrev Lu(i:Nat):AM.C:=.fn (.func 170) [] [.val (.pointer (O ⟨Wg,0,af⟩)),.rp [.int .i64 k],.rp [.sl ae 2 (V ps) (cP.fn ps)],.rp [.int .i64 (ns.getD i 0)],.rp [.val (.slice (O ⟨C,0,af⟩) (V ns) (V ns))],.rp [.int .i64 i]]
def afB{i:Nat}:OA X 45 [o70,XU] o70 ((25,.any)::vQ k ps ns C Wg i) d7 (b7 (Lu k ps ns C Wg i)) d7:=by have h:A5 tt [] [] [o70,XU] ((25,.any)::vQ k ps ns C Wg i) d7 o70=O (b7 (Lu k ps ns C Wg i),af,[]):=rfl;exact gK bO b5.nil h an
def ajp{i:Nat}(n:b.kind≠.early){a:Act}{s:St}(h:At U0 s0 (vQ k ps ns C Wg i) d7 a s)(K:∀v f c,At U0 s0 (vQ k ps ns C Wg i) d7 f c->Rd c.M v (Lu k ps ns C Wg i)->f.tmps.getD 26 ai=v->ia X S (G (b.aT f (.inRegion Di [1]::.inBlock 1::.code Wk::.inLoop kJ::.inBlock 0::kk)) cs) c):
  ia X S (G (b.aT (a.put (O 25) (.tuple #[])) (.inRegion Gn []::yo kk)) cs) s:=by
 have o:At U0 s0 ((25,.any)::vQ k ps ns C Wg i) d7 (a.put (O 25) (.tuple #[])) s:=⟨h.fr.put ee an,h.hh,h.st⟩
 refine o.ctl Z (λw=>lq) λs h=>?_;refine h.ctl Z (λw=>uq) λs h=>?_;rw[NH];refine afB s _ h.fr h.hh b _ cs S 0 [1] n Z λv c g m e=>?_;have g:Rd c.M v (Lu k ps ns C Wg i):=gG g;have p:=((h.fr.mono e h.hh.len).put (d:=26) (v:=v) (x:=.any) ee an)
 have l:26<(a.put (O 25) (.tuple #[])).tmps.size:=by rw[h.fr.size];decide
 refine K v _ c ⟨p.le (dJ Z ?_),m,h.st.trans e⟩ g (SJ l);simp
def acx{i:Nat}(hi:i<V ns)(q:V ns<=4000000)(c:b.kind≠.early)(d:U0.length<=5){a:Act}{s:St}(h:At U0 s0 (vQ k ps ns C Wg i) d7 a s)(K:∀l m,At U0 s0 (qz k ps ns C Wg (i+1)) d5 l m->ia X S (G (b.aT l (.code kJ::.inLoop kJ::.inBlock 0::kk)) cs) m):
  ia X S (G (b.aT a (.inRegion Di []::.inBlock 1::.code Wk::.inLoop kJ::.inBlock 0::kk)) cs) s:=by
 have g:c7 45 (d5++[.cg,.cg]) s (qz k ps ns C Wg i) a:=h.fr.le (dJ Z ay);have e:aH (d5++[.cg,.cg]) s:=h.hh;have f:dE U0 s0 (d5++[.cg,.cg]) s:=h.st;have o:gn s (s.cut (V d5)):=⟨rfl,λ_ _ _ h=>h,λ_ _ _=>rfl,e.mem,λb c=>c.imp id λ⟨L,n,c⟩=>⟨L,hO n,c⟩⟩
 refine .c8 o ?_;have h:At U0 s0 (qz k ps ns C Wg i) d5 a (s.cut (V d5)):=⟨⟨g.size,g.defers.imp λ_ p=>p.drop Z,λt=>(g.ff t).drop (rh Z)⟩,e.drop Z,f.drop d⟩
 refine h.ctl Z (λw=>lq) λs h=>?_;refine h.ctl Z (λw=>vt) λs h=>?_;refine h.code c (pR8 hi q) λa s h=>?_;exact h.ctl Z (λw=>DM) λs h=>K a s h
end
theorem BU{b:bd}(c:b.roundOf=af)(a:Act)(t:List Item):b.aT a t=b.at ⟨a.tmps,a.defers++b.defers⟩ t:=by cases b;simp only at c;subst c;rfl
section
variable {k:Int}{ps:List bz}{ns:List Int}{Y:zA}{val:Nat->Nat->ah}{U0:List bq}{s0:St}{b:bd}{kk:List Item}{cs:List bd}
def aak{a:Act}{w:aB}{c c1 c2 c3 c4 c5:ah}(d:a.tmps.getD 26 ai=.func (.func 170) #[] #[c,c1,c2,c3,c4,c5]):(ar a.eval XU).run ag w=.ok (.spawn (BS #[c,c1,c2,c3,c4,c5])) w/\(ar a.eval XU).events ag w #[]=#[]:=by
 have e:a.eval (.tmp 26)=.func (.func 170) #[] #[c,c1,c2,c3,c4,c5]:=d;constructor
 .simp[ar,XU,resolve,Deferred.ofValue,e,BS]
 simp[ar,XU,resolve,Deferred.ofValue,e]
def afC(t:fp (Cx.zB ag) 172 (pf k))(n:Y.kc=2)(e:b.roundOf=af)(A:b.kind≠.early){i:Nat}(hi:i<V ns)(m:val i 0=.string ⟨((dx k ps (ns.getD i 0)).getD []).toArray⟩)(g:val i 1=.bool (dx k ps (ns.getD i 0)).isSome){v:ah}{a:Act}{s:St}(h:At U0 s0 (vQ k ps ns Y.C Y.Wg i) d7 a s)(z:WgLive 238 Y.Wg s.w)(D:Rd s.M v (Lu k ps ns Y.C Y.Wg i))(u:a.tmps.getD 26 ai=v){Next:au->St->Prop}(K:∀c,At U0 s0 (vQ k ps ns Y.C Y.Wg i) d7 a c->WgLive 238 Y.Wg c.w->Next (G (b.aT a (.inRegion Di []::.inBlock 1::.code Wk::.inLoop kJ::.inBlock 0::kk)) cs) c):
  W8 ag 238 Y (2*V ns) val i Next (G (b.aT a (.inRegion Di [1]::.inBlock 1::.code Wk::.inLoop kJ::.inBlock 0::kk)) cs) s:=by
 refine⟨Z,λc d=>?_⟩;have x:=h.rely d.1;have r:Rd c.M v (Lu k ps ns Y.C Y.Wg i):=by rw[d.1.M];exact D
 cases r with
 |fn fs cc hl1 hl2 f1 f2 g1 g2 r1 r2 =>
 have q:fs=[]:=kB hl1;subst q;have p:cc=[f2 0,f2 1,f2 2,f2 3,f2 4,f2 5]:=by
  apply tb;intro j;have hl2:V cc=6:=hl2
  match j with
  |0=>grind
  |1=>grind
  |2=>grind
  |3=>grind
  |4=>grind
  |5=>grind
  |j+6=>grind
 subst p;have B:f2 0=.pointer (O ⟨Y.Wg,0,af⟩):=Rd.fM (r2 0 _ Z);obtain⟨y,q2⟩:=aak (a:=a) (w:=c.w) u;have f:Go.Conc.listed ag b.fn ⟨a.tmps,a.defers++b.defers⟩ XU c.w=#[]:=by unfold Go.Conc.listed;have:=(aak (a:=⟨a.tmps,a.defers++b.defers⟩) (w:=c.w) u).2;grind[seen_none]
 have l:=stepG_spawn (P:=ag) (main:=W) (b:=b) (a:=⟨a.tmps,a.defers++b.defers⟩) (k:=.inBlock 1::.code Wk::.inLoop kJ::.inBlock 0::kk) (cs:=cs) (w:=c.w) (ops:=Di) (i:=1) (rest:=[]) (o:=XU) (by grind[NH]) Z A y Z;refine⟨G (b.aT a (.inRegion Di []::.inBlock 1::.code Wk::.inLoop kJ::.inBlock 0::kk)) cs,born ag (BS #[f2 0,f2 1,f2 2,f2 3,f2 4,f2 5]),?_,Z,?_,K c x (d.2 z)⟩
 .rw[BU e,BU e,l,f];rfl
 rw[B];exact acu t hi n m g (s:=c.ly) ⟨x.hh.mem,Z,by simp,by simp[St.ly],by simp[St.ly],by simp[St.ly]⟩ Z (r2 1 _ Z) (r2 2 _ Z) (r2 3 _ Z) (r2 4 _ Z) (r2 5 _ Z)
def o9:aJ:={dst:=O 28,op:=.call {callee:=.value (.func 173),args:=#[.tmp 9],argTypes:=#[238]},type:=0,pos:= "l12_snap.go:85",after:=#[],guard:=af}
theorem NI:Dj=#[o9]:=bw
variable {X:Cx ag}{S:au->St->Prop}
def acy(j:b.kind≠.early){C Wg:Nat}{a:Act}{s:St}(h:At U0 s0 (qz k ps ns C Wg (V ns)) d5 a s)(K:∀g c,At U0 s0 (qz k ps ns C Wg (V ns)) d5 g c->ia X S (G (Frame.enter ag 173 #[.pointer (O ⟨Wg,0,af⟩)] .normal) (b.aT g (.inRegion Dj [0]::.code vi::kk)::cs)) c):
  ia X S (G (b.aT a (.code kJ::.inLoop kJ::.inBlock 0::.code rm::kk)) cs) s:=by
 refine h.ctl Z (λw=>Aq Iz) λs h=>?_;refine h.code j (pR4 (bm _)) λa s h=>?_;refine h.ctl Z (λw=>rQ) λs h=>?_;have m:a.eval (.tmp 21)=.bool ae:=by have:=h.fr.ff 21;simp only[Nat.lt_irrefl,lB]at this;exact Gm (gG this)
 refine h.ctl Z (λw=>Ac m) λs h=>?_;refine h.ctl Z (λw=>Fe (k':=.code rm::kk) Z) λs h=>?_;refine h.ctl Z (λw=>Aq TN) λs h=>?_;refine h.ctl Z (λw=>uq) λs h=>?_;have h:At U0 s0 (qz k ps ns C Wg (V ns)) d5 a s:=⟨h.fr.le (dJ Z ay),h.hh,h.st⟩
 refine .next Z λc d=>?_;have e:=h.rely (X.kq d);have q:a.eval (.tmp 9)=.pointer (O ⟨Wg,0,af⟩):=Rd.fM (e.fr.ff 9);have n:(ar a.eval o9).run ag c.w=.ok (.enter 173 #[.pointer (O ⟨Wg,0,af⟩)]) c.w:=by have:=run_call_body (P:=ag) (a:=a) (w:=c.w) (o:=o9) (f:=173) (fn:=Tryz.f173) Z Tryz.func173 bw bw;grind
 have p:(ar a.eval o9).events ag c.w #[]=#[]:=events_call_body (P:=ag) (a:=a) (w:=c.w) (o:=o9) (f:=173) (fn:=Tryz.f173) Z Tryz.func173 bw bw #[];have l:Go.Conc.listed ag b.fn a o9 c.w=#[]:=by unfold Go.Conc.listed;grind[seen_none]
 refine⟨_,c,#[],?_,.dw e.hh,K a c e⟩;have:=qK (P:=ag) (main:=X.main) (b:=b) (a:=a) (k:=.code vi::kk) (cs:=cs) (w:=c.w) (ops:=Dj) (i:=0) (rest:=[]) (o:=o9) (by grind[NI]) Z j n;rw[l]at this;exact this
section
variable (k ps ns Y U0 s0 b kk cs)
def AnF(g:au)(s:St):Prop:=∃a,Nx ag wgL Y (At U0 s0 (qz k ps ns Y.C Y.Wg (V ns)) d5 a) (b.aT a (.inRegion Dj [0]::.code vi::kk)) cs g s
def TF(g:au)(s:St):Prop:=∃a,TW ag wgL Y (At U0 s0 (qz k ps ns Y.C Y.Wg (V ns)) d5 a) (G (b.aT (a.put (O 28) (.tuple #[])) (.inRegion Dj []::.code vi::kk)) cs) g s
end
def anF(f:Wl Y.Wg s0)(c:b.roundOf=af){g:au}{s:St}(h:AnF k ps ns Y U0 s0 b kk cs g s):
  gd (Cx.ez ag 238 Y.Wg) (Es Y.Wg) (KQ ag 238 Y (TF k ps ns Y U0 s0 b kk cs) (AnF k ps ns Y U0 s0 b kk cs)) g s:=by
 obtain⟨a,h⟩:=h;have e:(Dj[0]?).bind (·.dst)=O 28:=by rw[NI];rfl
 rw[BU c]at h;refine afe (P:=ag) (L:=wgL) (b₀:=b) (a₀:=⟨a.tmps,a.defers++b.defers⟩) (ops₀:=Dj) (i₀:=0) (rest₀:=[]) (k₀:=.code vi::kk) (cs:=cs) Ix (At.pY f) (λg s d=>⟨a,?_⟩) (λg s i=>⟨a,?_⟩) h
 .rw[BU c];rw[e]at d;exact d
 grind[BU]
def Pc{P:aR}{ty:av}{N n:Nat}{a:au->St->Prop}:∀(r:Nat){g:au}{s:St},gd (Cx.ez P ty Y.Wg) (Es Y.Wg) (λg s=>r6 P ty Y N val n a r g s) g s->r6 P ty Y N val n a r g s
 |0,_,_,h=>gd.bind h λ_ _ x=>x
 |_+1,_,_,h=>gd.bind h λ_ _ x=>x
def XV(A:fp (Cx.zB ag) 172 (pf k))(x:Y.kc=2)(m:Wl Y.Wg s0)(e:b.roundOf=af)(l:b.kind≠.early)(n:U0.length<=5)(AK:V ns<=4000000)(u:∀i,i<V ns->val i 0=.string ⟨((dx k ps (ns.getD i 0)).getD []).toArray⟩)(q:∀i,i<V ns->val i 1=.bool (dx k ps (ns.getD i 0)).isSome):
  ∀(r:Nat),r<=V ns->∀(a:Act) (s:St),At U0 s0 (qz k ps ns Y.C Y.Wg (V ns-r)) d5 a s->WgLive 238 Y.Wg s.w ->
   r6 ag 238 Y (2*V ns) val (V ns) (AnF k ps ns Y U0 s0 b kk cs) r (G (b.aT a (.code kJ::.inLoop kJ::.inBlock 0::.code rm::kk)) cs) s:=by
 intro r;induction r with
 |zero =>
  intro _ a s h c;rw[pQ]at h;have:=ia.jU (E:=Es Y.Wg) (acy (X:=Cx.ez ag 238 Y.Wg) (kk:=kk) (cs:=cs) (S:=λg s=>∃a,g=G (Frame.enter ag 173 #[.pointer (O ⟨Y.Wg,0,af⟩)] .normal) (b.aT a (.inRegion Dj [0]::.code vi::kk)::cs)/\At U0 s0 (qz k ps ns Y.C Y.Wg (V ns)) d5 a s) l h λf o d=>.stop ⟨f,rfl,d⟩) (m.step h.st).clear c;refine gd.bind this ?_;rintro g s ⟨⟨a,rfl,h⟩,c⟩;exact afg (P:=ag) (L:=wgL) (Y:=Y) Ix (At.pY m) (λg s D=>⟨a,D⟩) ⟨h,c⟩
 |succ r H =>
  intro J a s h c;have hi:V ns-(r+1)<V ns:=aq;generalize y:V ns-(r+1)=i at h hi;have:=ia.jU (E:=Es Y.Wg) (toAdd (X:=Cx.ez ag 238 Y.Wg) (kk:=.code rm::kk) (cs:=cs) (S:=λg s=>∃a,g=G (Frame.enter ag 169 #[.pointer (O ⟨Y.Wg,0,af⟩),.int .i64 1] .normal) (b.aT a (.inRegion Gn [0]::yo (.code rm::kk))::cs)/\At U0 s0 (vQ k ps ns Y.C Y.Wg i) d7 a s) hi l h λf o d=>TO l d λs2 h2=>.stop ⟨f,rfl,h2⟩) (m.step h.st).clear c;refine gd.bind this ?_;rintro g s ⟨⟨a,rfl,h⟩,c⟩;have B:(Gn[0]?).bind (·.dst)=O 25:=by rw[NG];rfl
  rw[BU e];refine aja (P:=ag) (L:=wgL) (Y:=Y) (F:=At U0 s0 (vQ k ps ns Y.C Y.Wg i) d7 a) Ix (At.pY m) (λs z=>?_) ⟨h,c⟩;rw[B];have:=ia.jU (E:=Es Y.Wg) (ajp (X:=Cx.ez ag 238 Y.Wg) (kk:=.code rm::kk) (cs:=cs) (S:=λg s=>∃v a,g=G (b.aT a (.inRegion Di [1]::.inBlock 1::.code Wk::.inLoop kJ::.inBlock 0::.code rm::kk)) cs/\At U0 s0 (vQ k ps ns Y.C Y.Wg i) d7 a s/\Rd s.M v (Lu k ps ns Y.C Y.Wg i)/\a.tmps.getD 26 ai=v) l z.1 λv f o d t j=>.stop ⟨v,f,rfl,d,t,j⟩) (m.step z.1.st).clear z.2;rw[BU e]at this;refine gd.bind this ?_;rintro g s ⟨⟨v,a,rfl,h,t,j⟩,c⟩;rw[y];refine⟨.leaf,afC A x e l hi (u i hi) (q i hi) h c t j λo d p=>?_⟩;refine Pc r ?_;have:=ia.jU (E:=Es Y.Wg) (acx (X:=Cx.ez ag 238 Y.Wg) (kk:=.code rm::kk) (cs:=cs) (S:=λg s=>∃a,g=G (b.aT a (.code kJ::.inLoop kJ::.inBlock 0::.code rm::kk)) cs/\At U0 s0 (qz k ps ns Y.C Y.Wg (i+1)) d5 a s) hi AK l n d λf o d=>.stop ⟨f,rfl,d⟩) (m.step d.st).clear p;refine gd.bind this ?_;rintro g s ⟨⟨a,rfl,h⟩,c⟩;refine⟨.leaf,H aq a s ?_ c⟩;grind
end
end
section
variable {X:Cx ag}[X.ln]
def ac6(t:List bF):∀i,i<V t->V (cF.fn t i)=2/\∀c∈cF.fn t i,Hw c=W:=by intro i _;refine⟨Z,λc a=>?_⟩;simp only[lX.fn,Dk,cF,eQ,rO,mS]at a;rcases a with rfl|rfl<;>rfl
abbrev UY(t:List bF)(xs:List ah):Prop:=kU 2 (V t) (cF.fn t) xs
abbrev bK(bf:tn)(n:Nat)(xs:List ah):bq:=.cJ (jS 98 2 bf n xs)
abbrev tKB(bf:tn)(n:Nat)(b:Bool):D:=.gI [.bX (.v (qw bf n)),.bX (.c (.bool b))]
def Jq(t:List bF)(p x:Bs):e9 (ι:={q:tn×List ah // UY (fW t p x).1 q.2}) X 65 [cF.sl t,dS p,dS x] [] (λq=>tKB q.1.1 (fW t p x).1.length (fW t p x).2) (λq=>[bK q.1.1 (fW t p x).1.length q.1.2]) :=
 (zl t p x).thaw Tryz.func65 rfl (by simp[F8,tM,xi,r9,AP,Hw]) (ac6 _)
def kU.nil{k:Nat}:kU k 0 es []:=⟨by simp,λi hi=>by omega,λi hi=>by omega⟩
def PT{t:List bF}{p x:Bs}(h:(fW t p x).2=W):(fW t p x).1.length<=6:=by
 unfold fW at h⊢;split at h
 .rename_i b;rw[bh b];split at h
  .rename_i a;rw[bh a];exact pr a
  grind
 grind
def agd(h:o.op=.call {callee:=.builtin .append,args:=#[x,y],argTypes:=#[31,31]}):oc ag o x y 98 Ym :=
 ⟨⟨31,31,i31,i31,h,(bO _ _ Z),rfl,(bO _ _ Z),rfl⟩,(bO _ _ Z),by decide,by decide⟩
def UZ{p:Bs}(h:V p<=9223372036854775807):Rd M (Hk p) (.du p):=Rd.du Z h
def UY.aa4{t:List bF}{xs:List ah}(h:UY t xs)(p x:Bs)(d:V p<=9223372036854775807)(b:V x<=9223372036854775807):UY (t++[(p,x)]) (xs++[Hk p,Hk x]):=by
 unfold UY;rw[cj];refine kU.aa4 h (λi hi=>?_) Z Z λq c a=>?_
 .simp[lX.fn,Dk,aj,j8 hi]
 have e:cF.fn (t++[(p,x)]) (V t)=[.du p,.du x]:=by simp[lX.fn,Dk,cF]
 rw[e]at a;rcases q with _|_|q
 .simp at a;subst a;exact⟨Hk p,Z,λM=>UZ d⟩
 .simp at a;subst a;exact⟨Hk x,Z,λM=>UZ b⟩
 grind
def UY.Yu{t:List bF}{xs:List ah}(h:UY t xs)(i:Nat)(hi:i<V t)(x:Bs)(d:qx vs [.c (.du x)]):UY (t.set i ((t.getD i cF.cy).1,x)) (xs.take (i*2+1)++vs++xs.drop (i*2+1+V vs)):=by
 unfold UY;rw[List.length_set];refine kU.ic h i 1 hi d (bm _) (λg f a=>?_) Z λq c b=>?_
 .simp[lX.fn,Dk,aj,Ne.symm a]
 have e:cF.fn (t.set i ((t.getD i cF.cy).1,x)) i=[.du (t.getD i cF.cy).1,.du x]:=by simp[lX.fn,Dk,cF,aj,hi]
 rw[e]at b;rcases q with _|_|q
 .right;exact ek
 .grind
 grind
structure Jr(k c:Nat) where
 t:List bF
 bf:tn
 xs:List ah
 k1:Nat
 fl:UY t xs
 hl:V t<=7
 h1:k<=k1
 h2:k1<=k+c
set_option maxRecDepth 20000 in
def NN(m:Nat)(b:Nat->Int)(r:Bytes b)(k:Nat)(hk:k<=50000)(i:m<=1048576):
  e9 (ι:=Jr k 400) X 25 [cE 0 0] [pD m b k] (λq=>jA (qw q.bf (V q.t))) (λq=>[pD m b q.k1,bK q.bf (V q.t) q.xs]):=by
 refine e9.sH Tryz.func25 rfl rfl rfl λK=>?_;refine sY [] 9 Z an (I.WG 3 98 2 Z λB=>?_);refine bt Z an (I.cP (iH m b r k 6 aq i aq) [0] Z fe ?_);rintro⟨v,v0,v1⟩;refine bt Z an (I.cm 2 (λs:Nat×List bF×tn×List ah×Nat=>s.1<=5/\UY s.2.1 s.2.2.2.1/\V s.2.1<=6/\k<=s.2.2.2.2/\s.2.2.2.2+70*s.1<=k+351) (λs=>[(0,cE 0 0),(4,dI s.1),(3,jA (qw s.2.2.1 (V s.2.1)))]) (λs=>[pD m b s.2.2.2.2,bK s.2.2.1 (V s.2.1) s.2.2.2.1]) (λs=>s.1) (v.toNat,[],B,[],k+1) Z c6 Z ay Z ⟨by omega,kU.nil,by simp,by simp,by grind⟩ ?_);rintro⟨n,t,bf,xs,k1⟩ ⟨J,d,F,AK,aa⟩;simp only at J d F AK aa;by_cases L:0<n
 .refine ba [(11,W)] Z (by simp[L]) (I.cP (Ar m b r k1 aq i) [0] Z fe ?_);rintro⟨p,P⟩;refine bt Z an (I.cP (NO m b r (k1+1+1) aq i) [0] Z fe ?_);rintro⟨⟨x,E⟩,H,D,o⟩;simp only at H D o;refine bt Z an (I.SP (Jq t p x) 1 0 Z Z Z Z (jS.DN Z (cF.fn t) d.rd) Z ay Z fe fe Z ?_);rintro⟨⟨a,xs'⟩,g⟩;simp only at g⊢;cases C:(fW t p x).2 with
  |true =>
   have w:=PT C;generalize(fW t p x).1=t' at g w⊢;refine sY [] 6 Z an (I.swap 1 2 ee Z Z (λv Q h=>h.1) (λv Q h=>h.1) ?_);refine ba [(23,W)] Z ?_ (I.aQ (n-1,t',a,xs',E) Z ?_ ?_ ?_ ?_)
   .simp[cd];omega
   .simp;omega
   .simp
   .grind
   grind
  |false =>
   refine ba [(23,ae)] Z ek (I.aQ (n-1,t,bf,xs,E) Z c6 ay az ?_);grind
 obtain rfl:n=0:=aq;refine ba [(11,ae)] Z ay (I.br Z Z ?_);refine bt Z an (I.cP (iH m b r k1 40 aq i aq) [0] Z fe ?_);rintro⟨u,T,U⟩;by_cases N:u=0
 .refine ba [(27,W)] Z (by simp[N]) (I.cP (Ar m b r (k1+1) aq i) [0] Z fe ?_);rintro⟨p,P⟩;refine bt Z an (I.rR (l:=1) (bf:=bf) (xs:=xs) (n:=V t) (xv:=[Hk p,Hk [97]]) (agd Z) Z Z Z Z Z Z Z Z (λM v j c R S=>?_) (by show _*32<=_;omega) λa=>?_)
  .grind [GO]
  refine bt Z an (I.pG ⟨t++[(p,[97])],a,xs++[Hk p,Hk [97]],k1+1+1+1,d.aa4 p [97] aq ee,by grind,by omega,by omega⟩ (I.dt [0,1] Z ay uZ Z Z ?_));grind
 by_cases A:u=1
 .by_cases y:0<V t
  .refine I.ZG (jS.len (l:=1) Z) λz=>?_;obtain⟨G,cap,rfl⟩:=z.2.2.1 y;refine ba [(27,ae),(35,W),(39,W)] Z c9 (I.Fj bO 1 Z Z Z Z Z Z Z az Z Z λvs hvs=>?_);have f:=d.Yu 0 y [65] hvs;refine bt Z an (I.pG ⟨t.set 0 ((t.getD 0 cF.cy).1,[65]),.row G cap,_,k1+1,f,by grind,by omega,by omega⟩ (I.dt [0,1] Z ay uZ Z Z ?_));grind
  cases bf;all_goals
   refine ba [(27,ae),(35,W),(39,ae)] Z ?_ (I.pG ⟨t,_,xs,k1+1,d,by omega,by omega,by omega⟩ (I.dt [0,1] Z ?_ Z Z Z ?_))
   .simp[y,A]<;>omega
   .simp
   grind
 refine ba [(27,ae),(35,ae)] Z c9 (I.pG ⟨t,bf,xs,k1+1,d,by omega,by omega,by omega⟩ (I.dt [0,1] Z ay Z Z Z ?_));grind
def VR(m:Nat)(b:Nat->Int)(c:Bytes b)(k:Nat)(hk:k<=50000)(a:m<=1048576):
  e9 (ι:=Jr k 400) X 25 [cE 0 0] [pD m b k] (λq=>cF.sl q.t) (λq=>[pD m b q.k1]) :=
 e9.HI (σ1:=λq:Jr k 400=>[pD m b q.k1]) (k:=2) (n:=λq:Jr k 400=>V q.t) (es:=λq:Jr k 400=>cF.fn q.t) (NN m b c k hk a) (λq=>q.fl) fe (λ_=>bm _)
end
section
open Go.Proofs Go.Extern
abbrev wq:av:=73
abbrev oa:av:=71
abbrev YQ:av:=203
abbrev hT(t:av):ah:=.pointer (O ⟨6,t,af⟩)
abbrev rT(t:av):ah:=.iface YQ (.agg #[hT t])
abbrev vV(t:av)(g:Nat)(fl:Int):ah:=.agg #[hT t,.pointer (O ⟨g,0,af⟩),.int .u64 fl]
def JH:nC ag 95 λargs=>ReflectliteValue.unpack (args.getD 0 (.tuple #[])):=⟨_,Tryz.func95,by kernel_rfl,by kernel_rfl,by kernel_rfl,by kernel_rfl⟩
def L4(p:Addr)(w:aB):(ReflectliteValue.unpack (.iface wq (.pointer (O p)))).run ag w=.ok (vV wq w.heap.size 150) (w.alloc (.cells #[.pointer (O p)] wq)):=bw
def L5(p:Addr)(w:aB)(es:Array bg):(ReflectliteValue.unpack (.iface wq (.pointer (O p)))).events ag w es=es:=bw
def L6(p:Addr)(w:aB):(ReflectliteValue.unpack (.iface oa (.pointer (O p)))).run ag w=.ok (vV oa w.heap.size 150) (w.alloc (.cells #[.pointer (O p)] oa)):=bw
def L8(p:Addr)(w:aB)(es:Array bg):(ReflectliteValue.unpack (.iface oa (.pointer (O p)))).events ag w es=es:=bw
def agw:nC ag 96 (ReflectliteValue.methodAny (ReflectliteValue.valueError "reflectlite.Value.Type" 0) λt _ _ _=>ReflectliteType.toType t):=⟨_,Tryz.func96,by kernel_rfl,by kernel_rfl,by kernel_rfl,by kernel_rfl⟩
def agx(g:Nat)(w:aB):(ReflectliteValue.methodAny (ReflectliteValue.valueError "reflectlite.Value.Type" 0) (λt _ _ _=>ReflectliteType.toType t) #[vV wq g 150]).run ag w=.ok (rT wq) w:=bw
def agy(g:Nat)(w:aB)(es:Array bg):(ReflectliteValue.methodAny (ReflectliteValue.valueError "reflectlite.Value.Type" 0) (λt _ _ _=>ReflectliteType.toType t) #[vV wq g 150]).events ag w es=es:=bw
def aaL(h:ah)(w:aB):(Go.method (Tryz.prog.types.size+Made.depth) YQ (.agg #[h]) "Kind").run ag w=.ok (292,h) w/\∀es,(Go.method (Tryz.prog.types.size+Made.depth) YQ (.agg #[h]) "Kind").events ag w es=es:=⟨by kernel_rfl,λes=>by kernel_rfl⟩
def aaM:nC ag 292 (ReflectliteType.abiMethod λt=>do pure (.int .u8 (<-Rtype.kind t))):=⟨_,Tryz.func292,by kernel_rfl,by kernel_rfl,by kernel_rfl,by kernel_rfl⟩
def YR(w:aB):((ReflectliteType.abiMethod λt=>do pure (.int .u8 (<-Rtype.kind t))) #[hT wq]).run ag w=.ok (.int .u8 22) w:=bw
def YS(w:aB)(es:Array bg):((ReflectliteType.abiMethod λt=>do pure (.int .u8 (<-Rtype.kind t))) #[hT wq]).events ag w es=es:=bw
def YT(w:aB):((ReflectliteType.abiMethod λt=>do pure (.int .u8 (<-Rtype.kind t))) #[hT oa]).run ag w=.ok (.int .u8 22) w:=bw
def YU(w:aB)(es:Array bg):((ReflectliteType.abiMethod λt=>do pure (.int .u8 (<-Rtype.kind t))) #[hT oa]).events ag w es=es:=bw
def adt:nC ag 97 (ReflectliteValue.method (ReflectliteValue.valueError "reflectlite.Value.IsNil" 0) ReflectliteValue.isNil):=⟨_,Tryz.func97,by kernel_rfl,by kernel_rfl,by kernel_rfl,by kernel_rfl⟩
def rlm(z:Sem ah)(f:av->Addr->Nat->Nat->Sem ah)(v:ah):ReflectliteValue.method z f #[v]=(do match<-ReflectliteValue.parts v with|none=>z|some (t,a,fl)=>f t a fl (fl % 32)):=rfl
def yR(g:Nat)(w:aB):(ReflectliteValue.parts (vV wq g 150)).run ag w=.ok (O (wq,⟨g,0,af⟩,150)) w/\∀es,(ReflectliteValue.parts (vV wq g 150)).events ag w es=es:=⟨by kernel_rfl,λes=>by kernel_rfl⟩
def adu(g:Nat)(p:Addr)(w:aB)(d:w.cell? ⟨g,0,af⟩=O (.pointer (O p))):(ReflectliteValue.method (ReflectliteValue.valueError "reflectlite.Value.IsNil" 0) ReflectliteValue.isNil #[vV wq g 150]).run ag w=.ok (.bool ae) w /\
  ∀es,∀b∈(ReflectliteValue.method (ReflectliteValue.valueError "reflectlite.Value.IsNil" 0) ReflectliteValue.isNil #[vV wq g 150]).events ag w es,b∈es∨b=⟨.cell ⟨g,0,af⟩,ae,ae⟩:=by
 have c:=Tryz.underlying73;rw[rlm];constructor
 .simp only[cf,(yR g w).1,cA];simp[ReflectliteValue.isNil,loadVar,isAgg,underlying,c,d]
 intro es b a;simp only[aM,cf,(yR g w).1,(yR g w).2,cA,aP]at a;simpa[ReflectliteValue.isNil,loadVar,isAgg,underlying,c,d,show(Mode.plain==Mode.atomic)=ae from rfl]using a
def agz(h:ah)(w:aB):(Go.method (Tryz.prog.types.size+Made.depth) YQ (.agg #[h]) "Elem").run ag w=.ok (308,.agg #[h]) w/\∀es,(Go.method (Tryz.prog.types.size+Made.depth) YQ (.agg #[h]) "Elem").events ag w es=es:=⟨by kernel_rfl,λes=>by kernel_rfl⟩
def adv:nC ag 308 (ReflectliteType.method ReflectliteType.elem):=⟨_,Tryz.func308,by kernel_rfl,by kernel_rfl,by kernel_rfl,by kernel_rfl⟩
def adw(w:aB):(ReflectliteType.method ReflectliteType.elem #[.agg #[hT wq]]).run ag w=.ok (rT oa) w:=bw
def adx(w:aB)(es:Array bg):(ReflectliteType.method ReflectliteType.elem #[.agg #[hT wq]]).events ag w es=es:=bw
def agA(h:ah)(w:aB):(Go.method (Tryz.prog.types.size+Made.depth) YQ (.agg #[h]) "Implements").run ag w=.ok (309,.agg #[h]) w/\∀es,(Go.method (Tryz.prog.types.size+Made.depth) YQ (.agg #[h]) "Implements").events ag w es=es:=⟨by kernel_rfl,λes=>by kernel_rfl⟩
def agB:nC ag 309 (ReflectliteType.relation "Implements" ReflectliteType.implements_):=⟨_,Tryz.func309,by kernel_rfl,by kernel_rfl,by kernel_rfl,by kernel_rfl⟩
def agC(w:aB):(ReflectliteType.relation "Implements" ReflectliteType.implements_ #[.agg #[hT oa],rT 68]).run ag w=.ok (.bool W) w:=bw
def agD(w:aB)(es:Array bg):(ReflectliteType.relation "Implements" ReflectliteType.implements_ #[.agg #[hT oa],rT 68]).events ag w es=es:=bw
def ak5(h:ah)(w:aB):(Go.method (Tryz.prog.types.size+Made.depth) YQ (.agg #[h]) "AssignableTo").run ag w=.ok (306,.agg #[h]) w/\∀es,(Go.method (Tryz.prog.types.size+Made.depth) YQ (.agg #[h]) "AssignableTo").events ag w es=es:=⟨by kernel_rfl,λes=>by kernel_rfl⟩
def ak6:nC ag 306 (ReflectliteType.relation "AssignableTo" ReflectliteType.assignableTo):=⟨_,Tryz.func306,by kernel_rfl,by kernel_rfl,by kernel_rfl,by kernel_rfl⟩
def ak7(w:aB):(ReflectliteType.relation "AssignableTo" ReflectliteType.assignableTo #[.agg #[hT oa],rT oa]).run ag w=.ok (.bool W) w:=bw
def ak8(w:aB)(es:Array bg):(ReflectliteType.relation "AssignableTo" ReflectliteType.assignableTo #[.agg #[hT oa],rT oa]).events ag w es=es:=bw
def YV:nC ag 153 ReflectliteType.typeOf:=⟨_,Tryz.func153,by kernel_rfl,by kernel_rfl,by kernel_rfl,by kernel_rfl⟩
def YW(v:ah)(w:aB):(ReflectliteType.typeOf #[.iface oa v]).run ag w=.ok (rT oa) w:=bw
def YX(v:ah)(w:aB)(es:Array bg):(ReflectliteType.typeOf #[.iface oa v]).events ag w es=es:=bw
def ady:nC ag 154 (ReflectliteValue.method (ReflectliteValue.valueError "reflectlite.Value.Elem" 0) ReflectliteValue.elem):=⟨_,Tryz.func154,by kernel_rfl,by kernel_rfl,by kernel_rfl,by kernel_rfl⟩
def Ob(w:aB):(Rtype.elem? wq).run ag w=.ok (O oa) w/\∀es,(Rtype.elem? wq).events ag w es=es:=⟨by kernel_rfl,λes=>by kernel_rfl⟩
def rMk(p:Addr)(w:aB):(ReflectliteValue.mk oa p ReflectliteValue.flagAddr).run ag w=.ok (.agg #[hT oa,.pointer (O p),.int .u64 406]) w/\∀es,(ReflectliteValue.mk oa p ReflectliteValue.flagAddr).events ag w es=es:=⟨by kernel_rfl,λes=>by kernel_rfl⟩
def adz(g:Nat)(p:Addr)(w:aB)(d:w.cell? ⟨g,0,af⟩=O (.pointer (O p))):(ReflectliteValue.method (ReflectliteValue.valueError "reflectlite.Value.Elem" 0) ReflectliteValue.elem #[vV wq g 150]).run ag w=.ok (.agg #[hT oa,.pointer (O p),.int .u64 406]) w /\
  ∀es,∀b∈(ReflectliteValue.method (ReflectliteValue.valueError "reflectlite.Value.Elem" 0) ReflectliteValue.elem #[vV wq g 150]).events ag w es,b∈es∨b=⟨.cell ⟨g,0,af⟩,ae,ae⟩:=by
 have c:=Tryz.underlying73;rw[rlm];constructor
 .simp only[cf,(yR g w).1,cA];simp[ReflectliteValue.elem,loadVar,isAgg,underlying,c,d,Ob,rMk]
 intro es b a;simp only[aM,cf,(yR g w).1,(yR g w).2,cA,aP]at a;simpa[ReflectliteValue.elem,loadVar,isAgg,underlying,c,d,Ob,rMk,show(Mode.plain==Mode.atomic)=ae from rfl]using a
def ak9:nC ag 155 ReflectliteValue.set:=⟨_,Tryz.func155,by kernel_rfl,by kernel_rfl,by kernel_rfl,by kernel_rfl⟩
def rls(v x:ah):ReflectliteValue.set #[v,x]=(do
  let (O (c,a,fl),O (d,b,_)):=(<-ReflectliteValue.parts v,<-ReflectliteValue.parts x)
   |unsupported (.noEntry "extern/(internal/reflectlite.Value).Set.zeroValue")
  if fl / ReflectliteValue.flagAddr % 2==0 then unsupported (.noEntry "extern/(internal/reflectlite.Value).Set.unaddressable")
  let val<-loadVar d b
  if<-Rtype.directlyAssignable c d then storeVar c a val
  else if<-Rtype.implements c d then
   if(<-Rtype.kind d)==20 then
    match val with
    |.nilIface=>unsupported (.noEntry "extern/reflectlite: a nil value of one interface type handed on as a value of another")
    |_=>storeVar c a val
   else storeVar c a (.iface d val)
  else panicString ("reflectlite.Set: value of type "++(<-Rtype.spelt d)++ " is not assignable to type "++(<-Rtype.spelt c))
  pure (.tuple #[])):=rfl
def G2(p:Addr)(w:aB):(ReflectliteValue.parts (.agg #[hT oa,.pointer (O p),.int .u64 406])).run ag w=.ok (O (oa,p,406)) w/\∀es,(ReflectliteValue.parts (.agg #[hT oa,.pointer (O p),.int .u64 406])).events ag w es=es:=⟨by kernel_rfl,λes=>by kernel_rfl⟩
def G3(g:Nat)(w:aB):(ReflectliteValue.parts (vV oa g 150)).run ag w=.ok (O (oa,⟨g,0,af⟩,150)) w/\∀es,(ReflectliteValue.parts (vV oa g 150)).events ag w es=es:=⟨by kernel_rfl,λes=>by kernel_rfl⟩
def Oc(w:aB):(Rtype.directlyAssignable oa oa).run ag w=.ok W w/\∀es,(Rtype.directlyAssignable oa oa).events ag w es=es:=⟨by kernel_rfl,λes=>by kernel_rfl⟩
def aaN(w:aB):(sizeOf oa).run ag w=.ok 1 w/\∀es,(sizeOf oa).events ag w es=es:=⟨by kernel_rfl,λes=>by kernel_rfl⟩
def ala(g b:Nat)(E:av)(w0:ah)(e:Addr)(w:aB)(n:w.heap[g]?=O (.cells #[w0] E (0,0)))(m:w.cell? ⟨b,0,af⟩=O (.pointer (O e))):
  (ReflectliteValue.set #[.agg #[hT oa,.pointer (O ⟨g,0,af⟩),.int .u64 406],vV oa b 150]).run ag w=.ok (.tuple #[]) (w.setRow g #[.pointer (O e)]) /\
  ∀es,∀c∈(ReflectliteValue.set #[.agg #[hT oa,.pointer (O ⟨g,0,af⟩),.int .u64 406],vV oa b 150]).events ag w es,c∈es∨c=⟨.cell ⟨b,0,af⟩,ae,ae⟩∨c=⟨.cell ⟨g,0,af⟩,W,ae⟩:=by
 have l:=Tryz.underlying71;have i:∀w∈[Value.pointer (O e)],w.oneCell'=W:=λw o=>by simp at o;exact ek
 have k:=run_storeCells_at ag g 0 E [.pointer (O e)] 0 #[w0] w n ay i;have a:(storeCells ⟨g,0,af⟩ [.pointer (O e)] 0).run ag w=.ok () (w.setRow g #[.pointer (O e)]):=k;rw[rls];constructor
 .simp only[cf,(G2 ⟨g,0,af⟩ w).1,(G3 b w).1,cA];simp[ReflectliteValue.flagAddr,loadVar,isAgg,underlying,l,m,Oc,storeVar,Value.cells,aaN,a]
 intro es c f;simp only[aM,cf,(G2 ⟨g,0,af⟩ w).1,(G2 ⟨g,0,af⟩ w).2,(G3 b w).1,(G3 b w).2,cA,aP]at f;have d:c∈(storeCells ⟨g,0,af⟩ [.pointer (O e)] 0).events ag w (es.push ⟨.cell ⟨b,0,af⟩,ae,ae⟩):=by simpa[ReflectliteValue.flagAddr,loadVar,isAgg,underlying,l,m,Oc,storeVar,Value.cells,aaN,a,show(Mode.plain==Mode.atomic)=ae from Z]using f
 rcases fj [.pointer (O e)] 0 #[w0] w _ n ay i c d with h|⟨j,q,p,rfl⟩
 .grind
 obtain rfl:j=0:=az;exact .inr (.inr Z)
end
section
open Go.Proofs Go.Extern
variable {X:Cx ag}
abbrev GBE:bq:=.cJ (fy 0 147 (rT 68))
abbrev Wo(v:ah):D:=b7 (.val v)
abbrev YY(t:av)(g:Nat)(fl:Int):D:=.e (.agg [.c (.val (hT t)),.c (.val (.pointer (O ⟨g,0,af⟩))),.c (.val (.int .u64 fl))])
abbrev asB(p:Addr)(g a:Nat):List bq:=[.cJ (fy a wq (.pointer (O ⟨g,0,af⟩))),.cJ (fy g oa (.pointer af))]
def aaO:∀j,j<2->([0,1]:List Nat)[j]?=O j:=ee
def VF(p:Addr)(g a:Nat):Ev X 98 [Wo (.iface oa (.pointer (O p))),Wo (.iface wq (.pointer (O ⟨g,0,af⟩))),YY wq a 150,Wo (rT oa)] (asB p g a) (dB W) [.cJ (fy a wq (.pointer (O ⟨g,0,af⟩))),.cJ (fy g oa (.pointer (O p)))]:=by refine Ev.bQ Tryz.func98 rfl λf=>?_;refine bt Z an ?_;refine I.xd 3 [0,1,3,6] (λ_:Unit=>True) (λ_=>[]) (λ_=>asB p g a++[.cells 144 [.c (.val (hT wq)),.c (.val (.pointer (O ⟨a,0,af⟩))),.c (.val (.int .u64 150))]]) (λ_=>0) () Z ay Z ay Z an λ_ _=>?_;refine bt Z an ?_;refine I.sD Z Z (gO.KN (jf.vG Z Z) YV (YW _) (YX _) (x:=Wo (rT oa)) λ_=>Rd.val Z) λ_=>?_;refine bt Z an ?_;refine I.sD Z Z (gO.KN (jf.invoke Z Z Z (ak5 _)) ak6 ak7 ak8 (x:=dB W) λ_=>Rd.bool) λ_=>?_;refine ba [(19,W)] Z ay ?_;refine I.sD Z Z (gO.ZR 0 (u:=.pointer (O ⟨g,0,af⟩)) Z (jf.vG Z Z) ady (λw d=>adz a ⟨g,0,af⟩ w d) (x:=YY oa g 406) λ_=>⟨_,Z,Rd.val Z,Rd.val Z,Rd.val Z,an⟩) λ_=>?_;refine bt Z an ?_;refine I.sD Z Z (gO.Sp (E:=oa) (u:=.pointer (O p)) (v:=λg2=>vV oa g2 150) (x:=λg2=>YY oa g2 150) (jf.vG Z Z) JH (L6 p) (L8 p) λg2 _ _=>⟨_,Z,Rd.val Z,Rd.val Z,Rd.val Z,an⟩) λg2=>?_;refine bt Z an ?_;refine I.sD Z Z (gO.aby 1 3 (w0:=.pointer af) (u:=.pointer (O p)) Z Z (jf.vG Z Z) ak9 (λw e b=>ala g g2 oa _ p w e b) (x:=.gI []) λ_ _=>⟨[],Z,an⟩) λ_=>?_;refine bt Z an (I.gp (cM.mk [0,1] Z ?_ Z Z Z aaO));simp
def Od{T:av}(h:o.op=.binOp op t x y ty){c:Bool}{ms:Array (String×av)}(m:P.underlying t=O (.interface ms))(r:η x=b7 (.val (.iface T v)))(q:η y=b7 .kG)(d:∀w,(eqGuard op t x y (.iface T v) .nilIface).run P w=.ok () w)(j:∀w es,(eqGuard op t x y (.iface T v) .nilIface).events P w es=es)(l:lx op ae=O c):bU P o η U (b7 (.bool c)) U:=by
 refine .dw λs n u p=>?_;have i:=p x;have f:=p y;rw[r]at i;rw[q]at f;replace i:=gG i;replace f:=gG f;generalize a:n x=vx at i;generalize b:n y=vy at f;cases i;cases f;have k:(Op.equal t (.iface T v) .nilIface).run P s.w=.ok ae s.w:=Zf;have g:∀es,(Op.equal t (.iface T v) .nilIface).events P s.w es=es:=λes=>by show(bx (9999+1) t _ _).events P s.w es=es;unfold bx;simp[underlying,m]
 cases op<;>simp only[lx,reduceCtorEq,eF]at l
 .subst l;exact⟨.bool ae,by simp[ar,h,a,b,d,binOp,k],Rd.bool,by simp[ar,h,a,b,d,j,binOp,k,g]⟩
 subst l;exact⟨.bool W,by simp[ar,h,a,b,d,binOp,k],Rd.bool,by simp[ar,h,a,b,d,j,binOp,k,g]⟩
def VG(p:Addr)(g:Nat):Ev X 38 [Wo (.iface oa (.pointer (O p))),Wo (.iface wq (.pointer (O ⟨g,0,af⟩)))] [GBE,.cJ (fy g oa (.pointer af))] (dB W) [GBE,.cJ (fy g oa (.pointer (O p)))]:=by refine Ev.bQ Tryz.func38 rfl λd=>?_;refine bt Z an ?_;refine I.gH (Od Z Tryz.underlying68 Z Z fe (λ_ _=>rfl) Z) Z Z ?_;refine ba [(9,ae)] Z ay ?_;refine I.gH (Od Z Tryz.underlying20 Z Z fe (λ_ _=>rfl) Z) Z Z ?_;refine ba [(11,ae)] Z ay ?_;refine I.sD Z Z (gO.Sp (E:=wq) (u:=.pointer (O ⟨g,0,af⟩)) (v:=λg2=>vV wq g2 150) (x:=λg2=>YY wq g2 150) (jf.vG Z Z) JH (L4 _) (L5 _) λg2 _ _=>⟨_,Z,Rd.val Z,Rd.val Z,Rd.val Z,an⟩) λa=>?_;refine bt Z an ?_;refine I.sD Z Z (gO.KN (jf.vG Z Z) agw (agx a) (agy a) (x:=Wo (rT wq)) λ_=>Rd.val Z) λ_=>?_;refine bt Z an ?_;refine I.sD Z Z (gO.KN (jf.invoke Z Z Z (aaL _)) aaM YR YS (x:=b7 (.int .u8 22)) λ_=>Rd.int qJ) λ_=>?_;refine ba [(20,ae)] Z ay ?_;refine I.sD Z Z (gO.ZR 2 (u:=.pointer (O ⟨g,0,af⟩)) Z (jf.vG Z Z) adt (λw b=>adu a ⟨g,0,af⟩ w b) (x:=dB ae) λ_=>Rd.bool) λ_=>?_;refine ba [(23,ae)] Z ay ?_;refine I.sD Z Z (gO.KN (jf.invoke Z Z Z (agz _)) adv adw adx (x:=Wo (rT oa)) λ_=>Rd.val Z) λ_=>?_;refine bt Z an ?_;refine I.sD Z Z (gO.KN (jf.invoke Z Z Z (aaL _)) aaM YT YU (x:=b7 (.int .u8 22)) λ_=>Rd.int qJ) λ_=>?_;refine ba [(30,W)] Z ay ?_;refine I.bX (OA.SI bO 0 Z Z Z Z Z Z) Z ?_;refine I.sD Z Z (gO.KN (jf.invoke Z Z Z (agA _)) agB agC agD (x:=dB W) λ_=>Rd.bool) λ_=>?_;refine ba [(35,ae)] Z ay ?_;refine I.cQ (VF p g a) [2,1] Z ?_;refine bt Z an (I.dt [0,1] Z ?_ Z Z Z aaO);simp
end
end R1
abbrev Yx(a b:Bs)(c:Bool):D:=.gI [.bX (.c (.du a)),.bX (.c (.du b)),.bX (.c (.bool c))]
namespace R1
variable {X:Cx ag}
def Ds(s:Bs)(c:Int)(h:0<=c/\c<=255):Ev X 253 [dS s,dU c] [] (dI (Lib.indexByte s (UInt8.ofNat (Int.toNat c)))) []:=by
 have e:c=((UInt8.ofNat c.toNat).toNat:Int):=by grind[UInt8.toNat_ofNat']
 grind[GP]
def ac9:eP:=λargs U=>match args,U with
 |[.e (.bX (.c (.du a))),.e (.bX (.c (.int .u8 b)))],[]=>O (dI (Lib.indexByte a (UInt8.ofNat (Int.toNat b))),[],[0<=b/\b<=255])
 |_,_=>af
def akO:fp X 253 ac9:=by
 intro args U res U' obs h ho;unfold ac9 at h;split at h
 .cases h;exact(Ds _ _ (ho)).args (λ_ _ r=>r)
 cases h
def age:List (Nat×eP):=(253,ac9)::ct7
def U2:b5 X age:=b5.cons akO (akN)
def lR(s:Bs):Int:=Lib.indexByte s 47
theorem U3(s:Bs):Ev X 232 [dS s,dS [47]] [] (dI (lR s)) []:=by
 refine Ev.bQ Tryz.func232 rfl λa=>?_;by_cases h:s=[47]
 .subst h;refine aY U2 [(18,ae),(22,W)] Z ay (I.bE Z ?_);exact j3
 refine aY U2 [(18,ae),(22,ae),(26,W)] Z ?_ (I.bE Z ?_)
 .simp[fK,dM];grind
 exact j3
def ada:eP:=λargs U=>match args,U with
 |[.e (.bX (.c (.du a))),.e (.bX (.c (.du [47])))],[]=>O (dI (lR a),[],[])
 |_,_=>af
def t232:fp X 232 ada:=by intro args U res U' obs h ho;unfold ada at h;grind[U3]
def agf:List (Nat×eP):=(232,ada)::age
def U4:b5 X agf:=b5.cons t232 (U2)
def nQ(s:Bs):Bs:=if 0<=lR s then s.take (lR s).toNat else s
def sI(s:Bs):Bs:=if 0<=lR s then s.drop ((lR s).toNat+1)else[]
def om(s:Bs):Bool:=decide (0<=lR s)
theorem U5(s:Bs):Ev X 185 [dS s,dS [47]] [] (Yx (nQ s) (sI s) (om s)) []:=by
 refine Ev.bQ Tryz.func185 rfl λb=>?_;have d:=b.du 0 Z;have a:=oE s 47;change lR s<V s∨lR s=-1 at a;by_cases h:0<=lR s
 .have c:(lR s+1).toNat=(lR s).toNat+1:=aq;refine aY U4 [(12,W)] Z ?_ (I.bE Z ?_)
  .simp[h,cd];omega
  simp[nQ,sI,om,h,zu,c]
 refine aY U4 [(12,ae)] Z c6 (I.bE Z ?_);simp[nQ,sI,om,h]
def adb:eP:=λargs U=>match args,U with
 |[.e (.bX (.c (.du a))),.e (.bX (.c (.du [47])))],[]=>O (Yx (nQ a) (sI a) (om a),[],[])
 |_,_=>af
def akP:fp X 185 adb:=by intro args U res U' obs h ho;unfold adb at h;grind[U5]
def agh:List (Nat×eP):=(185,adb)::agf
def aaD:b5 X agh:=b5.cons akP (U4)
theorem ade(s:Bs):Ev X 134 [dS s,dS [47]] [] (Yx (nQ s) (sI s) (om s)) []:=by refine Ev.bQ Tryz.func134 rfl λa=>?_;exact cp aaD Z an (I.bE Z)
def adf:eP:=λargs U=>match args,U with
 |[.e (.bX (.c (.du a))),.e (.bX (.c (.du [47])))],[]=>O (Yx (nQ a) (sI a) (om a),[],[])
 |_,_=>af
def akQ:fp X 134 adf:=by intro args U res U' obs h ho;unfold adf at h;grind[ade]
def eh(s:Bs):Bool:=decide (V s=1)&&decide (97<=dM s 0)&&decide (dM s 0<=101)
theorem zL(s:Bs):Ev X 135 [dS s] [] (dB (eh s)) []:=by
 refine Ev.bQ Tryz.func135 rfl λc=>?_;by_cases a:V s=1
 .by_cases b:97<=dM s 0
  .refine ba [(5,W),(9,W)] Z wj (I.bE Z ?_);show decide (dM s 0<=101)=eh s;simp[eh,a,b]
  refine ba [(5,W),(9,ae)] Z j3 (I.bE Z ?_);simp[eh,b]
 refine ba [(5,ae)] Z c6 (I.bE Z ?_);simp[eh,a]
def adg:eP:=λargs U=>match args,U with
 |[.e (.bX (.c (.du a)))],[]=>O (dB (eh a),[],[])
 |_,_=>af
def akR:fp X 135 adg:=by intro args U res U' obs h ho;unfold adg at h;grind[zL]
def agi:List (Nat×eP):=(134,adf)::(135,adg)::agh
def N3:b5 X agi:=b5.cons akQ (b5.cons akR (aaD))
def iV(s:Bs):Bool:=eh (nQ s)&&(!om s||eh (sI s))
theorem LS(s:Bs):Ev X 80 [dS s] [] (dB (iV s)) []:=by
 refine Ev.bQ Tryz.func80 rfl λc=>?_;cases a:eh (nQ s)with
 |false =>
  refine aY N3 [(13,ae)] Z yX (I.bE Z ?_);simp[iV,a]
 |true =>
  cases b:om s with
  |false =>
   refine aY N3 [(13,W),(15,ae)] Z fC (I.bE Z ?_);simp[iV,a,b]
  |true =>
   refine aY N3 [(13,W),(15,W)] Z fC (I.bE Z ?_);simp[iV,a,b]
def c80:eP:=λargs U=>match args,U with
 |[.e (.bX (.c (.du a)))],[]=>O (dB (iV a),[],[])
 |_,_=>af
def t80:fp X 80 c80:=by intro args U res U' obs h ho;unfold c80 at h;grind[LS]
theorem Ju(s:Bs):Ev X 136 [dS s] [] (dB (cV s)) []:=by
 refine Ev.bQ Tryz.func136 rfl λe=>?_;have g:=e.du 0 Z;refine bt Z an (I.lQ (λi=>i<=V s/\∀j,j<i->iG (s.getD j 0)=W) (λi:Nat=>[(0,dS s),(5,dI (V s)),(6,dI i)]) (λ_=>[]) (λi=>V s-i) 0 Z ay Z an ⟨by omega,by omega⟩ ?_);rintro i ⟨hi,c⟩;by_cases h:i<V s
 .generalize a:s.getD i 0=b;by_cases k:b.toNat<97
  .refine ba [(7,W),(12,W)] Z ?_ (I.j5 (cM.zero Z ?_))
   .simp only[aA,mO,bu,a];omega
   rw[aA,m8 h MC]
  by_cases f:b.toNat>122
  .refine ba [(7,W),(12,ae),(17,W)] Z ?_ (I.j5 (cM.zero Z ?_))
   .simp only[aA,mO,bu,dm,a];omega
   rw[aA,m8 h MC]
  refine ba [(7,W),(12,ae),(17,ae)] Z ?_ (I.iD (i+1) Z ?_ Z an ?_ ?_)
  .simp only[aA,mO,bu,dm,a,cd];omega
  .simp
  .refine⟨by omega,λj d=>?_⟩;rcases zR.1 d with d|rfl
   .grind
   rw[a];simp only[iG,cu,bu];omega
  omega
 refine ba [(7,ae)] Z c6 (I.gE Z Z ?_);refine bt Z an (I.bE Z ?_);rw[aA,xI (λj d=>c j aq)]
def adh:eP:=λargs U=>match args,U with
 |[.e (.bX (.c (.du a)))],[]=>O (dB (cV a),[],[])
 |_,_=>af
def t136:fp X 136 adh:=by intro args U res U' obs h ho;unfold adh at h;grind[Ju]
def agj:List (Nat×eP):=(80,c80)::(136,adh)::agi
def U6:b5 X agj:=b5.cons t80 (b5.cons t136 (N3))
theorem BO(s:Bs):Ev X 81 [dS s] [] (dB (fG s)) []:=by
 refine Ev.bQ Tryz.func81 rfl λb=>?_;by_cases a:V s<=40
 .refine aY U6 [(5,W)] Z c6 (I.bE Z ?_);simp[fG,a]
 refine aY U6 [(5,ae)] Z c6 (I.bE Z ?_);simp[fG,a]
def c81:eP:=λargs U=>match args,U with
 |[.e (.bX (.c (.du a)))],[]=>O (dB (fG a),[],[])
 |_,_=>af
def t81:fp X 81 c81:=by intro args U res U' obs h ho;unfold c81 at h;grind[BO]
def qB(s p:Bs):Bool:=decide (V p<=V s)&&(s.take (V p)==p)
theorem Jv(s p:Bs):Ev X 138 [dS s,dS p] [] (dB (qB s p)) []:=by
 refine Ev.bQ Tryz.func138 rfl λb=>?_;by_cases a:V p<=V s
 .refine ba [(9,W)] Z yX (I.bE Z ?_);simp[qB,a,zu]
 refine ba [(9,ae)] Z c6 (I.bE Z ?_);simp[qB,a]
def adi:eP:=λargs U=>match args,U with
 |[.e (.bX (.c (.du a))),.e (.bX (.c (.du b)))],[]=>O (dB (qB a b),[],[])
 |_,_=>af
def akU:fp X 138 adi:=by intro args U res U' obs h ho;unfold adi at h;grind[Jv]
def agk:List (Nat×eP):=(81,c81)::(138,adi)::agj
def aaE:b5 X agk:=b5.cons t81 (b5.cons akU (U6))
theorem PW(s p:Bs):Ev X 84 [dS s,dS p] [] (dB (qB s p)) []:=by refine Ev.bQ Tryz.func84 rfl λa=>?_;exact cp aaE Z an (I.bE Z)
def c84:eP:=λargs U=>match args,U with
 |[.e (.bX (.c (.du a))),.e (.bX (.c (.du b)))],[]=>O (dB (qB a b),[],[])
 |_,_=>af
def t84:fp X 84 c84:=by intro args U res U' obs h ho;unfold c84 at h;grind[PW]
def agl:List (Nat×eP):=(84,c84)::agk
def aaF:b5 X agl:=b5.cons t84 (aaE)
end R1
def lX.U7(c:lX α)(l:List α)(k n:Nat)(h:k+n<=V l):c.cz n (nY k (c.fn l))=(l.drop k).take n:=by
 apply uh
 .simp[lX.cz];omega
 intro i h1 h2;have hi:i<n:=az;simp[lX.cz,nY,lX.fn,Dk,aj,bD (by omega:k+i<V l),c.inv]
def lX.U8(c:lX α)(l:List α){k:Nat}:c.pd n (nY k (c.fn l)):=λi _=>by simp[nY,lX.fn,Dk,c.inv]
abbrev dR(p x:Bs):D:=b7 (.rp [.du p,.du x])
namespace R1
variable {X:Cx ag}
def under(p q:Bs):Bool:=qB p (q++[47])
def U9(a:bF)(p x:Bs)(h:V a.1<=4000000):Ev X 83 [dP a,dR p x] [] (dB (under p a.1)) []:=by refine Ev.bQ Tryz.func83 rfl λb=>?_;refine cp aaF Z c6 (I.bE Z ?_);exact j3
def c83:eP:=λargs U=>match args,U with
 |[.e (.agg [.c (.du a0),.c (.du a1)]),.e (.bX (.c (.rp [.du p,.du x])))],[]=>O (dB (under p a0),[],[V a0<=4000000/\a1=a1/\x=x])
 |_,_=>af
def t83:fp X 83 c83:=by
 intro args U res U' obs h ho;unfold c83 at h;split at h
 .rename_i a b p x;cases h;exact U9 (a,b) p x ho.1
 grind
def agm:List (Nat×eP):=(83,c83)::agl
def EC:b5 X agm:=b5.cons t83 (aaF)
abbrev Va(p x:Bs):D:=b7 (.fn (.func 83) [] [.rp [.du p,.du x]])
def zM(t:List bF)(p:Bs):Int:=match t.findIdx? (λf=>under p f.1)with|some i=>i|none=>-1
def Yy{t:List bF}{p:Bs}(hi:i<V t)(h:under p (g9 t i)=W)(a:∀j,j<i->under p (g9 t j)=ae):zM t p=i:=by
 have:t.findIdx? (λf=>under p f.1)=O i:=by grind[List.findIdx?_eq_some_iff_getElem,qC]
 rw[zM,this]
theorem ED{t:List bF}{p:Bs}(a:∀j,j<V t->under p (g9 t j)=ae):zM t p=-1:=by
 have:t.findIdx? (λf=>under p f.1)=af:=by grind[List.getElem_of_mem,qC]
 rw[zM,this]
def Yz(t:List bF)(p x:Bs)(d:∀j,j<V t->V (g9 t j)<=4000000):Ev X 137 [cF.sl t,Va p x] [] (dI (zM t p)) []:=by
 refine Ev.bQ Tryz.func137 rfl λe=>?_;have c:=e.sl 0 Z;refine cp EC Z an (I.lQ (λi=>i<=V t/\∀j,j<i->under p (g9 t j)=ae) (λi:Nat=>[(0,cF.sl t),(1,Va p x),(7,dI (V t)),(8,dI i)]) (λ_=>[]) (λi=>V t-i) 0 Z ay Z an ⟨by omega,by omega⟩ ?_);rintro i ⟨hi,a⟩;by_cases h:i<V t
 .have f:=d i h;cases b:under p (g9 t i)with
  |true =>
   refine aY EC [(9,W),(16,W)] Z ?_ (I.j5 (cM.zero Z ?_))
   .simp[-aj,h,jH,b];omega
   simp[Yy h b a]
  |false =>
   refine aY EC [(9,W),(16,ae)] Z ?_ (I.iD (i+1) Z ?_ Z an ?_ ?_)
   .simp[-aj,h,jH,b,cd];omega
   .simp
   .grind
   omega
 refine aY EC [(9,ae)] Z c6 (I.gE Z Z ?_);refine cp EC Z an (I.bE Z ?_);simp[ED (λj g=>a j aq)]
def GQ(t:List bF):Prop:=∀j,j<V t->V (g9 t j)<=4000000
def adj:eP:=λargs U=>match args,U with
 |[d,.e (.bX (.c (.fn (.func 83) [] [.rp [.du p,.du x]])))],[]=>match mf 2 d with
  |none=>af
  |some (n,es)=>O (dI (zM (cF.cz n es) p),[],[cF.pd n es,GQ (cF.cz n es),x=x])
 |_,_=>af
def akX:fp X 137 adj:=by
 intro args U res U' obs h ho;unfold adj at h;split at h
 .rename_i d p x;split at h
  .cases h
  rename_i n es hd;cases h;exact(Yz _ p x ho.2.1).args (λ_ vs=>cU.imp (λ_=>cF.k8 hd ho.1) (cU.imp (λ_ r=>r) (λ_ r=>r)) vs)
 grind
def agn:List (Nat×eP):=(137,adj)::agm
def aaG:b5 X agn:=b5.cons akX (EC)
def YA(t:List bF)(p x:Bs)(a:GQ t):Ev X 82 [cF.sl t,Va p x] [] (dB (decide (0<=zM t p))) []:=by
 refine Ev.bQ Tryz.func82 rfl λb=>?_;refine cp aaG Z ?_ (I.bE Z ?_)
 .simp[cF.aE,cF.aw,a]
 simp[cF.aw]
def c82:eP:=λargs U=>match args,U with
 |[d,.e (.bX (.c (.fn (.func 83) [] [.rp [.du p,.du x]])))],[]=>match mf 2 d with
  |none=>af
  |some (n,es)=>O (dB (decide (0<=zM (cF.cz n es) p)),[],[cF.pd n es,GQ (cF.cz n es),x=x])
 |_,_=>af
def t82:fp X 82 c82:=by
 intro args U res U' obs h ho;unfold c82 at h;split at h
 .rename_i d p x;split at h
  .cases h
  rename_i n es hd;cases h;exact(YA _ p x ho.2.1).args (λ_ vs=>cU.imp (λ_=>cF.k8 hd ho.1) (cU.imp (λ_ r=>r) (λ_ r=>r)) vs)
 grind
def akZ:List (Nat×eP):=(82,c82)::agn
def vk:b5 X akZ:=b5.cons t82 (aaG)
def lG(t:List bF)(i:Nat):Bool :=
 iV (g9 t i)&&fG (yq t i)&&(i==0||!(bC (g9 t i) (g9 t (i-1))||g9 t i==g9 t (i-1)))&&(bl i).all λj=>!under (g9 t i) (g9 t j)
def qg(t:List bF):Bool:=(bl (V t)).all (lG t)&&decide (V t<=6)
def m9{t:List bF}(hi:i<V t)(h:lG t i=ae):qg t=ae:=by
 cases a:qg t with
 |false=>rfl
 |true =>
  simp only[qg,cu]at a;grind
theorem zh{s:Bs}(h:iV s=W):V s<=3:=by
 simp only[iV,eh,cu,kC,bu,iM]at h;obtain⟨⟨⟨d,_⟩,_⟩,a⟩:=h;have c:=oE s 47;change lR s<V s∨lR s=-1 at c;by_cases b:0<=lR s
 .simp only[nQ,b,cv,List.length_take]at d;rcases a with a|a
  .simp[om,b]at a
  have:=a.1.1;simp only[sI,b,cv,zW]at this;omega
 simp only[nQ,b,cC]at d;omega
def LU{t:List bF}{p:Bs}(hi:i<=V t):decide (0<=zM (t.take i) p)=!(bl i).all λj=>!under p (g9 t j):=by
 have e:∀j,j<i->g9 (t.take i) j=g9 t j:=by intro j c;simp[g9,aj,c]
 cases h:(bl i).all λj=>!under p (g9 t j)with
 |true =>
  grind[ED]
 |false =>
  have a:∃j,j<i/\under p (g9 t j)=W:=az;have:∃k:Nat,zM (t.take i) p=k:=by
   unfold zM;cases d:(t.take i).findIdx? (λf=>under p f.1)with
   |some k=>grind
   |none =>
    obtain⟨j,c,g⟩:=a;rw[EX]at d;have b:j<V (t.take i):=az;have:=d _ (wu b);grind[qC]
  grind
def BQ(t:List bF):Ev X 33 [cF.sl t] [] (dB (qg t)) []:=by
 refine Ev.bQ Tryz.func33 rfl λx=>?_;have s:=x.sl 0 Z;refine cp vk Z an (I.cm 0 (λi=>i<=V t/\∀j,j<i->lG t j=W) (λi:Nat=>[(0,cF.sl t),(5,cF.sl t),(6,dI (V t)),(7,dI i)]) (λ_=>[]) (λi=>V t-i) 0 Z ay Z an Z ⟨by omega,by omega⟩ ?_);rintro i ⟨hi,g⟩;by_cases h:i<V t
 .cases b:iV (g9 t i)with
  |false =>
   refine bj vk [(8,W),(14,ae)] Z ?_ (I.gp (cM.zero Z ?_))
   .simp[-aj,h,jH,b]
   simp[aA,m9 h (by simp[lG,b])]
  |true =>
   cases f:fG (yq t i)with
   |false =>
    refine bj vk [(8,W),(14,W),(19,ae)] Z ?_ (I.gp (cM.zero Z ?_))
    .simp[-aj,h,jH,tY,b,f]
    simp[aA,m9 h (by simp[lG,f])]
   |true =>
    have y:GQ (t.take i):=by
     intro j v;simp only[List.length_take]at v;have e:g9 (t.take i) j=g9 t j:=by simp[g9,aj,(by omega:j<i)]
     rw[e];have:=g j aq;simp only[lG,cu]at this;grind[zh]
    have w:cF.cz ((i:Int).toNat-0) (nY 0 (cF.fn t))=t.take i:=by rw[cF.U7 t 0 _ az];simp
    cases r:(i==0||!(bC (g9 t i) (g9 t (i-1))||g9 t i==g9 t (i-1)))with
    |false =>
     have a:lG t i=ae:=by simp only[lG,r];simp
     have m:i≠0:=az;have l:(bC (g9 t i) (g9 t (i-1))||g9 t i==g9 t (i-1))=W:=az;have d:cd .i64 ((i:Int)-1):=j3;have n:((i:Int)-1).toNat=i-1:=aq;refine bj vk [(8,W),(14,W),(19,W),(24,W),(34,W)] Z ?_ (I.gp (cM.zero Z ?_))
     .simp only[aA,jH,tY,bZ,n,l,b,f,bu,d];grind
     simp[m9 h a]
    |true =>
     have a:lG t i=(bl i).all λj=>!under (g9 t i) (g9 t j):=by simp only[lG,r,b,f];simp
     apply I.tG [(0,cF.sl t),(3,dI i),(5,cF.sl t),(6,dI (V t)),(7,dI i),(4,cE 0 0)] [.cells 98 [.c (.du (g9 t i)),.c (.du (yq t i))]]
     .intro hk;by_cases m:i=0
      .refine bj vk [(8,W),(14,W),(19,W),(24,ae),(1000006,W)] Z ?_ (hk _ _ Z ?_)
       .simp only[aA,jH,tY,bZ,b,f,bu,dm];grind
       simp
      have l:(bC (g9 t i) (g9 t (i-1))||g9 t i==g9 t (i-1))=ae:=az;have d:cd .i64 ((i:Int)-1):=j3;have n:((i:Int)-1).toNat=i-1:=aq;refine bj vk [(8,W),(14,W),(19,W),(24,W),(34,ae),(1000006,W)] Z ?_ (hk _ _ Z ?_)
      .simp only[aA,jH,tY,bZ,n,l,b,f,bu,d];grind
      simp
     refine I.freeze 4 0 Z Z Z ?_;have u:=LU (t:=t) (p:=g9 t i) (i:=i) hi;have k:cF.pd ((i:Int).toNat-0) (nY 0 (cF.fn t)):=cF.U8 t;cases q:(bl i).all λj=>!under (g9 t i) (g9 t j)with
     |false =>
      rw[q]at u a;refine bj vk [(41,W)] Z ?_ (I.gp (cM.zero Z ?_))
      .simp only[aA,dD];grind
      simp[m9 h a]
     |true =>
      rw[q]at u a;refine bj vk [(41,ae)] Z ?_ (I.aQ (i+1) Z ?_ ?_ ?_ ?_)
      .simp only[aA,dD];have o:decide (0<=zM (cF.cz ((i:Int).toNat-0) (nY 0 (cF.fn t))) (g9 t i))=ae:=az;exact⟨by exact j3,k,by grind,an,o,by omega,by omega⟩
      .simp
      .trivial
      .grind
      omega
 have:i=V t:=aq;subst this;refine aY vk [(8,ae)] Z ay (I.br Z Z ?_);refine cp vk Z an (I.bE Z ?_);simp only[aA,qg];grind
def c33:eP:=λargs U=>match args,U with
 |[c],[]=>match mf 2 c with
  |none=>af
  |some (a,b)=>O (dB (qg (cF.cz a b)),[],[cF.pd a b])
 |_,_=>af
def t33:fp X 33 c33:=by
 intro args U res U' obs h ho;unfold c33 at h;split at h
 .split at h
  .cases h
  rename_i b c a;cases h;exact(BQ _ ).args (λ_ vs=>cU.imp (λ_=>cF.k8 a ho) (λ_ r=>r) vs)
 grind
end R1
def cU.bs{U U':List bq}{s:St}(h:∀(v:ah)(d:D),ey U s v d->ey U' s v d):∀{vs:List ah}{ds:List D},cU U s vs ds->cU U' s vs ds
 |[],[],_=>trivial
 |[],_::_,r=>r.elim
 |_::_,[],r=>r.elim
 |_::_,_::_,r=>⟨h _ _ r.1,cU.bs h r.2⟩
def Ev.OH{X:Cx P}{f:aO}{args Jl:List D}{U0:List bq}{res:D}(h:Ev X f args U res U')(j:∀s vs,cU U s vs Jl->cU U s vs args)(e:sW U0 U=O ps)(g:aA ps):Ev X f Jl U0 res U' :=
 ⟨h.1,λs vs hr hh S cs hS=>by obtain⟨h1,h2,i⟩:=jV e g s hh;exact h.2 s vs (j s vs (hr.bs i)) h1 S cs λfr v s' a b c d=>hS fr v s' a b c ((h2.pC hh).trans d)⟩
def OA.ofU{X:Cx P}{x:D}(h:oz (ι:=Unit) X N all o J U (λ_=>x) (λ_=>U')):OA X N all o J U x U' :=
 λs a f hh b k cs S i rest hb hi hK=>h s a f hh b k cs S i rest hb hi λ_=>hK
namespace R1
variable {X:Cx ag}
abbrev Hl(l:List (Int×Int)):bq:=.dk 184 2 (V l) (cH.fn l)
abbrev QF(l:List (Int×Int)):D:=.e (.bX (.dk 0 2 (V l) (cH.fn l)))
def lsS(L:List (Int×Int))(B M R:bq)(a b c _:Bool):List bq:=match c with
 |true=>[R]
 |false=>match b with
  |true=>[M]
  |false=>match a with
   |true=>[B]
   |false=>[Hl L]
def G4:∀(t:Tr)(l:List (Int×Int)),V l+V t.cz<=4000000->Ev X 148 [b7 (tC t),QF l] [Hl l] (QF (l++t.cz)) [Hl (l++t.cz)]
 |.nil,l,_=>by refine Ev.bQ Tryz.func148 rfl λk=>?_;refine bt Z an (I.gH (yk Z Tryz.underlying195 Z Z Z) Z Z ?_);refine bt Z an ?_;rw[show l++Tr.nil.cz=l from iZ l];exact I.dt [0] Z ⟨Z,eW.same⟩ Z Z Z mn
 |.nd lt x y rt,l,h=>by
  have f:(Tr.nd lt x y rt).cz=lt.cz++(x,y)::rt.cz:=rfl;have m:V l+V lt.cz+(V rt.cz+1)<=4000000:=az;have o:=G4 lt l aq;have i2:=G4 rt (l++lt.cz++[(x,y)]) az;have d:=cH.cw (l++lt.cz) (x,y);have i3:Ev X 148 [b7 (tC rt),.e (.bX (.dk 0 2 (V (l++lt.cz)+1) (dv (V (l++lt.cz)) (cH.fn (l++lt.cz)) λi=>([[.int .i64 x,.int .i64 y]]:List (List C)).getD i [])))] [.dk 184 2 (V (l++lt.cz)+1) (dv (V (l++lt.cz)) (cH.fn (l++lt.cz)) λi=>([[.int .i64 x,.int .i64 y]]:List (List C)).getD i [])] (QF (l++(Tr.nd lt x y rt).cz)) [Hl (l++(Tr.nd lt x y rt).cz)]:=by
   rw[f,show l++(lt.cz++(x,y)::rt.cz)=l++lt.cz++[(x,y)]++rt.cz by simp];refine i2.OH (λs vs r=>?_) Z (aA.eu.2 ⟨⟨by grind,d⟩,an⟩)
   match vs,r with
   |[_,_],⟨g,j,n⟩=>exact⟨g,rV rfl (show aA [_,_]from⟨by grind,d⟩) j,n⟩
  have We:(V (l++lt.cz)+1)*yy.bytes<=140737488355328:=by rw[show yy.bytes=16 from Z,cj];omega
  clear i2 d m h;generalize l++(Tr.nd lt x y rt).cz=R at *;generalize l++lt.cz=B at *;have a:b5 X []:=b5.nil;refine Ev.bQ Tryz.func148 rfl λk=>?_;refine bt Z an (I.gH (NC Z Tryz.underlying195 Z Z Z) Z Z ?_);refine ba [(1000003,W)] Z an ?_;let xs:Nat->D:=λi=>([b7 (tC (.nd lt x y rt)),b7 (tC (.nd lt x y rt)),b7 (.rp [tC rt]),b7 (tC rt),b7 (tC (.nd lt x y rt)),b7 (tC (.nd lt x y rt)),b7 (.rp [tC lt,tC rt]),b7 (tC lt),QF l,QF B,b7 (tC (.nd lt x y rt)),b7 (tC (.nd lt x y rt)),b7 (tC (.nd lt x y rt)),YL x y,b7 (.sl W 2 1 λi=>([[.int .i64 x,.int .i64 y]]:List (List C)).getD i []),.e (.bX (.dk 0 2 (V B+1) (dv (V B) (cH.fn B) λi=>([[.int .i64 x,.int .i64 y]]:List (List C)).getD i []))),QF R,QF R]:List D).getD i .any
  cases lt<;>cases rt<;>(
   refine I.w8 gB xs (u9 (lsS l (Hl B) (.dk 184 2 (V B+1) (dv (V B) (cH.fn B) λi=>([[.int .i64 x,.int .i64 y]]:List (List C)).getD i [])) (Hl R)) 9 15 16 17) Z Z Z Z ⟨
   .tD bO a,
   .tD bO a,
   .tD bO a,
   .tD bO a,
   .tD bO a,
   .tD bO a,
   .tD bO a,
   .tD bO a,
   .tD bO a,
   fE.c1 Z Z Z Z Z Z (OA.ofU (oz.l7 o.uW [0] Z Z Z Z ay Z Z Z fe Z fe)),
   .tD bO a,
   .tD bO a,
   .tD bO a,
   .tD bO a,
   .tD bO a,
   fE.c2 Z Z Z Z Z Z (gK (ds:=[]) bO a (U':=O _) Z ⟨rfl,rfl,We⟩),
   fE.c3 Z Z Z Z Z Z (OA.ofU (oz.l7 i3.uW [0] Z Z Z Z ay Z Z Z fe Z fe)),
   fE.c4 Z Z Z Z Z Z (OA.fU bO a Z),an⟩ ?_
   intro D b;show I X _ _ _ _ _ (lsS l (Hl B) _ (Hl R) (D 9) (D 15) (D 16) (D 17));rw[b 9 ee,b 15 ee,b 16 ee,b 17 ee]
   exact I.dt [0] Z ⟨Z,eW.same⟩ Z Z Z mn)
abbrev agE:D:=b7 (.sl W 2 0 λ_=>[])
def lsN(B M R:bq)(a b c _:Bool):List bq:=match c with
 |true=>[R]
 |false=>match b with
  |true=>[M]
  |false=>match a with
   |true=>[B]
   |false=>[]
def JI:∀(t:Tr),V t.cz<=4000000->Ev X 148 [b7 (tC t),agE] [] (QF t.cz) [Hl t.cz]
 |.nil,_=>by refine Ev.bQ Tryz.func148 rfl λk=>?_;refine bt Z an (I.gH (yk Z Tryz.underlying195 Z Z Z) Z Z ?_);refine bt Z an (I.jK 4 184 2 Z Z ?_);refine I.kR [Hl []] Z ay ?_;exact I.dt [0] Z uZ Z Z Z (Vr _)
 |.nd lt x y rt,h=>by
  have f:(Tr.nd lt x y rt).cz=lt.cz++(x,y)::rt.cz:=rfl;have l:V lt.cz+(V rt.cz+1)<=4000000:=az;have n:=JI lt aq;have i2:=G4 (X:=X) rt (lt.cz++[(x,y)]) az;have d:=cH.cw lt.cz (x,y);have i3:Ev X 148 [b7 (tC rt),.e (.bX (.dk 0 2 (V lt.cz+1) (dv (V lt.cz) (cH.fn lt.cz) λi=>([[.int .i64 x,.int .i64 y]]:List (List C)).getD i [])))] [.dk 184 2 (V lt.cz+1) (dv (V lt.cz) (cH.fn lt.cz) λi=>([[.int .i64 x,.int .i64 y]]:List (List C)).getD i [])] (QF (Tr.nd lt x y rt).cz) [Hl (Tr.nd lt x y rt).cz]:=by
   rw[f,show lt.cz++(x,y)::rt.cz=lt.cz++[(x,y)]++rt.cz by simp];refine i2.OH (λs vs r=>?_) Z (aA.eu.2 ⟨⟨by simp,d⟩,an⟩)
   match vs,r with
   |[_,_],⟨g,j,m⟩=>exact⟨g,rV rfl (show aA [_,_]from⟨by simp,d⟩) j,m⟩
  have We:(V lt.cz+1)*yy.bytes<=140737488355328:=by rw[show yy.bytes=16 from Z];omega
  clear i2 d l h;clear f;generalize(Tr.nd lt x y rt).cz=R at *;generalize lt.cz=B at *;have a:b5 X []:=b5.nil;refine Ev.bQ Tryz.func148 rfl λk=>?_;refine bt Z an (I.gH (NC Z Tryz.underlying195 Z Z Z) Z Z ?_);refine ba [(1000003,W)] Z an ?_;let xs:Nat->D:=λi=>([b7 (tC (.nd lt x y rt)),b7 (tC (.nd lt x y rt)),b7 (.rp [tC rt]),b7 (tC rt),b7 (tC (.nd lt x y rt)),b7 (tC (.nd lt x y rt)),b7 (.rp [tC lt,tC rt]),b7 (tC lt),agE,QF B,b7 (tC (.nd lt x y rt)),b7 (tC (.nd lt x y rt)),b7 (tC (.nd lt x y rt)),YL x y,b7 (.sl W 2 1 λi=>([[.int .i64 x,.int .i64 y]]:List (List C)).getD i []),.e (.bX (.dk 0 2 (V B+1) (dv (V B) (cH.fn B) λi=>([[.int .i64 x,.int .i64 y]]:List (List C)).getD i []))),QF R,QF R]:List D).getD i .any
  cases lt<;>cases rt<;>(
   refine I.w8 gB xs (u9 (lsN (Hl B) (.dk 184 2 (V B+1) (dv (V B) (cH.fn B) λi=>([[.int .i64 x,.int .i64 y]]:List (List C)).getD i [])) (Hl R)) 9 15 16 17) Z Z Z Z ⟨
   .tD bO a,
   .tD bO a,
   .tD bO a,
   .tD bO a,
   .tD bO a,
   .tD bO a,
   .tD bO a,
   .tD bO a,
   .tD bO a,
   fE.c1 Z Z Z Z Z Z (OA.ofU (oz.l7 n.uW [] Z Z Z Z ay Z Z Z fe Z fe)),
   .tD bO a,
   .tD bO a,
   .tD bO a,
   .tD bO a,
   .tD bO a,
   fE.c2 Z Z Z Z Z Z (gK (ds:=[]) bO a (U':=O _) Z ⟨rfl,rfl,We⟩),
   fE.c3 Z Z Z Z Z Z (OA.ofU (oz.l7 i3.uW [0] Z Z Z Z ay Z Z Z fe Z fe)),
   fE.c4 Z Z Z Z Z Z (OA.fU bO a Z),an⟩ ?_
   intro D b;show I X _ _ _ _ _ (lsN (Hl B) _ (Hl R) (D 9) (D 15) (D 16) (D 17));rw[b 9 ee,b 15 ee,b 16 ee,b 17 ee]
   exact I.dt [0] Z ⟨Z,eW.same⟩ Z Z Z (Vr _))
end R1
section
open Go.Conc
def aH.afD(hh:aH U s){B:bq}{L:Loc}(hB:U[l]?=O B)(j:s.β[l]?=O L)(hk:(∃E cs,B=.cells E cs)∨∃H,B=.cJ H):
  aH (U.set l .cg) {s with β:=s.β.set l ⟨L.v,[]⟩}/\eO U s (U.set l .cg) {s with β:=s.β.set l ⟨L.v,[]⟩}:=by
 have f:l<V U:=(cO.1 hB).1;have g:l<V s.β:=(cO.1 j).1;have c:∀l',(s.β.set l ⟨L.v,[]⟩)[l']?=if l=l' then O ⟨L.v,[]⟩else s.β[l']?:=az;have a:∀L'∈s.β.set l ⟨L.v,[]⟩,∀b∈L'.bs,L'∈s.β:=az;have st:eO U s (U.set l .cg) {s with β:=s.β.set l ⟨L.v,[]⟩}:=by
  refine⟨bm _,λ_ _ _=>rfl,λ_ _ _ h=>h,λ_ _ _ _=>rfl,λL' im b hb=>.inr ⟨L',a L' im b hb,hb⟩,?_,Z,Z,Z,Z⟩;intro l' B' L' mT im;by_cases e:l=l'
  .subst e;rw[hB]at mT;cases mT;rw[j]at im;cases im;refine⟨.cg,⟨L.v,[]⟩,by grind,by grind,?_⟩;rcases hk with⟨E,cs,rfl⟩|⟨H,rfl⟩<;>rfl
  exact⟨B',L',by grind,by grind,.refl _ _⟩
 refine⟨⟨hh.mem,by simp[hh.len],?_,?_,λL' im b hb=>hh.lt L' (a L' im b hb) b hb,λb hb=>⟨(hh.own b hb).1,λL' im qq=>(hh.own b hb).2 L' (a L' im b qq) qq⟩⟩,st⟩
 .intro l' B' L' mT im;by_cases e:l=l'
  .subst e;rw[js f]at mT;cases mT;trivial
  rw[mD e]at mT;rw[c,bc e]at im;exact(hh.box l' B' L' mT im).nk st.ext hh.len λb hb=>⟨Z,λo=>rfl⟩
 intro m k L1 L2 h1 h2 b d i;rw[c]at h1 h2;split at h1
 .grind
 split at h2
 .grind
 exact hh.gY m k L1 L2 h1 h2 b d i
def ey.qy(c:s'.M=s.M){d:D}(h:ey U s v d)(a:C7 0 d=W):ey U' s' v d:=by have h1:=ey.drop (σ1:=[]) (rest:=U) h a;refine ey.mono (U:=[]) (s:=s.cut 0) ⟨λb o v hm=>by rw[c];exact hm,λl B L hB _=>by grind⟩ (by simp[St.cut]) h1
end
namespace R1
section
variable {X:Cx ag}
def jW(t:Bs):List Bs:=if fG t then bR t else[]
def aah(t:Bs)(f:Nat)(ir:List Bs):Prop:=∃k,gV t (V t) 0=ir++gV t k f/\V t<=f+k/\V ir<=f
def ND:fp X 81 (lW aS (λs=>dB (fG s)) λ_=>[]):=.rl λs _=>BO s
def TG:eP:=λargs U=>match args,U with
 |[.e (.bX (.c (.du t)))],[]=>O (b7 (aag t),[],[])
 |_,_=>af
def acp:fp X 187 TG:=by intro args U res U' obs h ho;unfold TG at h;grind[XN]
def O9(t:Bs):Ev X 143 [dS t] [] (cS.sl (jW t)) []:=by
 refine(e9.KZ (ι:=Unit) (U':=λ_=>[]) (res:=λ_=>cS.sl (jW t)) Tryz.func143 rfl rfl rfl λr=>?_).KA;have m:b5 X [(81,lW aS (λs=>dB (fG s)) λ_=>[])]:=.cons ND .nil;refine nG.seq (AW.zC (I.dX ?_));refine cp m Z an (nG.seq (AW.zC (I.dX ?_)));cases d:fG t with
 |false =>
  refine aY m [(8,W)] Z AG (I.ret ⟨(),cM.zero Z ?_⟩);simp[jW,d]
 |true =>
  have b:=d;simp only[fG,cu,bu]at b;refine aY m [(8,ae)] Z AG (nG.seq (AW.zC (I.dX ?_)));refine cp m Z an (nG.seq (nG.seq (AW.zC (I.dX (I.iQ 1 0 9 1 (cS.fn []) Z Z ?_)))));refine cp (.cons acp .nil) Z an (nG.block ?_);refine nG.rangeFunc (capD:=iq [.rp [.du t]]) (c7.callee Z) (O8 (T:=List Bs) t b.2 aq (λ_=>.cells 9 [.c (.du t)]) (λir=>.cells 119 [.dk 2 1 (V ir) (cS.fn ir)]) (λir=>.dk 9 1 (V ir) (cS.fn ir)) (aah t) [] ?_ (λt=>⟨by simp,by simp,by simp⟩) ?_) (λi=>⟨Z,by simp⟩) λi=>⟨.normal,Z,?_⟩
  .exact⟨V t,by simp,by omega,by simp⟩
  .rintro f ir hf hR;have g:=pg t f hf;refine md.intro (j:=af) Z Z Z Z (I.dX ?_);refine bt Z an ⟨Z,Z,I.dX ?_⟩;refine bt Z ?_ ?_
   .obtain⟨k,_,_,o⟩:=hR;have u:=g.1;have q2:=g.2.1;refine⟨Z,Z,?_,Int.natCast_nonneg _,Int.ofNat_le.2 (Nat.le_of_lt u),Int.ofNat_le.2 q2⟩;show(V ir+1)*16<=_;omega
   have n:aah t (fH t f) (ir++[(t.drop f).take (fH t f-f)]):=by
    obtain⟨k,l,q,o⟩:=hR;obtain⟨k',rfl⟩:∃k',k=k'+1:=⟨k-1,by omega⟩
    refine⟨k',?_,by omega,by grind⟩;rw[l];simp only[gV];grind
   refine⟨Z,Z,⟨_,n⟩,jV Z ?_⟩;have e:zu t (O (f:Int)) (O (fH t f:Int))=(t.drop f).take (fH t f-f):=RA;have p:eW (V ir+1) (dv (V ir) (cS.fn ir) λi=>[[C.du (zu t (O (f:Int)) (O (fH t f:Int)))]].getD i []) (cS.fn (ir++[(t.drop f).take (fH t f-f)])):=by rw[e];exact lX.cw cS ir _
   have a:V ir+1=V (ir++[(t.drop f).take (fH t f-f)]):=ay;refine aA.eu.2 ⟨by simp,aA.eu.2 ⟨aA.eu.2 ⟨⟨a,p⟩,an⟩,aA.eu.2 ⟨⟨a,p⟩,aA.eu.2 ⟨Z,an⟩⟩⟩⟩
  obtain⟨ir,k,l,q,o⟩:=i;have h:gV t k (V t)=[]:=by cases k<;>simp[gV]
  rw[h,iZ]at l;have e:jW t=ir:=by simp only[jW,d,cv,bR,l]
  rw[e];show nG X _ _ _ _ _;refine AW.zC (I.dX ?_);refine bt Z an (I.ret ⟨(),cM.zero Z ?_⟩);simp
def Gh:fp X 143 (lW aS (λs=>cS.sl (jW s)) λ_=>[]):=.rl λs _=>O9 s
def afs:fp X 174 (qb (aL cS) aS (λl _=>dS l.flatten) λl s=>[s=[],V l.flatten<=140737488355328]):=.s9 λl s h=>by obtain⟨rfl,h⟩:=h;exact XG l h
def XO:eP:=qb (aL cS) (aL cS) (λa b=>dB (a==b)) λ_ _=>[]
def ajm:fp X 175 XO:=.s9 λa b _=>ace a b
def Lr(l:List Bs)(h:V l.flatten<=140737488355328):Ev X 109 [cS.sl l] [] (Gf (ig l)) []:=by
 refine Ev.bQ Tryz.func109 rfl λd=>?_;have c:b5 X [(174,qb (aL cS) aS (λl _=>dS l.flatten) λl s=>[s=[],V l.flatten<=140737488355328]),(81,lW aS (λs=>dB (fG s)) λ_=>[]),(175,XO),(143,lW aS (λs=>cS.sl (jW s)) λ_=>[])]:=.cons afs (.cons ND (.cons ajm (.cons Gh .nil)));have el:cS.cz (V l) (cS.fn l)=l:=cS.aw l;cases a:fG l.flatten with
 |false =>
  refine aY c [(8,ae),(9,W),(16,W)] Z ?_ (I.bE Z ?_)
  .simp only[aA,el,a,cS.aE,eq_self,aX,aW];grind
  simp[ig,a]
 |true =>
  cases b:(bR l.flatten==l)with
  |false =>
   refine aY c [(8,W),(9,ae),(14,ae),(16,W)] Z ?_ (I.bE Z ?_)
   .simp only[aA,el,cS.aw,a,cS.aE];simp[h,jW,a,b,-List.length_flatten]
   simp[ig,b]
  |true =>
   refine aY c [(8,W),(9,ae),(14,W),(16,ae)] Z ?_ (I.bE Z ?_)
   .simp only[aA,el,cS.aw,a,cS.aE];simp[h,jW,a,b,-List.length_flatten]
   simp[ig,a,b,el]
def Oe{l:List (Int×Int)}(h:i<V l):l.getD i (0,0)∈l:=az
def sr(l:List (Int×Int)):Tr:=l.foldl (λt x=>t.put x.1 x.2) .nil
theorem P4(l:List (Int×Int))(x:Int×Int):sr (l++[x])=(sr l).put x.1 x.2:=by unfold sr;grind
def xO{l:List (Int×Int)}(h:j<V l):sr (l.take (j+1))=(sr (l.take j)).put (l.getD j (0,0)).1 (l.getD j (0,0)).2:=by grind[List.take_add_one,P4]
abbrev lsD(l:List (Int×Int)):D:=b7 (.sl ae 1 1 λi=>([[.sl ae 2 (V l) (cH.fn l)]]:List (List C)).getD i [])
abbrev spX(x:Int×Int):bq:=.cells 184 [.c (.int .i64 x.1),.c (.int .i64 x.2)]
def frJ(l:List (Int×Int)):Nat->Fr
 |0=>[(3,b7 .ki),(8,lsD l),(9,dI 1),(10,dI 0),(14,cH.sl l),(15,dI (V l)),(16,dI 0)]
 |j+1=>[(3,.e (.bX (.oY 1))),(8,lsD l),(9,dI 1),(10,dI 0),(14,cH.sl l),(15,dI (V l)),(16,dI (j+1:Nat))]
def stJ(l:List (Int×Int)):Nat->List bq
 |0=>[]
 |j+1=>[spX (l.getD 0 (0,0)),.cJ (qG QE (sr (l.take (j+1))))]
def ald(l:List (Int×Int)):Nat->Fr
 |0=>[(3,b7 .ki),(8,lsD l),(9,dI 1),(10,dI 0)]
 |j+1=>match l with
  |[]=>[(3,b7 .ki),(8,lsD l),(9,dI 1),(10,dI (j+1:Nat))]
  |_::_=>[(3,.e (.bX (.oY 1))),(8,lsD l),(9,dI 1),(10,dI (j+1:Nat))]
def ale(l:List (Int×Int)):Nat->List bq
 |0=>[]
 |_+1=>match l with
  |[]=>[]
  |x::r=>[spX x,.cJ (qG QE (sr (x::r)))]
def EI(l:List (Int×Int))(p:V l<=4000000)(o:∀x∈l,cd .i64 x.1/\cd .i64 x.2):Ev X 142 [lsD l] [] (b7 (tC (sr l))) []:=by
 refine Ev.bQ Tryz.func142 rfl λs=>?_;refine bt Z an (I.Z7 0 (λx=>x<=1) (ald l) (ale l) (λx=>1-x) 0 Z ay Z an Z aq ?_);intro x g;rcases x with _|x
 .refine ba [(11,W)] Z ay (I.Z7 0 (λj=>j<=V l) (frJ l) (stJ l) (λj=>V l-j) 0 Z ay Z an Z aq ?_);intro j q;rcases j with _|j
  .by_cases h:0<V l
   .have g:=o _ (Oe h);have e:=xO h;have c1:b5 X [(186,vg [b7 .ki,YL (l.getD 0 (0,0)).1 (l.getD 0 (0,0)).2] [] (.e (.bX (.oY 0))) [.cJ (qG QE (.nd .nil (l.getD 0 (0,0)).1 (l.getD 0 (0,0)).2 .nil))])]:=.cons (vh (GX _ _ g.1 g.2 .nil)) .nil;refine bj c1 [(17,W)] Z ?_ (I.FW 2 1 aq Z ?_ Z Z Z ?_ Z h az)
    .simp only[aA,cd,bu,aX,aW];and_intros<;>first|rfl|omega
    .simp
    exact ek
   obtain rfl:l=[]:=kB aq;refine bM [(17,ae)] Z ay (I.FX Z Z ?_);refine dj Z qJ (I.FW 0 1 aq Z ?_ Z Z Z an Z aq ee);simp
  obtain⟨ta,k,i,m,e⟩:∃a b c d,sr (l.take (j+1))=.nd a b c d:=by rw[xO aq];exact GW _ _ _
  show I X _ _ _ _ (frJ l (j+1)) [spX (l.getD 0 (0,0)),.cJ (qG QE (sr (l.take (j+1))))];by_cases h:j+1<V l
  .have g:=o _ (Oe h);have n:=xO h;rw[e]at n⊢;have c1:b5 X [(186,vg [.e (.bX (.oY 0)),YL (l.getD (j+1) (0,0)).1 (l.getD (j+1) (0,0)).2] [.cJ (qG QE (.nd ta k i m))] (.e (.bX (.oY 0))) [.cJ (qG QE ((Tr.nd ta k i m).put (l.getD (j+1) (0,0)).1 (l.getD (j+1) (0,0)).2))])]:=.cons (vh (GX _ _ g.1 g.2 (.nd ta k i m))) .nil;refine bj c1 [(17,W)] Z ?_ (I.FW 2 (j+2) aq Z ?_ Z Z Z ?_ Z h az)
   .simp only[aA,cd,bu,aX,aW];and_intros<;>first|rfl|omega
   .simp
   simp only[aA.eu,aA,aX,aW];rw[n]
  have f:j+1=V l:=aq;rw[f,de]at e
  match l,f,e with
  |x::r,f,e =>
   rw[f,de,e];refine bM [(17,ae)] Z ay (I.FX Z Z ?_);refine dj Z qJ (I.FW 2 1 aq Z ay Z Z Z ?_ Z aq ee);exact ek
 cases l with
 |nil =>
  refine bM [(11,ae)] Z c9 (I.FX Z Z ?_);exact dj Z an (I.bE Z uZ)
 |cons y r =>
  refine bM [(11,ae)] Z c9 (I.FX Z Z ?_);refine dj Z an (I.F9 2 1 Z Z ?_);obtain⟨ta,k,i,m,e⟩:∃a b c d,sr (y::r)=.nd a b c d:=by have:=xO (l:=y::r) (j:=V r) ay;rw[Mz ay]at this;rw[this];exact GW _ _ _
  rw[e];exact I.bE Z
end
section
open Go.Proofs Go.Conc Go.Conc.Lib
open Go.ConcN (WgLive PayAt Has RW AtR0)
open Go.ConcR (KK WgAt stA smA rd wr mk Payload DC0)
noncomputable def afE:Code:=BT (nL (nL (nL Lt)))
noncomputable def cR3:Code:=BT afE
noncomputable def c3T:Code:=nL (nL (nL Lt))
def acz:c3T=.seq (.seq cR3 (.block 0 (.loop kJ))) rm:=bw
section
variable {U0:List bq}{s0:St}{J:Fr}{U:List bq}{a:Act}{s:St}{S:au->St->Prop}
def At.goes{Wg:Nat}{j:au}:∀(m:Nat)(g:au)(s:St),At U0 s0 J U a s->WgLive 238 Wg s.w->Goes ag W (iu 238 Wg) DC0 (λg _=>g=j) m g s.w ->
  (∀c,At U0 s0 J U a c->ia (Cx.cx ag) S j c)->ia (Cx.cx ag) S g s
 |0,g,s,h,_,f,K=>by obtain rfl:g=j:=f s.w (.refl _);grind
 |m+1,g,s,h,hl,f,K=>by
  rcases f with f|⟨n,f⟩
  .obtain rfl:g=j:=f s.w (.refl _);grind
  refine .next n λc b=>?_;have h1:=h.rely b.1;obtain⟨d,o⟩:=b.2;have i:WgLive 238 Wg c.w:=ek;have h2:=f c.w (λ_=>i);cases e:aU ag W g c.w with
  |go g' w' es =>
   rw[e,goes_go]at h2;obtain⟨⟨rfl,rfl⟩,l⟩:=h2;exact⟨g',c,#[],e,.dw h1.hh,At.goes m g' c h1 i l K⟩
  |_=>rw[e]at h2;exact h2.elim
def mV{U:List bq}{s:St}(b:∀B∈U,B=.cg){ds:List Deferred}{ls:List Nat}(h:sR U s ds ls):ds=[]:=by
 cases ds with
 |nil=>rfl
 |cons d ds =>
  cases ls with
  |nil=>exact h.elim
  |cons l ls =>
   have:=b _ (b9 h.1.1);cases this
end
section
variable {k:Int}{ps:List bz}{ns:List Int}{C:Nat}{xs:List ah}
variable (k ps ns C)in
def XW:Fr:=[(2,cI.sl ns),(3,cE 0 0),(4,cE 1 0),(8,cE 3 0),(9,cE 4 0)]
variable (k ps ns C xs)in
def Gp:List bq:=[.cells 3 [.c (.int .i64 k)],.cells 23 [.c (.sl ae 2 (V ps) (cP.fn ps))],.cJ (jS 240 2 (.row C (V ns)) (V ns) xs),.cells 230 [.c (.val (.slice (O ⟨C,0,af⟩) (V ns) (V ns)))],.cells 238 [.c (.int .u64 0),.c (.int .u32 0)]]
variable (k ps ns)in
def aa1(x i:Nat):ah:=if i=0 then .string ⟨((dx k ps (ns.getD x 0)).getD []).toArray⟩else .bool (dx k ps (ns.getD x 0)).isSome
variable (k ps ns)in
def pj:List ah:=ns.flatMap λn=>[.string ⟨((dx k ps n).getD []).toArray⟩,.bool (dx k ps n).isSome]
variable (k ps ns C)in
def Lv:List bq:=[.cg,.cg,.cJ (jS 240 2 (.row C (V ns)) (V ns) (pj k ps ns)),.cg,.cg]
def pR3{X:Cx ag}:AW X 45 cR3 (NQ ((18,cI.sl ns)::(19,dI (V ns))::(20,dI 0)::XW ns) (Gp k ps ns C xs)) (XW ns) (Gp k ps ns C xs):=by refine I.dX ?_;refine bt Z an ⟨Z,dJ Z ?_,Z⟩;simp
theorem IA:V (pj k ps ns)=V ns*2:=by
 unfold pj;induction ns with
 |nil=>rfl
 |cons n r b=>grind
def Gq:∀{ns:List Int}{x i:Nat},x<V ns->i<2->(pj k ps ns)[2*x+i]?=O (aa1 k ps ns x i)
 |[],x,i,h,_=>by grind
 |n::r,0,i,_,hi=>by
  match i,hi with
  |0,_=>rfl
  |1,_=>rfl
 |n::r,x+1,i,h,hi=>by have:=Gq (ns:=r) (x:=x) (i:=i) az hi;unfold pj at this⊢;rw[uf,iy az];rw[show 2*(x+1)+i - [Value.string ⟨((dx k ps n).getD []).toArray⟩,Value.bool (dx k ps n).isSome].length=2*x+i by grind];exact ek
def _root_.Go.AM.c7.seen{N b:Nat}{d:D}{U:List bq}{s:St}{J:Fr}{a:Act}(f:c7 N U s J a)(h:ey U s (a.tmps.getD b ai) d):c7 N U s ((b,d)::J) a:=by
 refine⟨f.size,f.defers,λt=>?_⟩;simp only[look];cases hb:aC b t with
 |false=>exact f.ff t
 |true=>grind[Nat.eq_of_beq_eq_true]
abbrev TP(n C:Nat):Fr:=[(8,b7 (.rp [.val (.slice (O ⟨C,0,af⟩) n n)]))]
variable (k ps ns C)in
abbrev afF:Fr:=(8,b7 (.rp [.val (.slice (O ⟨C,0,af⟩) (V ns) (V ns))]))::(4,b7 (.rp [.sl ae 2 (V ps) (cP.fn ps)]))::(3,b7 (.rp [.int .i64 k]))::(18,cI.sl ns)::(19,dI (V ns))::(20,dI 0)::[(9,cE 4 0)]
def afG(hfe:fp (Cx.zB ag) 172 (pf k)){Q:Post}(hn:V ns<=4000000)(afH:nG (Cx.cx ag) 45 vi Q (TP (V ns) C) (Lv k ps ns C)):nG (Cx.cx ag) 45 c3T Q (XW ns) (Gp k ps ns C xs):=by
 intro so ao hf hho b kk cs S hb Hi hQ;have h:At (Gp k ps ns C xs) so (XW ns) (Gp k ps ns C xs) ao so:=⟨hf,hho,.refl _ _⟩;refine h.ctl aK (λw=>Aq acz) λs h=>?_
 refine h.ctl aK (λw=>rQ) λs h=>?_;refine h.code hb pR3 λa s h=>?_;obtain⟨s1,w1,f1,z,st1⟩:=c7.freeze 3 0 (E:=3) (cs:=[.c (.int .i64 k)]) (cc:=[.int .i64 k]) rfl rfl rfl h.fr h.hh;refine .c8 (.of h.hh z w1 (st1.pC h.hh)) ?_;obtain⟨s2,w2,f2,A,pA⟩:=c7.freeze 4 1 (E:=23) (cs:=[.c (.sl ae 2 (V ps) (cP.fn ps))]) (cc:=[.sl ae 2 (V ps) (cP.fn ps)]) rfl rfl rfl f1 z;refine .c8 (.of z A w2 (pA.pC z)) ?_;obtain⟨s3,w3,f3,Z4,st3⟩:=c7.freeze 8 3 (E:=230) (cs:=[.c (.val (.slice (O ⟨C,0,af⟩) (V ns) (V ns)))]) (cc:=[.val (.slice (O ⟨C,0,af⟩) (V ns) (V ns))]) rfl rfl rfl f2 A;refine .c8 (.of A Z4 w3 (st3.pC A)) ?_;have h:At (Gp k ps ns C xs) so (afF k ps ns C)
   [.cg,.cg,.cJ (jS 240 2 (.row C (V ns)) (V ns) xs),.cg,.cells 238 [.c (.int .u64 0),.c (.int .u32 0)]] a s3 :=
  ⟨f3.le (dJ aK ay),Z4,h.st.trans ((st1.pC h.hh).trans ((pA.pC z).trans (st3.pC A)))⟩
 clear st1 pA st3 f1 f2 f3 z A Z4;refine h.ctl aK (λw=>wQ) λs h=>?_;refine h.ctl aK (λw=>MP) λs h=>?_;have hlen:=h.hh.len;simp only[eU,gk]at hlen;obtain⟨D,u⟩:∃L,s.β[2]?=O L:=⟨_,bD aq⟩
 obtain⟨X,K⟩:∃L,s.β[4]?=O L:=⟨_,bD aq⟩
 obtain⟨ch,hH,afI,hbs,hM2⟩:=h.hh.box 2 _ D rfl u;obtain⟨zs,hzl,ajr,aeo⟩:=jS.lookup hH;obtain⟨hv2,_,hxl,_,_,_⟩:=hH;have P:C∈D.bs:=(hbs C).2 az;have afJ:=afI C _ ajr;obtain⟨Wg,vs,apd,AK,hvs,hM4⟩:=h.hh.box 4 _ X rfl K;have ajs:vs=[.int .u64 0,.int .u32 0]:=by
  match vs,hvs with
  |[],r=>exact r.elim
  |[_],r=>exact r.2.elim
  |_::_::_::_,r=>exact r.2.2.elim
  |[u0,u1],r =>
   have r0:Rd s.M u0 (.int .u64 0):=r.1;have r1:Rd s.M u1 (.int .u32 0):=r.2.1;cases r0;cases r1;rfl
 subst ajs;have Hg:C≠Wg:=az;have hv9:a.tmps.getD 9 ai=.pointer (O ⟨Wg,0,af⟩):=by obtain⟨_,L,bb,q1,q2,q3⟩:=h.fr.ff 9;grind
 obtain⟨g1,t1⟩:=h.hh.afD (l:=2) rfl u (.inr ⟨_,rfl⟩);have ajt:(s.β.set 2 ⟨D.v,[]⟩)[4]?=O X:=az;obtain⟨g2,t2⟩:=g1.afD (l:=4) (B:=.cells 238 [.c (.int .u64 0),.c (.int .u32 0)]) rfl ajt (.inl ⟨_,_,rfl⟩);generalize hsB:({s with β:=(s.β.set 2 ⟨D.v,[]⟩).set 4 ⟨X.v,[]⟩}:St)=sB at g2 t2;have eβ:sB.β=(s.β.set 2 ⟨D.v,[]⟩).set 4 ⟨X.v,[]⟩:=az;have eM:sB.M=s.M:=az;have ew:sB.w=s.w:=az;have eo:sB.own=s.own:=az;have hhB:aH d5 sB:=g2;have Wm:=(t1.pC h.hh).trans (t2.pC g1);have hβ2:sB.β[2]?=O ⟨D.v,[]⟩:=az;have p:∀L∈sB.β,∀x∈L.bs,∃l,l≠2/\l≠4/\s.β[l]?=O L:=by grind[List.mem_iff_getElem?]
 have Kb:C<s.w.heap.size:=h.hh.lt D (b9 u) C P;have Hh:Wg<s.w.heap.size:=h.hh.lt X (b9 K) Wg az;have clC:Wl C sB:=⟨by rw[eo];exactλho=>(h.hh.own C ho).2 D (b9 u) P,λL d f=>by obtain⟨l,n2,n4,hl⟩:=p L d C f;exact n2 (h.hh.gY l 2 L D hl u C f P),λo=>by rw[eM];grind,by grind⟩
 have H:Wl Wg sB:=⟨by rw[eo];exactλho=>(h.hh.own Wg ho).2 X (b9 K) az,λL d f=>by obtain⟨l,n2,n4,hl⟩:=p L d Wg f;exact n4 (h.hh.gY l 4 L X hl K Wg f az),λo=>by rw[eM];grind,by grind⟩
 have fB:c7 45 d5 sB (qz k ps ns C Wg 0) a:=by have q:=h.fr.mono Wm h.hh.len;have q9:c7 45 d5 sB ((9,jA (.pointer (O ⟨Wg,0,af⟩)))::afF k ps ns C) a:=q.seen (by rw[hv9];exact Rd.val aK);exact q9.le (dJ aK ay)
 have R:(xs++zs).toArray.size=2*V ns:=az;have Xe:∀x,(s.own x∨∃L∈s.β,x∈L.bs)->x<s.w.heap.size:=λx f=>f.elim (λq=>(h.hh.own x q).1) λ⟨L,d,q⟩=>h.hh.lt L d x q;refine .AL (T:=λg' s'=>∃a4 m,At (Gp k ps ns C xs) so (TP (V ns) C) (Lv k ps ns C) a4 s'/\WgLive 238 Wg s'.w/\Goes ag W (iu 238 Wg) DC0 (λg _=>g=G (b.aT (a4.put (O 28) (.tuple #[])) (.inRegion Dj []::.code vi::kk)) cs) m g' s'.w)
  (Hf.abD (n:=V ns) (ty:=238) (val:=aa1 k ps ns) (N:=2*V ns) (s0:=sB) 2 aq Wg C aq Hg (.of h.hh hhB ew Wm) aK ⟨D,b9 u,P⟩ ⟨X,b9 K,by grind⟩ Xe ?_ AK ⟨_,afJ,R⟩ ?_) ?_
 .rintro x (rfl|rfl)
  .exact⟨clC.own,clC.β,clC.M⟩
  exact⟨H.own,H.β,H.M⟩
 .intro Y hYW hYC hYk;subst hYW hYC;refine⟨TF k ps ns Y d5 sB b kk cs,AnF k ps ns Y d5 sB b kk cs,λg s f=>anF H Hi f,?_,?_⟩
  .refine XV hfe hYk H Hi hb ee hn (λi hi=>rfl) (λi hi=>rfl) (V ns) (bm _) a sB ⟨by grind,hhB,.refl _ _⟩ ⟨_,_,by rw[ew];exact AK⟩
  .rintro g' s' ⟨a4,⟨j,Z⟩,m,hgo⟩ hm' afK acA aeW M6;obtain⟨o1,o2,o3⟩:=M6 Y.C (.inl rfl);obtain⟨pE,afL,api⟩:=afK;have hcs:pE=(pj k ps ns).toArray:=by
    apply Array.ext_getElem?;intro o;have eo':(pj k ps ns).toArray[o]?=(pj k ps ns)[o]?:=ay;rw[eo'];rcases dy o (2*V ns)with ho|ho
    .have q1:=acA (o / 2) aq (o % 2) aq;have q2:=Gq (k:=k) (ps:=ps) (ns:=ns) (x:=o / 2) (i:=o % 2) aq aq;rw[show 2*(o / 2)+o % 2=o by omega]at q1 q2;rw[q2];simpa[a9,afL]using q1
    grind[IA]
   subst hcs;have He:V s'.β=5:=j.hh.len;obtain⟨B2',L2',p1,p2,p3⟩:=j.st.box 2 .cg ⟨D.v,[]⟩ rfl hβ2;have apk:L2'.v=.nilFunc:=by cases p1;exact(show L2'.v=D.v from p3).trans hv2
   have F:∀(l:Nat) (B:bq),d5[l]?=O B->B=.cg:=by
    intro l B hB
    match l,hB with
    |0,hB|1,hB|2,hB|3,hB|4,hB=>cases hB;rfl
   have ab:∀l,(s'.β.set 2 ⟨.nilFunc,[Y.C]⟩)[l]?=if l=2 then O ⟨.nilFunc,[Y.C]⟩else s'.β[l]?:=az;have y:∀L∈s'.β.set 2 ⟨.nilFunc,[Y.C]⟩,L=⟨.nilFunc,[Y.C]⟩∨L∈s'.β:=λL d=>by grind
   have hh4:aH (Lv k ps ns Y.C) {s' with β:=s'.β.set 2 ⟨.nilFunc,[Y.C]⟩}:=by
    refine⟨j.hh.mem,by simp[He,Lv],?_,?_,?_,λx f=>⟨(j.hh.own x f).1,λL d aa=>?_⟩⟩
    .intro l B L hB d;rw[ab]at d;by_cases e:l=2
     .subst e;rw[bh aK]at d;cases d;cases hB;refine⟨λb'=>if b'=Y.C then O (.cells (pj k ps ns++[]).toArray 240 (0,0))else af,⟨aK,?_,IA,bm _,by omega,[],by grind,aK⟩,λb' ob qq=>?_,λb'=>?_,λb' qq o=>?_⟩
      .intro x f;simp only[pj,rP]at f;obtain⟨_,_,f⟩:=f;simp only[eQ,rO,mS]at f;rcases f with rfl|rfl<;>rfl
      .by_cases e:b'=Y.C
       .subst e;simp only[cv]at qq;cases qq;exact c9
       grind
      .by_cases e:b'=Y.C<;>simp[e]
      grind
     .match l,hB,e with
      |0,hB,_|1,hB,_|3,hB,_|4,hB,_=>cases hB;trivial
      |2,_,e=>grind
    .intro l l' L L' d im x f ZY;rw[ab]at d im;by_cases e:l=2
     .grind
     rw[bc e]at d;by_cases e':l'=2
     .grind
     rw[bc e']at im;exact j.hh.gY l l' L L' d im x f ZY
    .intro L d x f;rcases y L d with rfl|d
     .grind
     exact j.hh.lt L d x f
    rcases y L d with rfl|d
    .grind
    exact(j.hh.own x f).2 L d aa
   have ajw:dE [.cg,.cg,.cJ (jS 240 2 (.row Y.C (V ns)) (V ns) xs),.cg,.cells 238 [.c (.int .u64 0),.c (.int .u32 0)]] s (Lv k ps ns Y.C) {s' with β:=s'.β.set 2 ⟨.nilFunc,[Y.C]⟩}:=by
    have q:=j.st;refine⟨by have:=q.size;grind,λx f=>by have:=q.keep x az;grind,λx o v f=>q.mem x o v az,λx f hnx o=>?_,λL d x f=>?_,?_,by rw[q.os,ew],by rw[q.tape,ew],by rw[q.output,ew],by rw[q.own,eo]⟩
    .rw[q.lJ x az (λL d aa=>by
      obtain⟨l,_,_,hl⟩:=p L d x aa
      grind) o,eM]
    .rcases y L d with rfl|d
     .grind
     rcases q.Ab L d x f with r1|⟨L0,r1,r2⟩
     .grind
     obtain⟨l,_,_,hl⟩:=p L0 r1 x r2;grind
    intro l B L hB d;obtain⟨B1,L1,r1,r2,r3⟩:=Wm.box l B L hB d;obtain⟨B3,L3,u1,u2,u3⟩:=q.box l B1 L1 r1 r2;have eB1:=F l B1 r1;have eB3:=F l B3 u1;subst eB1 eB3;by_cases e:l=2
    .subst e;cases hB;rw[u]at d;cases d;exact⟨_,⟨.nilFunc,[Y.C]⟩,aK,by grind,hv2.symm⟩
    refine⟨.cg,L3,?_,by grind,r3.trans u3⟩
    match l,u1,e with
    |0,_,_|1,_,_|3,_,_|4,_,_=>rfl
    |2,_,e=>grind
   refine⟨{s' with β:=s'.β.set 2 ⟨.nilFunc,[Y.C]⟩},⟨a4,m,⟨⟨j.fr.size,⟨[],?_⟩,λt=>?_⟩,hh4,h.st.trans ajw⟩,Z,hgo⟩,rfl,hm',λSh ak hnC=>⟨ak.own,λx f L d aa=>?_,ak.M,ak.lt⟩⟩
   .obtain⟨ls,hls⟩:=j.fr.defers;rw[mV (λB hB=>by grind) hls];trivial
   .have fq:c7 45 d5 s' (TP (V ns) Y.C) a4:=j.fr.le (dJ aK ay);exact ey.qy (s:=s') (s':={s' with β:=s'.β.set 2 ⟨.nilFunc,[Y.C]⟩}) rfl (fq.ff t) (rh rfl)
   rcases y L d with rfl|d
   .grind
   exact ak.β x f L d aa
 rintro g' s' ⟨a4,m,h4,hl4,hgo⟩;refine At.goes m g' s' h4 hl4 hgo λs1 h1=>?_;have h2:At (Gp k ps ns C xs) so ((28,.any)::TP (V ns) C) (Lv k ps ns C) (a4.put (O 28) (.tuple #[])) s1:=⟨h1.fr.put ee an,h1.hh,h1.st⟩
 refine h2.ctl aK (λw=>lq) λs2 h3=>?_;refine afH s2 _ (h3.fr.le (dJ aK ay)) h3.hh b kk cs S hb Hi λe J' U' s' a' q f' h' uX=>hQ e J' U' s' a' q f' h' (h3.st.trans uX)
end
end
abbrev tGB(a:List Bs)(b:Bool):D:=.gI [.bX (.c (.sl ae 1 (V a) (cS.fn a))),.bX (.c (.bool b))]
def eD(k:Int)(ps:List bz)(ns:List Int):Option (List Bs):=if ns.all (λn=>(dx k ps n).isSome)then O (ns.map λn=>(dx k ps n).getD [])else af
noncomputable def cR0:Code:=BT Lt
noncomputable def cR1:Code:=BT (nL Lt)
noncomputable def cR2:Code:=BT (nL (nL Lt))
def XX:Tryz.f108.body=O (.seq cR0 (.seq cR1 (.seq cR2 c3T))):=bw
def esF(k:Int)(ps:List bz)(ns:List Int)(i:Nat):List AM.C:=[.du ((dx k ps (ns.getD i 0)).getD []),.bool (dx k ps (ns.getD i 0)).isSome]
def zG(k:Int)(ps:List bz)(ns:List Int):List Bs:=ns.map λn=>(dx k ps n).getD []
theorem IB{b p:Bs}(h:gu b=O p):V p<=8:=by
 unfold gu at h;split at h
 .rename_i a;cases h;simp only[cu,bH,bu]at a;omega
 grind
theorem Pd{x:bJ}{p:Bs}(h:mh k x=O p):V p<=8:=by unfold mh at h;grind[IB]
theorem Ec{ps:List bz}{n:Int}:V ((dx k ps n).getD [])<=8:=by
 cases h:dx k ps n with
 |none=>simp
 |some p =>
  obtain⟨q,_,a⟩:=List.exists_of_findSome?_eq_some h;unfold eJ at a;grind[Pd]
theorem acC{ps:List bz}{ns:List Int}(hi:i<V ns){c:AM.C}{x:ah}(a:(esF k ps ns i)[j]?=O c)(b:(pj k ps ns)[i*2+j]?=O x):Rd M x c:=by
 have d:j<2:=(cO.1 a).1;have:=Gq (k:=k) (ps:=ps) hi d;rw[Nat.mul_comm,this]at b;cases b
 match j,d with
 |0,_ =>
  cases a;have:=Ec (k:=k) (ps:=ps) (n:=ns.getD i 0);exact .du Z aq
 |1,_=>cases a;exact .bool
def _root_.Go.AM.nG.le{P:aR}{X:Cx P}{N:Nat}{Q:Post}{J J':Fr}{U:List bq}{c:Code}(h:nG X N c Q J' U)(hl:rS J J'):nG X N c Q J U:=λs a f hh=>h s a (f.le hl) hh
def Iw(l:fp (Cx.zB ag) 172 (pf k))(ps:List bz)(ns:List Int)(r:V ns<=4000000):
  Ev (Cx.cx ag) 108 [dI k,cP.sl ps,cI.sl ns] [] (tGB ((eD k ps ns).getD []) (eD k ps ns).isSome) []:=by
 refine e9.KA (e9.KZ (ι:=Unit) Tryz.func108 rfl XX rfl λt=>?_);show nG _ 45 _ _ _ _;refine nG.seq (AW.zC (I.dX ?_));refine bt Z an ?_;show nG _ 45 _ _ _ _;refine nG.seq (AW.zC (I.dX ?_));refine bt Z an (I.RP (E:=240) (n:=V ns) bO Z Z Z Z Z Z (by show _*24<=_;omega) aq Z Z λC xs=>?_);refine bt Z an ?_;show nG _ 45 _ _ _ _;refine nG.seq (AW.zC (I.dX ?_));refine bt Z an ?_;show nG _ 45 _ _ _ _;have a:nG (Cx.cx ag) 45 vi (λe J σ1=>∃_:Unit,cM Tryz.f108 0 (tGB ((eD k ps ns).getD []) (eD k ps ns).isSome) [] e J σ1) (TP (V ns) C) (Lv k ps ns C):=by
  refine AW.zC (AW.mono (Q:=cM Tryz.f108 0 (tGB ((eD k ps ns).getD []) (eD k ps ns).isSome) []) (I.dX ?_) λ_ _ _ q=>⟨(),q⟩);refine bt Z (show _<=_ by omega) (I.AQ 29 2 (bf:=.row C (V ns)) (n:=V ns) (k:=2) (esF k ps ns) Z Z (λi hi=>⟨Z,λM j c x s u=>?_⟩) ?_)
  .grind [acC]
  refine I.jK 12 9 1 Z Z ?_;refine I.cm 6 (λi=>i<=V ns/\∀j,j<i->(dx k ps (ns.getD j 0)).isSome=W) (λi:Nat=>[(29,b7 (.sl ae 2 (V ns) (esF k ps ns))),(30,dI (V ns)),(31,dI i),(12,.e (.bX (.dk 5 1 (V (zG k ps (ns.take i))) (cS.fn (zG k ps (ns.take i))))))]) (λi=>[.cg,.cg,.cg,.cg,.cg,.dk 9 1 (V (zG k ps (ns.take i))) (cS.fn (zG k ps (ns.take i)))]) (λi=>V ns-i) 0 Z ?_ Z ?_ Z ⟨by omega,by omega⟩ ?_
  .simp[eW,zG]
  .simp[eW,zG]
  rintro i ⟨hi,o⟩;by_cases h:i<V ns
  .cases m:(dx k ps (ns.getD i 0)).isSome with
   |true =>
    have b:zG k ps (ns.take (i+1))=zG k ps (ns.take i)++[(dx k ps (ns.getD i 0)).getD []]:=by unfold zG;grind[List.take_add_one]
    have p:V (zG k ps (ns.take i))<=4000000:=by simp[zG];omega
    refine bM [(32,W),(37,ae)] Z ?_ (I.aQ (i+1) Z ?_ ?_ ?_ ?_)
    .simp[-aj,h,esF,m,cd];have:i9.bytes=16:=rfl;grind
    .rw[b];simp[-aj,esF];exact cS.cw _ _
    .rw[b];simp[-aj,esF];exact cS.cw _ _
    .grind
    omega
   |false =>
    refine bM [(32,W),(37,W)] Z ?_ (I.gp (cM.zero Z ?_))
    .simp[-aj,h,esF,m]
    have f:eD k ps ns=af:=Rh;simp[f]
  have g:i=V ns:=aq;subst g;refine bM [(32,ae)] Z ay (I.br Z Z ?_);refine dj Z an (I.bE Z ?_);have d:eD k ps ns=O (zG k ps ns):=by
   unfold eD;rw[bh]
   .rfl
   grind[List.mem_iff_getElem]
  simp[d]
 exact nG.le (U:=Gp k ps ns C xs) (afG (xs:=xs) l r a) (dJ Z ay)
end R1
end Go.AM
namespace Go.AM.R1
def pv(a:UInt8)(s:Bs):lR (a::s)=if a=47 then 0 else if lR s=-1 then -1 else lR s+1:=by unfold lR;grind[Lib.indexByte.eq_def]
def Gz:lR []=-1:=j3
def Pp(s:Bs):iV s=fT s:=by
 by_cases i:V s<=3
 .match s,i with
  |[],_=>exact j3
  |[a],_ =>
   by_cases d:a=47
   .exact wj
   simp[iV,fT,eh,nQ,om,pv,Gz,d,qe,dM]
  |[a,b],_ =>
   by_cases d:a=47
   .exact wj
   by_cases e:b=47
   .subst e;simp[iV,fT,eh,nQ,sI,om,pv,d]
   simp[iV,fT,eh,nQ,om,pv,Gz,d,e]
  |[a,b,c],_ =>
   by_cases d:a=47
   .subst d;simp[iV,fT,eh,nQ,sI,om,pv,qe,dM]
   by_cases e:b=47
   .subst e;simp[iV,fT,eh,nQ,sI,om,pv,d,qe,dM]
   have f:¬(b.toNat:Int)=47:=by intro h;apply e;apply wx.1;grind
   by_cases g:c=47
   .subst g;simp[iV,fT,eh,nQ,sI,om,pv,d,e,qe,dM]
   simp[iV,fT,eh,nQ,om,pv,Gz,d,e,g,f,qe,dM]
  |_::_::_::_::_,h=>grind
 have j:fT s=ae:=by unfold fT;grind
 grind[zh]
end Go.AM.R1
namespace Go.AM
theorem xq(a:Bs):bC a []=ae:=Q2
def Cg(b:UInt8)(l:Bs):bC [] (b::l)=W:=Q2
theorem xt(a b:UInt8)(x y:Bs):bC (a::x) (b::y)=(decide (a<b)||a==b&&bC x y):=Q2
theorem uH:∀a:Bs,bC a a=ae
 |[]=>xq []
 |a::l=>by rw[xt,uH l];simp
def IW:∀a b:Bs,bC a b=W∨a=b∨bC b a=W
 |[],[]=>.inr (.inl rfl)
 |[],b::y=>.inl (Cg b y)
 |a::x,[]=>.inr (.inr (Cg a x))
 |a::x,b::y=>by
  rw[xt,xt];rcases IW x y with h|h|h
  .grind
  .grind
  grind
theorem Ch:∀{a b c:Bs},bC a b=W->bC b c=W->bC a c=W
 |a,b,[],_,d=>by grind[xq]
 |a,[],c::z,e,_=>by grind[xq]
 |[],b::y,c::z,_,_=>Cg c z
 |a::x,b::y,c::z,e,d=>by
  rw[xt,kC,cu,bu,fR]at e d⊢;rcases e with e|⟨rfl,e⟩
  .grind
  rcases d with d|⟨rfl,d⟩
  .grind
  exact .inr ⟨Z,Ch e d⟩
theorem IX{a b:Bs}(h:bC a b=W):bC b a=ae:=by grind[Ch,uH]
def acP{a b:Bs}:(!(bC b a||b==a))=bC a b:=by
 rcases IW a b with h|h|h
 .have c:(b==a)=ae:=by simp only[eC,dO];grind[uH]
  grind[IX]
 .grind [uH]
 grind[IX]
namespace R1
def af3{t:List bF}{i:Nat}(h:∀k,0<k->k<=i->bC (g9 t (k-1)) (g9 t k)=W):∀j,j<i->bC (g9 t j) (g9 t i)=W:=by
 intro j f;induction i with
 |zero=>omega
 |succ i d =>
  have c:=h (i+1) aq (bm _);simp only[pH]at c;by_cases e:j=i
  .grind
  exact Ch (d (λk a b=>h k a aq) aq) c
def zi{s:Bs}(h:fT s=W):(∃a,s=[a])∨∃a b,s=[a,47,b]:=by
 unfold fT at h;split at h
 .rename_i d
  match s,d with
  |[a],_=>grind
 split at h
 .rename_i d
  match s,d with
  |[a,b,c],_ =>
   right;simp[qe,dM]at h;have e:b=47:=by apply wx.1;grind
   grind
 grind
theorem IY{p q:Bs}(i:fT p=W)(f:fT q=W)(g:bC p q=W):qf p q=under q p:=by
 rcases zi i with⟨a,rfl⟩|⟨a,b,rfl⟩<;>rcases zi f with⟨c,rfl⟩|⟨c,d,rfl⟩
 .exact j3
 .by_cases e:a=c
  .subst e;simp[qf,under,qB,dM]
  have:¬(a.toNat:Int)=c.toNat:=λh=>e (wx.1 aq);have k:((a.toNat:Int)==(c.toNat:Int))=ae:=az;have j:(c==a)=ae:=az;simp[qf,under,qB,dM];grind
 .have:¬(a.toNat:Int)=c.toNat:=by grind[UInt8.toNat_inj,xt,xq]
  simp[qf,under,qB,dM,this]
 exact j3
theorem Er{t:List bF}{i:Nat}(a:∀j,j<i->jE t j=W):lG t i=jE t i:=by
 unfold lG jE;rw[Pp,acP];cases l:fT (g9 t i)with
 |false=>simp
 |true =>
  cases f:fG (yq t i)with
  |false=>simp
  |true =>
   cases d:(i==0||bC (g9 t (i-1)) (g9 t i))with
   |false=>simp
   |true =>
    simp only[gy];have h:∀j,j<i->bC (g9 t j) (g9 t i)=W:=by
     apply af3;intro k hk hki;by_cases e:k=i
     .grind
     have:=a k aq;simp only[jE,cu,kC,fR]at this;grind
    rw[pO,dG,dG];have g:∀j,j<i->qf (g9 t j) (g9 t i)=under (g9 t i) (g9 t j):=by
     intro j b;have c:fT (g9 t j)=W:=by have:=a j b;simp only[jE,cu]at this;exact this.1.1.1
     grind[IY]
    grind
def jD(t:List bF):qg t=cT t:=by
 unfold qg cT;congr 1;rw[pO,dG,dG];constructor
 .intro h i;induction i using Nat.strongRecOn with
  |_ i a=>grind[Er]
 grind[Er]
end R1
end Go.AM
namespace Go.AM
variable {n:Nat}{k:Int}{l b i j:Nat}{E:av}{L:Array Bool}{M:Mem}{N:Nat}{P:aR}{S:au->St->Prop}{c:Code}{g:au}{o:aJ}{s:St}{t:av}{v:ah}{w:aB}{x y:aG}{α:Type}{η:aG->D}{ι:Type}{U:List bq}{J:Fr}{all:List aJ}{lh:Array av}{cap:List C}{cR:List D}{cs:List bd}{ds:List (Nat×Bool)}{es:Nat->List C}{fo:aG}{gs:Array au}{ks:List Nat}{obs:List Prop}{off:Nat}{op:BinOp}{ops:Array aJ}{ps:List Prop}{rest:List aJ}{s':St}{tx:Bool}{ty:av}{val:Nat->Nat->ah}{vs:List ah}{w':aB}{xs:Array aG}{U' Us:List bq}{res:ι->D}{σ1:ι->List bq}
variable {CT:List (Nat×eP)}{K:List It}{Qf:Post}{T:List (Nat×TI)}{ie:TI}
namespace R1
section
variable {X:Cx ag}
def fN(k:Int)(ps:List bz)(x:iU):Option bF:=match eD k ps x.2 with
 |none=>af
 |some l=>match ig l with
  |none=>af
  |some t=>O (x.1,t)
def ef(k:Int)(ps:List bz)(l:List iU):List bF:=l.map λx=>(fN k ps x).getD ([],[])
def cn(k:Int)(s:dn)(ps:List bz):Option (List bF) :=
 if cN k&&s.2.all (λx=>(fN k ps x).isSome)&&cT (ef k ps s.2)then O (ef k ps s.2)else af
abbrev XP(a:List bF)(b:Bool):D:=.gI [.bX (.c (.sl ae 2 (V a) (cF.fn a))),.bX (.c (.bool b))]
abbrev Ke(s:dn):D:=.e (.agg [.c (.int .i64 s.1),.c (.sl ae 2 (V s.2) (cL.fn s.2))])
theorem tQ{ps:List bz}{l:List iU}(h:i<V l):ef k ps (l.take (i+1))=ef k ps (l.take i)++[(fN k ps (l.getD i ([],[]))).getD ([],[])]:=by unfold ef;grind[List.take_add_one]
def tR{ps:List bz}{s:dn}(h:i<V s.2)(a:fN k ps (s.2.getD i ([],[]))=af):cn k s ps=af:=by unfold cn;rw[bc];grind
def Dh{ps:List bz}{ns:List Int}{l:List Bs}(h:eD k ps ns=O l)(a:V ns<=4000000):V l.flatten<=140737488355328/\V l<=4000000:=by
 unfold eD at h;split at h
 .rename_i b;cases h;refine⟨?_,by grind⟩;have key:∀ns:List Int,(ns.all λn=>(dx k ps n).isSome)=W->(ns.map λn=>(dx k ps n).getD []).flatten.length<=8*V ns:=by
   intro ns;induction ns with
   |nil=>grind
   |cons n ns ih =>
    intro h;simp only[List.all_cons,cu]at h;grind[Ec]
  grind
 grind
def Iv(k:Int)(s:dn)(ps:List bz)(AK:V s.2<=4000000)(F:∀x∈s.2,V x.2<=4000000):
  Ev (Cx.cx ag) 53 [dI k,Ke s,cP.sl ps] [] (XP ((cn k s ps).getD []) (cn k s ps).isSome) []:=by
 refine Ev.bQ Tryz.func53 rfl λD=>?_;have A:=D.sl 2 Z;have b:b5 (Cx.cx ag) [(55,lW aI (λk=>dB (cN k)) λ_=>[])]:=.cons t55 .nil;cases hk:cN k with
 |false =>
  refine aY b [(15,ae),(16,W)] Z AE (I.bE Z ?_);simp[cn,hk]
 |true =>
  have r:fp (Cx.zB ag) 172 (pf k):=ack XD hk;refine aY b [(15,W),(16,ae),(1000004,W)] Z AE (I.jK 8 98 2 Z Z ?_);refine cp b Z an (I.cm 2 (λi=>i<=V s.2/\∀j,j<i->(fN k ps (s.2.getD j ([],[]))).isSome=W) (λi:Nat=>[(0,dI k),(2,cP.sl ps),(4,cE 0 0),(8,.e (.bX (.dk 1 2 (V (ef k ps (s.2.take i))) (cF.fn (ef k ps (s.2.take i)))))),(18,cL.sl s.2),(19,dI (V s.2)),(20,dI i)]) (λi=>[.cells 42 [.c (.int .i64 s.1),.c (.sl ae 2 (V s.2) (cL.fn s.2))],.dk 98 2 (V (ef k ps (s.2.take i))) (cF.fn (ef k ps (s.2.take i)))]) (λi=>V s.2-i) 0 Z MK Z MK Z ⟨by omega,by omega⟩ ?_);rintro i ⟨hi,y⟩;by_cases h:i<V s.2
  .have o:s.2.getD i ([],[])∈s.2:=az;generalize f:s.2.getD i ([],[])=x at o;have g:=F x o;have d:=Iw r ps x.2 g;cases a:eD k ps x.2 with
   |none =>
    rw[a]at d;refine aY b [(21,W)] Z c9 (I.cQ (f▸d) [] Z (aY b [(33,W)] Z ay (I.gp (cM.zero Z ?_))));have e:fN k ps x=af:=by simp[fN,a]
    rw[tR h az];simp
   |some l =>
    obtain⟨n,G⟩:=Dh a g;rw[a]at d;have p:=Lr (X:=Cx.cx ag) l n;refine aY b [(21,W)] Z c9 (I.cQ (f▸d) [] Z (aY b [(33,ae)] Z ay (I.cQ p [] Z ?_)));cases v:ig l with
    |none =>
     refine aY b [(40,W)] Z ay (I.gp (cM.zero Z ?_));have e:fN k ps x=af:=by simp[fN,a,v]
     rw[tR h az];simp
    |some t =>
     have e:fN k ps x=O (x.1,t):=by simp[fN,a,v]
     have E:s.2.getD (i:Int).toNat cL.cy=x:=f;have H:V (ef k ps (s.2.take i))<=4000000:=by simp[ef];omega
     have z:eW (V (ef k ps (s.2.take i))+1) (dv (V (ef k ps (s.2.take i))) (cF.fn (ef k ps (s.2.take i))) λq=>[[C.du (s.2.getD (i:Int).toNat cL.cy).1,C.du ((O t).getD [])]].getD q []) (cF.fn (ef k ps (s.2.take (i+1)))):=by rw[tQ h,f,e,E];exact cF.cw (ef k ps (s.2.take i)) (x.1,t)
     have w:V (ef k ps (s.2.take i))+1=V (ef k ps (s.2.take (i+1))):=by grind[tQ]
     refine aY b [(40,ae)] Z ?_ (I.aQ (i+1) Z ?_ ?_ ?_ ?_)
     .refine⟨by exact ek,Z,Z,?_,Z⟩;show _*32<=_;omega
     .refine aA.eu.2 ⟨Z,aA.eu.2 ⟨⟨Z,eW.same⟩,aA.eu.2 ⟨an,aA.eu.2 ⟨⟨w,z⟩,aA.eu.2 ⟨⟨Z,eW.same⟩,aA.eu.2 ⟨Z,aA.eu.2 ⟨?_,an⟩⟩⟩⟩⟩⟩⟩;simp
     .exact aA.eu.2 ⟨aA.eu.2 ⟨Z,aA.eu.2 ⟨⟨Z,eW.same⟩,an⟩⟩,aA.eu.2 ⟨⟨w,z⟩,an⟩⟩
     .grind
     omega
  have e:i=V s.2:=aq;subst e;refine aY b [(21,ae)] Z ay (I.br Z Z ?_);rw[de];have m:=BQ (X:=Cx.cx ag) (ef k ps s.2);rw[jD]at m;refine cp b Z an (I.cQ m [] Z ?_);have B:s.2.all (λx=>(fN k ps x).isSome)=W:=bL.2 λx o=>by grind[List.mem_iff_getElem]
  cases u:cT (ef k ps s.2)with
  |false =>
   refine aY b [(51,W)] Z ay (I.bE Z ?_);simp[cn,u]
  |true =>
   refine aY b [(51,ae)] Z ay (I.bE Z ?_);simp[cn,u,hk,B]
abbrev bA:=List bz×List dn×List (Int×Int)
def mj(s:bA):Prop:=∀x∈s.2.1,V x.2<=4000000/\∀y∈x.2,V y.2<=4000000
abbrev n5(s:bA):D:=.e (.agg [.c (.sl ae 2 (V s.1) (cP.fn s.1)),.c (.sl ae 2 (V s.2.1) (dY.fn s.2.1)),.c (.sl ae 2 (V s.2.2) (cH.fn s.2.2))])
def dq(k:Int)(s:bA)(no:Int):Option (List bF):=match s.2.1.find? (λx=>x.1==no)with
 |none=>af
 |some x=>cn k x s.1
def ym:eP:=Kc aI (Iq cL) (aL cP) (λk s ps=>XP ((cn k s ps).getD []) (cn k s ps).isSome) λ_ s _=>[V s.2<=4000000,∀x∈s.2,V x.2<=4000000]
def Ed:fp (Cx.cx ag) 53 ym:=.QD λk s ps h=>Iv k s ps h.1 h.2
def Gi(k:Int)(s:bA)(no:Int)(j:mj s):
  Ev (Cx.cx ag) 17 [dI k,n5 s,dI no] [] (XP ((dq k s no).getD []) (dq k s no).isSome) []:=by
 refine Ev.bQ Tryz.func17 rfl λl=>?_;have b:b5 (Cx.cx ag) [(51,c51),(53,ym)]:=.cons t51 (.cons Ed .nil);have f:dY.cz (V s.2.1) (dY.fn s.2.1)=s.2.1:=dY.aw _;refine aY b [(1000001,W)] Z an (I.freeze 5 1 Z Z Z ?_);rcases Ip s.2.1 no with⟨d,a⟩|⟨i,hi,d,a⟩
 .refine aY b [(14,W)] Z ek (I.bE Z ?_);simp[dq,a]
 have g:s.2.1.getD i (0,[])∈s.2.1:=az;obtain⟨h,q2⟩:=j _ g;have e:dq k s no=cn k (s.2.1.getD i (0,[])) s.1:=by simp only[dq,a]
 have c:s.2.1.getD (vf (dY.cz (V s.2.1) (dY.fn s.2.1)) no).toNat dY.cy=s.2.1.getD i (0,[]):=az;refine aY b [(14,ae)] Z ?_ (I.bE Z ?_)
 .simp only[aA,c,cL.aw,f,d];exact⟨cL.aE _,cP.aE _,h,q2,by omega,by omega,ot aq,dY.aE _⟩
 simp only[c,cL.aw,cP.aw,e];simp
def XQ:Is bA:=⟨n5,λd=>match d with
 |.e (.agg [.c a,.c b,.c c])=>match mf 2 (b7 a)with
  |some (m,k)=>match mf 2 (b7 b)with
   |some (g,i)=>match mf 2 (b7 c)with
    |some (l,j)=>O ((cP.cz m k,dY.cz g i,cH.cz l j),[cP.pd m k,dY.pd g i,cH.pd l j])
    |none=>af
   |none=>af
  |none=>af
 |_=>af,λ{d a o} h ho U s v r=>by
 split at h
 .split at h
  .rename_i m k u;split at h
   .rename_i g i p;split at h
    .rename_i l j n;cases h;obtain⟨vs,q,f⟩:=r
     match vs,f with
     |[],f=>exact f.elim
     |[_],f=>exact f.2.elim
     |[_,_],f=>exact f.2.2.elim
     |_::_::_::_::_,f=>exact f.2.2.2.elim
     |[t,x,w],f =>
      exact⟨_,q,cP.k8 (U:=[]) (s:=s) (v:=t) u ho.1 f.1,dY.k8 (U:=[]) (s:=s) (v:=x) p ho.2.1 f.2.1,cH.k8 (U:=[]) (s:=s) (v:=w) n ho.2.2 f.2.2.1,an⟩
    grind
   grind
  grind
 grind⟩
def vO:eP:=Kc aI XQ aI (λk s n=>XP ((dq k s n).getD []) (dq k s n).isSome) λ_ s _=>[mj s]
def BR:fp (Cx.cx ag) 17 vO:=.QD λk s n h=>Gi k s n h
abbrev iE(p:bz)(i:Nat):bJ:=p.2.getD i (0,[])
def kW(k:Int)(p:bz)(i:Nat):Bool:=right k (iE p i)&&(i==0||decide ((iE p (i-1)).1<(iE p i).1))
theorem yn(k:Int)(p:bz):jg k p=((bl (V p.2)).all (kW k p)&&(cN k&&decide (1<=p.1)&&decide (p.1<=99)&&decide (1<=V p.2)&&decide (V p.2<=4))):=by
 have e:(p.2.all (right k)&&Gj (p.2.map (·.1)))=(bl (V p.2)).all (kW k p):=by
  rw[pO,cu,bL,bL];unfold Gj;rw[bL];have c:∀i,i<V p.2->(p.2.map (·.1)).getD i 0=(iE p i).1:=λi hi=>by grind
  constructor
  .rintro⟨d,a⟩ i hi;have hi:=pP.1 hi;have q:=a i az;rw[c i hi]at q;unfold kW;rw[d (iE p i) az,gy];rcases oN i with rfl|f
   .rfl
   grind
  intro h;refine⟨λx b=>?_,λi hi=>?_⟩
  .obtain⟨i,hi,rfl⟩:=Kf.1 b;have:=h i (pP.2 hi);simp only[kW,cu]at this;grind
  have hi:i<V p.2:=az;have:=h i (pP.2 hi);simp only[kW,cu]at this;grind
 rw[<-e];unfold jg;cases cN k<;>cases decide (1<=p.1)<;>cases decide (p.1<=99)<;>cases decide (1<=V p.2)<;>cases decide (V p.2<=4)<;>simp
def Ee{p:bz}(hi:i<V p.2)(h:kW k p i=ae):jg k p=ae:=by grind[yn]
theorem vP{x:bJ}(hk:cN k=W):(mh k x).isSome=right k x:=by unfold mh right;grind
def Pa(k:Int)(p:bz)(hk:cN k=W)(n:V p.2<=4000000):Ev X 110 [dI k,vN p] [] (dB (jg k p)) []:=by
 refine Ev.bQ Tryz.func110 rfl λs=>?_;have a:b5 X [(55,lW aI (λk=>dB (cN k)) λ_=>[]),(176,qb aIS aI (λx k=>Gf (mh k x)) λ_ k=>[cN k=W])]:=.cons t55 (.cons (Tx XD) .nil);refine cp a Z an (I.cm 1 (λi=>i<=V p.2/\∀j,j<i->kW k p j=W) (λi:Nat=>[(0,dI k),(3,cE 0 0),(10,fO.sl p.2),(11,dI (V p.2)),(12,dI i)]) (λ_=>[.cells 83 [.c (.int .i64 p.1),.c (sP p)]]) (λi=>V p.2-i) 0 Z ay Z ay Z ⟨by omega,by omega⟩ ?_);rintro i ⟨hi,d⟩;by_cases h:i<V p.2
 .cases f:right k (iE p i)with
  |false =>
   have g:(mh k (iE p i)).isSome=ae:=by grind[vP]
   refine aY a [(13,W),(24,W),(40,W)] Z fC (I.gp (cM.zero Z ?_));rw[Ee h (by simp only[kW,f,uj])];simp
  |true =>
   have g:(!(mh k (iE p i)).isSome)=ae:=by grind[vP]
   by_cases o:i=0
   .subst o;refine aY a [(13,W),(24,ae),(27,ae),(40,ae)] Z KE (I.aQ 1 Z ay ay ⟨by omega,λj b=>?_⟩ aq);have:j=0:=aq;subst this;simp only[kW,f,gy];rfl
   have w:((i:Int)-1).toNat=i-1:=aq;cases m:decide ((iE p (i-1)).1<(iE p i).1)with
   |false =>
    refine aY a [(13,W),(24,ae),(27,W),(38,W),(40,W)] Z ?_ (I.gp (cM.zero Z ?_))
    .have l:(p.2.getD ((i:Int)-1).toNat fO.cy).1=(iE p (i-1)).1:=ek;refine⟨Z,fQ ?_,by omega,by omega,by exact ek,fQ aq,g,hk,by omega,by omega,fQ aq⟩;rw[l];show(iE p i).1<=_;grind
    rw[Ee h (by simp only[kW,f,m,gy,Bool.or_false];grind)];simp
   |true =>
    refine aY a [(13,W),(24,ae),(27,W),(38,ae),(40,ae)] Z ?_ (I.aQ (i+1) Z ?_ ?_ ⟨by omega,λj b=>?_⟩ aq)
    .have l:(p.2.getD ((i:Int)-1).toNat fO.cy).1=(iE p (i-1)).1:=ek;refine⟨by exact ek,Z,ot ?_,by omega,by omega,by exact ek,fQ aq,g,hk,by omega,by omega,fQ aq⟩;rw[l];show¬(iE p i).1<=_;grind
    .simp
    .simp
    rcases zR.1 b with b|rfl
    .grind
    simp only[kW,f,m,gy,Bool.or_true]
 have e:i=V p.2:=aq;subst e;refine aY a [(13,ae)] Z ay (I.br Z Z ?_);have q:(bl (V p.2)).all (kW k p)=W:=bL.2 λj b=>d j (pP.1 b);rw[yn,q,hk];by_cases r:1<=p.1
 .by_cases v:p.1<=99
  .by_cases t:1<=V p.2
   .by_cases u:V p.2<=4
    .refine aY a [(43,W),(47,W),(52,W),(58,W),(64,W)] Z ek (I.bE Z ?_);exact c9
    refine aY a [(43,W),(47,W),(52,W),(58,W),(64,ae)] Z ek (I.bE Z ?_);exact c9
   refine aY a [(43,W),(47,W),(52,W),(58,ae)] Z fC (I.bE Z ?_);exact c9
  refine aY a [(43,W),(47,W),(52,ae)] Z fC (I.bE Z ?_);exact c9
 refine aY a [(43,W),(47,ae)] Z fC (I.bE Z ?_);exact c9
def Gk:eP:=qb aI (Iq fO) (λk p=>dB (jg k p)) λk p=>[cN k=W,V p.2<=4000000]
def NF:fp X 110 Gk:=.s9 λk p h=>Pa k p h.1 h.2
def Ef(l:List (Int×Int))(d:V l<=4000000):Ev X 101 [cH.sl l] [] (mE 0 (.sl (V l) 2 0 (V l))) [.eX 126 2 (V l) (cH.fn l)]:=by
 refine Ev.bQ Tryz.func101 rfl λf=>?_;refine bt Z an (I.H6 bO Z Z Z Z Z Z λb c=>?_);cases b with
 |true =>
  obtain rfl:=kB (c rfl);refine bt Z an (I.Xz 2 126 2 (cH.fn []) Z ?_);refine I.dt [0] Z ?_ Z Z Z (λj a=>absurd a ay);simp
 |false =>
  refine sY [] 7 Z an (I.Z8 5 126 2 (cH.fn []) Z ?_);refine bt Z ⟨Z,Z,show(0+V l)*16<=_ by omega⟩ (I.kR [.eX 126 2 (V l) (cH.fn l)] Z ?_ ?_)
  .simp[eW,dv]
  refine I.dt [0] Z ?_ Z Z Z (λj a=>absurd a ay);simp;rfl
def Lw(l:List (Int×Int))(c:V l<=4000000):Ev X 101 [cH.sl l] [] (cH.sl l) []:=by
 refine Ev.bQ Tryz.func101 rfl λd=>?_;refine bt Z an (I.H6 bO Z Z Z Z Z Z λb a=>?_);cases b with
 |true =>
  obtain rfl:=kB (a rfl);refine bt Z an (I.bE Z ?_);simp
 |false =>
  refine bt Z ⟨show(0+V l)*16<=_ by omega,.inl Z⟩ (I.bE Z ?_);simp[eW,dv]
def Lx(l:List bJ)(c:V l<=4000000):Ev X 156 [fO.sl l] [] (fO.sl l) []:=by
 refine Ev.bQ Tryz.func156 rfl λd=>?_;refine bt Z an (I.H6 bO Z Z Z Z Z Z λb a=>?_);cases b with
 |true =>
  obtain rfl:=kB (a rfl);refine bt Z an (I.bE Z ?_);simp
 |false =>
  refine bt Z ⟨show(0+V l)*24<=_ by omega,.inl Z⟩ (I.bE Z ?_);simp[eW,dv]
def vR(l:List Int)(c:V l<=4000000):Ev X 85 [cI.sl l] [] (cI.sl l) []:=by
 refine Ev.bQ Tryz.func85 rfl λd=>?_;refine bt Z an (I.H6 bO Z Z Z Z Z Z λb a=>?_);cases b with
 |true =>
  obtain rfl:=kB (a rfl);refine bt Z an (I.bE Z ?_);simp
 |false =>
  refine bt Z ⟨show(0+V l)*8<=_ by omega,.inl Z⟩ (I.bE Z ?_);simp[eW,dv]
def _root_.Go.AM.lX.qc(c:lX α)(l:List α)(h:i<V l)(d:α):eW (i+1) (dv i (c.fn (l.take i)) (λq=>[c.enc (l.getD i d)].getD q [])) (c.fn (l.take (i+1))):=by
 have e:l.take (i+1)=l.take i++[l.getD i d]:=by grind[List.take_add_one]
 have:=c.cw (l.take i) (l.getD i d);grind
abbrev afM:eP:=lW (aL fO) (λl=>fO.sl l) λl=>[V l<=4000000]
def ajA:fp X 156 afM:=.rl λl h=>Lx l h
abbrev afN:eP:=lW (aL cI) (λl=>cI.sl l) λl=>[V l<=4000000]
def ajB:fp X 85 afN:=.rl λl h=>vR l h
def Gr(p:bz)(a:V p.2<=4000000):Ev X 99 [vN p] [] (vN p) []:=by
 refine Ev.lA bO Tryz.func99 rfl rfl rfl λd=>?_;have b:b5 X [(156,afM)]:=.cons ajA .nil;refine cp b Z ?_ ?_
 .simp only[aA,fO.aw];exact⟨fO.aE _,a⟩
 refine I.nJ () [] Z Z Z Z Z Z Z Z ?_ Z Z Z Z (λj c=>absurd c ay);simp[fO.aw]
abbrev TS:eP:=lW (Iq fO) (λp=>vN p) λp=>[V p.2<=4000000]
def aal:fp X 99 TS:=.rl λp h=>Gr p h
def Gs(x:dn)(l:V x.2<=4000000)(d:∀y∈x.2,V y.2<=4000000):Ev X 100 [Ke x] [] (Ke x) []:=by
 refine Ev.lA bO Tryz.func100 rfl rfl rfl λk=>?_;have a:b5 X [(85,afN)]:=.cons ajB .nil;refine aY a [(1000002,W)] Z an (I.iQ 2 1 76 2 (cL.fn []) Z Z ?_);refine cp a Z an ?_;refine I.cm 4 (λi=>i<=V x.2) (λi:Nat=>[(2,cE 1 0),(3,cE 2 0),(10,cL.sl x.2),(11,dI (V x.2)),(12,dI i)])
  (λi=>[.cells 42 [.c (.int .i64 x.1),.c (.sl ae 2 (V x.2) (cL.fn x.2))],.cells 42 [.c (.int .i64 0),.c (.sl W 0 0 λ_=>[])],.cells 42 [.c (.int .i64 x.1),.dk 3 2 i (cL.fn (x.2.take i))],.dk 76 2 i (cL.fn (x.2.take i))]) (λi=>V x.2-i) 0 Z ?_ Z ?_ Z aq ?_
 .simp
 .simp
 intro i hi;by_cases h:i<V x.2
 .have g:x.2.getD i ([],[])∈x.2:=az;refine aY a [(13,W)] Z ?_ (I.aQ (i+1) Z ?_ ?_ ?_ ?_)
  .have q:=d _ g;have b:x.2.getD (i:Int).toNat cL.cy=x.2.getD i ([],[]):=az;simp only[aA,b,cI.aw,cd];exact⟨by omega,an,an,show(i+1)*40<=_ by omega,cI.aE _,q,by omega,by omega,fQ aq⟩
  .simp
  .have b:x.2.getD (i:Int).toNat cL.cy=x.2.getD i ([],[]):=az;have e:=cL.qc x.2 h ([],[]);simp only[aA.eu,aA,b,cI.aw,aW,aX];exact⟨eW.same,eW.same,e,e⟩
  .grind
  omega
 obtain rfl:i=V x.2:=aq;refine aY a [(13,ae)] Z ay (I.br Z Z ?_);refine cp a Z an (I.nJ () [] Z Z Z Z Z Z Z Z ?_ Z Z Z Z (λj f=>absurd f ay));simp
abbrev TT:eP:=lW (Iq cL) (λx=>Ke x) λx=>[V x.2<=4000000,∀y∈x.2,V y.2<=4000000]
def aam:fp X 100 TT:=.rl λx h=>Gs x h.1 h.2
abbrev iI:A:=.c (.sl W 0 0 λ_=>[])
def pn(s:bA)(n:V s.1<=4000000)(g:∀p∈s.1,V p.2<=4000000)(o:V s.2.1<=4000000)(f:mj s)(l:V s.2.2<=4000000):
  Ev X 39 [n5 s] [] (.e (.agg [.bp 0 (.sl (V s.1) 2 0 (V s.1)),.bp 1 (.sl (V s.2.1) 2 0 (V s.2.1)),.c (.sl ae 2 (V s.2.2) (cH.fn s.2.2))])) [.eX 83 2 (V s.1) (cP.fn s.1),.eX 42 2 (V s.2.1) (dY.fn s.2.1)]:=by
 refine Ev.lA bO Tryz.func39 rfl rfl rfl λm=>?_;have a:b5 X [(99,TS),(100,TT)]:=.cons aal (.cons aam .nil);refine aY a [(1000002,W)] Z an (I.tO 2 0 83 2 (cP.fn []) Z Z ?_);refine I.tO 2 1 42 2 (dY.fn []) Z Z ?_;refine cp a Z an ?_;refine I.cm 5 (λi=>i<=V s.1) (λi:Nat=>[(1,cE 0 0),(2,cE 1 0),(3,cE 2 0),(9,cP.sl s.1),(10,dI (V s.1)),(11,dI i)])
  (λi=>[.cells 27 [.c (.sl ae 2 (V s.1) (cP.fn s.1)),.c (.sl ae 2 (V s.2.1) (dY.fn s.2.1)),.c (.sl ae 2 (V s.2.2) (cH.fn s.2.2))],.cells 27 [iI,iI,iI],.cells 27 [.bp 3 (.sl i 2 0 i),.bp 4 (.sl 0 2 0 0),iI],.eX 83 2 i (cP.fn (s.1.take i)),.eX 42 2 0 (dY.fn [])]) (λi=>V s.1-i) 0 Z ?_ Z ?_ Z aq ?_
 .simp
 .simp
 intro i hi;by_cases h:i<V s.1
 .have d:s.1.getD i (0,[])∈s.1:=az;have b:s.1.getD (i:Int).toNat cP.cy=s.1.getD i (0,[]):=az;refine aY a [(12,W)] Z ?_ (I.aQ (i+1) Z ?_ ?_ ?_ ?_)
  .have q:=g _ d;simp only[aA,b,fO.aw,cd];exact⟨by omega,an,an,show(i+1)*32<=_ by omega,fO.aE _,q,by omega,by omega,fQ aq⟩
  .simp
  .have e:=cP.qc s.1 h (0,[]);simp only[aA.eu,aA,b,fO.aw,aW,aX];exact⟨⟨eW.same,eW.same,eW.same⟩,⟨eW.same,eW.same,eW.same⟩,⟨Z,eW.same⟩,e,eW.same⟩
  .grind
  omega
 obtain rfl:i=V s.1:=aq;rw[de];refine aY a [(12,ae)] Z ay (I.br Z Z ?_);refine cp a Z an ?_;refine I.cm 5 (λi=>i<=V s.2.1) (λi:Nat=>[(1,cE 0 0),(2,cE 1 0),(3,cE 2 0),(24,dY.sl s.2.1),(25,dI (V s.2.1)),(26,dI i)])
  (λi=>[.cells 27 [.c (.sl ae 2 (V s.1) (cP.fn s.1)),.c (.sl ae 2 (V s.2.1) (dY.fn s.2.1)),.c (.sl ae 2 (V s.2.2) (cH.fn s.2.2))],.cells 27 [iI,iI,iI],.cells 27 [.bp 3 (.sl (V s.1) 2 0 (V s.1)),.bp 4 (.sl i 2 0 i),iI],.eX 83 2 (V s.1) (cP.fn s.1),.eX 42 2 i (dY.fn (s.2.1.take i))]) (λi=>V s.2.1-i) 0 Z ?_ Z ?_ Z aq ?_
 .simp
 .simp
 intro i hi;by_cases h:i<V s.2.1
 .have d:s.2.1.getD i (0,[])∈s.2.1:=az;have b:s.2.1.getD (i:Int).toNat dY.cy=s.2.1.getD i (0,[]):=az;refine aY a [(27,W)] Z ?_ (I.aQ (i+1) Z ?_ ?_ ?_ ?_)
  .have q:=f _ d;simp only[aA,b,cL.aw,cd];exact⟨by omega,an,an,show(i+1)*32<=_ by omega,cL.aE _,q.1,q.2,by omega,by omega,fQ aq⟩
  .simp
  .have e:=dY.qc s.2.1 h (0,[]);simp only[aA.eu,aA,b,cL.aw,aW,aX];exact⟨⟨eW.same,eW.same,eW.same⟩,⟨eW.same,eW.same,eW.same⟩,⟨Z,eW.same⟩,eW.same,e⟩
  .grind
  omega
 obtain rfl:i=V s.2.1:=aq;rw[de];refine aY a [(27,ae)] Z ay (I.br Z Z ?_);refine cp a Z an (I.cQ (Lw s.2.2 l) [] Z (cp a Z an (I.nJ () [3,4] Z Z Z Z Z Z Z Z ?_ Z Z Z Z (λj k=>absurd k ay))));simp
def BV(s:bA)(n:V s.1<=4000000)(g:∀p∈s.1,V p.2<=4000000)(o:V s.2.1<=4000000)(f:mj s)(l:V s.2.2<=4000000):
  Ev X 39 [n5 s] [] (.e (.agg [.bp 0 (.sl (V s.1) 2 0 (V s.1)),.bp 1 (.sl (V s.2.1) 2 0 (V s.2.1)),.bp 2 (.sl (V s.2.2) 2 0 (V s.2.2))])) [.eX 83 2 (V s.1) (cP.fn s.1),.eX 42 2 (V s.2.1) (dY.fn s.2.1),.eX 126 2 (V s.2.2) (cH.fn s.2.2)]:=by
 refine Ev.lA bO Tryz.func39 rfl rfl rfl λm=>?_;have a:b5 X [(99,TS),(100,TT)]:=.cons aal (.cons aam .nil);refine aY a [(1000002,W)] Z an (I.tO 2 0 83 2 (cP.fn []) Z Z ?_);refine I.tO 2 1 42 2 (dY.fn []) Z Z ?_;refine cp a Z an ?_;refine I.cm 5 (λi=>i<=V s.1) (λi:Nat=>[(1,cE 0 0),(2,cE 1 0),(3,cE 2 0),(9,cP.sl s.1),(10,dI (V s.1)),(11,dI i)])
  (λi=>[.cells 27 [.c (.sl ae 2 (V s.1) (cP.fn s.1)),.c (.sl ae 2 (V s.2.1) (dY.fn s.2.1)),.c (.sl ae 2 (V s.2.2) (cH.fn s.2.2))],.cells 27 [iI,iI,iI],.cells 27 [.bp 3 (.sl i 2 0 i),.bp 4 (.sl 0 2 0 0),iI],.eX 83 2 i (cP.fn (s.1.take i)),.eX 42 2 0 (dY.fn [])]) (λi=>V s.1-i) 0 Z ?_ Z ?_ Z aq ?_
 .simp
 .simp
 intro i hi;by_cases h:i<V s.1
 .have d:s.1.getD i (0,[])∈s.1:=az;have b:s.1.getD (i:Int).toNat cP.cy=s.1.getD i (0,[]):=az;refine aY a [(12,W)] Z ?_ (I.aQ (i+1) Z ?_ ?_ ?_ ?_)
  .have q:=g _ d;simp only[aA,b,fO.aw,cd];exact⟨by omega,an,an,show(i+1)*32<=_ by omega,fO.aE _,q,by omega,by omega,fQ aq⟩
  .simp
  .have e:=cP.qc s.1 h (0,[]);simp only[aA.eu,aA,b,fO.aw,aW,aX];exact⟨⟨eW.same,eW.same,eW.same⟩,⟨eW.same,eW.same,eW.same⟩,⟨Z,eW.same⟩,e,eW.same⟩
  .grind
  omega
 obtain rfl:i=V s.1:=aq;rw[de];refine aY a [(12,ae)] Z ay (I.br Z Z ?_);refine cp a Z an ?_;refine I.cm 5 (λi=>i<=V s.2.1) (λi:Nat=>[(1,cE 0 0),(2,cE 1 0),(3,cE 2 0),(24,dY.sl s.2.1),(25,dI (V s.2.1)),(26,dI i)])
  (λi=>[.cells 27 [.c (.sl ae 2 (V s.1) (cP.fn s.1)),.c (.sl ae 2 (V s.2.1) (dY.fn s.2.1)),.c (.sl ae 2 (V s.2.2) (cH.fn s.2.2))],.cells 27 [iI,iI,iI],.cells 27 [.bp 3 (.sl (V s.1) 2 0 (V s.1)),.bp 4 (.sl i 2 0 i),iI],.eX 83 2 (V s.1) (cP.fn s.1),.eX 42 2 i (dY.fn (s.2.1.take i))]) (λi=>V s.2.1-i) 0 Z ?_ Z ?_ Z aq ?_
 .simp
 .simp
 intro i hi;by_cases h:i<V s.2.1
 .have d:s.2.1.getD i (0,[])∈s.2.1:=az;have b:s.2.1.getD (i:Int).toNat dY.cy=s.2.1.getD i (0,[]):=az;refine aY a [(27,W)] Z ?_ (I.aQ (i+1) Z ?_ ?_ ?_ ?_)
  .have q:=f _ d;simp only[aA,b,cL.aw,cd];exact⟨by omega,an,an,show(i+1)*32<=_ by omega,cL.aE _,q.1,q.2,by omega,by omega,fQ aq⟩
  .simp
  .have e:=dY.qc s.2.1 h (0,[]);simp only[aA.eu,aA,b,cL.aw,aW,aX];exact⟨⟨eW.same,eW.same,eW.same⟩,⟨eW.same,eW.same,eW.same⟩,⟨Z,eW.same⟩,eW.same,e⟩
  .grind
  omega
 obtain rfl:i=V s.2.1:=aq;rw[de];refine aY a [(27,ae)] Z ay (I.br Z Z ?_);refine cp a Z an (I.cQ (Ef s.2.2 l) [] Z (cp a Z an (I.nJ () [3,4,5] Z Z Z Z Z Z Z Z ?_ Z Z Z Z (λj k=>absurd k ay))));simp
def oA(q:α->Bool)(l:List α):Int:=match l.findIdx? q with|some i=>i|none=>-1
def xk{q:α->Bool}{t:List α}{d:α}(hi:i<V t)(h:q (t.getD i d)=W)(a:∀j,j<i->q (t.getD j d)=ae):oA q t=i:=by
 have:t.findIdx? q=O i:=by grind[List.findIdx?_eq_some_iff_getElem]
 rw[oA,this]
def rn{q:α->Bool}{t:List α}{d:α}(a:∀j,j<V t->q (t.getD j d)=ae):oA q t=-1:=by have:t.findIdx? q=af:=DF;rw[oA,this]
def Ly(q:α->Bool)(l:List α):(oA q l=-1/\∀x∈l,q x=ae)∨∃i:Nat,i<V l/\oA q l=i/\(∀x∈l.take i,q x=ae)/\(∀x,l[i]?=O x->q x=W):=by unfold oA;grind[List.findIdx?_eq_some_iff_getElem,List.getElem_of_mem]
def Lz{lo hi:Nat}{z:List C}(h:¬(lo<=j/\j<hi)):rX lo hi z es j=es j:=bc h
theorem cW{l:List α}(h:i<V l)(d:α):l.take (i+1)=l.take i++[l.getD i d]:=by grind[List.take_add_one]
def _root_.Go.AM.lX.LA(c:lX α)(l:List α)(i:Nat)(x:α)(n:Nat)(b:n<=V l):eW n (qZ i (c.enc x) (c.fn l)) (c.fn (l.set i x)):=by intro q a;simp only[qZ,lX.fn,Dk];grind
abbrev ajC:=Int×Int×Int×Bs
abbrev sPs(ps:List bz):C:=.sl ae 2 (V ps) (cP.fn ps)
abbrev sSs(a:List dn):C:=.sl ae 2 (V a) (dY.fn a)
abbrev sHs(a:List (Int×Int)):C:=.sl ae 2 (V a) (cH.fn a)
def We(s:bA)(l:ajC)(n:Nat)(a:l.2.1=n)(h:n<=V s.2.2):aA (lK (V s.2.2) (O l.2.1) af):=by show 0<=l.2.1/\l.2.1<=(V s.2.2:Int);omega
def acD(n lo hi:Int):Ev X 27 [dI n,dI lo,dI hi] [] (dB (decide (lo<=n/\n<=hi))) []:=by
 refine Ev.bQ Tryz.func27 rfl λa=>?_;by_cases b:lo<=n
 .by_cases c:n<=hi
  .refine ba [(10,W),(14,W)] Z c6 (I.bE Z ?_);exact c9
  refine ba [(10,W),(14,ae)] Z c6 (I.bE Z ?_);simp;omega
 refine ba [(10,ae),(14,ae)] Z c6 (I.bE Z ?_);simp;omega
abbrev Gt:eP:=Kc aI aI aI (λn lo hi=>dB (decide (lo<=n/\n<=hi))) λ_ _ _=>[]
def IC:fp X 27 Gt:=.QD λn lo hi _=>acD n lo hi
def Pf(n:Nat)(f:n<=4000000):Ev X 184 [dI n] [] (dI (dW n)) []:=by
 refine Ev.bQ Tryz.func184 rfl λe=>?_;by_cases d:n<1
 .refine ba [(6,W),(9,W)] Z c6 (I.bE Z ?_);have:dW n=0:=by simp[dW,d]
  simp[this]
 by_cases c:8<n
 .refine ba [(6,ae),(9,W)] Z c6 (I.bE Z ?_);have:dW n=0:=by simp[dW,c]
  simp[this]
 by_cases a:n<=2
 .refine ba [(6,ae),(9,ae),(10,W)] Z c6 (I.bE Z ?_);have:dW n=2:=by simp only[dW,bc (show¬(n<1∨8<n) by omega),bh a]
  simp[this]
 by_cases b:n<=4
 .refine ba [(6,ae),(9,ae),(10,ae),(13,W)] Z c6 (I.bE Z ?_);have:dW n=4:=by simp only[dW,bc (show¬(n<1∨8<n) by omega),bc a,bh b]
  simp[this]
 refine ba [(6,ae),(9,ae),(10,ae),(13,ae)] Z c6 (I.bE Z ?_);have:dW n=8:=by simp only[dW,bc (show¬(n<1∨8<n) by omega),bc a,bc b]
 simp[this]
def XY(l:List Bs)(p:Bs)(c:V l<=4000000):Ev X 129 [cS.sl l,dS p] [] (dB (l.contains p)) []:=by
 refine Ev.bQ Tryz.func129 rfl λe=>?_;refine bt Z an (I.cm 0 (λi=>i<=V l/\∀j,j<i->l.getD j []≠p) (λi:Nat=>[(0,cS.sl l),(1,dS p),(5,dI i)]) (λ_=>[]) (λi=>V l-i) 0 Z ay Z ay Z ⟨by omega,by omega⟩ ?_);rintro i ⟨hi,b⟩;by_cases h:i<V l
 .have a:l.getD (i:Int).toNat cS.cy=l.getD i []:=az;by_cases f:l.getD i []=p
  .refine ba [(9,W),(17,W)] Z ?_ (I.gp (cM.zero Z ?_))
   .simp only[aA,a];grind
   have:p∈l:=az;simp[this]
  refine ba [(9,W),(17,ae)] Z ?_ (I.aQ (i+1) Z ?_ ?_ ?_ ?_)
  .simp only[aA,a,cd];grind
  .simp
  .simp
  .grind
  omega
 refine ba [(9,ae)] Z c6 (I.br Z Z ?_);refine bt Z an (I.bE Z ?_);have:¬p∈l:=λd=>by grind[List.getElem_of_mem]
 simp[this]
def TU(p:Bs)(b:bH p=W):Ev X 183 [dS p] [] (dI (gq p)) []:=by
 refine Ev.bQ Tryz.func183 rfl λk=>?_;have a:=b;simp only[bH,cu,bu]at a;refine bt Z an (I.cm 0 (λi=>i<=V p) (λi:Nat=>[(0,dS p),(3,dI (gq (p.take i))),(4,dI i)]) (λ_=>[]) (λi=>V p-i) 0 Z (by simp[gq]) Z ay Z aq ?_);intro i hi;by_cases h:i<V p
 .have d:=mg b hi;have f:=mg b (i:=i+1) aq;have e:=zc h;have g:=jL a.2 (p.getD i 0) (BI h);have c:97<=dM p i/\dM p i<=122:=Q7;refine ba [(8,W)] Z ?_ (I.aQ (i+1) Z ?_ ?_ ?_ ?_)
  .simp only[aA,fK,cd];grind
  .have j:(dM p i-97) % 256=dM p i-97:=Int.emod_eq_of_lt aq aq;exact ek
  .simp
  .grind
  grind
 obtain rfl:i=V p:=aq;refine ba [(8,ae)] Z ay (I.br Z Z ?_);exact bt Z an (I.bE Z)
def acE:fp X 183 (lW aS (λp=>dI (gq p)) λp=>[bH p=W]):=.rl λp h=>TU p h
def TV(k:Int)(p:Bs)(hk:cN k=W)(e:bH p=W):Ev X 128 [dI k,dS p] [] (dI (fb k p)) []:=by
 refine Ev.bQ Tryz.func128 rfl λg=>?_;have f:b5 X [(183,lW aS (λp=>dI (gq p)) λp=>[bH p=W])]:=.cons acE .nil;have a:=hk;simp only[cN,cu,bu]at a;have b:=uF e;refine cp f Z ?_ (I.bE Z ?_)
 .have c:0<=gq p*(2*k+1):=Int.mul_nonneg b.1 aq;have d:gq p*(2*k+1)<=282429536481*199:=Int.mul_le_mul aq aq aq aq;generalize gq p*(2*k+1)=m at c d;simp only[aA,cd];grind
 exact ek
def Gu:fp X 128 (qb aI aS (λk p=>dI (fb k p)) λk p=>[cN k=W,bH p=W]):=.s9 λk p h=>TV k p h.1 h.2
def TX(l:List cX)(n:Int)(c:V l<=4000000):Ev X 127 [sS.sl l,dI n] [] (dI (ml l n)) []:=by
 refine Ev.bQ Tryz.func127 rfl λd=>?_;refine bt Z an (I.cm 0 (λi=>i<=V l/\∀j,j<i->(l.getD j (0,0)).1≠n) (λi:Nat=>[(0,sS.sl l),(1,dI n),(5,dI i)]) (λ_=>[]) (λi=>V l-i) 0 Z ay Z ay Z ⟨by omega,by omega⟩ ?_);rintro i ⟨hi,b⟩;by_cases h:i<V l
 .have a:l.getD (i:Int).toNat sS.cy=l.getD i (0,0):=az;by_cases e:(l.getD i (0,0)).1=n
  .refine ba [(9,W),(18,W)] Z ?_ (I.gp (cM.zero Z ?_))
   .simp only[aA,a];grind
   have:ml l n=(l.getD i (0,0)).2:=by
    have:l.find? (λs=>s.1==n)=O (l.getD i (0,0)):=by grind[List.find?_eq_some_iff_getElem]
    rw[ml,this]
   simp_all
  refine ba [(9,W),(18,ae)] Z ?_ (I.aQ (i+1) Z ?_ ?_ ?_ ?_)
  .simp only[aA,a,cd];grind
  .simp
  .simp
  .grind
  omega
 refine ba [(9,ae)] Z c6 (I.br Z Z ?_);refine bt Z an (I.bE Z ?_);have:ml l n=0:=by have:l.find? (λs=>s.1==n)=af:=DF;rw[ml,this]
 simp[this]
theorem BW(b:1<=n)(a:n<=8):n<=dW n/\dW n<=8:=Q3
abbrev NJ:eP:=lW aI (λn=>dI (dW n.toNat)) λn=>[0<=n/\n<=4000000]
def XZ:fp X 184 NJ:=.rl λn h=>by
 obtain⟨m,rfl⟩:∃m:Nat,n=m:=⟨n.toNat,by exact KE⟩
 exact Pf m KE
def X0(p:Bs)(c:bH p=W):Ev X 133 [dS p] [] (dS (iv p)) []:=by
 refine Ev.bQ Tryz.func133 rfl λg=>?_;have b:b5 X [(184,NJ)]:=.cons XZ .nil;have a:=c;simp only[bH,cu,bu]at a;have f:=BW a.1.1 a.1.2;refine cp b Z c9 (I.cm 0 (λj=>V p+j<=dW (V p)) (λj:Nat=>[(0,dS (p++List.replicate j 46)),(3,dI (dW (V p)))]) (λ_=>[]) (λj=>dW (V p)-j) 0 Z ay Z ay Z aq ?_);intro j d;by_cases h:V p+j<dW (V p)
 .refine aY b [(10,W)] Z c6 (I.aQ (j+1) Z ?_ ?_ ?_ ?_)
  .simp[List.replicate_succ']
  .simp
  .grind
  grind
 have e:dW (V p)-V p=j:=aq;refine aY b [(10,ae)] Z c6 (I.br Z Z ?_);refine cp b Z an (I.bE Z ?_);simp[iv,c,e]
def TY(s:cX):Ev X 130 [.e (.agg [.c (.int .i64 s.1),.c (.int .i64 s.2)])] [] (dB (fS s)) []:=by
 refine Ev.bQ Tryz.func130 rfl λf=>?_;have b:b5 X [(27,Gt)]:=.cons IC .nil;by_cases a:0<=s.1/\s.1<=999999999988
 .by_cases d:1<=s.2/\s.2<=99
  .refine aY b [(6,W),(10,W)] Z (by simp[a,d]) (I.bE Z ?_);have:fS s=W:=by simp[fS,a,d];omega
   simp[this]
  refine aY b [(6,W),(10,ae)] Z (by simp[a,d]<;>omega) (I.bE Z ?_);have:fS s=ae:=by simp[fS,a];omega
  simp[this]
 refine aY b [(6,ae),(10,ae)] Z c6 (I.bE Z ?_);have:fS s=ae:=by simp[fS];omega
 simp[this]
abbrev TZ:eP:=lW aII (λs=>dB (fS s)) λ_=>[]
def acF:fp X 130 TZ:=.rl λs _=>TY s
def Ci{q:α->Bool}{l:List α}(h:l.any q=W):0<=oA q l:=by unfold oA;grind
theorem Ro{q:α->Bool}{l:List α}(h:l.any q=ae):oA q l=-1:=by unfold oA;grind
def Ur(l:List (Int×Int))(b:Nat)(q:Int×Int->Bool)(f:∀x,x∈l->Ev X b [.e (.agg [.c (.int .i64 x.1),.c (.int .i64 x.2)])] [] (dB (q x)) []):
  Ev X 178 [cH.sl l,b7 (.fn (.func b) [] [])] [] (dI (oA q l)) []:=by
 refine Ev.bQ Tryz.func178 rfl λg=>?_;have d:=g.sl 0 Z;refine bt Z an (I.lQ (λi=>i<=V l/\∀j,j<i->q (l.getD j (0,0))=ae) (λi:Nat=>[(0,cH.sl l),(1,b7 (.fn (.func b) [] [])),(7,dI (V l)),(8,dI i)]) (λ_=>[]) (λi=>V l-i) 0 Z ay Z an ⟨by omega,by omega⟩ ?_);rintro i ⟨hi,a⟩;by_cases h:i<V l
 .have k:l.getD i (0,0)∈l:=az;have m:l.getD (i:Int).toNat cH.cy=l.getD i (0,0):=az;refine ba [(9,W)] Z c9 ?_;rw[m];refine I.cQ (f _ k) [] Z ?_;cases n:q (l.getD i (0,0))with
  |true =>
   refine ba [(16,W)] Z ay (I.j5 (cM.zero Z ?_));simp[xk h n a]
  |false =>
   exact ba [(16,ae)] Z ek (I.iD (i+1) Z ay Z an az aq)
 refine ba [(9,ae)] Z c6 (I.gE Z Z ?_);refine bt Z an (I.bE Z ?_);simp[rn (λj o=>a j aq)]
def Ut(l:List (Int×Int))(a:Nat)(q:Int×Int->Bool)(b:∀x,x∈l->Ev X a [.e (.agg [.c (.int .i64 x.1),.c (.int .i64 x.2)])] [] (dB (q x)) []):
  Ev X 112 [cH.sl l,b7 (.fn (.func a) [] [])] [] (dB (l.any q)) []:=by
 refine Ev.bQ Tryz.func112 rfl λd=>?_;refine bt Z an (I.cQ (Ur l a q b) [] Z ?_);cases h:l.any q with
 |true =>
  exact ba [(8,W)] Z (fQ (Ci h)) (I.bE Z)
 |false =>
  exact ba [(8,ae)] Z (ot Kj) (I.bE Z)
def Uu(l:List (bz))(b:Nat)(cs:List C)(q:bz->Bool)(f:∀x,x∈l->Ev X b [vN x,b7 (.rp cs)] [] (dB (q x)) []):
  Ev X 104 [cP.sl l,b7 (.fn (.func b) [] [.rp cs])] [] (dI (oA q l)) []:=by
 refine Ev.bQ Tryz.func104 rfl λg=>?_;have d:=g.sl 0 Z;refine bt Z an (I.lQ (λi=>i<=V l/\∀j,j<i->q (l.getD j (0,[]))=ae) (λi:Nat=>[(0,cP.sl l),(1,b7 (.fn (.func b) [] [.rp cs])),(7,dI (V l)),(8,dI i)]) (λ_=>[]) (λi=>V l-i) 0 Z ay Z an ⟨by omega,by omega⟩ ?_);rintro i ⟨hi,a⟩;by_cases h:i<V l
 .have k:l.getD i (0,[])∈l:=az;have m:l.getD (i:Int).toNat cP.cy=l.getD i (0,[]):=az;refine ba [(9,W)] Z c9 ?_;rw[m];refine I.cQ (f _ k) [] Z ?_;cases n:q (l.getD i (0,[]))with
  |true =>
   refine ba [(16,W)] Z ay (I.j5 (cM.zero Z ?_));simp[xk h n a]
  |false =>
   exact ba [(16,ae)] Z ek (I.iD (i+1) Z ay Z an az aq)
 refine ba [(9,ae)] Z c6 (I.gE Z Z ?_);refine bt Z an (I.bE Z ?_);simp[rn (λj o=>a j aq)]
def Uv(l:List (bz))(a:Nat)(cs:List C)(q:bz->Bool)(b:∀x,x∈l->Ev X a [vN x,b7 (.rp cs)] [] (dB (q x)) []):
  Ev X 48 [cP.sl l,b7 (.fn (.func a) [] [.rp cs])] [] (dB (l.any q)) []:=by
 refine Ev.bQ Tryz.func48 rfl λd=>?_;refine bt Z an (I.cQ (Uu l a cs q b) [] Z ?_);cases h:l.any q with
 |true =>
  exact ba [(8,W)] Z (fQ (Ci h)) (I.bE Z)
 |false =>
  exact ba [(8,ae)] Z (ot Kj) (I.bE Z)
def Uw(l:List (Int))(b:Nat)(cs:List C)(H:ah->(Nat->Option Obj)->Prop)(q:Int->Bool)(f:∀x,x∈l->Ev X b [dI x,b7 (.rp cs)] [.cJ H] (dB (q x)) [.cJ H]):
  Ev X 86 [cI.sl l,b7 (.fn (.func b) [] [.rp cs])] [.cJ H] (dI (oA q l)) [.cJ H]:=by
 refine Ev.bQ Tryz.func86 rfl λg=>?_;have d:=g.sl 0 Z;refine bt Z an (I.cm 1 (λi=>i<=V l/\∀j,j<i->q (l.getD j 0)=ae) (λi:Nat=>[(0,cI.sl l),(1,b7 (.fn (.func b) [] [.rp cs])),(7,dI (V l)),(8,dI i)]) (λ_=>[.cJ H]) (λi=>V l-i) 0 Z ay Z ay Z ⟨by omega,by omega⟩ ?_);rintro i ⟨hi,a⟩;by_cases h:i<V l
 .have k:l.getD i 0∈l:=az;have m:l.getD (i:Int).toNat cI.cy=l.getD i 0:=az;refine ba [(9,W)] Z c9 ?_;rw[m];refine I.cQ (f _ k) [0] Z ?_;cases n:q (l.getD i 0)with
  |true =>
   refine ba [(16,W)] Z ay (I.gp (cM.mk [0] Z ?_ Z Z Z sd));simp[xk h n a]
  |false =>
   exact ba [(16,ae)] Z ek (I.aQ (i+1) Z ay ay az aq)
 refine ba [(9,ae)] Z c6 (I.br Z Z ?_);refine bt Z an (I.dt [0] Z ?_ Z Z Z sd);simp[rn (λj o=>a j aq)]
def Ux(l:List (Int))(a:Nat)(cs:List C)(H:ah->(Nat->Option Obj)->Prop)(q:Int->Bool)(b:∀x,x∈l->Ev X a [dI x,b7 (.rp cs)] [.cJ H] (dB (q x)) [.cJ H]):
  Ev X 46 [cI.sl l,b7 (.fn (.func a) [] [.rp cs])] [.cJ H] (dB (l.any q)) [.cJ H]:=by
 refine Ev.bQ Tryz.func46 rfl λd=>?_;refine bt Z an (I.cQ (Uw l a cs H q b) [0] Z ?_);cases h:l.any q with
 |true =>
  refine ba [(8,W)] Z (fQ (Ci h)) (I.dt [0] Z ?_ Z Z Z sd);simp
 |false =>
  refine ba [(8,ae)] Z (ot Kj) (I.dt [0] Z ?_ Z Z Z sd);simp
abbrev S3:Type:=Nat×tn×Nat×List ah
abbrev u3(x:S3):ah:=qw x.2.1 x.2.2.1
end
abbrev GL(l:List bF):Prop:=l.Pairwise λa b=>bC a.1 b.1=W
def Ct{t:List bF}(h:cT t=W):GL t:=by simp only[cT,cu]at h;have a:=dG.1 h.1;rw[GL,oK];intro i j hi hj hij;rw[qC hi,qC hj];refine af3 (t:=t) (i:=j) (λk hk hkj=>?_) i hij;have:=a k aq;simp only[jE,cu,kC,fR]at this;grind
theorem lT{t:List bF}:cT t=W↔(∀f∈t,fT f.1=W/\fG f.2=W)/\GL t/\t.Pairwise (λa b=>qf a.1 b.1=ae)/\V t<=6:=by
 constructor
 .intro h;have e:=Ct h;simp only[cT,cu,bu]at h;have c:=dG.1 h.1;refine⟨λf d=>?_,e,?_,h.2⟩
  .obtain⟨i,hi,rfl⟩:=gM d;have:=c i hi;simp only[jE,cu]at this;grind[qC]
  rw[oK];intro i j hi hj hij;have:=c j hj;simp only[jE,cu]at this;grind[qC]
 rintro⟨g,n,m,l⟩;simp only[cT,cu,bu];refine⟨dG.2 λi hi=>?_,l⟩;have k:=g _ (wu hi);rw[qC hi]at k;simp only[jE,cu,kC,fR];grind[List.pairwise_iff_getElem,qC]
def Cu{t:List bF}(q:bF->Bool)(h:cT t=W):cT (t.filter q)=W:=by grind[lT]
def Uh{t:List bF}(p:Bs)(h:cT t=W):cT (pt t p)=W:=Cu _ h
def LC{t:List bF}{p x:Bs}(h:(fW t p x).2=W):cT (fW t p x).1=W:=by unfold fW at h⊢;grind
end R1
def e9.le{X:Cx P}{f:aO}{args:List D}{res':ι->D}(h:e9 X f args U res σ1){ps:ι->List Prop}(a:∀i,J8 (res i) (res' i)=O (ps i))(b:∀i,aA (ps i)):e9 X f args U res' σ1 :=
 ⟨h.1,λs vs hr hh S cs hS=>h.2 s vs hr hh S cs λi fr v s' hl nj lj st=>hS i fr v s' hl (rV (a i) (b i) nj) lj st⟩
def e9.bX{X:Cx P}{f:aO}{args:List D}{res:D}{σ1:List bq}(h:e9 (ι:=ι) X f args U (λ_=>res) (λ_=>σ1)):Ev X f args U res σ1 :=
 ⟨h.1,λs vs hr hh S cs hS=>h.2 s vs hr hh S cs λ_ fr v s' hl nj lj st=>hS fr v s' hl nj lj st⟩
namespace R1
variable {X:Cx ag}
structure iw(s:bA):Prop where
 p:V s.1<=4000000
 p2:∀p∈s.1,V p.2<=4000000
 sn:V s.2.1<=4000000
 s2:mj s
 h:V s.2.2<=4000000
end R1
def Tr.sz:Tr->Nat
 |.nil=>0
 |.nd l _ _ r=>l.sz+r.sz+1
namespace R1
variable {X:Cx ag}
def YM(t:Tr)(n:Int):Ev X 144 [b7 (tC t),dI n] [] (dI (t.find n)) []:=by
 refine Ev.bQ Tryz.func144 rfl λg=>?_;refine bt Z an (I.loop (λu:Tr=>u.find n=t.find n) (λu=>[(0,b7 (tC u)),(1,dI n)]) (λ_=>[]) (λu=>u.sz) t Z (.cons Z (dJ Z ay)) Z ?_);intro u d;cases u with
 |nil =>
  refine bt Z an (I.gH (yk Z Tryz.underlying195 Z Z Z) Z Z ?_);refine ba [(7,ae),(15,ae)] Z ay (I.gE Z Z ?_);refine bt Z an (I.gH (yk Z Tryz.underlying195 Z Z Z) Z Z ?_);refine bt Z an (I.bE Z ?_);exact ek
 |nd l a b r =>
  have e:(Tr.nd l a b r).find n=if n=a then b else if n<a then l.find n else r.find n:=rfl;rw[e]at d;refine bt Z an (I.gH (NC Z Tryz.underlying195 Z Z Z) Z Z ?_);by_cases h:n=a
  .subst h;rw[bh Z]at d;refine ba [(7,W),(15,ae)] Z ay (I.gE Z Z ?_);refine bt Z an (I.gH (NC Z Tryz.underlying195 Z Z Z) Z Z ?_);refine bt Z an (I.bE Z ?_);exact c9
  rw[bc h]at d;by_cases f:n<a
  .rw[bh f]at d;cases l<;>exact ba [(7,W),(15,W),(22,W)] rfl c9 ⟨_,d,by simp only[Tr.sz];omega,.cons rfl (dJ rfl ay),rfl⟩
  rw[bc f]at d;cases r<;>exact ba [(7,W),(15,W),(22,ae)] rfl c9 ⟨_,d,by simp only[Tr.sz];omega,.cons rfl (dJ rfl ay),rfl⟩
end R1
namespace R1
section
open Go.Sort (pdq bitsLen ltInt Below)
variable {X:Cx ag}
def qi(l:List Int):List Int:=l.mergeSort λx y=>decide (x<=y)
def j0(l:List Int):V (qi l)=V l:=List.length_mergeSort _
def Vi(l:List Int):pdq ltInt l.toArray 0 (V l) (bitsLen (V l)) W W=(qi l).toArray:=by have h:=Go.Sort.sortInt l;unfold Go.Sort.sort at h;rw[List.size_toArray]at h;exact Array.ext' ek
theorem agq(l:List Int):eI l.toArray=cI.fn l:=by funext j;simp only[eI,lX.fn,Dk,cI,aj];simp
abbrev PF(n:Nat)(l:List Int):bq:=.eX 3 1 n (cI.fn l)
def Jc(l:List Int)(a:V l<=4000000):Ev X 40 [m7 (V l)] [PF (V l) l] (.gI []) [PF (V l) (qi l)]:=by
 refine Ev.bQ Tryz.func40 rfl λb=>?_;refine dj Z ek (I.cQ (Vj (V l) a) [] Z (dj Z an ?_));have c:=mP (x:=V l) (k:=22) az;have key:Ev X 102 [m7 (V l),dI 0,dI (V l),dI (bitsLen (V l))] [PF (V l) l] (.gI []) [PF (V l) (qi l)]:=by have:=adl (X:=X) (V l) a (V l) l.toArray 0 (V l) (bitsLen (V l)) aq ay aq (bm _) aq (.inl Z) (x:=0) Z Z Z (Vi l).symm;grind[agq]
 exact I.cQ key [0] Z (dj Z an (cM.sX [0] Z an Z Z Z kK))
def lb(l:List Int):Nat->List Int
 |0=>[]
 |j+1=>if j≠0/\l.getD j 0=l.getD (j-1) 0 then lb l j else lb l j++[l.getD j 0]
def fA(l:List Int):List Int:=lb l (V l)
def xF(l:List Int):∀j,V (lb l j)<=j
 |0=>bm _
 |j+1=>by have:=xF l j;simp only[lb];grind
def rE{l:List Int}:∀{k:Nat},k<=V l->(∀i,1<=i->i<k->l.getD i 0≠l.getD (i-1) 0)->lb l k=l.take k
 |0,_,_=>by simp[lb]
 |k+1,hk,h=>by rw[lb,bc,rE aq λi a b=>h i a aq,cW aq 0];grind
structure CoP(l:List Int)(k0:Nat)(k2:Nat)(ys:List Int):Prop where
 h1:1<=k2
 hj:k0+k2<=V l
 len:V ys=V l
 lt:V (lb l (k0+k2))<k0+k2
 done:ys.take (V (lb l (k0+k2)))=lb l (k0+k2)
 rest:∀i,k0+k2<=i+1->ys.getD i 0=l.getD i 0
abbrev Vk(a:List Int):Type:={es:Nat->List C // ∀i,i<V a->es i=cI.fn a i}
def Cr(l:List Int)(H:V l<=4000000):e9 (ι:=Vk (fA l)) X 41 [m7 (V l)] [PF (V l) l] (λ_=>mE 0 (.sl (V l) 1 0 (V (fA l)))) (λes=>[.eX 3 1 (V l) es.1]):=by
 refine e9.sH Tryz.func41 rfl rfl rfl λF=>?_;by_cases B:V l<2
 .have g:fA l=l:=by unfold fA;rw[rE (bm _) λi _ _=>by omega,de]
  refine bM [(8,W)] Z c9 (I.pG ⟨cI.fn l,λi _=>by rw[g]⟩ (I.dt [0] Z ?_ Z Z Z kK));simp[g]
 refine bM [(8,ae)] Z c9 (I.nH (S2:=Unit) 0 Z Z (λ_=>fA l=l) (λ_=>[(0,m7 (V l))]) (λ_=>[PF (V l) l]) 1 (λk:Nat=>1<=k/\k<=V l/\∀i,1<=i->i<k->l.getD i 0≠l.getD (i-1) 0) (λk=>[(0,m7 (V l)),(3,dI k)]) (λ_=>[PF (V l) l]) (λk=>V l-k) 1 Z ay Z ay Z ⟨bm _,by omega,λi G B=>by omega⟩ ?_ ?_)
 .rintro gf k ⟨C,hk,d⟩;by_cases z:k<V l
  .have t:((k:Int)-1).toNat=k-1:=aq;have v:∀j,l.getD j cI.cy=l.getD j 0:=λ_=>rfl;by_cases h:l.getD k 0=l.getD (k-1) 0
   .refine bM [(13,W),(25,W)] Z ?_ ?_
    .simp only[aA,b8,bZ,t,v,h,cd,bu,kh,aX,aW];and_intros<;>omega
    have hT:=rE (l:=l) aq d;have AK:lb l (k+1)=l.take k:=by rw[lb,bh ⟨by omega,h⟩,hT]
    refine I.nH (S2:=List Int) 2 Z Z (λc=>V c=V l/\c.take (V (fA l))=fA l) (λ_=>[(0,m7 (V l)),(3,dI (V (fA l)))]) (λc=>[PF (V l) c]) 1 (λs:Nat×List Int=>CoP l k s.1 s.2) (λs=>[(0,m7 (V l)),(3,dI (V (lb l (k+s.1)))),(4,mE 0 (.sl (V l) 1 k (V l-k))),(5,dI s.1)]) (λs=>[PF (V l) s.2]) (λs=>V l-s.1) (1,l) Z ek Z ay Z ?_ ?_ ?_
    .exact⟨bm _,by omega,Z,by grind,by grind,λ_ _=>rfl⟩
    .rintro f ⟨b,c⟩ ⟨c1,c2,c3,c4,o,m⟩;simp only at c1 c2 c3 c4 o m;by_cases E:k+b<V l
     .have r:((b:Int)-1).toNat=b-1:=aq;have p:∀j,c.getD j cI.cy=c.getD j 0:=λ_=>rfl;have q:c.getD (k+b) 0=l.getD (k+b) 0:=m _ aq;have x:c.getD (k+(b-1)) 0=l.getD (k+(b-1)) 0:=m _ aq;by_cases n:l.getD (k+b) 0=l.getD (k+(b-1)) 0
      .have u:lb l (k+(b+1))=lb l (k+b):=by rw[show k+(b+1)=k+b+1 by omega,lb,bh ⟨by omega,by rw[n,show k+b-1=k+(b-1) by omega]⟩]
       refine bM [(32,W),(44,ae)] Z ?_ (I.aQ (b+1,c) Z ?_ ?_ ?_ ?_)
       .simp only[aA,b8,bZ,r,p,q,x,n,cd,bu,nT,fZ,kh,aX,aW];and_intros<;>first|trivial|omega
       .exact ek
       .simp
       .exact⟨by grind,by grind,c3,by grind,by grind,λi hi=>m i az⟩
       omega
      have u:lb l (k+(b+1))=lb l (k+b)++[l.getD (k+b) 0]:=by rw[show k+(b+1)=k+b+1 by omega,lb,bc];rintro⟨_,h⟩;exact n (by rw[h,show k+b-1=k+(b-1) by omega])
      refine bM [(32,W),(44,W)] Z ?_ (I.aQ (b+1,c.set (V (lb l (k+b))) (l.getD (k+b) 0)) Z ?_ ?_ ?_ ?_)
      .simp only[aA,b8,bZ,r,p,q,x,cd,bu,iM,eC,ko,dO,aX,aW];and_intros<;>first|exact n|omega
      .exact ek
      .have e:=cI.LA c (V (lb l (k+b))) (l.getD (k+b) 0) (V l) aq;simp only[aA.eu,aA,b8,bZ,p,q,aW,aX];exact e
      .refine⟨by grind,by grind,by grind,by grind,?_,λi hi=>?_⟩
       .simp only;rw[u,cj,show ∀a:Int,[a].length=1 fromλ_=>rfl,ET,List.take_set,List.set_eq_of_length_le az,o,js aq];rfl
       simp only at hi⊢;rw[aj,mD aq,<-aj];grind
      omega
     have J:k+b=V l:=aq;have w:lb l (k+b)=fA l:=ek;refine bM [(32,ae)] Z c9 (I.br Z Z ?_);rw[w]at o;exact f c ⟨c3,o⟩ Z (by simp[w]) Z ay
    rintro c ⟨y,A⟩;have D:V (fA l)<=V l:=xF l _;refine dj Z c9 (I.gH (bU.KB bO Z Z Z Z Z Z Rt) Z Z ?_);refine bt Z c9 (I.gp ⟨⟨rX (0+dD 0 (O (V (fA l):Int))) (0+dD 0 (O (V (fA l):Int))+(dD (V l) af-dD 0 (O (V (fA l):Int)))) i3.zero (cI.fn c),λi hi=>?_⟩,cM.mk [0] Z ?_ Z Z Z kK⟩)
    .have e:c[i]?=(fA l)[i]?:=az;refine(Lz Rt).trans ?_;simp only[lX.fn,Dk,aj,e]
    exact ek
   refine bM [(13,W),(25,ae)] Z ?_ (I.aQ (k+1) Z ?_ ?_ ?_ ?_)
   .simp only[aA,b8,bZ,t,v,cd,bu,eC,dO,aX,aW];and_intros<;>first|exact h|omega
   .simp
   .simp
   .grind
   omega
  obtain rfl:k=V l:=aq;refine bM [(13,ae)] Z ay (I.br Z Z ?_);exact gf () (by unfold fA;rw[rE (bm _) d,de]) Z ay Z ay
 rintro⟨⟩ g;refine dj Z an (I.pG ⟨cI.fn l,λi _=>by rw[g]⟩ (I.dt [0] Z ?_ Z Z Z kK));simp[g]
end
section
variable {X:Cx ag}
def cZ(l:List iU):List Int:=l.flatMap (·.2)
def jG(x:dn):List Int:=fA (qi (cZ x.2))
def xz{l:List iU}(h:i<V l):cZ (l.take (i+1))=cZ (l.take i)++(l.getD i ([],[])).2:=by rw[cW h ([],[])];simp[cZ]
def _root_.Go.AM.lX.UL(c:lX α)(a b:List α)(n:Nat)(d:n=V (a++b)):eW n (dv (V a) (c.fn a) (c.fn b)) (c.fn (a++b)):=by intro i hi;simp only[dv,lX.fn,Dk,aj];grind
def Dt(x:dn)(o:V x.2<=4000000)(f:V (cZ x.2)<=4000000)(l:∀i,i<=V x.2->V (cZ (x.2.take i))<=4000000):
  e9 (ι:=Vk (jG x)) X 11 [Ke x] [] (λ_=>mE 0 (.sl (V (cZ x.2)) 1 0 (V (jG x)))) (λes=>[.eX 3 1 (V (cZ x.2)) es.1]):=by
 refine e9.sH Tryz.func11 rfl rfl rfl λn=>?_;refine bM [(1000002,W)] Z an (I.Xz 3 3 1 (cI.fn []) Z ?_);refine dj Z an ?_;refine I.cm 2 (λi=>i<=V x.2) (λi:Nat=>[(3,mE 1 (.sl (V (cZ (x.2.take i))) 1 0 (V (cZ (x.2.take i))))),(7,cL.sl x.2),(8,dI (V x.2)),(9,dI i)])
  (λi=>[.cells 42 [.c (.int .i64 x.1),.c (.sl ae 2 (V x.2) (cL.fn x.2))],PF (V (cZ (x.2.take i))) (cZ (x.2.take i))]) (λi=>V x.2-i) 0 Z ?_ Z ?_ Z aq ?_
 .simp[cZ]
 .simp[eW,cZ]
 intro i hi;by_cases h:i<V x.2
 .have k:x.2.getD (i:Int).toNat cL.cy=x.2.getD i ([],[]):=fC;have a:=xz h;have b:=l (i+1) h;rw[a,cj]at b;refine bM [(10,W)] Z ?_ (I.aQ (i+1) Z ?_ ?_ ?_ ?_)
  .simp only[aA,k,cd,show i3.bytes=8 from Z,bu,aX,aW];and_intros<;>omega
  .simp only[aA.eu,aA,k,a,cj,aW,aX];and_intros<;>first|exact eW.same|rfl|omega
  .have e:=cI.UL (cZ (x.2.take i)) (x.2.getD i ([],[])).2 _ Z;simp_all
  .omega
  omega
 obtain rfl:i=V x.2:=aq;rw[de];refine bM [(10,ae)] Z ay (I.br Z Z ?_);refine dj Z an (I.cQ (Jc (cZ x.2) f) [1] Z (dj Z an ?_));have g:=Cr (X:=X) (qi (cZ x.2)) (by rw[j0];exact f);rw[j0]at g;refine I.cP g [1] Z fe ?_;rintro⟨es,d⟩;refine dj Z an (I.pG ⟨es,d⟩ (I.dt [1] Z ?_ Z Z Z (λj m=>absurd m ay)));simp[jG]
def rC(l:List iU)(i:Nat):V (cZ (l.take i))<=V (cZ l):=by
 have h:cZ l=cZ (l.take i)++cZ (l.drop i):=by unfold cZ;grind[List.take_append_drop]
 grind
def xA(l:List Int):V (fA l)<=V l:=xF l _
def xB(x:dn)(d:V x.2<=4000000)(c:V (cZ x.2)<=4000000):Ev X 11 [Ke x] [] (cI.sl (jG x)) []:=by
 have a:=Dt (X:=X) x d c λi _=>hZ (rC _ _) c;have b:=e9.Ny (σ1:=λ_:Vk (jG x)=>[]) (E:=3) (k:=1) (n:=λ_=>V (cZ x.2)) (es:=λes=>es.1) a fe (λ_=>?_) fe (λ_=>bm _);refine(b.le (res':=λ_=>cI.sl (jG x)) fe (λes=>?_)).bX
 .simp only[aA.eu,aA,aW,aX];exact es.2
 have:V (jG x)<=V (cZ x.2):=by unfold jG;rw[<-j0 (cZ x.2)];exact xA _
 exact c9
def T4(s:Bs)(i:Nat)(a:cV s=W)(e:3<=i)(hi:i<=V s)(f:V s<=4000000):Ev X 252 [dS s,dI i] [] (dB (kO s i)) []:=by
 refine Ev.bQ Tryz.func252 rfl λj=>?_;have g:=O5 a (i-1) aq;have h:=O5 a (i-2) aq;have k:=O5 a (i-3) aq;have d:((lM s ((i:Int)-1)).toNat:Int)=dM s (i-1):=DJ;have b:((lM s ((i:Int)-2)).toNat:Int)=dM s (i-2):=DJ;have c:((lM s ((i:Int)-3)).toNat:Int)=dM s (i-3):=DJ;refine bt Z ?_ (I.bE Z ?_)
 .simp only[aA,cd,d,b,c];omega
 simp only[aA,aA.eu,d,b,c,kO,dl,aW];grind
abbrev T5:eP:=qb aS aI (λs i=>dB (kO s i.toNat)) λs i=>[cV s=W,3<=i,i<=V s,V s<=4000000]
def acG:fp X 252 T5:=.s9 λs i h=>by
 obtain⟨b,d,c,a⟩:=h;obtain⟨m,rfl⟩:∃m:Nat,i=m:=⟨i.toNat,by omega⟩
 exact T4 s m b aq aq a
def acH(t:Bs)(f:Nat)(i:cV t=W)(l:f<=V t)(n:V t<=4000000):Ev X 231 [dS t,dI f] [] (dI (fH t f)) []:=by
 refine Ev.bQ Tryz.func231 rfl λp=>?_;have b:b5 X [(252,T5)]:=.cons acG .nil;refine cp b Z an (I.lQ (λj=>j<=5/\yl t f (5-j)=fH t f) (λj:Nat=>[(0,dS t),(1,dI f),(5,dI (3+j))]) (λ_=>[]) (λj=>5-j) 0 Z ay Z an ⟨by omega,Z⟩ ?_);rintro j ⟨o,a⟩;by_cases h:j<5
 .obtain⟨k,hk⟩:∃k,5-j=k+1:=⟨4-j,by omega⟩
  have d:f+(7-k)=f+3+j:=aq;rw[hk]at a;simp only[yl,d]at a;by_cases g:V t<=f+3+j
  .rw[bh g]at a;refine aY b [(7,W),(15,W)] Z Zt (I.j5 (cM.zero Z ?_));exact c9
  rw[bc g]at a;have e:((f:Int)+(3+(j:Int))).toNat=f+3+j:=aq;cases c:kO t (f+3+j)with
  |true =>
   rw[c,bh Z]at a;refine aY b [(7,W),(15,ae),(22,W)] Z ?_ (I.j5 (cM.zero Z ?_))
   .simp only[aA,cd,e,c,i,bu,dm,aX,aW];omega
   exact c9
  |false =>
   rw[c,bc ay]at a;refine aY b [(7,W),(15,ae),(22,ae)] Z ?_ (I.iD (j+1) Z ?_ Z an ⟨by omega,by grind⟩ aq)
   .simp only[aA,cd,e,c,i,bu,dm,aX,aW];omega
   exact c9
 have e:fH t f=min (f+8) (V t):=by rw[<-a,show 5-j=0 by omega];rfl
 have m:cd .i64 ((min (f+8) (V t):Nat):Int):=ek;refine aY b [(7,ae)] Z c9 (I.gE Z Z ?_);refine cp b Z ek (I.gH (BM ((min (f+8) (V t):Nat):Int) Z Z Z aq m) Z Z ?_);refine cp b Z an (I.bE Z ?_);simp[e]
abbrev afR:eP:=qb aS aI (λs i=>dI (fH s i.toNat)) λs i=>[cV s=W,0<=i,i<=V s,V s<=4000000]
def ajD:fp X 231 afR:=.s9 λs i h=>by
 obtain⟨b,d,c,a⟩:=h;obtain⟨m,rfl⟩:∃m:Nat,i=m:=⟨i.toNat,by omega⟩
 exact acH s m b aq a
abbrev sF(t:Bs):List Int:=(X2 t).map λn:Nat=>(n:Int)
def T6(t:Bs)(l:cV t=W)(m:V t<=4000000):Ev X 182 [dS t] [] (cI.sl (sF t)) []:=by
 refine Ev.bQ Tryz.func182 rfl λo=>?_;have a:b5 X [(231,afR)]:=.cons ajD .nil;refine aY a [(1000003,W)] Z an (I.jK 3 3 1 Z Z ?_);refine cp a Z an (I.cm 1 (λs:Nat×List Int=>s.1<=V t/\V s.2<=s.1/\∃k,V t<=s.1+k/\sF t=s.2++(qd t k s.1).map λn:Nat=>(n:Int)) (λs=>[(0,dS t),(3,.e (.bX (.dk 0 1 (V s.2) (cI.fn s.2)))),(4,dI s.1)]) (λs=>[.dk 3 1 (V s.2) (cI.fn s.2)]) (λs=>V t-s.1) (0,[]) Z ay Z ay Z ⟨by simp,by simp,V t,by simp,by exact ek⟩ ?_);rintro⟨f,ir⟩ ⟨c,b,k,hk,g⟩;simp only at c b hk g;by_cases h:f<V t
 .obtain⟨k,rfl⟩:∃k',k=k'+1:=⟨k-1,by omega⟩
  have j:=pg t f h;have i:=cI.cw ir (fH t f:Int);have d:V ir+1=V (ir++[(fH t f:Int)]):=ay;refine aY a [(9,W)] Z ?_ (I.aQ (fH t f,ir++[(fH t f:Int)]) Z ?_ ?_ ?_ ?_)
  .simp only[aA,l,show i3.bytes=8 from Z,bu,aX,aW];and_intros<;>omega
  .exact aA.eu.2 ⟨Z,aA.eu.2 ⟨⟨d,i⟩,aA.eu.2 ⟨Z,an⟩⟩⟩
  .exact aA.eu.2 ⟨⟨d,i⟩,an⟩
  .refine⟨j.2.1,by grind,k,by grind,?_⟩;rw[g];simp only[qd,bh h];simp
  grind
 have e:sF t=ir:=by
  have:qd t k f=[]:=by cases k<;>simp[qd,h]
  grind
 refine aY a [(9,ae)] Z c9 (I.br Z Z ?_);refine cp a Z an (I.bE Z ?_);simp_all
abbrev T7:eP:=lW aS (λt=>cI.sl (sF t)) λt=>[cV t=W,V t<=4000000]
def acI:fp X 182 T7:=.rl λt h=>T6 t h.1 h.2
def Pg{l r:List α}{x:α}(h:l.drop i=x::r)(d:α):i<V l/\l.getD i d=x/\l.drop (i+1)=r:=by grind[List.drop_eq_nil_of_le,List.drop_eq_getElem_cons]
def Ei(t:Bs):∀k f,V (qd t k f)<=k
 |0,_=>bm _
 |k+1,f=>by
  simp only[qd];split
  .have:=Ei t k (fH t f);grind
  simp
def X3(t:Bs)(A:cV t=W)(y:V t<=4000000):Ev X 126 [dS t] [] (cS.sl (bR t)) []:=by
 refine Ev.bQ Tryz.func126 rfl λw=>?_;have c:b5 X [(182,T7)]:=.cons acI .nil;have x:V (sF t)<=V t:=by simp only[sF,kg];exact Ei t _ _
 refine aY c [(1000002,W)] Z an (I.jK 3 9 1 Z Z ?_);refine cp c Z fC (I.cm 1 (λs:Nat×Nat×List Bs=>s.1<=V (sF t)/\s.2.1<=V t/\V s.2.2<=s.1/\∃k,V t<=s.2.1+k/\(sF t).drop s.1=((qd t k s.2.1).map λn:Nat=>(n:Int))/\bR t=s.2.2++gV t k s.2.1) (λs=>[(0,dS t),(3,.e (.bX (.dk 0 1 (V s.2.2) (cS.fn s.2.2)))),(4,dI s.2.1),(5,cI.sl (sF t)),(6,dI s.1)]) (λs=>[.dk 9 1 (V s.2.2) (cS.fn s.2.2)]) (λs=>V (sF t)-s.1) (0,0,[]) Z ay Z ay Z ⟨by simp,by simp,by simp,V t,by simp,by exact ek,by simp[bR]⟩ ?_);rintro⟨i,f,ir⟩ ⟨hi,j,d,k,hk,g,o⟩;simp only at hi j d hk g o;by_cases h:i<V (sF t)
 .have l:qd t k f≠[]:=by grind[List.length_drop]
  obtain⟨k,rfl⟩:∃k',k=k'+1:=by
   cases k with
   |zero=>exact ek
   |succ k=>grind
  have a:f<V t:=by
   rcases dy f (V t) with h|h
   .exact h
   exact absurd (by simp only[qd,bc (show¬f<V t by omega)]) l
  simp only[qd,bh a,mR]at g;obtain⟨_,z,g2⟩:=Pg g 0;have v:=pg t f a;have m:(sF t).getD (i:Int).toNat cI.cy=(fH t f:Int):=az;have b:zu t (O (f:Int)) (O (fH t f:Int))=(t.drop f).take (fH t f-f):=RA;have p:=cS.cw ir ((t.drop f).take (fH t f-f));have q:V ir+1=V (ir++[(t.drop f).take (fH t f-f)]):=ay;refine aY c [(13,W)] Z ?_ (I.aQ (i+1,fH t f,ir++[(t.drop f).take (fH t f-f)]) Z ?_ ?_ ?_ ?_)
  .simp only[aA,m,cd,lK,show i9.bytes=16 from Z,bu,aX,aW];and_intros<;>omega
  .simp only[aA.eu,aA,m,b,aX,aW];and_intros<;>first|exact q|exact p|simp|omega
  .simp only[aA.eu,aA,m,b,aX,aW];and_intros<;>first|exact q|exact p
  .refine⟨by grind,v.2.1,by grind,k,by grind,g2,?_⟩;rw[o];simp only[gV,bh a];simp
  grind
 have e:bR t=ir:=by
  have r:qd t k f=[]:=by grind[List.map_eq_nil_iff]
  have a:¬f<V t:=by
   intro u;cases k with
   |zero=>omega
   |succ k=>simp only[qd,bh u]at r;cases r
  rw[o];cases k<;>simp[gV,a]
 refine aY c [(13,ae)] Z fC (I.br Z Z ?_);refine cp c Z an (I.bE Z ?_);simp_all
abbrev NL:eP:=lW aS (λt=>cS.sl (bR t)) λt=>[cV t=W,V t<=4000000]
def T8:fp X 126 NL:=.rl λt h=>X3 t h.1 h.2
def _root_.Go.AM.lX.rv(c:lX α)(l:List α)(x y:α):eW (V l+1+1) (dv (V l+1) (dv (V l) (c.fn l) λq=>[c.enc x].getD q []) λq=>[c.enc y].getD q []) (c.fn (l++[x,y])):=by
 have h1:=c.cw l x;have h2:=c.cw (l++[x]) y;rw[show(l++[x]).length=V l+1 by simp,show l++[x]++[y]=l++[x,y] by simp]at h2;intro q a;rw[<-h2 q a];simp only[dv];by_cases e:q<V l+1
 .rw[bh e,bh e];exact h1 q e
 grind
abbrev ajI(x:bJ):D:=.e (.agg [.c (.int .i64 x.1),.c (.du x.2)])
def mv(x:bJ)(ir:List bJ×Bool)(y:bJ):List bJ×Bool:=if ir.2=W then(ir.1++[y],W)else if x.1<y.1 then(ir.1++[x,y],W)else(ir.1++[y],ae)
def Ek(x:bJ):∀(l:List bJ)(a:List bJ),(l.foldl (mv x) (a,W))=(a++l,W)
 |[],a=>by simp
 |y::r,a=>by rw[jw,show mv x (a,W) y=(a++[y],W)from rfl,Ek x r];simp
def El(x:bJ):∀(l:List bJ)(a:List bJ),(if(l.foldl (mv x) (a,ae)).2=W then(l.foldl (mv x) (a,ae)).1 else(l.foldl (mv x) (a,ae)).1++[x])=a++k9 l x
 |[],a=>by simp[k9]
 |y::r,a=>by
  rw[jw];by_cases h:x.1<y.1
  .rw[show mv x (a,ae) y=(a++[x,y],W) by simp[mv,h],Ek];simp[k9,h]
  rw[show mv x (a,ae) y=(a++[y],ae) by simp[mv,h],El x r];simp[k9,h]
theorem Em(x:bJ):∀(l:List bJ)(a:List bJ×Bool),(l.foldl (mv x) a).1.length<=V a.1+V l+1-(if a.2=W then 1 else 0)
 |[],a=>by grind
 |y::r,a=>by rw[jw];have:=Em x r (mv x a y);unfold mv at this⊢;grind
abbrev zH(x:bJ)(l:List bJ)(i:Nat):List bJ×Bool:=(l.take i).foldl (mv x) ([],ae)
def Pn{x:bJ}{l:List bJ}(h:i<V l):zH x l (i+1)=mv x (zH x l i) (l.getD i (0,[])):=vn
def IE(x:bJ)(l:List bJ)(i:Nat):(zH x l i).1.length<=V l+1:=by grind[Em]
abbrev p3F(l:List bJ)(x:bJ)(i:Nat)(a:List bJ×Bool):Fr:=[(0,fO.sl l),(3,cE 0 0),(5,.e (.bX (.dk 1 2 (V a.1) (fO.fn a.1)))),(6,dB a.2),(7,dI i)]
abbrev p3B(x:bJ)(a:List bJ):List bq:=[.cells 161 [.c (.int .i64 x.1),.c (.du x.2)],.dk 161 2 (V a) (fO.fn a)]
def X9(l:List bJ)(x:bJ)(p:V l<=4000000):Ev X 132 [fO.sl l,ajI x] [] (fO.sl (k9 l x)) []:=by
 refine Ev.bQ Tryz.func132 rfl λq=>?_;refine bM [(1000002,W)] Z an (I.jK 5 161 2 Z Z ?_);refine dj Z an (I.cm 2 (λi=>i<=V l) (λi:Nat=>p3F l x i (zH x l i)) (λi=>p3B x (zH x l i).1) (λi=>V l-i) 0 Z ?_ Z ?_ Z aq ?_)
 .simp[zH]
 .simp[zH]
 intro i hi;by_cases h:i<V l
 .have n:=Pn (x:=x) h;have e:=IE x l i;have f:l.getD (i:Int).toNat fO.cy=l.getD i (0,[]):=az;generalize zH x l i=a at n e;obtain⟨a,b⟩:=a;simp only at e;have k:=fO.cw a (l.getD i (0,[]));have m:=fO.rv a x (l.getD i (0,[]));cases b with
  |true =>
   have c:zH x l (i+1)=(a++[l.getD i (0,[])],W):=n;have j:V a+1=V (a++[l.getD i (0,[])]):=ay;refine bM [(12,W)] Z ?_ (I.aQ (i+1) Z ?_ ?_ ?_ ?_)
   .simp only[aA,f,cd,show yx.bytes=24 from Z,bu,aX,aW];and_intros<;>omega
   .rw[c];simp only[aA.eu,aA,f,aX,aW];and_intros<;>first|exact j|exact k|simp|rfl|omega
   .rw[c];simp only[aA.eu,aA,f,aX,aW];and_intros<;>first|exact j|exact k|exactλ_ _=>rfl|rfl|omega
   .grind
   omega
  |false =>
   by_cases g:x.1<(l.getD i (0,[])).1
   .have c:zH x l (i+1)=(a++[x,l.getD i (0,[])],W):=by rw[n];simp only[mv,bh g];rfl
    have j:V a+1+1=V (a++[x,l.getD i (0,[])]):=ay;refine bM [(12,W),(25,W)] Z ?_ (I.aQ (i+1) Z ?_ ?_ ?_ ?_)
    .simp only[aA,f,cd,show yx.bytes=24 from Z,g,lI,bu,aX,aW];and_intros<;>omega
    .rw[c];simp only[aA.eu,aA,f,aX,aW];and_intros<;>first|exact j|exact m|simp|rfl|omega
    .rw[c];simp only[aA.eu,aA,f,aX,aW];and_intros<;>first|exact j|exact m|exactλ_ _=>rfl|rfl|omega
    .grind
    omega
   have c:zH x l (i+1)=(a++[l.getD i (0,[])],ae):=by rw[n];simp only[mv,bc g];rfl
   have j:V a+1=V (a++[l.getD i (0,[])]):=ay;refine bM [(12,W),(25,ae)] Z ?_ (I.aQ (i+1) Z ?_ ?_ ?_ ?_)
   .simp only[aA,f,cd,show yx.bytes=24 from Z,bu,g,lB,oO,dm,aX,aW];and_intros<;>omega
   .rw[c];simp only[aA.eu,aA,f,aX,aW];and_intros<;>first|exact j|exact k|simp|rfl|omega
   .rw[c];simp only[aA.eu,aA,f,aX,aW];and_intros<;>first|exact j|exact k|exactλ_ _=>rfl|rfl|omega
   .grind
   omega
 obtain rfl:i=V l:=aq;have d:=El x l [];have e:=IE x l (V l);refine bM [(12,ae)] Z ay (I.br Z Z ?_);have o:zH x l (V l)=l.foldl (mv x) ([],ae):=az;rw[o]at e⊢;generalize l.foldl (mv x) ([],ae)=a at *;obtain⟨a,b⟩:=a;simp only[pM]at d e;cases b with
 |true =>
  simp only[cv]at d;subst d;exact dj Z an (I.bE Z)
 |false =>
  simp only[kY,cC]at d;have k:=fO.cw a x;refine dj Z ?_ (I.bE Z ?_)
  .simp only[aA,show yx.bytes=24 from Z,aX,aW];grind
  rw[<-d];simp only[aA.eu,aA,aX,aW];and_intros<;>first|exact k|simp
abbrev aau:eP:=qb (aL fO) aIS (λl x=>fO.sl (k9 l x)) λl _=>[V l<=4000000]
def afY:fp X 132 aau:=.s9 λl x h=>X9 l x h
abbrev ajJ(x:cX):D:=.e (.agg [.c (.int .i64 x.1),.c (.int .i64 x.2)])
def gR(x:cX)(ir:List cX×Bool)(y:cX):List cX×Bool :=
 if ir.2=W then(if y.1=x.1 then ir else(ir.1++[y],W))else if x.1<=y.1 then(if y.1=x.1 then(ir.1++[x],W)else(ir.1++[x,y],W))else(ir.1++[y],ae)
def uG(x:cX):∀(l:List cX)(a:List cX),(l.foldl (gR x) (a,W))=(a++l.filter λz=>!(z.1==x.1),W)
 |[],a=>by simp
 |y::r,a=>by
  rw[jw];by_cases h:y.1=x.1
  .rw[show gR x (a,W) y=(a,W) by simp[gR,h],uG x r];simp[h]
  rw[show gR x (a,W) y=(a++[y],W) by simp[gR,h],uG x r];simp[h]
def En(x:cX):∀(l:List cX)(a:List cX),(if(l.foldl (gR x) (a,ae)).2=W then(l.foldl (gR x) (a,ae)).1 else(l.foldl (gR x) (a,ae)).1++[x])=a++iF l x
 |[],a=>by simp[iF]
 |y::r,a=>by
  rw[jw];by_cases h:x.1<=y.1
  .have c:¬y.1<x.1:=aq;by_cases b:y.1=x.1
   .rw[show gR x (a,ae) y=(a++[x],W) by simp[gR,b],uG];simp[iF,b]
   rw[show gR x (a,ae) y=(a++[x,y],W) by simp[gR,h,b],uG];simp[iF,c,b]
  have c:y.1<x.1:=aq;rw[show gR x (a,ae) y=(a++[y],ae) by simp[gR,h],En x r];simp[iF,c]
theorem Eo(x:cX):∀(l:List cX)(a:List cX×Bool),(l.foldl (gR x) a).1.length<=V a.1+V l+1-(if a.2=W then 1 else 0)
 |[],a=>by grind
 |y::r,a=>by
  rw[jw];have d:=Eo x r (gR x a y);obtain⟨a,b⟩:=a;simp only[eU];cases b with
  |true =>
   by_cases c:y.1=x.1
   .rw[show gR x (a,W) y=(a,W) by simp[gR,c]]at d⊢;grind
   rw[show gR x (a,W) y=(a++[y],W) by simp[gR,c]]at d⊢;grind
  |false =>
   by_cases h:x.1<=y.1
   .by_cases c:y.1=x.1
    .rw[show gR x (a,ae) y=(a++[x],W) by simp[gR,c]]at d⊢;grind
    rw[show gR x (a,ae) y=(a++[x,y],W) by simp[gR,h,c]]at d⊢;grind
   rw[show gR x (a,ae) y=(a++[y],ae) by simp[gR,h]]at d⊢;grind
abbrev xm(x:cX)(l:List cX)(i:Nat):List cX×Bool:=(l.take i).foldl (gR x) ([],ae)
def Po{x:cX}{l:List cX}(h:i<V l):xm x l (i+1)=gR x (xm x l i) (l.getD i (0,0)):=vn
def IF(x:cX)(l:List cX)(i:Nat):(xm x l i).1.length<=V l+1:=by grind[Eo]
abbrev p4F(l:List cX)(x:cX)(i:Nat)(a:List cX×Bool):Fr:=[(0,sS.sl l),(3,cE 0 0),(5,.e (.bX (.dk 1 2 (V a.1) (sS.fn a.1)))),(6,dB a.2),(7,dI i)]
abbrev p4B(x:cX)(a:List cX):List bq:=[.cells 184 [.c (.int .i64 x.1),.c (.int .i64 x.2)],.dk 184 2 (V a) (sS.fn a)]
def Ya(l:List cX)(x:cX)(p:V l<=4000000):Ev X 131 [sS.sl l,ajJ x] [] (sS.sl (iF l x)) []:=by
 refine Ev.bQ Tryz.func131 rfl λq=>?_;refine bM [(1000002,W)] Z an (I.jK 5 184 2 Z Z ?_);refine dj Z an (I.cm 2 (λi=>i<=V l) (λi:Nat=>p4F l x i (xm x l i)) (λi=>p4B x (xm x l i).1) (λi=>V l-i) 0 Z ?_ Z ?_ Z aq ?_)
 .simp[xm]
 .simp[xm]
 intro i hi;by_cases h:i<V l
 .have k:=Po (x:=x) h;have g:=IF x l i;have f:l.getD (i:Int).toNat sS.cy=l.getD i (0,0):=az;generalize xm x l i=a at k g;obtain⟨a,b⟩:=a;simp only at g;have j:=sS.cw a (l.getD i (0,0));have n:=sS.cw a x;have m:=sS.rv a x (l.getD i (0,0));cases b with
  |true =>
   by_cases heq:(l.getD i (0,0)).1=x.1
   .have c:xm x l (i+1)=(a,W):=by rw[k];simp only[gR,cv,bh heq]
    refine bM [(12,W),(38,ae)] Z ?_ (I.aQ (i+1) Z ?_ ?_ ?_ ?_)
    .simp only[aA,f,cd,show yy.bytes=16 from Z,bu,dm,iM,ue,fR,eC,ko,dO,heq,gx,oO,kh,fZ,nT,lI,lB,aX,aW];and_intros<;>omega
    .rw[c];simp
    .rw[c];simp
    .grind
    omega
   have c:xm x l (i+1)=(a++[l.getD i (0,0)],W):=by rw[k];simp only[gR,cv,bc heq]
   refine bM [(12,W),(38,W)] Z ?_ (I.aQ (i+1) Z ?_ ?_ ?_ ?_)
   .simp only[aA,f,cd,show yy.bytes=16 from Z,bu,dm,iM,ue,fR,eC,ko,dO,heq,gx,oO,kh,fZ,nT,lI,lB,aX,aW];and_intros<;>omega
   .rw[c];simp only[aA.eu,aA,f,aX,aW];and_intros<;>first|exact j|simp|simp|simp|rfl|omega|simp
   .rw[c];simp only[aA.eu,aA,f,aX,aW];and_intros<;>first|exact j|simp|simp|grind|rfl|omega|simp
   .grind
   omega
  |false =>
   by_cases e:x.1<=(l.getD i (0,0)).1
   .by_cases heq:(l.getD i (0,0)).1=x.1
    .have c:xm x l (i+1)=(a++[x],W):=by rw[k];simp only[gR,bh e,bh heq];rfl
     refine bM [(12,W),(25,W),(38,ae)] Z ?_ (I.aQ (i+1) Z ?_ ?_ ?_ ?_)
     .simp only[aA,f,cd,show yy.bytes=16 from Z,bu,dm,iM,ue,fR,eC,ko,dO,e,heq,gx,oO,kh,fZ,nT,lI,lB,aX,aW];and_intros<;>omega
     .rw[c];simp only[aA.eu,aA,f,aX,aW];and_intros<;>first|exact j|exact n|simp|simp|rfl|omega|simp
     .rw[c];exact ek
     .grind
     omega
    have c:xm x l (i+1)=(a++[x,l.getD i (0,0)],W):=by rw[k];simp only[gR,bh e,bc heq];rfl
    refine bM [(12,W),(25,W),(38,W)] Z ?_ (I.aQ (i+1) Z ?_ ?_ ?_ ?_)
    .simp only[aA,f,cd,show yy.bytes=16 from Z,bu,dm,iM,ue,fR,eC,ko,dO,e,heq,gx,oO,kh,fZ,nT,lI,lB,aX,aW];and_intros<;>omega
    .rw[c];simp only[aA.eu,aA,f,aX,aW];and_intros<;>first|exact j|exact n|exact m|simp|rfl|omega|simp
    .rw[c];simp only[aA.eu,aA,f,aX,aW];and_intros<;>first|exact j|exact n|exact m|grind|rfl|omega|simp
    .grind
    omega
   have heq:¬(l.getD i (0,0)).1=x.1:=aq;have c:xm x l (i+1)=(a++[l.getD i (0,0)],ae):=by rw[k];simp only[gR,bc e];rfl
   refine bM [(12,W),(25,ae),(38,W)] Z ?_ (I.aQ (i+1) Z ?_ ?_ ?_ ?_)
   .simp only[aA,f,cd,show yy.bytes=16 from Z,bu,dm,iM,ue,fR,eC,ko,dO,e,heq,gx,oO,kh,fZ,nT,lI,lB,aX,aW];and_intros<;>omega
   .rw[c];simp only[aA.eu,aA,f,aX,aW];and_intros<;>first|exact j|simp|simp|simp|rfl|omega|simp
   .rw[c];simp only[aA.eu,aA,f,aX,aW];and_intros<;>first|exact j|simp|simp|grind|rfl|omega|simp
   .grind
   omega
 obtain rfl:i=V l:=aq;have d:=En x l [];have g:=IF x l (V l);refine bM [(12,ae)] Z ay (I.br Z Z ?_);have o:xm x l (V l)=l.foldl (gR x) ([],ae):=az;rw[o]at g⊢;generalize l.foldl (gR x) ([],ae)=a at *;obtain⟨a,b⟩:=a;simp only[pM]at d g;cases b with
 |true =>
  simp only[cv]at d;subst d;exact dj Z an (I.bE Z)
 |false =>
  simp only[kY,cC]at d;have j:=sS.cw a x;refine dj Z ?_ (I.bE Z ?_)
  .simp only[aA,show yy.bytes=16 from Z,aX,aW];grind
  rw[<-d];simp only[aA.eu,aA,aX,aW];and_intros<;>first|exact j|simp
abbrev aav:eP:=qb (aL sS) aII (λl x=>sS.sl (iF l x)) λl _=>[V l<=4000000]
def afZ:fp X 131 aav:=.s9 λl x h=>Ya l x h
abbrev Gv(p:bz):List cX:=p.2.map λx=>(x.1,p.1)
def ni(l:List bz)(i j:Nat):List cX:=dC (l.take i)++(Gv (l.getD i (0,[]))).take j
def vS{l:List bz}(h:i<V l):dC (l.take (i+1))=dC (l.take i)++Gv (l.getD i (0,[])):=by rw[cW h (0,[])];simp[dC]
theorem IG(l:List bz)(i:Nat):V (dC (l.take i))<=V (dC l):=by have h:dC l=dC (l.take i)++dC (l.drop i):=Zx;grind
def xn{l:List bz}(h:i<V l):∃r,dC l=ni l i j++r:=by have a:dC l=dC (l.take (i+1))++dC (l.drop (i+1)):=Zx;refine⟨(Gv (l.getD i (0,[]))).drop j++dC (l.drop (i+1)),?_⟩;rw[a,vS h,ni,lZ,lZ];grind[List.take_append_drop]
theorem Uj(l:List cX)(x:cX):V (iF l x)<=V l+1:=by
 induction l with
 |nil=>simp[iF]
 |cons y r a =>
  simp only[iF];grind
theorem yt(l:List cX):∀a:List cX,V (l.foldl iF a)<=V a+V l:=by
 induction l with
 |nil=>grind
 |cons y r b=>grind[Uj]
def LD(l:List bz)(y:V l<=4000000)(w:V (dC l)<=100000):Ev X 77 [cP.sl l] [] (sS.sl (dh l)) []:=by
 refine Ev.bQ Tryz.func77 rfl λx=>?_;have a:b5 X [(130,TZ),(131,aav)]:=.cons acF (.cons afZ .nil);refine cY a Z an (I.cm 0 (λi=>i<=V l/\(dC (l.take i)).all fS=W) (λi:Nat=>[(0,cP.sl l),(3,sS.sl ((dC (l.take i)).foldl iF [])),(4,dI i)]) (λ_=>[]) (λi=>V l-i) 0 Z ?_ Z ?_ Z ⟨by omega,Z⟩ ?_)
 .simp[dC]
 .simp
 rintro i ⟨hi,c⟩;by_cases h:i<V l
 .have e:l.getD (i:Int).toNat cP.cy=l.getD i (0,[]):=az;have m:=vS h;refine bj a [(11,W)] Z c9 (I.cm 0 (λj=>j<=(l.getD i (0,[])).2.length/\(ni l i j).all fS=W) (λj:Nat=>[(0,cP.sl l),(3,sS.sl ((ni l i j).foldl iF [])),(4,dI i),(5,dI j)]) (λ_=>[]) (λj=>(l.getD i (0,[])).2.length-j) 0 Z ?_ Z ?_ Z ⟨by omega,by simpa[ni]using c⟩ ?_)
  .simp[ni]
  .simp
  rintro j ⟨v,o⟩;obtain⟨r,t⟩:=xn (l:=l) (j:=j) h;have n:V (ni l i j)<=100000:=az;have f:=yt (ni l i j) [];simp only[gk]at f;have s:(l.getD i (0,[])).2.length<=100000:=by grind[IG]
  by_cases u:j<(l.getD i (0,[])).2.length
  .have b:(l.getD i (0,[])).2.getD (j:Int).toNat fO.cy=(l.getD i (0,[])).2.getD j (0,[]):=az;have g:ni l i (j+1)=ni l i j++[(((l.getD i (0,[])).2.getD j (0,[])).1,(l.getD i (0,[])).1)]:=Zj;cases d:fS (((l.getD i (0,[])).2.getD j (0,[])).1,(l.getD i (0,[])).1)with
   |false =>
    have q:dh l=[]:=by obtain⟨r,t⟩:=xn (l:=l) (j:=j+1) h;unfold dh;rw[bc];grind
    refine bj a [(21,W),(40,ae)] Z ?_ (I.gp (cM.zero Z ?_))
    .simp only[aA,e,b,d,bu,aX,aW];and_intros<;>omega
    rw[q];simp
   |true =>
    refine bj a [(21,W),(40,W)] Z ?_ (I.aQ (j+1) Z ?_ ?_ ?_ ?_)
    .simp only[aA,e,b,d,cd,sS.aw,bu,aX,aW];and_intros<;>first|exact sS.aE _|omega
    .rw[g];simp only[z8,jw,List.foldl_nil,aA.eu,aA,e,b,sS.aw,aX,aW];and_intros<;>first|simp|rfl|omega
    .simp
    .grind
    omega
  have p:j=(l.getD i (0,[])).2.length:=aq;have k:ni l i j=dC (l.take (i+1)):=by rw[m,ni];grind[List.length_map]
  refine bj a [(21,ae)] Z ?_ (I.br Z Z ?_)
  .simp only[aA,e,dm];and_intros<;>omega
  refine cY a Z ek (I.aQ (i+1) Z ?_ ?_ ?_ ?_)
  .rw[k];simp
  .simp
  .grind
  omega
 obtain rfl:i=V l:=aq;rw[de]at c⊢;refine bj a [(11,ae)] Z ay (I.br Z Z ?_);refine cY a Z an (I.bE Z ?_);simp[dh,c]
abbrev Ue:eP:=lW (aL cP) (λl=>sS.sl (dh l)) λl=>[V l<=4000000,V (dC l)<=100000]
def acL:fp X 77 Ue:=.rl λl h=>LD l h.1 h.2
abbrev Gw:eP:=qb aI aS (λk p=>dI (fb k p)) λk p=>[cN k=W,bH p=W]
abbrev Uk:eP:=lW aS (λp=>dS (iv p)) λp=>[bH p=W]
def aaw:fp X 133 Uk:=.rl λp h=>X0 p h
theorem Ul(l:List bJ)(x:bJ):V (k9 l x)=V l+1:=by
 induction l with
 |nil=>simp[k9]
 |cons y r a=>simp only[k9];split<;>simp[a]
def Dl(k:Int)(ps:List Bs):List bJ:=ps.foldl (λl p=>k9 l (fb k p,iv p)) []
def Gx(k:Int)(ps:List Bs):V (Dl k ps)=V ps:=by
 have h:∀(ps:List Bs) (a:List bJ),V (ps.foldl (λl p=>k9 l (fb k p,iv p)) a)=V a+V ps:=by
  intro ps;induction ps with
  |nil=>grind
  |cons p r b=>grind[Ul]
 have:=h ps [];rw[gk,b8]at this;exact this
def Um{ps:List Bs}(h:i<V ps):Dl k (ps.take (i+1))=k9 (Dl k (ps.take i)) (fb k (ps.getD i []),iv (ps.getD i [])):=by unfold Dl;grind[cW]
abbrev pkB(no:Int)(l:List bJ):bq:=.cells 83 [.c (.int .i64 no),.c (.sl ae 2 (V l) (fO.fn l))]
def Ub(no k:Int)(ps:List Bs)(hk:cN k=W)(l:∀p∈ps,bH p=W)(n:V ps<=4000000):Ev X 78 [dI no,dI k,cS.sl ps] [] (vN (gF no k ps)) []:=by
 refine Ev.lA bO Tryz.func78 rfl rfl rfl λo=>?_;have a:b5 X [(128,Gw),(133,Uk),(132,aau)]:=.cons Gu (.cons aaw (.cons afY .nil));refine cY a Z an (I.cm 2 (λi=>i<=V ps) (λi:Nat=>[(1,dI k),(2,cS.sl ps),(6,cE 0 0),(7,cE 1 0),(8,dI i)]) (λi=>[.cells 83 [.c (.int .i64 0),.c (.sl W 0 0 λ_=>[])],pkB no (Dl k (ps.take i))]) (λi=>V ps-i) 0 Z ay Z ?_ Z aq ?_)
 .simp[Dl]
 intro i hi;by_cases h:i<V ps
 .have f:ps.getD (i:Int).toNat cS.cy=ps.getD i []:=az;have b:bH (ps.getD i [])=W:=l _ az;have m:=Um (k:=k) h;have d:=Gx k (ps.take i);rw[List.length_take]at d;refine bj a [(15,W)] Z ?_ (I.aQ (i+1) Z ?_ ?_ ?_ ?_)
  .simp only[aA,f,hk,b,cd,fO.aw,bu,aX,aW];and_intros<;>first|exact fO.aE _|omega
  .simp
  .rw[m];simp only[aA.eu,aA,f,fO.aw,aX,aW];and_intros<;>first|simp|rfl|omega
  .grind
  omega
 obtain rfl:i=V ps:=aq;rw[de];refine bj a [(15,ae)] Z ay (I.br Z Z ?_);refine cY a Z an (I.nJ () [] Z Z Z Z Z Z Z Z ?_ Z Z Z Z (λj g=>absurd g ay));simp[gF,Dl]
def Pq(p:Bs):Ev X 266 [dS p] [] (dB (bH p)) []:=by
 refine Ev.bQ Tryz.func266 rfl λb=>?_;have a:b5 X [(27,Gt),(125,Yd)]:=.cons IC (.cons af6 .nil);by_cases h:1<=V p/\V p<=8
 .refine aY a [(6,W)] Z c6 (I.bE Z ?_);simp[bH,h.1,h.2]
 refine aY a [(6,ae)] Z c6 (I.bE Z ?_);have:bH p=ae:=by simp only[bH,<-Bool.decide_and,ot h,uj]
 simp[this]
abbrev NS:eP:=lW aS (λp=>dB (bH p)) λ_=>[]
def Ye:fp X 266 NS:=.rl λp _=>Pq p
def Pr(p:Bs):Ev X 249 [dS p] [] (dS (iv p)) []:=by
 refine Ev.bQ Tryz.func249 rfl λb=>?_;have a:b5 X [(266,NS),(133,Uk)]:=.cons Ye (.cons aaw .nil);cases h:bH p with
 |true=>exact aY a [(5,ae)] rfl kT (I.bE rfl)
 |false=>exact aY a [(5,W)] rfl kT (I.bE rfl (by simp[iv,h]))
abbrev NT:eP:=lW aS (λp=>dS (iv p)) λ_=>[]
def Yf:fp X 249 NT:=.rl λp _=>Pr p
def Ps(p:Bs):V (iv p)<=8:=by
 unfold iv;split
 .rename_i h;simp only[bH,cu,bu]at h;grind[BW]
 simp
def IZ(b:Bs):Ev X 228 [dS b] [] (Gf (gu b)) []:=by
 refine Ev.bQ Tryz.func228 rfl λq=>?_;have o:=q.du 0 Z;have i:b5 X [(249,NT)]:=.cons Yf .nil;refine bt Z an ?_;have fin:∀n,n<=V b->gQ (b.take n)=gQ b->(n=0∨gQ (b.take n)=b.take n)->b.take n=gQ b:=λn a h g=>by
  rcases g with rfl|g
  .exact ek
  grind
 have rest:∀n,n<=V b->b.take n=gQ b->gu b=if V b<=8/\iv (gQ b)=b/\n≠0 then O (b.take n)else af:=λn a h=>by
  have r:=Ps (gQ b);have l:n=0↔gQ b=[]:=by grind[List.take_eq_nil_iff]
  unfold gu;rw[h];by_cases d:iv (gQ b)=b
  .by_cases j:bH (gQ b)=W
   .have:n≠0:=λp=>by rw[l.1 p]at j;cases j
    grind
   have p:n=0:=l.2 (by rw[iv,bc j]at d;grind);grind
  grind
 refine I.nH (S2:=Nat) 0 Z Z (λn=>n<=V b/\b.take n=gQ b) (λn=>[(0,dS b),(4,dI n)]) (λ_=>[]) 0 (λn=>n<=V b/\gQ (b.take n)=gQ b) (λn:Nat=>[(0,dS b),(4,dI n)]) (λ_=>[]) (λn=>n) (V b) Z ay Z an Z ⟨by omega,by simp⟩ ?_ ?_
 .rintro gf n ⟨a,c⟩;rcases n with _|n
  .refine ba [(9,ae),(15,ae)] Z ay (I.br Z Z ?_);exact gf 0 ⟨a,fin 0 a c (.inl Z)⟩ Z ay Z an
  have l:=BG (s:=b) (n:=n) aq;have f:((n:Int)+1-1).toNat=n:=aq;by_cases g:b.getD n 0=46
  .refine ba [(9,W),(15,W)] Z ?_ (I.aQ n Z ?_ an ⟨by omega,?_⟩ aq)
   .have d:dM b n=46:=by unfold dM;exact ek
    simp[-aj,fK,f,d,cd];omega
   .simp
   grind
  refine ba [(9,W),(15,ae)] Z ?_ (I.br Z Z ?_)
  .have d:dM b n≠46:=by unfold dM;intro e;exact g (wx.1 az)
   simp[-aj,fK,f,d,cd];omega
  exact gf (n+1) ⟨a,fin _ a c (.inr az)⟩ Z ay Z an
 rintro n ⟨a,m⟩;have t:=rest n a m;have k:zu b af (O (n:Int))=gQ b:=m▸rfl;have hi:((V b:Int)<=8)↔V b<=8:=aq;by_cases c1:V b<=8
 .by_cases c2:iv (gQ b)=b
  .by_cases c3:n=0
   .refine aY i [(21,ae),(29,ae),(32,W)] Z ?_ (I.bE Z ?_)
    .subst c3;simp only[aA,k,c2];grind
    exact ek
   refine aY i [(21,ae),(29,ae),(32,ae)] Z ?_ (I.bE Z ?_)
   .simp[k,hi,c1,c2,c3,a]
   exact ek
  refine aY i [(21,ae),(29,W),(32,W)] Z ?_ (I.bE Z ?_)
  .simp[k,hi,c1,c2,a]
  exact ek
 refine aY i [(21,W),(29,W),(32,W)] Z c6 (I.bE Z ?_);exact ek
abbrev yC:eP:=lW aS (λb=>Gf (gu b)) λ_=>[]
def Et:fp X 228 yC:=.rl λb _=>IZ b
def Pt(k:Int)(x:bJ)(hk:cN k=W):Ev X 179 [dI k,dIt x] [] (dB (right k x)) []:=by
 refine Ev.bQ Tryz.func179 rfl λc=>?_;have b:b5 X [(228,yC),(128,Gw)]:=.cons Et (.cons Gu .nil);cases a:gu x.2 with
 |none=>exact aY b [(14,ae)] rfl yX (I.bE rfl (by simp[right,a]))
 |some p=>exact aY b [(14,W)] rfl (by simp[a,hk,BJ a]) (I.bE rfl (by simp[right,a]))
abbrev GA:eP:=qb aI aIS (λk x=>dB (right k x)) λk _=>[cN k=W]
def NU:fp X 179 GA:=.s9 λk x h=>Pt k x h
def Yg(k:Int):Ev X 122 [dI k] [] (dB (cN k)) []:=by refine Ev.bQ Tryz.func122 rfl λb=>?_;have a:b5 X [(27,Gt)]:=.cons IC .nil;exact cp a Z an (I.bE Z (by simp[cN]))
abbrev I0:eP:=lW aI (λk=>dB (cN k)) λ_=>[]
def NV:fp X 122 I0:=.rl λk _=>Yg k
abbrev Yh(p:bz):bq:=.cells 83 [.c (.int .i64 p.1),.c (sP p)]
def I1(k:Int)(p:bz)(n:Int):Ev X 250 [dI k,vN p,dI n] [] (Gf (eJ k p n)) []:=by
 refine Ev.bQ Tryz.func250 rfl λl=>?_;have b:b5 X [(122,I0),(179,GA),(228,yC)]:=.cons NV (.cons NU (.cons Et .nil));cases hk:cN k with
 |false =>
  refine aY b [(11,W)] Z AE (I.bE Z ?_);have:eJ k p n=af:=by unfold eJ mh;grind
  simp[this]
 |true =>
 have j:=l.Uy 1 Z 1 Z;refine aY b [(11,ae)] Z AE (I.cm 1 (λi=>i<=V p.2/\p.2.find? (λx=>x.1==n)=(p.2.drop i).find? (λx=>x.1==n)) (λi:Nat=>[(0,dI k),(4,cE 0 0),(2,dI n),(8,dI i)]) (λ_=>[Yh p]) (λi=>V p.2-i) 0 Z ay Z ay Z ⟨by omega,Z⟩ ?_);rintro i ⟨hi,a⟩;by_cases h:i<V p.2
 .have m:p.2.getD i fO.cy=iE p i:=rfl;have d:p.2.drop i=iE p i::p.2.drop (i+1):=Rn;rw[d,List.find?_cons]at a;by_cases f:(iE p i).1=n
  .rw[show((iE p i).1==n)=W by grind]at a;cases c:right k (iE p i)with
   |false =>
    have g:right k (n,(iE p i).2)=ae:=f▸c;refine aY b [(16,W),(26,W),(34,W)] Z fC (I.gp (cM.zero Z ?_));have e:eJ k p n=af:=by have:=vP (k:=k) (x:=iE p i) hk;rw[c]at this;simp only[eJ,a];simp_all
    simp[e]
   |true =>
    have g:right k (n,(iE p i).2)=W:=f▸c;refine aY b [(16,W),(26,W),(34,ae)] Z fC (I.gp (cM.zero Z ?_));have e:eJ k p n=gu (iE p i).2:=by simp only[eJ,a,mh];unfold right at c;grind
    simp_all
  rw[show((iE p i).1==n)=ae by grind]at a;refine aY b [(16,W),(26,ae)] Z ?_ (I.aQ (i+1) Z ay ay ⟨h,a⟩ aq);simp[-aj,m,f,cd,h];omega
 obtain rfl:i=V p.2:=aq;refine aY b [(16,ae)] Z ay (I.br Z Z ?_);refine cp b Z an (I.bE Z ?_);simp[eJ,a]
abbrev NW:eP:=Kc aI (Iq fO) aI (λk p n=>Gf (eJ k p n)) λ_ _ _=>[]
def Yi:fp X 250 NW:=.QD λk p n _=>I1 k p n
theorem tU(k:Int)(p:bz):jg k p=(decide (1<=p.1/\p.1<=99)&&cN k&&decide (1<=V p.2/\V p.2<=4)&&(bl (V p.2)).all (kW k p)):=by grind[yn]
def Pu{p:bz}(a:i≠0):kW k p i=(right k (iE p i)&&decide ((iE p (i-1)).1<(iE p i).1)):=by unfold kW;grind
def LG(k:Int)(p:bz):Ev X 120 [dI k,vN p] [] (dB (jg k p)) []:=by
 refine Ev.bQ Tryz.func120 rfl λn=>?_;have a:b5 X [(27,Gt),(122,I0),(179,GA)]:=.cons IC (.cons NV (.cons NU .nil));have l:=n.Uy 1 Z 1 Z;rw[tU];by_cases c1:1<=p.1/\p.1<=99
 rotate_left
 .exact aY a [(10,W),(14,W),(21,W)] Z c6 (I.bE Z ek)
 cases hk:cN k
 .exact aY a [(10,ae),(14,W),(21,W)] Z fC (I.bE Z)
 by_cases c3:1<=V p.2/\V p.2<=4
 rotate_left
 .exact aY a [(10,ae),(14,ae),(21,W)] Z ek (I.bE Z c9)
 refine aY a [(10,ae),(14,ae),(21,ae)] Z KE ?_;rw[fQ c1,fQ c3,gy,gy,gy];refine I.cm 1 (λi=>i<=V p.2/\∀j,j<i->kW k p j=W) (λi:Nat=>[(0,dI k),(3,cE 0 0),(5,dI i)]) (λ_=>[Yh p]) (λi=>V p.2-i) 0 Z ay Z ay Z ⟨by omega,by omega⟩ ?_;rintro i ⟨hi,b⟩;by_cases h:i<V p.2
 .have g:p.2.getD i fO.cy=iE p i:=rfl;cases d:right k (iE p i)with
  |false =>
   refine aY a [(26,W),(37,W),(56,W)] Z fC (I.gp (cM.zero Z ?_));rw[ij h (by simp only[kW,d,uj])];simp
  |true =>
   by_cases f:i=0
   .subst f;refine aY a [(26,W),(37,ae),(40,ae),(56,ae)] Z ?_ (I.aQ 1 Z ay ay ⟨h,iW b (by simp only[kW,d,gy];rfl)⟩ aq);exact KE
   have c:p.2.getD (i-1) fO.cy=iE p (i-1):=rfl;have o:=Pu (k:=k) (p:=p) f;by_cases m:(iE p (i-1)).1<(iE p i).1
   .refine aY a [(26,W),(37,ae),(40,W),(54,ae),(56,ae)] Z ?_ (I.aQ (i+1) Z ay ay ⟨h,iW b az⟩ aq);simp[-aj,g,c,d,hk,h,m,cd];omega
   refine aY a [(26,W),(37,ae),(40,W),(54,W),(56,W)] Z ?_ (I.gp (cM.zero Z ?_))
   .simp[-aj,g,c,d,hk,h,cd];omega
   rw[ij h az];simp
 obtain rfl:i=V p.2:=aq;refine aY a [(26,ae)] Z ay (I.br Z Z ?_);exact cp a Z an (I.bE Z c9)
abbrev I2:eP:=qb aI (Iq fO) (λk p=>dB (jg k p)) λ_ _=>[]
def Uz:fp X 120 I2:=.s9 λk p _=>LG k p
def kS{l:List α}{d:α}(h:i<V l):l.getD i d∈l:=az
def Yj{l:List Int}{n:Int}:l.contains n=!(bl (V l)).all λi=>!(l.getD i 0==n):=by rw[pO,iM,<-pL,dG,wA];grind[List.mem_iff_getElem]
def Yk(l:List Int)(n:Int):Ev X 69 [cI.sl l,dI n] [] (dB (l.contains n)) []:=by
 refine Ev.bQ Tryz.func69 rfl λe=>?_;have c:=e.sl 0 Z;refine bt Z an ?_;rw[Yj];refine I.lQ (λi=>i<=V l/\∀j,j<i->(!(l.getD j 0==n))=W) (λi:Nat=>[(0,cI.sl l),(1,dI n),(5,dI i)]) (λ_=>[]) (λi=>V l-i) 0 Z ay Z an ⟨by omega,by omega⟩ ?_;rintro i ⟨hi,a⟩;by_cases h:i<V l
 .have b:l.getD i cI.cy=l.getD i 0:=rfl;by_cases d:l.getD i 0=n
  .refine ba [(9,W),(17,W)] Z ?_ (I.j5 (cM.zero Z ?_))
   .simp[-aj,b,d,h]
   rw[ij h az];simp
  refine ba [(9,W),(17,ae)] Z ?_ (I.iD (i+1) Z ay Z an ⟨h,iW a az⟩ aq);simp[-aj,b,d,h,cd];omega
 obtain rfl:i=V l:=aq;refine ba [(9,ae)] Z ay (I.gE Z Z ?_);exact bt Z an (I.bE Z fC)
abbrev I3:eP:=qb (aL cI) aI (λl n=>dB (l.contains n)) λ_ _=>[]
def NX:fp X 69 I3:=.s9 λl n _=>Yk l n
def LH(k:Int)(ps:List bz)(n:Int):Ev X 229 [dI k,cP.sl ps,dI n] [] (Gf (dx k ps n)) []:=by
 refine Ev.bQ Tryz.func229 rfl λg=>?_;have e:=g.sl 1 Z;have d:b5 X [(250,NW)]:=.cons Yi .nil;refine cp d Z an (I.lQ (λi=>i<=V ps/\dx k ps n=dx k (ps.drop i) n) (λi:Nat=>[(0,dI k),(1,cP.sl ps),(2,dI n),(8,dI i)]) (λ_=>[]) (λi=>V ps-i) 0 Z ay Z an ⟨by omega,Z⟩ ?_);rintro i ⟨hi,a⟩;by_cases h:i<V ps
 .have c:ps.drop i=ps.getD i (0,[])::ps.drop (i+1):=Rn;have f:((ps.getD i cP.cy).1,fO.cz (ps.getD i cP.cy).2.length (fO.fn (ps.getD i cP.cy).2))=ps.getD i (0,[]):=ek;rw[c,show dx k (ps.getD i (0,[])::ps.drop (i+1)) n=_ from List.findSome?_cons]at a;cases b:eJ k (ps.getD i (0,[])) n with
  |some q =>
   rw[b]at a;refine aY d [(14,W),(27,W)] Z ?_ (I.j5 (cM.zero Z ?_))
   .simp[-aj,f,b,h,fO.aE]
   simp_all
  |none =>
   rw[b]at a;refine aY d [(14,W),(27,ae)] Z ?_ (I.iD (i+1) Z ay Z an ⟨h,a⟩ aq);simp[-aj,f,b,h,cd,fO.aE];omega
 obtain rfl:i=V ps:=aq;refine ba [(14,ae)] Z ay (I.gE Z Z ?_);exact bt Z an (I.bE Z (by rw[a,wF];simp[dx]))
abbrev I4:eP:=Kc aI (aL cP) aI (λk ps n=>Gf (dx k ps n)) λ_ _ _=>[]
def UA:fp X 229 I4:=.QD λk ps n _=>LH k ps n
def UB(a b:List Bs):Ev X 251 [cS.sl a,cS.sl b] [] (dB (a==b)) []:=by
 refine Ev.bQ Tryz.func251 rfl λg=>?_;have e:=g.sl 0 Z;by_cases k:V a=V b
 rotate_left
 .have:(a==b)=ae:=eC.2 az;exact ba [(10,W)] Z c6 (I.bE Z (by simp[this]))
 refine ba [(10,ae)] Z c6 (I.lQ (λi=>i<=V a/\∀j,j<i->a.getD j []=b.getD j []) (λi:Nat=>[(0,cS.sl a),(1,cS.sl b),(5,dI i)]) (λ_=>[]) (λi=>V a-i) 0 Z ay Z an ⟨by omega,by omega⟩ ?_);rintro i ⟨hi,f⟩;by_cases h:i<V a
 .have d:∀l:List Bs,l.getD i cS.cy=l.getD i []:=λ_=>rfl;by_cases c:a.getD i []=b.getD i []
  .refine ba [(14,W),(25,ae)] Z ?_ (I.iD (i+1) Z ay Z an ⟨h,λj n=>?_⟩ aq)
   .simp[-aj,d,c,cd];omega
   grind
  refine ba [(14,W),(25,W)] Z ?_ (I.j5 (cM.zero Z ?_))
  .simp[-aj,d,c];omega
  have:(a==b)=ae:=eC.2 az;simp[this]
 obtain rfl:i=V a:=aq;have:a=b:=uh k λj c m=>by grind
 refine ba [(14,ae)] Z ay (I.gE Z Z ?_);exact bt Z an (I.bE Z (by simp[this]))
def acS:fp X 251 XO:=.s9 λa b _=>UB a b
def zj(t:Bs):∀k f p,p∈gV t k f->V p<=8
 |0,_,p,h=>by exact ek
 |k+1,f,p,h=>by
  simp only[gV]at h;split at h
  .rename_i a;rcases eQ.1 h with rfl|h
   .grind [pg]
   exact zj t k _ p h
  grind
def GC{l:List Bs}{p:Bs}(h:p∈l)(b:8<V p):ig l=af:=by unfold ig;rw[bc];intro a;simp only[cu,fR]at a;have:=zj l.flatten (V l.flatten) 0 p (by rw[show gV l.flatten (V l.flatten) 0=l from a.2];exact h);omega
def zJ(l:List Bs)(i:Nat):(l.take i).flatten.length<=V l.flatten:=QY
def LI{l:List Bs}(h:40<(l.take i).flatten.length):ig l=af:=by have:=zJ l i;unfold ig;rw[bc];intro a;simp only[cu,fG,bu]at a;omega
def UC(l:List Bs):Ev X 230 [cS.sl l] [] (Gf (ig l)) []:=by
 refine Ev.bQ Tryz.func230 rfl λj=>?_;have g:=j.sl 0 Z;have a:b5 X [(72,c72),(126,NL),(251,XO)]:=.cons t72 (.cons T8 (.cons acS .nil));refine cp a Z an (I.lQ (λi=>i<=V l/\(l.take i).flatten.length<=48) (λi:Nat=>[(0,cS.sl l),(4,dS (l.take i).flatten),(5,dI i)]) (λ_=>[]) (λi=>V l-i) 0 Z ay Z an ⟨by omega,by simp⟩ ?_);rintro i ⟨hi,e⟩;by_cases h:i<V l
 .have f:l.getD i cS.cy=l.getD i []:=rfl;have m:(l.take (i+1)).flatten=(l.take i).flatten++l.getD i []:=vn;by_cases b:V (l.getD i [])<=8
  .by_cases c:(l.take i).flatten.length<=40
   .refine aY a [(9,W),(18,ae),(22,ae)] Z ?_ (I.iD (i+1) Z ?_ Z an ⟨h,by grind⟩ aq)
    .simp[-aj,-List.length_flatten,f,cd];omega
    simp_all
   refine aY a [(9,W),(18,ae),(22,W)] Z ?_ (I.j5 (cM.zero Z ?_))
   .simp[-aj,-List.length_flatten,f];omega
   simp[LI (l:=l) (i:=i) aq]
  refine aY a [(9,W),(18,W),(22,W)] Z ?_ (I.j5 (cM.zero Z ?_))
  .simp[-aj,f];omega
  simp[aA,aA.eu,GC (kS (d:=[]) h) aq]
 obtain rfl:i=V l:=aq;rw[de]at e⊢;refine aY a [(9,ae)] Z ay (I.gE Z Z ?_);have el:=cS.aw l;cases b:fG l.flatten with
 |false=>exact aY a [(32,W),(38,W)] rfl AH (I.bE rfl (by simp[ig,b]))
 |true =>
  have k:cV l.flatten=W:=by simp only[fG,cu]at b;exact b.2
  cases c:(bR l.flatten==l)with
  |false =>
   refine aY a [(32,ae),(38,W)] Z ?_ (I.bE Z (by simp[ig,c]));exact ek
  |true =>
   refine aY a [(32,ae),(38,ae)] Z ?_ (I.bE Z (by simp[ig,b,c]));exact ek
abbrev UD:eP:=lW (aL cS) (λl=>Gf (ig l)) λ_=>[]
def acT:fp X 230 UD:=.rl λl _=>UC l
abbrev snB(s:dn):bq:=.cells 42 [.c (.int .i64 s.1),.c (.sl ae 2 (V s.2) (cL.fn s.2))]
abbrev UE(k:Int)(ps:List bz)(ns:List Int):List Bs:=ns.map λn=>(dx k ps n).getD []
def Yl{ps:List bz}{ns:List Int}(h:j<V ns):UE k ps (ns.take (j+1))=UE k ps (ns.take j)++[(dx k ps (ns.getD j 0)).getD []]:=vn
def I5{ps:List bz}{ns:List Int}(h:j<V ns)(a:dx k ps (ns.getD j 0)=af):eD k ps ns=af:=Rh
def GD{ps:List bz}{ns:List Int}(h:∀j,j<V ns->(dx k ps (ns.getD j 0)).isSome=W):eD k ps ns=O (UE k ps ns):=by unfold eD;rw[bh];grind[List.mem_iff_getElem]
def GF(k:Int)(s:dn)(ps:List bz)(J:V s.2<=4000000)(F:∀x∈s.2,V x.2<=4000000):
  Ev X 180 [dI k,Ke s,cP.sl ps] [] (XP ((cn k s ps).getD []) (cn k s ps).isSome) []:=by
 refine Ev.bQ Tryz.func180 rfl λAK=>?_;have a:b5 X [(122,I0),(229,I4),(230,UD),(28,c28)]:=.cons NV (.cons UA (.cons acT (.cons t28 .nil)));cases hk:cN k with
 |false =>
  refine aY a [(19,W)] Z AE (I.bE Z ?_);simp[cn,hk]
 |true =>
 refine aY a [(19,ae),(1000004,W)] Z AE (I.jK 8 98 2 Z Z ?_);refine cp a Z an (I.cm 2 (λi=>i<=V s.2/\∀j,j<i->(fN k ps (s.2.getD j ([],[]))).isSome=W) (λi:Nat=>[(0,dI k),(2,cP.sl ps),(4,cE 0 0),(8,.e (.bX (.dk 1 2 (V (ef k ps (s.2.take i))) (cF.fn (ef k ps (s.2.take i)))))),(9,dI i)]) (λi=>[snB s,.dk 98 2 (V (ef k ps (s.2.take i))) (cF.fn (ef k ps (s.2.take i)))]) (λi=>V s.2-i) 0 Z MK Z MK Z ⟨by omega,by omega⟩ ?_);rintro i ⟨hi,B⟩;by_cases h:i<V s.2
 .have A:=F _ (kS (d:=([],[])) h);have b:=tQ (k:=k) (ps:=ps) h;have z:V (ef k ps (s.2.take i))=i:=by simp[ef];omega
  have f:s.2.getD (i:Int).toNat cL.cy=s.2.getD i ([],[]):=az;have l:=tR (k:=k) (ps:=ps) h;generalize E:s.2.getD i ([],[])=x at A b f l;generalize ef k ps (s.2.take i)=fs at *;refine aY a [(25,W),(1000008,W)] Z c6 (I.jK 10 9 1 Z Z ?_);refine cp a Z an (I.cm 3 (λj=>j<=V x.2/\∀q,q<j->(dx k ps (x.2.getD q 0)).isSome=W) (λj:Nat=>[(0,dI k),(2,cP.sl ps),(4,cE 0 0),(8,.e (.bX (.dk 1 2 (V fs) (cF.fn fs)))),(9,dI i),(10,.e (.bX (.dk 2 1 (V (UE k ps (x.2.take j))) (cS.fn (UE k ps (x.2.take j)))))),(11,dI j)]) (λj=>[snB s,.dk 98 2 (V fs) (cF.fn fs),.dk 9 1 (V (UE k ps (x.2.take j))) (cS.fn (UE k ps (x.2.take j)))]) (λj=>V x.2-j) 0 Z ay Z ay Z ⟨by omega,by omega⟩ ?_);rintro j ⟨H,y⟩;by_cases w:j<V x.2
  .have c:x.2.getD (j:Int).toNat cI.cy=x.2.getD j 0:=az;cases m:dx k ps (x.2.getD j 0)with
   |none =>
    have e:fN k ps x=af:=by simp[fN,I5 w m]
    refine aY a [(37,W),(56,W)] Z ?_ (I.gp (I.xe (cM.zero Z ?_)))
    .simp only[aA,f,c,m,cP.aw,cP.aE];grind
    rw[l e];simp
   |some q =>
    have g:=Yl (k:=k) (ps:=ps) w;rw[m]at g;have o:V (UE k ps (x.2.take j))=j:=az;have u:=cS.cw (UE k ps (x.2.take j)) q;refine aY a [(37,W),(56,ae)] Z ?_ (I.aQ (j+1) Z ?_ ?_ ⟨w,λr G=>?_⟩ aq)
    .simp only[aA,f,c,m,cP.aw,cP.aE,o,cd,show i9.bytes=16 from Z];grind
    .rw[g];simp only[aA.eu,aA,f,c,m,cP.aw,cj,eY,aX,aW];and_intros<;>first|exact eW.same|exact u|rfl|omega
    .rw[g];simp only[aA.eu,aA,f,c,m,cP.aw,cj,eY,aX,aW];and_intros<;>first|exact eW.same|exact u|rfl|omega
    grind
  obtain rfl:j=V x.2:=aq;have p:=GD y;rw[de];have o:V (UE k ps x.2)=V x.2:=ay;refine aY a [(37,ae)] Z (by simp only[aA,f];simp[h]) (I.br Z Z ?_);cases n:ig (UE k ps x.2)with
  |none =>
   have e:fN k ps x=af:=by simp[fN,p,n]
   refine aY a [(68,W)] Z ?_ (I.gp (cM.zero Z ?_))
   .simp only[aA,cS.aw,cS.aE,n];simp
   rw[l e];simp
  |some t =>
   have e:fN k ps x=O (x.1,t):=by simp[fN,p,n]
   rw[e]at b;have C:=cF.cw fs (x.1,t);refine aY a [(68,ae)] Z ?_ (I.aQ (i+1) Z ?_ ?_ ⟨h,λr G=>?_⟩ aq)
   .simp only[aA,f,cS.aw,cS.aE,n,z,cd,show Ym.bytes=32 from Z];grind
   .rw[b];simp only[aA.eu,aA,f,cS.aw,n,iY,cj,eY,aX,aW];and_intros<;>first|exact eW.same|exact C|rfl|omega
   .rw[b];simp only[aA.eu,aA,f,cS.aw,n,iY,cj,eY,aX,aW];and_intros<;>first|exact eW.same|exact C|rfl|omega
   grind
 obtain rfl:i=V s.2:=aq;rw[de];have D:s.2.all (λx=>(fN k ps x).isSome)=W:=bL.2 λx A=>by grind[List.mem_iff_getElem]
 refine aY a [(25,ae)] Z ay (I.br Z Z ?_);cases v:cT (ef k ps s.2)with
 |false =>
  refine aY a [(83,W)] Z ?_ (I.bE Z ?_)
  .simp[cF.aw,cF.aE,v]
  simp[cn,v]
 |true =>
  refine aY a [(83,ae)] Z ?_ (I.bE Z ?_)
  .simp[cF.aw,cF.aE,v]
  simp[cn,v,hk,D]
abbrev Cj:eP:=Kc aI (Iq cL) (aL cP) (λk s ps=>XP ((cn k s ps).getD []) (cn k s ps).isSome) λ_ s _=>[V s.2<=4000000,∀x∈s.2,V x.2<=4000000]
def LJ:fp X 180 Cj:=.QD λk s ps h=>GF k s ps h.1 h.2
abbrev xu:=Int×Int
def iP(h:xu):Bool:=decide (1<=h.1/\h.1<=2)&&decide (1<=h.2/\h.2<=20)
def mx(l:List xu):Bool:=(bl (V l)).all (λi=>iP (l.getD i (0,0)))&&decide (V l<=9)
abbrev dHd(h:xu):D:=.e (.agg [.c (.int .i64 h.1),.c (.int .i64 h.2)])
def Pv(h:xu):Ev X 181 [dHd h] [] (dB (iP h)) []:=by
 refine Ev.bQ Tryz.func181 rfl λb=>?_;have a:b5 X [(27,Gt)]:=.cons IC .nil;by_cases c:1<=h.1/\h.1<=2
 .exact aY a [(6,W)] Z (by simp[c]) (I.bE Z (by simp[iP,c]))
 exact aY a [(6,ae)] Z c6 (I.bE Z (by simp only[aA,iP,ot c];simp))
def Pw(l:List xu):Ev X 123 [cH.sl l] [] (dB (mx l)) []:=by
 refine Ev.bQ Tryz.func123 rfl λe=>?_;have d:=e.sl 0 Z;have b:b5 X [(181,lW aII (λh=>dB (iP h)) λ_=>[])]:=.cons (.rl λh _=>Pv h) .nil;refine cp b Z an ?_;unfold mx;refine I.lQ (λi=>i<=V l/\∀j,j<i->iP (l.getD j (0,0))=W) (λi:Nat=>[(0,cH.sl l),(3,dI i)]) (λ_=>[]) (λi=>V l-i) 0 Z ay Z an ⟨by omega,by omega⟩ ?_;rintro i ⟨hi,a⟩;by_cases h:i<V l
 .have f:l.getD i cH.cy=l.getD i (0,0):=rfl;cases c:iP (l.getD i (0,0))with
  |false =>
   refine aY b [(7,W),(15,W)] Z fC (I.j5 (cM.zero Z ?_));rw[ij h c];simp
  |true =>
   refine aY b [(7,W),(15,ae)] Z ?_ (I.iD (i+1) Z ay Z an ⟨h,iW a c⟩ aq);simp[-aj,f,c,h,cd];omega
 obtain rfl:i=V l:=aq;refine aY b [(7,ae)] Z ay (I.gE Z Z ?_);exact cp b Z an (I.bE Z (by rw[dG.2 a];simp;omega))
abbrev xw:eP:=lW (aL cH) (λl=>dB (mx l)) λ_=>[]
def Yn:fp X 123 xw:=.rl λl _=>Pw l
def bT(ps:List bz):List Int:=ps.flatMap λp=>p.2.map (·.1)
def Ck(f:α->Int)(d:α)(l:List α)(i:Nat):Bool:=i==0||decide (f (l.getD (i-1) d)<f (l.getD i d))
def pw(k:Int)(ps:List bz)(i:Nat):Bool:=jg k (ps.getD i (0,[]))&&Ck (·.1) (0,[]) ps i
def mm(k:Int)(s:bA)(i:Nat):Bool:=decide (1<=(s.2.1.getD i (0,[])).1/\(s.2.1.getD i (0,[])).1<=20)&&Ck (·.1) (0,[]) s.2.1 i&&(cn k (s.2.1.getD i (0,[])) s.1).isSome
def fX(k:Int)(s:bA):Bool:=(bl (V s.1)).all (pw k s.1)&&decide (bT s.1).Nodup&&(bl (V s.2.1)).all (mm k s)&&cN k&&mx s.2.2&&decide (V s.1<=20)
def Cl{ps:List bz}(h:i<V ps):bT (ps.take (i+1))=bT (ps.take i)++(ps.getD i (0,[])).2.map (·.1):=by rw[cW h (0,[])];simp[bT]
def Px{ps:List bz}(h:¬(bT (ps.take i)).Nodup):¬(bT ps).Nodup:=λa=>h (by
 have:bT ps=bT (ps.take i)++bT (ps.drop i):=Zv
 grind)
abbrev Wm(s:bA):bq:=.cells 27 [.c (.sl ae 2 (V s.1) (cP.fn s.1)),.c (.sl ae 2 (V s.2.1) (dY.fn s.2.1)),.c (.sl ae 2 (V s.2.2) (cH.fn s.2.2))]
def UF(k:Int)(s:bA)(x:dn)(d:V x.2<=4000000)(c:∀y∈x.2,V y.2<=4000000):Ev X 121 [dI k,n5 s,Ke x] [] (dB (cn k x s.1).isSome) []:=by
 refine Ev.bQ Tryz.func121 rfl λb=>?_;have a:b5 X [(180,Cj)]:=.cons LJ .nil;have e:(x.1,cL.cz (V x.2) (cL.fn x.2))=x:=by rw[cL.aw]
 refine cp a Z ek (I.bE Z ?_);simp[cL.aw,cP.aw]
abbrev UG:eP:=Kc aI XQ (Iq cL) (λk s x=>dB (cn k x s.1).isSome) λ_ _ x=>[V x.2<=4000000,∀y∈x.2,V y.2<=4000000]
def acU:fp X 121 UG:=.QD λk s x h=>UF k s x h.1 h.2
def qh{f:α->Int}{d:α}{l:List α}(h:i≠0):Ck f d l i=decide (f (l.getD (i-1) d)<f (l.getD i d)):=by unfold Ck;grind
def I6(k:Int)(s:bA)(M:mj s)(R:V s.1<=4000000)(P:V s.2.1<=4000000):Ev X 70 [dI k,n5 s] [] (dB (fX k s)) []:=by
 refine Ev.bQ Tryz.func70 rfl λQ=>?_;have c:b5 X [(120,I2),(69,I3),(27,Gt),(121,UG),(122,I0),(123,xw)]:=.cons Uz (.cons NX (.cons IC (.cons acU (.cons NV (.cons Yn .nil)))));refine aY c [(1000002,W)] Z an (I.jK 5 3 1 Z Z ?_);refine cp c Z an ?_;unfold fX;refine I.cm 2 (λi=>i<=V s.1/\(∀j,j<i->pw k s.1 j=W)/\(bT (s.1.take i)).Nodup/\V (bT (s.1.take i))<=4*i) (λi:Nat=>[(0,dI k),(3,cE 0 0),(5,.e (.bX (.dk 1 1 (V (bT (s.1.take i))) (cI.fn (bT (s.1.take i)))))),(6,dI i)]) (λi=>[Wm s,.dk 3 1 (V (bT (s.1.take i))) (cI.fn (bT (s.1.take i)))]) (λi=>V s.1-i) 0 Z Km Z Km Z ⟨by omega,by omega,by simp[bT],by simp[bT]⟩ ?_;rintro i ⟨hi,g,v,K⟩;by_cases h:i<V s.1
 .have y:=Cl h;have F:=Px (ps:=s.1) (i:=i+1);have m:s.1.getD i cP.cy=s.1.getD i (0,[]):=rfl;have n:s.1.getD (i-1) cP.cy=s.1.getD (i-1) (0,[]):=rfl;have b:pw k s.1 i=(jg k (s.1.getD i (0,[]))&&Ck (·.1) (0,[]) s.1 i):=rfl;have C:=qh (f:=λp:bz=>p.1) (d:=(0,[])) (l:=s.1) (i:=i);generalize G:s.1.getD i (0,[])=p at *;generalize s.1.getD (i-1) (0,[])=p' at *;cases t:jg k p with
  |false =>
   rw[t,uj]at b;refine aY c [(14,W),(25,W),(44,W)] Z ?_ (I.gp (cM.zero Z ?_))
   .simp[-aj,m,t,fO.aw,fO.aE,h]
   rw[ij h b];simp
  |true =>
   have aa:V p.2<=4:=by grind[tU]
   rw[t,gy]at b;cases u:Ck (·.1) (0,[]) s.1 i with
   |false =>
    have r:i≠0:=by rintro rfl;cases u
    have B:¬p'.1<p.1:=az;refine aY c [(14,W),(25,ae),(28,W),(42,W),(44,W)] Z ?_ (I.gp (cM.zero Z ?_))
    .simp[-aj,m,n,t,fO.aw,fO.aE,h,cd];omega
    rw[ij h (b.trans u)];simp
   |true =>
   rw[u]at b;apply I.tG [(0,dI k),(3,cE 0 0),(5,.e (.bX (.dk 1 1 (V (bT (s.1.take i))) (cI.fn (bT (s.1.take i)))))),(6,dI i),(7,dI 0)] [Wm s,.dk 3 1 (V (bT (s.1.take i))) (cI.fn (bT (s.1.take i)))]
   .intro z;by_cases r:i=0
    .subst r;refine aY c [(14,W),(25,ae),(28,ae),(44,ae)] Z ?_ (z _ _ Z ?_)
     .simp[-aj,m,t,fO.aw,fO.aE,h]
     simp
    have B:p'.1<p.1:=az;refine aY c [(14,W),(25,ae),(28,W),(42,ae),(44,ae)] Z ?_ (z _ _ Z ?_)
    .simp[-aj,m,n,t,fO.aw,fO.aE,h,cd];omega
    simp
   generalize bT (s.1.take i)=ns at *;refine I.cm 2 (λj=>j<=V p.2/\(ns++(p.2.take j).map (·.1)).Nodup) (λj:Nat=>[(0,dI k),(3,cE 0 0),(5,.e (.bX (.dk 1 1 (V (ns++(p.2.take j).map (·.1))) (cI.fn (ns++(p.2.take j).map (·.1)))))),(6,dI i),(7,dI j)]) (λj=>[Wm s,.dk 3 1 (V (ns++(p.2.take j).map (·.1))) (cI.fn (ns++(p.2.take j).map (·.1)))]) (λj=>V p.2-j) 0 Z ay Z ay Z ⟨by omega,by grind⟩ ?_;rintro j ⟨N,D⟩;by_cases o:j<V p.2
   .have A:p.2.getD j fO.cy=iE p j:=rfl;have x:ns++(p.2.take (j+1)).map (·.1)=(ns++(p.2.take j).map (·.1))++[(iE p j).1]:=vn;have w:V (ns++(p.2.take j).map (·.1))=V ns+j:=az;generalize ns++(p.2.take j).map (·.1)=a at *;cases H:a.contains (iE p j).1 with
    |true =>
     refine aY c [(53,W),(67,W)] Z ?_ (I.gp (I.xe (cM.zero Z ?_)))
     .simp[-aj,-List.contains_eq_mem,m,A,h,o,H,cI.aw,cI.aE]
     .have L:¬(bT s.1).Nodup:=F (by
       have e:ns++p.2.map (·.1)=(ns++(p.2.take (j+1)).map (·.1))++(p.2.drop (j+1)).map (·.1):=ay
       grind)
      simp[L]
    |false =>
     have J:=cI.cw a (iE p j).1;have E:cI.cz (V ns+j) (cI.fn a)=a:=by rw[<-w];exact cI.aw a
     refine aY c [(53,W),(67,ae)] Z ?_ (I.aQ (j+1) Z ?_ ?_ ⟨o,?_⟩ aq)
     .simp[-aj,-List.contains_eq_mem,m,A,h,o,H,cI.aw,cI.aE,w,E,cd,show i3.bytes=8 from Z];omega
     .rw[x];simp only[aA.eu,aA,bZ,m,A,cj,eY,aX,aW];and_intros<;>first|exact eW.same|exact J|rfl|omega
     .rw[x];simp only[aA.eu,aA,bZ,m,A,cj,eY,aX,aW];and_intros<;>first|exact eW.same|exact J|rfl|omega
     grind
   obtain rfl:j=V p.2:=aq;rw[de]at D⊢;refine aY c [(53,ae)] Z ?_ (I.br Z Z ?_)
   .simp[-aj,m,h]
   refine cp c Z ek (I.aQ (i+1) Z ?_ ?_ ⟨h,iW g b,by grind,by grind⟩ aq)
   .rw[y];simp
   rw[y];simp
 obtain rfl:i=V s.1:=aq;rw[de]at v⊢;refine aY c [(14,ae)] Z ay (I.br Z Z ?_);refine cp c Z an ?_;rw[dG.2 g,fQ v,gy,gy];generalize bT s.1=ns;refine I.cm 2 (λi=>i<=V s.2.1/\(∀j,j<i->mm k s j=W)) (λi:Nat=>[(0,dI k),(3,cE 0 0),(8,dI i)]) (λ_=>[Wm s,.dk 3 1 (V ns) (cI.fn ns)]) (λi=>V s.2.1-i) 0 Z ay Z ay Z ⟨by omega,by omega⟩ ?_;rintro i ⟨hi,g⟩;by_cases h:i<V s.2.1
 .have m:s.2.1.getD i dY.cy=s.2.1.getD i (0,[]):=rfl;have n:s.2.1.getD (i-1) dY.cy=s.2.1.getD (i-1) (0,[]):=rfl;have q:=M _ (kS (d:=(0,[])) h);have b:mm k s i=(decide (1<=(s.2.1.getD i (0,[])).1/\(s.2.1.getD i (0,[])).1<=20)&&Ck (·.1) (0,[]) s.2.1 i&&(cn k (s.2.1.getD i (0,[])) s.1).isSome):=rfl;have C:=qh (f:=λp:dn=>p.1) (d:=(0,[])) (l:=s.2.1) (i:=i);generalize G:s.2.1.getD i (0,[])=p at *;generalize s.2.1.getD (i-1) (0,[])=p' at *;by_cases c1:1<=p.1/\p.1<=20
  rotate_left
  .refine aY c [(85,W),(96,W),(116,W),(126,W)] Z ?_ (I.gp (cM.zero Z ?_))
   .simp[-aj,m,h];omega
   rw[ij h az];simp
  cases u:Ck (·.1) (0,[]) s.2.1 i with
  |false =>
   have r:i≠0:=by rintro rfl;cases u
   have B:¬p'.1<p.1:=az;refine aY c [(85,W),(96,ae),(99,W),(113,W),(116,W),(126,W)] Z ?_ (I.gp (cM.zero Z ?_))
   .simp[-aj,m,n,h,c1,cd];omega
   rw[ij h az];simp
  |true =>
   rw[fQ c1,u,gy,gy]at b;cases o:(cn k p s.1).isSome with
   |false =>
    by_cases r:i=0
    .subst r;refine aY c [(85,W),(96,ae),(99,ae),(116,ae),(126,W)] Z ?_ (I.gp (cM.zero Z ?_))
     .simp[-aj,m,h,c1,cL.aw,cL.aE,cP.aw,cP.aE,dY.aE,cH.aE,o,q.1];grind
     rw[ij h (b.trans o)];simp
    have B:p'.1<p.1:=az;refine aY c [(85,W),(96,ae),(99,W),(113,ae),(116,ae),(126,W)] Z ?_ (I.gp (cM.zero Z ?_))
    .simp[-aj,m,n,h,c1,cd,cL.aw,cL.aE,cP.aw,cP.aE,dY.aE,cH.aE,o,q.1];and_intros<;>first|omega|grind
    rw[ij h (b.trans o)];simp
   |true =>
    rw[o]at b;by_cases r:i=0
    .subst r;refine aY c [(85,W),(96,ae),(99,ae),(116,ae),(126,ae)] Z ?_ (I.aQ 1 Z ay ay ⟨h,iW g b⟩ aq);simp[-aj,m,h,c1,cd,cL.aw,cL.aE,cP.aw,cP.aE,dY.aE,cH.aE,o,q.1];grind
    have B:p'.1<p.1:=az;refine aY c [(85,W),(96,ae),(99,W),(113,ae),(116,ae),(126,ae)] Z ?_ (I.aQ (i+1) Z ay ay ⟨h,iW g b⟩ aq);simp[-aj,m,n,h,c1,cd,cL.aw,cL.aE,cP.aw,cP.aE,dY.aE,cH.aE,o,q.1];and_intros<;>first|omega|grind
 obtain rfl:i=V s.2.1:=aq;refine aY c [(85,ae)] Z ay (I.br Z Z ?_);rw[dG.2 g,gy];cases hk:cN k
 .exact aY c [(129,ae),(134,ae)] Z AE (I.bE Z)
 cases AK:mx s.2.2
 .exact aY c [(129,W),(134,ae)] Z Rl (I.bE Z)
 exact aY c [(129,W),(134,W)] Z Rl (I.bE Z c6)
abbrev uI:eP:=qb aI XQ (λk s=>dB (fX k s)) λ_ s=>[mj s,V s.1<=4000000,V s.2.1<=4000000]
def yD:fp X 70 uI:=.s9 λk s h=>I6 k s h.1 h.2.1 h.2.2
def iX(n:Int)(a:List Int×Bool)(y:Int):List Int×Bool :=
 if a.2=W then(if y=n then a else(a.1++[y],W))else if n<=y then(if y=n then(a.1++[n],W)else(a.1++[n,y],W))else(a.1++[y],ae)
abbrev kZ(n:Int)(l:List Int)(i:Nat):List Int×Bool:=(l.take i).foldl (iX n) ([],ae)
def jF(l:List Int)(n:Int):List Int:=if(l.foldl (iX n) ([],ae)).2=W then(l.foldl (iX n) ([],ae)).1 else(l.foldl (iX n) ([],ae)).1++[n]
def xx{n:Int}{l:List Int}(h:i<V l):kZ n l (i+1)=iX n (kZ n l i) (l.getD i 0):=vn
def xy(n:Int)(l:List Int):∀i,i<=V l->(kZ n l i).1.length+(if(kZ n l i).2=W then 0 else 1)<=i+1
 |0,_=>by simp[kZ]
 |i+1,h=>by have:=xy n l i aq;rw[xx aq];generalize kZ n l i=a at *;obtain⟨a,b⟩:=a;unfold iX;grind
theorem UH(l:List Int)(n:Int):V (jF l n)<=V l+1:=by
 have:=xy n l (V l) (bm _);simp only[kZ,de]at this;unfold jF;split at this<;>rename_i h
 .grind
 grind
def rv{α:Type}(c:lX α)(l:List α)(x y:α):eW (V l+1+1) (dv (V l+1) (dv (V l) (c.fn l) λq=>[c.enc x].getD q []) λq=>[c.enc y].getD q []) (c.fn (l++[x,y])):=c.rv l x y
def UI(l:List Int)(n:Int)(p:V l<=100000000):Ev X 32 [cI.sl l,dI n] [] (cI.sl (jF l n)) []:=by
 refine Ev.bQ Tryz.func32 rfl λq=>?_;refine ba [(1000002,W)] Z an (I.jK 5 3 1 Z Z ?_);refine bt Z an (I.cm 1 (λi=>i<=V l) (λi:Nat=>[(0,cI.sl l),(1,dI n),(5,.e (.bX (.dk 0 1 (kZ n l i).1.length (cI.fn (kZ n l i).1)))),(6,dB (kZ n l i).2),(7,dI i)]) (λi=>[.dk 3 1 (kZ n l i).1.length (cI.fn (kZ n l i).1)]) (λi=>V l-i) 0 Z Rm Z Rm Z aq ?_);intro i hi;have j:=xy n l i hi;by_cases h:i<V l
 .have c:=xx (n:=n) h;have d:l.getD (i:Int).toNat cI.cy=l.getD i 0:=fC;generalize l.getD i 0=y at *;generalize kZ n l i=a at *;obtain⟨a,b⟩:=a;have f:=λy=>cI.cw a y;have o:=λx y=>cI.rv a x y;have r:(V a+1+1)*8<=140737488355328:=az;have fin:∀a',kZ n l (i+1)=a'->True:=λ_ _=>trivial;have k:V l-(i+1)<V l-i:=aq;by_cases g:y=n
  .cases b with
   |true =>
    rw[show iX n (a,W) y=(a,W) by simp[iX,g]]at c;refine ba [(12,W),(34,ae)] Z ?_ (I.aQ (i+1) Z ?_ ?_ h k)
    .simp only[aA,d,g,cd];simp;omega
    .rw[c];simp
    rw[c];simp
   |false =>
    rw[show iX n (a,ae) y=(a++[n],W) by simp[iX,g]]at c;refine ba [(12,W),(24,W),(34,ae)] Z ?_ (I.aQ (i+1) Z ?_ ?_ h k)
    .simp only[aA,d,g,cd,show i3.bytes=8 from Z];simp;omega
    .rw[c];simp only[aA.eu,aA,cj,eY,aX,aW];and_intros<;>first|exact eW.same|exact f n|rfl|omega
    rw[c];simp only[aA.eu,aA,cj,eY,aX,aW];and_intros<;>first|exact eW.same|exact f n|rfl|omega
  cases b with
  |true =>
   rw[show iX n (a,W) y=(a++[y],W) by simp[iX,g]]at c;refine ba [(12,W),(34,W)] Z ?_ (I.aQ (i+1) Z ?_ ?_ h k)
   .simp only[aA,d,cd,show i3.bytes=8 from Z];exact c9
   .rw[c];simp only[aA.eu,aA,d,cj,eY,aX,aW];and_intros<;>first|exact eW.same|exact f y|rfl|omega
   rw[c];simp only[aA.eu,aA,d,cj,eY,aX,aW];and_intros<;>first|exact eW.same|exact f y|rfl|omega
  |false =>
   by_cases m:n<=y
   .rw[show iX n (a,ae) y=(a++[n,y],W) by simp[iX,g,m]]at c;refine ba [(12,W),(24,W),(34,W)] Z ?_ (I.aQ (i+1) Z ?_ ?_ h k)
    .simp only[aA,d,cd,show i3.bytes=8 from Z];simp[g,m];omega
    .rw[c];simp only[aA.eu,aA,d,cj,eU,gk,aX,aW];and_intros<;>first|exact eW.same|exact o n y|rfl|omega
    rw[c];simp only[aA.eu,aA,d,cj,eU,gk,aX,aW];and_intros<;>first|exact eW.same|exact o n y|rfl|omega
   rw[show iX n (a,ae) y=(a++[y],ae) by simp[iX,m]]at c;refine ba [(12,W),(24,ae),(34,W)] Z ?_ (I.aQ (i+1) Z ?_ ?_ h k)
   .simp only[aA,d,cd,show i3.bytes=8 from Z];exact c9
   .rw[c];simp only[aA.eu,aA,d,cj,eY,aX,aW];and_intros<;>first|exact eW.same|exact f y|rfl|omega
   rw[c];simp only[aA.eu,aA,d,cj,eY,aX,aW];and_intros<;>first|exact eW.same|exact f y|rfl|omega
 obtain rfl:i=V l:=aq;unfold jF;simp only[kZ,de]at j⊢;generalize l.foldl (iX n) ([],ae)=a at *;obtain⟨a,b⟩:=a;have f:=cI.cw a n;refine ba [(12,ae)] Z ay (I.br Z Z ?_);cases b with
 |true=>exact bt rfl ay (I.bE rfl)
 |false =>
  refine bt Z ?_ (I.bE Z ?_)
  .simp only[aA,show i3.bytes=8 from Z];simp at j⊢;omega
  simp only[aA,kY,cC,cj,eY];and_intros<;>first|exact f|trivial
abbrev Cm:eP:=qb (aL cI) aI (λl n=>cI.sl (jF l n)) λl _=>[V l<=100000000]
def GG:fp X 32 Cm:=.s9 λl n h=>UI l n h
theorem gL(a:List Int):∀l:List Int,V (l.foldl jF a)<=V a+V l
 |[]=>by simp
 |x::l=>by have:=gL (jF a x) l;grind[UH]
def rB{b:Type}(f:b->Int->b)(a:b){l:List Int}(h:j<V l):(l.take (j+1)).foldl f a=f ((l.take j).foldl f a) (l.getD j 0):=vn
def fh(l:List iU):List Int:=(cZ l).foldl jF []
theorem jZ(l:List iU):V (fh l)<=V (cZ l):=by
 have:=gL [] (cZ l)
 rwa [gk,b8]at this
def Dm(s:dn)(t:V s.2<=4000000)(p:V (cZ s.2)<=4000000):Ev X 31 [Ke s] [] (cI.sl (fh s.2)) []:=by
 refine Ev.bQ Tryz.func31 rfl λr=>?_;have b:b5 X [(32,Cm)]:=.cons GG .nil;refine cp b Z an (I.cm 1 (λi=>i<=V s.2) (λi:Nat=>[(1,cE 0 0),(3,cI.sl (fh (s.2.take i))),(4,dI i)]) (λ_=>[snB s]) (λi=>V s.2-i) 0 Z (by simp[fh,cZ]) Z ay Z aq ?_);intro i hi;by_cases h:i<V s.2
 .have l:s.2.getD i cL.cy=s.2.getD i ([],[]):=rfl;have c:=xz h;have m:=rC s.2 (i+1);have o:=jZ (s.2.take i);have n:fh (s.2.take (i+1))=(s.2.getD i ([],[])).2.foldl jF (fh (s.2.take i)):=by simp only[fh,c,z8]
  rw[c,cj]at m;generalize s.2.getD i ([],[])=x at *;generalize fh (s.2.take i)=a at *;refine aY b [(11,W)] Z kT (I.cm 1 (λj=>j<=V x.2) (λj:Nat=>[(1,cE 0 0),(3,cI.sl ((x.2.take j).foldl jF a)),(4,dI i),(5,dI j)]) (λ_=>[snB s]) (λj=>V x.2-j) 0 Z ay Z ay Z aq ?_);intro j q;by_cases f:j<V x.2
  .have d:x.2.getD j cI.cy=x.2.getD j 0:=rfl;have k:=rB jF a f;have g:=gL a (x.2.take j);rw[List.length_take]at g;generalize(x.2.take j).foldl jF a=a2 at *;have e:=cI.aw a2;refine aY b [(22,W)] Z ?_ (I.aQ (j+1) Z ?_ ?_ f aq)
   .simp[-aj,l,d,h,f,e,cI.aE,cd];omega
   .rw[k];simp[-aj,l,d,e]
   simp
  obtain rfl:j=V x.2:=aq;rw[de,<-n];refine aY b [(22,ae)] Z fC (I.br Z Z ?_);refine cp b Z ek (I.aQ (i+1) Z ay ?_ h aq);simp
 obtain rfl:i=V s.2:=aq;rw[de];refine aY b [(11,ae)] Z ay (I.br Z Z ?_);exact cp b Z an (I.bE Z)
abbrev As:eP:=lW (Iq cL) (λs=>cI.sl (fh s.2)) λs=>[V s.2<=4000000,V (cZ s.2)<=4000000]
def GH:fp X 31 As:=.rl λs h=>Dm s h.1 h.2
def lS(l:List dn):List Int:=l.flatMap λx=>cZ x.2
def ik(l:List dn):List Int:=l.foldl (λgf x=>(fh x.2).foldl jF gf) []
theorem vT{l:List dn}(h:i<V l):lS (l.take (i+1))=lS (l.take i)++cZ (l.getD i (0,[])).2:=by rw[cW h (0,[])];simp[lS]
def I7(l:List dn)(i:Nat):V (lS (l.take i))<=V (lS l):=by
 have h:lS l=lS (l.take i)++lS (l.drop i):=by unfold lS;grind[List.take_append_drop]
 grind
theorem Cn{l:List dn}(h:i<V l):ik (l.take (i+1))=(fh (l.getD i (0,[])).2).foldl jF (ik (l.take i)):=by unfold ik;grind[cW]
def uJ(l:List dn):∀i,i<=V l->V (ik (l.take i))<=V (lS (l.take i))
 |0,_=>by simp[ik]
 |i+1,h=>by have a:=uJ l i aq;grind[gL,jZ,Cn,vT]
def LK(s:bA)(m:mj s)(u:V s.2.1<=4000000)(y:V (lS s.2.1)<=4000000):Ev X 68 [n5 s] [] (cI.sl (ik s.2.1)) []:=by
 refine Ev.bQ Tryz.func68 rfl λw=>?_;have b:b5 X [(32,Cm),(31,As)]:=.cons GG (.cons GH .nil);refine cp b Z an (I.cm 1 (λi=>i<=V s.2.1) (λi:Nat=>[(1,cE 0 0),(3,cI.sl (ik (s.2.1.take i))),(4,dI i)]) (λ_=>[Wm s]) (λi=>V s.2.1-i) 0 Z (by simp[ik]) Z ay Z aq ?_);intro i hi;by_cases h:i<V s.2.1
 .have o:s.2.1.getD i dY.cy=s.2.1.getD i (0,[]):=rfl;have r:=m _ (kS (d:=(0,[])) h);have f:=vT h;have q:=I7 s.2.1 (i+1);have t:=uJ s.2.1 i hi;have m:=Cn h;rw[f,cj]at q;generalize s.2.1.getD i (0,[])=x at *;have p:=jZ x.2;generalize ik (s.2.1.take i)=a at *;refine aY b [(12,W)] Z ?_ ?_
  .simp[-aj,h,o,cL.aw,cL.aE];omega
  have n:s.2.1.getD (i:Int).toNat dY.cy=x:=by rw[bZ];exact o
  rw[n,cL.aw];refine I.cm 1 (λj=>j<=V (fh x.2)) (λj:Nat=>[(1,cE 0 0),(3,cI.sl (((fh x.2).take j).foldl jF a)),(4,dI i),(5,cI.sl (fh x.2)),(6,dI j)]) (λ_=>[Wm s]) (λj=>V (fh x.2)-j) 0 Z ay Z ay Z aq ?_;intro j v;generalize fh x.2=ns at *;by_cases g:j<V ns
  .have c:ns.getD j cI.cy=ns.getD j 0:=rfl;have k:=rB jF a g;have l:=gL a (ns.take j);rw[List.length_take]at l;generalize(ns.take j).foldl jF a=a2 at *;have e:=cI.aw a2;refine aY b [(24,W)] Z ?_ (I.aQ (j+1) Z ?_ ?_ g aq)
   .simp[-aj,c,g,e,cI.aE,cd];omega
   .rw[k];simp[-aj,c,e]
   simp
  obtain rfl:j=V ns:=aq;rw[de,<-m];refine aY b [(24,ae)] Z ay (I.br Z Z ?_);refine cp b Z ek (I.aQ (i+1) Z ay ?_ h aq);simp
 obtain rfl:i=V s.2.1:=aq;rw[de];refine aY b [(12,ae)] Z ay (I.br Z Z ?_);exact cp b Z an (I.bE Z)
abbrev Co:eP:=lW XQ (λs=>cI.sl (ik s.2.1)) λs=>[mj s,V s.2.1<=4000000,V (lS s.2.1)<=4000000]
def I8:fp X 68 Co:=.rl λs h=>LK s h.1 h.2.1 h.2.2
abbrev bS:=bA×List Int×List Int
abbrev fSt:FA bA:=fP (fL cP) (fP (fL dY) (fL cH))
abbrev fSw:FA bS:=fP fSt (fP (fL cI) (fL cI))
abbrev m6(c:lX α)(l:List α):A:=.c (.sl ae c.k (V l) (c.fn l))
abbrev swA(w:bS):List A:=[m6 cP w.1.1,m6 dY w.1.2.1,m6 cH w.1.2.2,m6 cI w.2.1,m6 cI w.2.2]
abbrev sJ(w:bS):D:=.e (.agg (swA w))
structure SmS(s:bA):Prop where
 pN:V s.1<=4000000
 sm:mj s
 sN:V s.2.1<=4000000
 aN:V (lS s.2.1)<=4000000
def px(ps:List bz)(l:List Int)(i:Nat):Bool:=(ps.any λp=>p.1==l.getD i 0)&&Ck (λx=>x) 0 l i
def fJ(k:Int)(w:bS):Bool:=(ik w.1.2.1).all (λn=>w.2.1.contains n)&&(bl (V w.2.2)).all (px w.1.1 w.2.2)&&fX k w.1
def UJ{l:List Int}{p:Int->Bool}:l.all p=(bl (V l)).all λi=>p (l.getD i 0):=by rw[pO,dG,bL];grind[List.mem_iff_getElem]
def Py{l:List bz}{p:bz->Bool}(h:j<V l):(l.take (j+1)).any p=((l.take j).any p||p (l.getD j (0,[]))):=vn
abbrev rK(w:bS):bq:=.cells 30 (swA w)
def I9(k:Int)(w:bS)(g:SmS w.1):Ev X 26 [dI k,sJ w] [] (dB (fJ k w)) []:=by
 refine Ev.bQ Tryz.func26 rfl λy=>?_;have c:b5 X [(68,Co),(69,I3),(70,uI)]:=.cons I8 (.cons NX (.cons yD .nil));have C:=y.Uy 1 Z 4 Z;have t:=uJ w.1.2.1 _ (bm _);rw[de]at t;have A:=g.aN;refine cp c Z ?_ ?_
 .simp[cP.aw,cP.aE,dY.aw,dY.aE,cH.aw,cH.aE,g.sm,g.sN,g.aN]
 rw[dY.aw];unfold fJ;rw[UJ];generalize ik w.1.2.1=ms at *;refine I.cm 1 (λi=>i<=V ms/\∀j,j<i->w.2.1.contains (ms.getD j 0)=W) (λi:Nat=>[(0,dI k),(3,cE 0 0),(5,cI.sl ms),(6,dI i)]) (λ_=>[rK w]) (λi=>V ms-i) 0 Z ay Z ay Z ⟨by omega,by omega⟩ ?_;rintro i ⟨hi,a⟩;by_cases h:i<V ms
 .have q:ms.getD i cI.cy=ms.getD i 0:=rfl;cases s:w.2.1.contains (ms.getD i 0)with
  |false =>
   refine aY c [(16,W),(26,W)] Z ?_ (I.gp (cM.zero Z ?_))
   .simp[-aj,-List.contains_eq_mem,q,h,s,cI.aw,cI.aE]
   rw[ij h s];simp
  |true =>
   refine aY c [(16,W),(26,ae)] Z ?_ (I.aQ (i+1) Z ay ay ⟨h,iW a s⟩ aq);simp[-aj,-List.contains_eq_mem,q,h,s,cI.aw,cI.aE,cd];omega
 obtain rfl:i=V ms:=aq;rw[dG.2 a,gy];refine aY c [(16,ae)] Z ay (I.br Z Z ?_);refine cp c Z an (I.cm 1 (λi=>i<=V w.2.2/\∀j,j<i->px w.1.1 w.2.2 j=W) (λi:Nat=>[(0,dI k),(3,cE 0 0),(7,dI i)]) (λ_=>[rK w]) (λi=>V w.2.2-i) 0 Z ay Z ay Z ⟨by omega,by omega⟩ ?_);rintro i ⟨hi,a⟩;by_cases h:i<V w.2.2
 .have q:w.2.2.getD i cI.cy=w.2.2.getD i 0:=rfl;have r:w.2.2.getD (i-1) cI.cy=w.2.2.getD (i-1) 0:=rfl;have m:px w.1.1 w.2.2 i=((w.1.1.any λp=>p.1==w.2.2.getD i 0)&&Ck (λx=>x) 0 w.2.2 i):=rfl;have v:=qh (f:=λx:Int=>x) (d:=0) (l:=w.2.2) (i:=i);generalize w.2.2.getD i 0=n at *;generalize w.2.2.getD (i-1) 0=n' at *;refine aY c [(31,W)] Z kT (I.cm 1 (λj=>j<=V w.1.1) (λj:Nat=>[(0,dI k),(3,cE 0 0),(7,dI i),(8,dB ((w.1.1.take j).any λp=>p.1==n)),(9,dI j)]) (λ_=>[rK w]) (λj=>V w.1.1-j) 0 Z ay Z ay Z aq ?_);intro j D;by_cases o:j<V w.1.1
  .have G:=g.pN;have E:w.1.1.getD j cP.cy=w.1.1.getD j (0,[]):=rfl;have z:=Py (p:=λp=>p.1==n) o;generalize w.1.1.getD j (0,[])=p at *;generalize(w.1.1.take j).any (λp=>p.1==n)=b at *;cases b with
   |true =>
    refine aY c [(39,W)] Z ?_ (I.aQ (j+1) Z ?_ ?_ o aq)
    .simp[o,cd];omega
    .exact ek
    simp
   |false =>
    refine aY c [(39,W)] Z ?_ (I.aQ (j+1) Z ?_ ?_ o aq)
    .simp[-aj,h,o,cd];omega
    .exact ek
    simp
  obtain rfl:j=V w.1.1:=aq;rw[de];refine aY c [(39,ae)] Z ay (I.br Z Z ?_);cases u:w.1.1.any (λp=>p.1==n)with
  |false =>
   rw[u,uj]at m;refine aY c [(77,W)] Z ay (I.gp (cM.zero Z ?_));rw[ij h m];simp
  |true =>
   rw[u,gy]at m;by_cases B:i=0
   .subst B;refine aY c [(63,ae),(77,ae)] Z ?_ (I.aQ 1 Z ay ay ⟨h,iW a ek⟩ aq);simp[cd]
   by_cases F:n'<n
   .refine aY c [(63,W),(75,ae),(77,ae)] Z ?_ (I.aQ (i+1) Z ay ay ⟨h,iW a az⟩ aq);simp[-aj,q,r,h,cd];omega
   refine aY c [(63,W),(75,W),(77,W)] Z ?_ (I.gp (cM.zero Z ?_))
   .simp[-aj,q,r,h,cd];omega
   rw[ij h az];simp
 obtain rfl:i=V w.2.2:=aq;rw[dG.2 a,gy];refine aY c [(31,ae)] Z ay (I.br Z Z ?_);refine cp c Z ?_ (I.bE Z ?_)
 .simp[cP.aw,cP.aE,dY.aw,dY.aE,cH.aw,cH.aE,g.sm,g.sN,g.pN]
 simp[cP.aw,dY.aw,cH.aw]
abbrev yE:eP:=qb aI (aAg fSw) (λk w=>dB (fJ k w)) λ_ w=>[SmS w.1]
def Eu:fp X 26 yE:=.s9 λk w h=>I9 k w h
theorem IH{s r:Bs}(h:cV s=W)(a:∀b∈r,b∈s):cV r=W:=by unfold cV at h⊢;grind
def B5{t:Bs}(b:cV t=W):∀k f,∀p∈gV t k f,bH p=W
 |0,_,p,a=>by exact ek
 |k+1,f,p,a=>by
  simp only[gV]at a;split at a
  .rename_i h;have d:=pg t f h;rcases eQ.1 a with rfl|a
   .have c:V ((t.drop f).take (fH t f-f))=fH t f-f:=az;simp only[bH,cu,bu];grind[IH]
   exact B5 b k _ p a
  grind
def ru{t:Bs}(a:cV t=W):∀p∈bR t,bH p=W:=B5 a _ _
def ze(t:Bs):∀k f,V (gV t k f)<=k
 |0,_=>bm _
 |k+1,f=>by
  simp only[gV];split
  .have:=ze t k (fH t f);grind
  simp
theorem lO(t:Bs):V (bR t)<=V t:=ze t _ _
def jY(t:List bF):List Bs:=t.flatMap λf=>bR f.2
def Ep{t:List bF}(h:i<V t):jY (t.take (i+1))=jY (t.take i)++bR (t.getD i ([],[])).2:=by rw[cW h ([],[])];simp[jY]
def NR(t:List bF)(i:Nat):V (jY (t.take i))<=V (jY t):=by
 have h:jY t=jY (t.take i)++jY (t.drop i):=by unfold jY;grind[List.take_append_drop]
 grind
def yr(k:Int)(l:List cX)(ps:List Bs):∀a:List Bs,V (ps.foldl (kl k l) a)<=V a+V ps:=by
 induction ps with
 |nil=>grind
 |cons p r b =>
  intro a;have d:=b (kl k l a p);have c:V (kl k l a p)<=V a+1:=by unfold kl;split<;>simp
  grind
abbrev Un:eP:=qb (aL sS) aI (λl n=>dI (ml l n)) λl _=>[V l<=4000000]
def acN:fp X 127 Un:=.s9 λl n h=>TX l n h
abbrev aax:eP:=qb (aL cS) aS (λl p=>dB (l.contains p)) λl _=>[V l<=4000000]
def af0:fp X 129 aax:=.s9 λl p h=>XY l p h
abbrev dV0(a:List Bs):D:=.e (.bX (.dk 0 1 (V a) (cS.fn a)))
structure BY(t:List bF):Prop where
 len:V t<=4000000
 yq:∀f∈t,cV f.2=W/\V f.2<=4000000
 all:V (jY t)<=100000
def Ud(k:Int)(t:List bF)(l:List cX)(hk:cN k=W)(m:BY t)(D:V l<=4000000):Ev X 76 [dI k,cF.sl t,sS.sl l] [] (cS.sl (eK k t l)) []:=by
 refine Ev.bQ Tryz.func76 rfl λC=>?_;have c:b5 X [(126,NL),(128,Gw),(127,Un),(129,aax)]:=.cons T8 (.cons Gu (.cons acN (.cons af0 .nil)));refine bj c [(1000002,W)] Z an (I.jK 7 9 1 Z Z ?_);refine cY c Z an (I.cm 1 (λi=>i<=V t) (λi:Nat=>[(0,dI k),(1,cF.sl t),(2,sS.sl l),(7,dV0 ((jY (t.take i)).foldl (kl k l) [])),(8,dI i)]) (λi=>[.dk 9 1 (V ((jY (t.take i)).foldl (kl k l) [])) (cS.fn ((jY (t.take i)).foldl (kl k l) []))]) (λi=>V t-i) 0 Z ?_ Z ?_ Z aq ?_)
 .simp[jY]
 .simp[jY]
 intro i hi;by_cases h:i<V t
 .have z:t.getD (i:Int).toNat cF.cy=t.getD i ([],[]):=az;have g:t.getD i ([],[])∈t:=az;obtain⟨w,q2⟩:=m.yq _ g;have q:=Ep h;have r:=NR t (i+1);have v:=m.all;have y:=m.len;have n:=ru w;generalize t.getD i ([],[])=f at *;rw[q,cj]at r;refine bj c [(15,W)] Z fC ?_;rw[z];refine I.cm 1 (λj=>j<=V (bR f.2)) (λj:Nat=>[(0,dI k),(1,cF.sl t),(2,sS.sl l),(7,dV0 ((jY (t.take i)++(bR f.2).take j).foldl (kl k l) [])),(8,dI i),(9,cS.sl (bR f.2)),(10,dI j)]) (λj=>[.dk 9 1 (V ((jY (t.take i)++(bR f.2).take j).foldl (kl k l) [])) (cS.fn ((jY (t.take i)++(bR f.2).take j).foldl (kl k l) []))]) (λj=>V (bR f.2)-j) 0 Z ay Z ay Z aq ?_;intro j B;have o:=yr k l (jY (t.take i)++(bR f.2).take j) [];simp only[gk,cj,List.length_take]at o;by_cases A:j<V (bR f.2)
  .have b:(bR f.2).getD (j:Int).toNat cS.cy=(bR f.2).getD j []:=az;have d:bH ((bR f.2).getD j [])=W:=n _ az;have a:(jY (t.take i)++(bR f.2).take (j+1)).foldl (kl k l) []=kl k l ((jY (t.take i)++(bR f.2).take j).foldl (kl k l) []) ((bR f.2).getD j []):=vn;generalize(jY (t.take i)++(bR f.2).take j).foldl (kl k l) []=gf at *;generalize(bR f.2).getD j []=p at *;have s:=cS.cw gf p;by_cases e:ml l (fb k p)=0
   .cases u:gf.contains p with
    |true =>
     rw[kl,bc az]at a;refine bj c [(27,W),(38,W),(45,W)] Z ?_ (I.aQ (j+1) Z ?_ ?_ ?_ ?_)
     .simp only[aA,b,hk,d,e,u,cd,cS.aw,sS.aw,kh,bu,aX,aW];and_intros<;>first|exact cS.aE _|exact sS.aE _|omega
     .rw[a];simp
     .rw[a];simp
     .grind
     omega
    |false =>
     rw[kl,bh az]at a;refine bj c [(27,W),(38,W),(45,ae)] Z ?_ (I.aQ (j+1) Z ?_ ?_ ?_ ?_)
     .simp only[aA,b,hk,d,e,u,cd,show i9.bytes=16 from Z,cS.aw,sS.aw,kh,bu,aX,aW];and_intros<;>first|exact cS.aE _|exact sS.aE _|omega
     .rw[a];simp only[aA.eu,aA,b,cj,eU,gk,aX,aW];and_intros<;>first|exactλ_ _=>rfl|exact s|rfl|omega
     .rw[a];simp only[aA.eu,aA,b,cj,eU,gk,aX,aW];and_intros<;>first|exact s|rfl|omega
     .grind
     omega
   rw[kl,bc az]at a;refine bj c [(27,W),(38,ae)] Z ?_ (I.aQ (j+1) Z ?_ ?_ ?_ ?_)
   .simp only[aA,b,hk,d,cd,sS.aw,eC,dO,e,oO,bu,aX,aW];and_intros<;>first|exact sS.aE _|omega
   .rw[a];simp
   .rw[a];simp
   .grind
   omega
  have x:j=V (bR f.2):=aq;refine bj c [(27,ae)] Z c9 (I.br Z Z ?_);exact cY c Z ek (I.aQ (i+1) Z fC fC az aq)
 obtain rfl:i=V t:=aq;rw[de];refine bj c [(15,ae)] Z ay (I.br Z Z ?_);refine cY c Z an (I.bE Z ?_);simp[eK,jY]
abbrev oi(k:Int)(ps:List Bs):List Int:=ps.map (fb k)
abbrev qA(k:Int)(t:List bF):List iU:=t.map (nO k)
abbrev aay(no:Int)(ls:List iU):List bq:=[.cells 42 [.c (.int .i64 0),.c (.sl W 0 0 λ_=>[])],.cells 42 [.c (.int .i64 no),.dk 2 2 (V ls) (cL.fn ls)],.dk 76 2 (V ls) (cL.fn ls)]
def X5(no k:Int)(t:List bF)(hk:cN k=W)(o:BY t):Ev X 79 [dI no,dI k,cF.sl t] [] (Ke (di no k t)) []:=by
 refine Ev.lA bO Tryz.func79 rfl rfl rfl λz=>?_;have a:b5 X [(126,NL),(128,Gw)]:=.cons T8 (.cons Gu .nil);refine bj a [(1000002,W)] Z an (I.iQ 1 1 76 2 (cL.fn []) Z Z ?_);refine cY a Z an (I.cm 3 (λi=>i<=V t) (λi:Nat=>[(1,dI k),(2,cF.sl t),(6,cE 0 0),(7,cE 1 0),(8,dI i)]) (λi=>aay no (qA k (t.take i))) (λi=>V t-i) 0 Z ay Z ay Z aq ?_);intro i hi;by_cases h:i<V t
 .have r:t.getD (i:Int).toNat cF.cy=t.getD i ([],[]):=az;have d:t.getD i ([],[])∈t:=az;obtain⟨s,q2⟩:=o.yq _ d;have u:=o.len;have l:=ru s;have x:=lO (t.getD i ([],[])).2;have g:qA k (t.take (i+1))=qA k (t.take i)++[nO k (t.getD i ([],[]))]:=vn;have v:V (qA k (t.take i))=i:=az;generalize t.getD i ([],[])=f at *;generalize qA k (t.take i)=ls at *;refine bj a [(18,W),(1000007,W)] Z fC ?_;rw[r];refine I.jK 10 3 1 Z Z ?_;refine cY a Z an (I.cm 4 (λj=>j<=V (bR f.2)) (λj:Nat=>[(1,dI k),(2,cF.sl t),(6,cE 0 0),(7,cE 1 0),(8,dI i),(9,cS.sl (bR f.2)),(10,.e (.bX (.dk 3 1 j (cI.fn (oi k ((bR f.2).take j)))))),(11,dI j)]) (λj=>aay no ls++[.dk 3 1 j (cI.fn (oi k ((bR f.2).take j)))]) (λj=>V (bR f.2)-j) 0 Z ay Z ay Z aq ?_);intro j p;by_cases y:j<V (bR f.2)
  .have b:(bR f.2).getD (j:Int).toNat cS.cy=(bR f.2).getD j []:=az;have n:bH ((bR f.2).getD j [])=W:=l _ az;have c:=cI.cw (oi k ((bR f.2).take j)) (fb k ((bR f.2).getD j []));rw[show(oi k ((bR f.2).take j)).length=j by grind,show oi k ((bR f.2).take j)++[fb k ((bR f.2).getD j [])]=oi k ((bR f.2).take (j+1)) by grind[cW]]at c;refine bj a [(31,W)] Z ?_ (I.aQ (j+1) Z ?_ ?_ ?_ ?_)
   .simp only[aA,b,hk,n,cd,show i3.bytes=8 from Z,bu,aX,aW];and_intros<;>omega
   .simp only[aA.eu,aA,b,aX,aW];and_intros<;>first|exactλ_ _=>rfl|exact c|rfl|omega
   .simp only[aA.eu,aA,b,aX,aW];and_intros<;>first|exactλ_ _=>rfl|exact c|rfl|omega
   .grind
   omega
  have m:j=V (bR f.2):=aq;rw[m,de];have c:=cL.cw ls (nO k f);have q:V ls+1=V (ls++[nO k f]):=ay;have w:cL.enc (nO k f)=[C.du f.1,C.sl ae 1 (V (bR f.2)) (cI.fn (oi k (bR f.2)))]:=by show[C.du f.1,C.sl ae 1 (V (oi k (bR f.2))) (cI.fn (oi k (bR f.2)))]=_;grind
  rw[w,<-g]at c;rw[<-g]at q;refine bj a [(31,ae)] Z ay (I.br Z Z ?_);refine cY a Z ?_ (I.aQ (i+1) Z ?_ ?_ ?_ ?_)
  .simp only[aA,cd,show i76.bytes=40 from Z,aX,aW];and_intros<;>omega
  .simp
  .simp only[aA.eu,aA,r,aX,aW];and_intros<;>first|exact eW.same|exact c|exact q|rfl
  .grind
  omega
 obtain rfl:i=V t:=aq;rw[de];refine bj a [(18,ae)] Z ay (I.br Z Z ?_);refine cY a Z an (I.nJ () [] Z Z Z Z Z Z Z Z ?_ Z Z Z Z (λj p=>absurd p ay));simp[di]
def ry(f g:Nat->List C):dv 0 f g=g:=by funext i;simp[dv]
abbrev wo(s:bA):bq:=.cells 27 [.c (.sl ae 2 (V s.1) (cP.fn s.1)),.c (.sl ae 2 (V s.2.1) (dY.fn s.2.1)),.c (.sl ae 2 (V s.2.2) (cH.fn s.2.2))]
def Gy{a b:Int}(m:Int)(h:o.op=.call {callee:=.builtin .max,args:=#[x,y],argTypes:=lh})(l:η x=dI a)(k:η y=dI b)(q:max a b=m)(n:cd .i64 m):bU ag o η U (dI m) U:=by refine .dw λs j p i=>?_;have f:=i x;have c:=i y;rw[l]at f;rw[k]at c;replace f:=gG f;replace c:=gG c;generalize d:j x=vx at f;generalize g:j y=vy at c;cases f;cases c;have e:(if a<b then b else a)=m:=az;exact⟨.int .i64 m,by simp[ar,h,resolve,invoke,builtin,d,g,Builtin.max_,Builtin.max2,e],.int n,by simp[ar,h,resolve,invoke,builtin,d,g,Builtin.max_,Builtin.max2]⟩
def dc(s:bA):Int:=if V s.1=0 then 1 else(s.1.getD (V s.1-1) (0,[])).1+1
def rz(l:List (Int×Int)):Int:=l.foldl (λm h=>max m (h.2+1)) 1
def cq(s:bA):Int:=if V s.2.1=0 then rz s.2.2 else max (rz s.2.2) ((s.2.1.getD (V s.2.1-1) (0,[])).1+1)
structure yv(st:bA):Prop where
 p:∀x∈st.1,-4000000<=x.1/\x.1<=4000000
 s:∀x∈st.2.1,-4000000<=x.1/\x.1<=4000000
 h:∀x∈st.2.2,-4000000<=x.2/\x.2<=4000000
def pq(l:List (Int×Int))(h:∀x∈l,-4000000<=x.2/\x.2<=4000000):1<=rz l/\rz l<=4000001:=by
 have:∀(l:List (Int×Int)) (m:Int),(∀x∈l,-4000000<=x.2/\x.2<=4000000)->1<=m->m<=4000001->1<=l.foldl (λm h=>max m (h.2+1)) m/\l.foldl (λm h=>max m (h.2+1)) m<=4000001:=by
  intro l;induction l with
  |nil=>grind
  |cons x r a =>
   grind
 exact this l 1 h aq aq
def LF{l:List (Int×Int)}(h:i<V l):rz (l.take (i+1))=max (rz (l.take i)) ((l.getD i (0,0)).2+1):=by unfold rz;grind[cW]
def gv{l:List α}(h:i<V l)(d:α):l.getD i d∈l:=az
def Pj(s:bA)(d:iw s)(b:yv s):Ev X 75 [n5 s] [] (.gI [.bX (.c (.int .i64 (dc s))),.bX (.c (.int .i64 (cq s)))]) []:=by
 refine Ev.bQ Tryz.func75 rfl λo=>?_;have m:=d.p;have g:=d.sn;have n:=d.h;apply I.tG [(1,cE 0 0),(4,dI (dc s)),(5,dI 1)] [wo s]
 .intro gf;by_cases h:V s.1=0
  .exact bM [(10,ae),(1000005,W)] Z fC (gf _ _ Z (by simp[dc,h]))
  have f:=b.p _ (gv (show V s.1-1<V s.1 by omega) (0,[]));have a:s.1.getD ((V s.1:Int)-1).toNat cP.cy=s.1.getD (V s.1-1) (0,[]):=by rw[show((V s.1:Int)-1).toNat=V s.1-1 by omega];rfl
  refine bM [(10,W),(1000005,W)] Z ?_ ?_
  .simp only[aA,a,cd,bu,aX,aW];and_intros<;>omega
  exact gf _ _ Z (by simp only[aA.eu,aA,dc,bc h,a,aX,aW])
 refine dj Z an (I.cm 1 (λi=>i<=V s.2.2) (λi:Nat=>[(1,cE 0 0),(4,dI (dc s)),(5,dI (rz (s.2.2.take i))),(6,dI i)]) (λi=>[wo s]) (λi=>V s.2.2-i) 0 Z ?_ Z ?_ Z aq ?_)
 .simp[rz]
 .simp
 intro i hi;by_cases h:i<V s.2.2
 .have f:=b.h _ (gv h (0,0));have j:=pq (s.2.2.take i) λx l=>b.h x (hO l);have a:s.2.2.getD (i:Int).toNat cH.cy=s.2.2.getD i (0,0):=az;have k:=LF h;refine bM [(25,W)] Z ?_ ?_
  .simp only[aA,a,cd,bu,aX,aW];and_intros<;>omega
  rw[a];refine I.gH (Gy (rz (s.2.2.take (i+1))) Z Z Z k.symm yW) Z Z ?_;exact dj Z ek (I.aQ (i+1) Z ay ay az aq)
 obtain rfl:i=V s.2.2:=aq;rw[de];refine bM [(25,ae)] Z ay (I.br Z Z ?_);have j:=pq s.2.2 b.h;by_cases h:V s.2.1=0
 .refine bM [(40,ae)] Z fC (I.bE Z ?_);simp[cq,h]
 have f:=b.s _ (gv (show V s.2.1-1<V s.2.1 by omega) (0,[]));have a:s.2.1.getD ((V s.2.1:Int)-1).toNat dY.cy=s.2.1.getD (V s.2.1-1) (0,[]):=Zm;refine bM [(40,W)] Z ?_ ?_
 .simp only[aA,a,cd,bu,aX,aW];and_intros<;>omega
 rw[a];refine I.gH (Gy (cq s) Z Z Z (by rw[cq,bc h]) (by rw[cq,bc h];simp only[cd];omega)) Z Z ?_;exact dj Z an (I.bE Z)
abbrev acO(s:bA)(i:Nat)(p:List bz)(j:Nat)(q:List dn):List bq:=[wo s,.cells 27 [iI,iI,iI],.dk 126 2 (V s.2.2) (cH.fn s.2.2),.cells 27 [.dk 4 2 i (cP.fn p),.dk 5 2 j (dY.fn q),.dk 2 2 (V s.2.2) (cH.fn s.2.2)],.dk 83 2 i (cP.fn p),.dk 42 2 j (dY.fn q)]
def mM(s:bA)(r:V s.1<=4000000)(g:∀p∈s.1,V p.2<=4000000)(t:V s.2.1<=4000000)(f:mj s)(u:V s.2.2<=4000000):
  Ev X 74 [n5 s] [] (.e (.agg [.dk 0 2 (V s.1) (cP.fn s.1),.dk 1 2 (V s.2.1) (dY.fn s.2.1),.dk 2 2 (V s.2.2) (cH.fn s.2.2)])) [.dk 83 2 (V s.1) (cP.fn s.1),.dk 42 2 (V s.2.1) (dY.fn s.2.1),.dk 126 2 (V s.2.2) (cH.fn s.2.2)]:=by
 refine Ev.lA bO Tryz.func74 rfl rfl rfl λo=>?_;refine bM [(1000002,W)] Z ?_ ?_
 .simp only[aA,show Uf.bytes=16 from Z,aX,aW,ox];grind
 refine I.iQ 3 0 83 2 (cP.fn []) Z Z ?_;refine I.iQ 3 1 42 2 (dY.fn []) Z Z ?_;refine dj Z an (I.cm 6 (λi=>i<=V s.1) (λi:Nat=>[(1,cE 0 0),(2,cE 1 0),(3,cE 3 0),(4,dI i)]) (λi=>acO s i (s.1.take i) 0 []) (λi=>V s.1-i) 0 Z ay Z ?_ Z aq ?_)
 .simp[eW,ry]
 intro i hi;by_cases h:i<V s.1
 .have d:s.1.getD i (0,[])∈s.1:=az;have a:s.1.getD (i:Int).toNat cP.cy=s.1.getD i (0,[]):=az;have q:=g _ d;refine bM [(20,W),(2000038,W)] Z ?_ (I.aQ (i+1) Z ?_ ?_ ?_ ?_)
  .simp only[aA,a,cd,show i83.bytes=32 from Z,show yx.bytes=24 from Z,bu,ox,aX,aW];and_intros<;>omega
  .simp
  .have e:=cP.qc s.1 h (0,[]);simp only[aA.eu,aA,a,ry,b8,aW,aX];and_intros<;>first|exactλ_ _=>rfl|exact e|rfl|omega
  .grind
  omega
 obtain rfl:i=V s.1:=aq;rw[de];refine bM [(20,ae)] Z ay (I.br Z Z ?_);refine dj Z an (I.cm 6 (λi=>i<=V s.2.1) (λi:Nat=>[(1,cE 0 0),(2,cE 1 0),(3,cE 3 0),(5,dI i)]) (λi=>acO s (V s.1) s.1 i (s.2.1.take i)) (λi=>V s.2.1-i) 0 Z ay Z ay Z aq ?_);intro i hi;by_cases h:i<V s.2.1
 .have d:s.2.1.getD i (0,[])∈s.2.1:=az;have a:s.2.1.getD (i:Int).toNat dY.cy=s.2.1.getD i (0,[]):=az;have q:=f _ d;have e:=dY.qc s.2.1 h (0,[]);generalize s.2.1.getD i (0,[])=x at *;refine bM [(47,W),(1000010,W)] Z c9 ?_;rw[a];refine I.iQ 6 1 76 2 (cL.fn []) Z Z ?_;refine dj Z an (I.cm 8 (λj=>j<=V x.2) (λj:Nat=>[(1,cE 0 0),(2,cE 1 0),(3,cE 3 0),(5,dI i),(6,cE 6 0),(7,dI j)]) (λj=>acO s (V s.1) s.1 i (s.2.1.take i)++[.cells 42 [.c (.int .i64 x.1),.dk 7 2 j (cL.fn (x.2.take j))],.dk 76 2 j (cL.fn (x.2.take j))]) (λj=>V x.2-j) 0 Z ay Z ay Z aq ?_);intro j k;by_cases l:j<V x.2
  .have b:x.2.getD (j:Int).toNat cL.cy=x.2.getD j ([],[]):=az;have n:=q.2 (x.2.getD j ([],[])) az;have m:=cL.qc x.2 l ([],[]);refine bM [(66,W),(2000085,W)] Z ?_ (I.aQ (j+1) Z ?_ ?_ ?_ ?_)
   .simp only[aA,a,b,cd,show i76.bytes=40 from Z,show i3.bytes=8 from Z,bu,ox,aX,aW];and_intros<;>omega
   .simp
   .simp only[aA.eu,aA,a,b,ry,b8,aW,aX];and_intros<;>first|exactλ_ _=>rfl|exact m|rfl
   .grind
   omega
  obtain rfl:j=V x.2:=aq;rw[de];refine bM [(66,ae)] Z ?_ (I.br Z Z ?_)
  .simp only[aA,a,dm];and_intros<;>omega
  refine dj Z ?_ (I.aQ (i+1) Z ?_ ?_ ?_ ?_)
  .simp only[aA,a,cd,show i42.bytes=32 from Z,aX,aW];and_intros<;>omega
  .simp
  .simp only[aA.eu,aA,aW,aX];and_intros<;>first|exactλ_ _=>rfl|exact e|rfl|omega
  .grind
  omega
 obtain rfl:i=V s.2.1:=aq;rw[de];refine bM [(47,ae)] Z ay (I.br Z Z ?_);refine dj Z an (I.nJ () [4,5,2] Z Z Z Z Z Z Z Z ?_ Z Z Z Z (λj k=>absurd k ay));simp
def _root_.Go.AM.lX.Ph(c:lX α)(l:List α)(a:eW n es (c.fn l))(b:n<=V l):c.cz n es=l.take n:=by
 apply uh
 .simp[lX.cz];omega
 intro i h1 h2;have hi:i<n:=az;simp[lX.cz,a i hi,lX.fn,Dk,aj,bD (show i<V l by omega),c.inv]
def _root_.Go.AM.lX.X4(c:lX α)(l:List α)(a:eW n es (c.fn l)):c.pd n es:=λi hi=>by rw[a i hi];exact c.aE l i (Nat.lt_succ_self i)
def T9(a b:Nat):min (a:Int) (b:Int)=((min a b:Nat):Int):=az
def ga(k:Int):Nat->Int->List Bs->List bz
 |0,_,_=>[]
 |f+1,no,ps=>if 0<V ps then gF no k (ps.take 4)::ga k f (no+1) (ps.drop 4)else[]
def nN(k:Int)(s:bA)(t:List bF):List bz:=ga k (V (eK k t (dh s.1))) (dc s) (eK k t (dh s.1))
def fx(k:Int)(s:bA)(t:List bF):Bool:=decide (20<V s.1+V (nN k s t))||(decide (99<dc s+V (nN k s t)-1)||(decide (20<cq s)||decide (9<=V s.2.2)))
def dZ(k:Int)(s:bA)(by_:Int)(t:List bF):bA:=(s.1++nN k s t,s.2.1++[di (cq s) k t],s.2.2++[(by_,cq s)])
theorem BX(k:Int):∀f no ps,V (ga k f no ps)<=f
 |0,_,_=>bm _
 |f+1,no,ps=>by
  simp only[ga];split
  .have:=BX k f (no+1) (ps.drop 4);grind
  simp
abbrev Ua:eP:=Kc aI aI (aL cS) (λno k ps=>vN (gF no k ps)) λ_ k ps=>[cN k=W,∀p∈ps,bH p=W,V ps<=4000000]
def acJ:fp X 78 Ua:=.QD λno k ps h=>Ub no k ps h.1 h.2.1 h.2.2
abbrev aar:eP:=Kc aI aI (aL cF) (λno k t=>Ke (di no k t)) λ_ k t=>[cN k=W,BY t]
def afS:fp X 79 aar:=.QD λno k t h=>X5 no k t h.1 h.2
abbrev Uc:eP:=Kc aI (aL cF) (aL sS) (λk t l=>cS.sl (eK k t l)) λk t l=>[cN k=W,BY t,V l<=4000000]
def acK:fp X 76 Uc:=.QD λk t l h=>Ud k t l h.1 h.2.1 h.2.2
def jX{t:List bF}{l:List cX}(c:BY t):(∀p∈eK k t l,bH p=W)/\V (eK k t l)<=100000:=by
 constructor
 .have:∀(ps a:List Bs),(∀p∈ps,bH p=W)->(∀p∈a,bH p=W)->∀p∈ps.foldl (kl k l) a,bH p=W:=by
   intro ps;induction ps with
   |nil=>grind
   |cons q r h =>
    intro a g d;refine h _ (λp b=>g p (lY _ b)) λp b=>?_;unfold kl at b;grind
  refine this _ [] (λp b=>?_) ay;obtain⟨f,e,b⟩:=rP.1 b;exact ru (c.yq f e).1 p b
 have:=yr k l (jY t) [];have d:=c.all;unfold eK;simp only[gk]at this;exact hZ this aq
theorem zd{l:List bz}(h:V (dC l)<=100000):V (dh l)<=100000:=by unfold dh;grind[yt]
abbrev ajE(k by_ no:Int)(s:bA)(t:List bF)(rest:List Bs):Fr:=[(0,dI k),(2,dI by_),(3,cF.sl t),(5,cE 0 0),(8,cE 1 0),(10,cE 5 0),(11,dI no),(12,dI (cq s)),(13,cS.sl rest)]
abbrev afT(s:bA)(ps:List bz):List bq:=[wo s,.cells 27 [iI,iI,iI],.dk 83 2 (V ps) (cP.fn ps),.dk 42 2 (V s.2.1) (dY.fn s.2.1),.dk 126 2 (V s.2.2) (cH.fn s.2.2),.cells 27 [.dk 2 2 (V ps) (cP.fn ps),.dk 3 2 (V s.2.1) (dY.fn s.2.1),.dk 4 2 (V s.2.2) (cH.fn s.2.2)]]
abbrev tSt(s:bA)(b:Bool):D:=.gI [.agg [.c (.sl ae 2 (V s.1) (cP.fn s.1)),.c (.sl ae 2 (V s.2.1) (dY.fn s.2.1)),.c (.sl ae 2 (V s.2.2) (cH.fn s.2.2))],.bX (.c (.bool b))]
def yu(k:Int)(s:bA)(by_:Int)(t:List bF)(hk:cN k=W)(a:iw s)(d:yv s)(u:BY t)(g:V (dC s.1)<=100000):
  Ev X 29 [dI k,n5 s,dI by_,cF.sl t] [] (tSt (if fx k s t=W then s else dZ k s by_ t) (!fx k s t)) []:=by
 refine Ev.tu Tryz.func29 rfl rfl rfl λR=>?_;have c:b5 X [(77,Ue),(76,Uc),(78,Ua),(79,aar)]:=.cons acL (.cons acK (.cons acJ (.cons afS .nil)));have S:=a.p;have Q:=a.sn;have aa:=a.h;have E:=zd g;refine cY c Z an (I.cQ (mM s a.p a.p2 a.sn a.s2 a.h) [] Z (cY c Z an (I.cQ (Pj s a d) [] Z (cY c Z ek ?_))));simp only[cP.aw,sS.aw,cF.aw];obtain⟨m,G⟩:=jX (k:=k) (l:=dh s.1) u;have P:nN k s t=ga k (V (eK k t (dh s.1))) (dc s) (eK k t (dh s.1)):=rfl;generalize eK k t (dh s.1)=pc at *;generalize r:nN k s t=np at *;have L:-4000000<=dc s/\dc s<=4000001:=by
  unfold dc;split
  .omega
  rename_i h;have:=d.p _ (gv (show V s.1-1<V s.1 by omega) (0,[]));omega
 have z:V np<=100000:=by grind[BX]
 refine I.nH (S2:=Unit) 0 Z Z (λ_=>True) (λ_=>[(0,dI k),(2,dI by_),(3,cF.sl t),(5,cE 0 0),(8,cE 1 0),(10,cE 5 0),(11,dI (dc s+V np)),(12,dI (cq s))]) (λ_=>afT s (s.1++np)) 6
  (λx:List Bs×List bz=>(∀p∈x.1,bH p=W)/\V x.2+V x.1<=5000000/\V s.1<=V x.2/\∃f,V x.1<=f/\s.1++np=x.2++ga k f (dc s+(V x.2-V s.1:Nat)) x.1) (λx=>ajE k by_ (dc s+(V x.2-V s.1:Nat)) s t x.1) (λx=>afT s x.2) (λx=>V x.1) (pc,s.1) Z ?_ Z ?_ Z ⟨m,by grind,bm _,V pc,bm _,by grind⟩ ?_ ?_
 .simp
 .simp
 .rintro gf ⟨rest,ps⟩ ⟨n,g2,K,f,w,o⟩;simp only at n g2 K w o;by_cases h:0<V rest
  .obtain⟨f,rfl⟩:∃AK,f=AK+1:=⟨f-1,by omega⟩
   simp only[ga,bh h]at o;have B:cd .i64 ((min (V rest) 4:Nat):Int):=yW;refine bj c [(30,W)] Z c9 (I.gH (BM ((min (V rest) 4:Nat):Int) Z Z Z (T9 (V rest) 4) B) Z Z ?_);have v:cS.cz (dD (V rest) (O ((min (V rest) 4:Nat):Int))-dD 0 af) (nY (dD 0 af) (cS.fn rest))=rest.take 4:=by have j:dD (V rest) (O ((min (V rest) 4:Nat):Int))-dD 0 af=min (V rest) 4:=E9;rw[j,cS.Ph rest (λi hi=>by simp[nY,dD]) aq];grind
   have N:cS.pd (dD (V rest) (O ((min (V rest) 4:Nat):Int))-dD 0 af) (nY (dD 0 af) (cS.fn rest)):=cS.X4 rest (λi hi=>by simp[nY,dD]);have D:eW (V rest-min (V rest) 4) (nY (min (V rest) 4) (cS.fn rest)) (cS.fn (rest.drop 4)):=by intro i hi;have C:min (V rest) 4=4:=aq;rw[C];simp only[nY,lX.fn,Dk,aj,pJ]
   have J:∀p∈rest.take 4,bH p=W:=λp q=>n p (hO q);have A:=cP.cw ps (gF (dc s+(V ps-V s.1:Nat)) k (rest.take 4));refine cY c Z ?_ (I.aQ (rest.drop 4,ps++[gF (dc s+(V ps-V s.1:Nat)) k (rest.take 4)]) Z ?_ ?_ ?_ ?_)
   .simp only[aA,cd,v,hk,N,List.length_take,show i83.bytes=32 from Z,aX,aW];and_intros<;>first|omega|omega
   .simp only[aA.eu,aA,cj,eU,gk,zW,dD,bZ,aX,aW];and_intros<;>first|rfl|omega|simp|exact D
   .simp only[aA.eu,aA,v,cj,eU,gk,aX,aW];and_intros<;>first|rfl|exactλ_ _=>rfl|exact A|omega
   .refine⟨λp q=>n p (tc q),by grind,by grind,f,by grind,?_⟩;grind
   grind
  have e:ps=s.1++np:=by rw[o];cases f<;>simp[ga,h]
  refine bj c [(30,ae)] Z ek (I.br Z Z ?_);refine gf () an Z ?_ Z ?_
  .simp only[aA.eu,aA,e,cj,aX,aW];and_intros<;>first|rfl|omega|simp
  simp[e]
 rintro⟨⟩ -;have M:fx k s t=(decide (20<V s.1+V np)||(decide (99<dc s+V np-1)||(decide (20<cq s)||decide (9<=V s.2.2)))):=by unfold fx;rw[r]
 have H:-4000000<=cq s/\cq s<=4000001:=by
  have:=pq s.2.2 d.h;unfold cq;split
  .omega
  rename_i h;have:=d.s _ (gv (show V s.2.1-1<V s.2.1 by omega) (0,[]));omega
 have F:V (s.1++np)=V s.1+V np:=cj;by_cases c1:20<V s.1+V np
 .have b:fx k s t=W:=az;rw[b];refine bj c [(53,W)] Z c9 (I.cQ (mM s a.p a.p2 a.sn a.s2 a.h) [] Z (cY c Z an (I.freeze 8 1 Z Z Z ?_)));refine I.tq bO [] Z ?_ Z Z Z pe;simp
 by_cases c2:99<dc s+V np-1
 .have b:fx k s t=W:=az;rw[b];refine bj c [(53,ae),(57,W)] Z ?_ ?_
  .simp only[aA,cj,cd,bu,dm,aX,aW];and_intros<;>omega
  refine I.cQ (mM s a.p a.p2 a.sn a.s2 a.h) [] Z (cY c Z an (I.freeze 8 1 Z Z Z ?_));refine I.tq bO [] Z ?_ Z Z Z pe;simp
 by_cases c3:20<cq s
 .have b:fx k s t=W:=az;rw[b];refine bj c [(53,ae),(57,ae),(61,W)] Z ?_ ?_
  .simp only[aA,cj,cd,bu,dm,aX,aW];and_intros<;>omega
  refine I.cQ (mM s a.p a.p2 a.sn a.s2 a.h) [] Z (cY c Z an (I.freeze 8 1 Z Z Z ?_));refine I.tq bO [] Z ?_ Z Z Z pe;simp
 by_cases c4:9<=V s.2.2
 .have b:fx k s t=W:=az;rw[b];refine bj c [(53,ae),(57,ae),(61,ae),(67,W)] Z ?_ ?_
  .simp only[aA,cj,cd,bu,dm,aX,aW];and_intros<;>omega
  refine I.cQ (mM s a.p a.p2 a.sn a.s2 a.h) [] Z (cY c Z an (I.freeze 8 1 Z Z Z ?_));refine I.tq bO [] Z ?_ Z Z Z pe;simp
 have b:fx k s t=ae:=az;rw[b];have j:=dY.cw s.2.1 (di (cq s) k t);have y:=cH.cw s.2.2 (by_,cq s);refine bj c [(53,ae),(57,ae),(61,ae),(67,ae)] Z ?_ ?_
 .simp only[aA,hk,cF.aw,cj,cd,show i42.bytes=32 from Z,show Uf.bytes=16 from Z,bu,dm,aX,aW];and_intros<;>first|exact u|exact cF.aE _|rfl|omega
 refine I.freeze 8 1 Z Z Z ?_;refine I.tq bO [] Z ?_ Z Z Z pe;simp only[aA.eu,aA,cF.aw,dZ,r,cj,eU,gk,aX,aW];and_intros<;>first|rfl|exactλ_ _=>rfl|exact j|exact y|simp
def Pk(l:List Int):Ev X 14 [cI.sl l,cI.sl l] [] (dB W) []:=by
 refine Ev.bQ Tryz.func14 rfl λa=>?_;have b:=a.sl 0 Z;refine ba [(10,ae)] Z ay (I.cm 0 (λi=>i<=V l) (λi:Nat=>[(0,cI.sl l),(1,cI.sl l),(5,dI i)]) (λ_=>[]) (λi=>V l-i) 0 Z ay Z ay Z aq ?_);intro i hi;by_cases h:i<V l
 .exact bM [(14,W),(25,ae)] Z KE (I.aQ (i+1) Z ay ay az aq)
 refine bM [(14,ae)] Z c6 (I.br Z Z ?_);exact dj Z an (I.bE Z)
abbrev X7:eP:=qb (aL cI) (aL cI) (λ_ _=>dB W) λa b=>[b=a]
def acM:fp X 14 X7:=.s9 λa b h=>by have:b=a:=h;subst this;exact Pk _
def Ui(l:List (Int×Int)):Ev X 42 [cH.sl l,cH.sl l] [] (dB W) []:=by
 refine Ev.bQ Tryz.func42 rfl λa=>?_;have b:=a.sl 0 Z;refine ba [(10,ae)] Z ay (I.cm 0 (λi=>i<=V l) (λi:Nat=>[(0,cH.sl l),(1,cH.sl l),(5,dI i)]) (λ_=>[]) (λi=>V l-i) 0 Z ay Z ay Z aq ?_);intro i hi;by_cases h:i<V l
 .exact bM [(14,W),(25,ae)] Z KE (I.aQ (i+1) Z ay ay az aq)
 refine bM [(14,ae)] Z c6 (I.br Z Z ?_);exact dj Z an (I.bE Z)
abbrev afV:eP:=qb (aL cH) (aL cH) (λ_ _=>dB W) λa b=>[b=a]
def ajF:fp X 42 afV:=.s9 λa b h=>by have:b=a:=h;subst this;exact Ui _
abbrev pB(p:bz):bq:=.cells 83 [.c (.int .i64 p.1),.c (.sl ae 2 (V p.2) (fO.fn p.2))]
def Pl(p:bz):Ev X 43 [vN p,vN p] [] (dB W) []:=by
 refine Ev.bQ Tryz.func43 rfl λk=>?_;by_cases n:V p.2<=9223372036854775807
 .refine ba [(10,ae),(18,ae)] Z ay (I.cm 2 (λi=>i<=V p.2) (λi:Nat=>[(2,cE 0 0),(3,cE 1 0),(5,dI i)]) (λ_=>[pB p,pB p]) (λi=>V p.2-i) 0 Z ay Z ay Z aq ?_);intro i hi;by_cases h:i<V p.2
  .refine bM [(24,W),(37,ae)] Z ?_ (I.aQ (i+1) Z ?_ ?_ ?_ ?_)
   .simp[cd,h];omega
   .simp
   .simp
   .grind
   omega
  refine bM [(24,ae)] Z c6 (I.br Z Z ?_);exact dj Z an (I.bE Z)
 exfalso;obtain⟨s,vs,g,_⟩:=k;obtain⟨o,m⟩:∃v,ey [] s v (vN p):=by
  match vs,g with
  |[a,_],g=>exact⟨a,g.1⟩
 obtain⟨l,_,d⟩:=m
 match l,d with
 |[a,c],d =>
  have:=d.2.1;cases(show Rd s.M c (.sl ae 2 (V p.2) (fO.fn p.2))from this)with
  |sl b off f j q=>omega
abbrev afW:eP:=qb (Iq fO) (Iq fO) (λ_ _=>dB W) λa b=>[b=a]
def ajG:fp X 43 afW:=.s9 λa b h=>by have:b=a:=h;subst this;exact Pl _
abbrev sB(p:dn):bq:=.cells 42 [.c (.int .i64 p.1),.c (.sl ae 2 (V p.2) (cL.fn p.2))]
def Pm(x:dn)(b:V x.2<=4000000):Ev X 44 [Ke x,Ke x] [] (dB W) []:=by
 refine Ev.bQ Tryz.func44 rfl λc=>?_;have a:b5 X [(14,X7)]:=.cons acM .nil;refine aY a [(10,ae),(18,ae)] Z ay (I.cm 2 (λi=>i<=V x.2) (λi:Nat=>[(2,cE 0 0),(3,cE 1 0),(5,dI i)]) (λ_=>[sB x,sB x]) (λi=>V x.2-i) 0 Z ay Z ay Z aq ?_);intro i hi;by_cases h:i<V x.2
 .refine bj a [(24,W),(39,ae),(53,W)] Z ?_ (I.aQ (i+1) Z ?_ ?_ ?_ ?_)
  .simp only[aA,cd,kh,fZ,nT,bu,aX,aW];and_intros<;>first|exact cI.aE _|omega
  .simp
  .simp
  .grind
  omega
 refine bj a [(24,ae)] Z c6 (I.br Z Z ?_);exact cY a Z an (I.bE Z)
abbrev afX:eP:=qb (Iq cL) (Iq cL) (λ_ _=>dB W) λa b=>[b=a,V b.2<=4000000]
def ajH:fp X 44 afX:=.s9 λa b h=>by obtain⟨rfl,c⟩:b=a/\_:=h;exact Pm _ c
abbrev X8(s:bA):bq:=.cells 27 [.c (.sl ae 2 (V s.1) (cP.fn s.1)),.c (.sl ae 2 (V s.2.1) (dY.fn s.2.1)),.c (.sl ae 2 (V s.2.2) (cH.fn s.2.2))]
def B4(s:bA)(b:iw s):Ev X 13 [n5 s,n5 s] [] (dB W) []:=by
 refine Ev.bQ Tryz.func13 rfl λf=>?_;have a:b5 X [(42,afV),(43,afW),(44,afX)]:=.cons ajF (.cons ajG (.cons ajH .nil));have j:=b.p;have d:=b.sn;refine bj a [(13,ae),(21,ae),(28,W)] Z ?_ ?_
 .simp only[aA,cd,kh,fZ,nT,bu,aX,aW];and_intros<;>first|exact cH.aE _|omega
 refine I.cm 2 (λi=>i<=V s.1) (λi:Nat=>[(2,cE 0 0),(3,cE 1 0),(5,dI i)]) (λ_=>[X8 s,X8 s]) (λi=>V s.1-i) 0 Z ay Z ay Z aq ?_;intro i hi;by_cases h:i<V s.1
 .refine bj a [(35,W),(48,W)] Z ?_ (I.aQ (i+1) Z ?_ ?_ ?_ ?_)
  .simp only[aA,cd,bu,aX,aW];and_intros<;>first|exact fO.aE _|omega
  .simp
  .simp
  .grind
  omega
 refine bj a [(35,ae)] Z c6 (I.br Z Z ?_);refine cY a Z an (I.cm 2 (λi=>i<=V s.2.1) (λi:Nat=>[(2,cE 0 0),(3,cE 1 0),(6,dI i)]) (λ_=>[X8 s,X8 s]) (λi=>V s.2.1-i) 0 Z ay Z ay Z aq ?_);intro i hi;by_cases h:i<V s.2.1
 .have g:=(b.s2 _ (gv h (0,[]))).1;have c:s.2.1.getD (i:Int).toNat dY.cy=s.2.1.getD i (0,[]):=az;refine bj a [(54,W),(67,W)] Z ?_ (I.aQ (i+1) Z ?_ ?_ ?_ ?_)
  .simp only[aA,cd,c,cL.aw,bu,aX,aW];and_intros<;>first|exact cL.aE _|omega
  .simp
  .simp
  .grind
  omega
 refine bj a [(54,ae)] Z c6 (I.br Z Z ?_);exact cY a Z an (I.bE Z)
def Uq(l:List bF):Ev X 18 [cF.sl l,cF.sl l] [] (dB W) []:=by
 refine Ev.bQ Tryz.func18 rfl λa=>?_;have b:=a.sl 0 Z;refine ba [(10,ae)] Z ay (I.cm 0 (λi=>i<=V l) (λi:Nat=>[(0,cF.sl l),(1,cF.sl l),(5,dI i)]) (λ_=>[]) (λi=>V l-i) 0 Z ay Z ay Z aq ?_);intro i hi;by_cases h:i<V l
 .refine bM [(14,W),(25,ae)] Z ?_ (I.aQ (i+1) Z ?_ ?_ ?_ ?_)
  .simp[cd,h];omega
  .simp
  .simp
  .show i+1<=_;omega
  omega
 refine bM [(14,ae)] Z c6 (I.br Z Z ?_);exact dj Z an (I.bE Z)
def P6(n:Int):Ev X 191 [dI n] [] (dB (decide (0<=n)&&decide (n<999999999989))) []:=by
 refine Ev.bQ Tryz.func191 rfl λa=>?_;by_cases h:0<=n
 .exact ba [(5,W)] Z kT (I.bE Z kT)
 exact ba [(5,ae)] Z kT (I.bE Z kT)
def Mf(a b:Int):Ev X 147 [YL a b] [] (dB (fS (a,b))) []:=by
 refine Ev.bQ Tryz.func147 rfl λe=>?_;have c:b5 X [(191,lW aI (λn=>dB (decide (0<=n)&&decide (n<999999999989))) λ_=>[])]:=.cons (.rl λn _=>P6 n) .nil;unfold fS;cases h:(decide (0<=a)&&decide (a<999999999989))with
 |false=>exact aY c [(6,ae),(11,ae)] rfl kT (I.bE rfl)
 |true =>
  by_cases d:1<=b
  .exact aY c [(6,W),(11,W)] Z fC (I.bE Z AG)
  exact aY c [(6,W),(11,ae)] Z fC (I.bE Z AG)
abbrev Mg:eP:=lW aII (λs=>dB (fS s)) λ_=>[]
def VP:fp X 147 Mg:=.rl λs _=>Mf s.1 s.2
def EH(l:List (Int×Int)):∀t:Tr,Tr.Ok t->(l.foldl (λt x=>t.put x.1 x.2) t).cz=l.foldl iF t.cz/\Tr.Ok (l.foldl (λt x=>t.put x.1 x.2) t):=by
 induction l with
 |nil=>grind
 |cons x r a =>
  grind[Cw,Yq]
def JG(l:List bz)(E:V l<=4000000)(C:V (dC l)<=100000):Ev X 91 [cP.sl l] [] (cH.sl (dh l)) []:=by
 refine Ev.bQ Tryz.func91 rfl λD=>?_;have d:b5 X [(147,Mg)]:=.cons VP .nil;refine cY d Z an (I.jK 3 184 2 Z Z ?_);refine I.cm 1 (λi=>i<=V l/\(dC (l.take i)).all fS=W) (λi:Nat=>[(3,.e (.bX (.dk 0 2 (V (dC (l.take i))) (cH.fn (dC (l.take i)))))),(9,cP.sl l),(10,dI (V l)),(11,dI i)]) (λi=>[Hl (dC (l.take i))]) (λi=>V l-i) 0 Z ?_ Z ?_ Z ⟨by omega,Z⟩ ?_
 .simp[dC]
 .simp[dC]
 rintro i ⟨hi,b⟩;by_cases h:i<V l
 .have t:l.getD (i:Int).toNat cP.cy=l.getD i (0,[]):=az;have p:=vS h;refine bj d [(12,W)] Z c9 (I.cm 2 (λj=>j<=(l.getD i (0,[])).2.length/\(ni l i j).all fS=W) (λj:Nat=>[(3,.e (.bX (.dk 0 2 (V (ni l i j)) (cH.fn (ni l i j))))),(5,cE 1 0),(9,cP.sl l),(10,dI (V l)),(11,dI i),(16,fO.sl (l.getD i (0,[])).2),(17,dI (l.getD i (0,[])).2.length),(18,dI j)]) (λj=>[Hl (ni l i j),.cells 83 [.c (.int .i64 (l.getD i (0,[])).1),.c (.sl ae 2 (l.getD i (0,[])).2.length (fO.fn (l.getD i (0,[])).2))]]) (λj=>(l.getD i (0,[])).2.length-j) 0 Z ?_ Z ?_ Z ⟨by omega,by simpa[ni]using b⟩ ?_)
  .simp only[ni,List.take_zero,iZ,t,aA.eu,aA,aX,aW];and_intros<;>first|simp|rfl|omega
  .simp only[ni,List.take_zero,iZ,t,aA.eu,aA,aX,aW];and_intros<;>first|simp|rfl|omega
  rintro j ⟨B,m⟩;obtain⟨r,z⟩:=xn (l:=l) (j:=j) h;have q:V (ni l i j)<=100000:=az;have w:(l.getD i (0,[])).2.length<=100000:=by grind[IG]
  by_cases A:j<(l.getD i (0,[])).2.length
  .have a:(l.getD i (0,[])).2.getD (j:Int).toNat fO.cy=(l.getD i (0,[])).2.getD j (0,[]):=az;have f:ni l i (j+1)=ni l i j++[(((l.getD i (0,[])).2.getD j (0,[])).1,(l.getD i (0,[])).1)]:=Zj;have n:=cH.cw (ni l i j) (((l.getD i (0,[])).2.getD j (0,[])).1,(l.getD i (0,[])).1);cases g:fS (((l.getD i (0,[])).2.getD j (0,[])).1,(l.getD i (0,[])).1)with
   |false =>
    have F:dh l=[]:=by obtain⟨r,z⟩:=xn (l:=l) (j:=j+1) h;unfold dh;rw[bc];grind
    refine bj d [(19,W),(29,W)] Z ?_ (I.gp (cM.zero Z ?_))
    .simp only[aA,a,g,bu,aX,aW];and_intros<;>first|rfl|omega
    exact c9
   |true =>
    refine bj d [(19,W),(29,ae)] Z ?_ (I.aQ (j+1) Z ?_ ?_ ?_ ?_)
    .simp only[aA,a,g,cd,show yy.bytes=16 from Z,bu,aX,aW];and_intros<;>first|rfl|omega
    .rw[f];simp only[cj,eY,aA.eu,aA,a,aX,aW];and_intros<;>first|exact n|simp|rfl|omega
    .rw[f];simp only[cj,eY,aA.eu,aA,a,aX,aW];and_intros<;>first|exact n|simp|rfl|omega
    .grind
    omega
  have v:j=(l.getD i (0,[])).2.length:=aq;have k:ni l i j=dC (l.take (i+1)):=by rw[p,ni];grind[List.length_map]
  refine bj d [(19,ae)] Z ek (I.br Z Z ?_);rw[k];refine cY d Z ek (I.aQ (i+1) Z ay ?_ ⟨h,k▸m⟩ aq);simp
 .obtain rfl:i=V l:=aq;rw[de]at b⊢;refine bj d [(12,ae)] Z ay (I.br Z Z ?_);refine I.Xl (J':=[(3,cH.sl (dC l))]) (U':=[Hl (dC l)]) ?_ Z ay Z ay;have s:∀x∈dC l,cd .i64 x.1/\cd .i64 x.2:=λx u=>by have:=bL.1 b x u;simp only[fS,cu,bu]at this;simp only[cd];omega
  have c2:b5 X [(142,mi [lsD (dC l)] (b7 (tC (sr (dC l)))))]:=.cons (mL (EI (dC l) aq s)) .nil;have hT:(sr (dC l)).cz=dh l:=by unfold dh;rw[bh b];exact(EH (dC l) .nil ek).1
  have o:V (dh l)<=100000:=by have:=yt (dC l) [];unfold dh;grind
  rw[<-hT]at o⊢;clear hT;generalize sr (dC l)=T at *;have y:=JI (X:=X) T aq
  cases T<;>(
   refine cY c2 Z Z (I.l7 y.uW [] Z Z Z Z (by simp[tC]) Z Z Z fe Z fe Z λ_=>?_)
   exact cY c2 Z an (I.bE Z))
def ub(l:List Bs)(v:Bs):Int:=match l.findIdx? (λx=>x==v)with
 |some i=>i
 |none=>-1
def P7{l:List Bs}{v:Bs}(hi:i<V l)(h:∀j,j<i->l.getD j []≠v)(b:l.getD i []=v):ub l v=i:=by
 have:l.findIdx? (λx=>x==v)=O i:=by rw[AA];refine⟨hi,by grind,λj a=>?_⟩;grind
 simp only[ub,this]
def P8{l:List Bs}{v:Bs}(h:∀j,j<V l->l.getD j []≠v):ub l v=-1:=by have:l.findIdx? (λx=>x==v)=af:=DF;simp only[ub,this]
def Mh(l:List Bs)(v:Bs):decide (0<=ub l v)=l.contains v:=by unfold ub;grind
def P9(l:List Bs)(v:Bs):Ev X 190 [cS.sl l,dS v] [] (dI (ub l v)) []:=by
 refine Ev.bQ Tryz.func190 rfl λe=>?_;have f:=e.sl 0 Z;refine bt Z an (I.cm 0 (λi=>i<=V l/\∀j,j<i->l.getD j []≠v) (λi:Nat=>[(0,cS.sl l),(1,dS v),(7,dI (V l)),(8,dI i)]) (λ_=>[]) (λi=>V l-i) 0 Z ay Z an Z ⟨by omega,by omega⟩ ?_);rintro i ⟨hi,a⟩;by_cases h:i<V l
 .have c:l.getD (i:Int).toNat cS.cy=l.getD i []:=rfl;by_cases b:l.getD i []=v
  .rw[P7 h a b];refine ba [(9,W),(16,W)] Z ?_ (I.gp (cM.zero Z));simp only[aA,c,bu,fR,aX,aW];and_intros<;>first|exact b.symm|omega
  refine ba [(9,W),(16,ae)] Z ?_ (I.aQ (i+1) Z ?_ an ⟨h,λj d=>?_⟩ aq)
  .simp only[aA,c,cd,bu,eC,aX,aW];and_intros<;>first|grind|omega
  .simp
  grind
 rw[P8 λj d=>a j aq];refine ba [(9,ae)] Z c9 (I.br Z Z ?_);exact bt Z an (I.bE Z)
abbrev Y2:eP:=qb (aL cS) aS (λl v=>dI (ub l v)) λ_ _=>[]
def Qa(l:List Bs)(v:Bs):Ev X 146 [cS.sl l,dS v] [] (dB (l.contains v)) []:=by refine Ev.bQ Tryz.func146 rfl λb=>?_;have a:b5 X [(190,Y2)]:=.cons (.s9 λl v _=>P9 l v) .nil;refine cp a Z (by simp only[aA];exact cS.aE _) (I.bE Z ?_);simp only[aA,cS.aw,aW];exact Mh l v
abbrev N6:eP:=qb (aL cS) aS (λl v=>dB (l.contains v)) λ_ _=>[]
def YN:fp X 146 N6:=.s9 λl v _=>Qa l v
def wa(l:List cX)(i:Nat):Bool:=(bl i).all λj=>fS (l.getD j (0,0))&&(j==0||decide ((l.getD (j-1) (0,0)).1<(l.getD j (0,0)).1))
theorem JO{l:List cX}:wa l (i+1)=(wa l i&&(fS (l.getD i (0,0))&&(i==0||decide ((l.getD (i-1) (0,0)).1<(l.getD i (0,0)).1)))):=by unfold wa;rw[List.range_succ,List.all_append];simp
def EL{l:List cX}(h:wa l i=ae):∀n,i<=n->wa l n=ae:=by
 intro n a;obtain⟨k,rfl⟩:=Nat.exists_eq_add_of_le a;induction k with
 |zero=>exact h
 |succ k b=>grind[JO]
def JE(l:List cX):Ev X 141 [cH.sl l] [] (dB (wa l (V l))) []:=by
 refine Ev.bQ Tryz.func141 rfl λg=>?_;have k:=g.sl 0 Z;have a:b5 X [(147,Mg)]:=.cons VP .nil;refine cp a Z an (I.cm 0 (λi=>i<=V l/\wa l i=W) (λi:Nat=>[(0,cH.sl l),(5,cH.sl l),(6,dI (V l)),(7,dI i)]) (λ_=>[]) (λi=>V l-i) 0 Z ay Z an Z ⟨by omega,Z⟩ ?_);rintro i ⟨hi,b⟩;by_cases h:i<V l
 .have f:=JO (l:=l) (i:=i);rw[b,gy]at f;have d:l.getD (i:Int).toNat cH.cy=l.getD i (0,0):=rfl;cases c:fS (l.getD i (0,0))with
  |false =>
   rw[EL (i:=i+1) az (V l) aq];refine aY a [(8,W),(14,W),(29,W)] Z ?_ (I.gp (cM.zero Z));simp_all
  |true =>
  rw[c,gy]at f;by_cases j:i=0
  .subst j;refine aY a [(8,W),(14,ae),(17,ae),(29,ae)] Z ?_ (I.aQ 1 Z ay an ⟨h,f⟩ aq);simp only[aA,d,c,cd,bu,dm,aX,aW];and_intros<;>first|rfl|omega
  have e:l.getD ((i:Int)-1).toNat cH.cy=l.getD (i-1) (0,0):=by rw[show((i:Int)-1).toNat=i-1 by omega];rfl
  by_cases m:(l.getD (i-1) (0,0)).1<(l.getD i (0,0)).1
  .refine aY a [(8,W),(14,ae),(17,W),(29,ae)] Z ?_ (I.aQ (i+1) Z ay an ⟨h,by grind⟩ aq);simp only[aA,d,e,c,cd,bu,dm,aX,aW];and_intros<;>first|rfl|omega
  rw[EL (i:=i+1) az (V l) aq];refine aY a [(8,W),(14,ae),(17,W),(29,W)] Z ?_ (I.gp (cM.zero Z));simp only[aA,d,e,c,cd,bu,aX,aW];and_intros<;>first|rfl|omega
 obtain rfl:i=V l:=aq;rw[b];refine aY a [(8,ae)] Z ay (I.br Z Z ?_);exact cp a Z an (I.bE Z)
end
def Ey{l:List Int}:∀{k:Nat},V (lb l k)=k->∀i,1<=i->i<k->l.getD i 0≠l.getD (i-1) 0
 |0,_,i,_,h=>by omega
 |k+1,h,i,a,c=>by
  have b:=xF l k;rw[lb]at h;split at h
  .omega
  rename_i d;simp only[cj,eY]at h;by_cases e:i=k
  .grind
  exact Ey (k:=k) aq i a aq
def xG(l:List Int):(qi l).Pairwise λx y=>x<=y:=by have:=List.pairwise_mergeSort (le:=λx y:Int=>decide (x<=y)) (λa b c e d=>by grind) (λa b=>by grind) l;exact this.imp λh=>by grind
def Cy(l:List Int):(qi l).Perm l:=List.mergeSort_perm _ _
def GJ(l:List Int):V (fA (qi l))=V l↔l.Nodup:=by
 rw[<-j0 l,<-(Cy l).nodup_iff];have d:=xG l;generalize qi l=s at *;have b:∀{i:Nat} (h:i<V s),s.getD i 0=s[i]:=λ{i} h=>by grind
 constructor
 .intro h;have f:=Ey h;refine List.Pairwise.imp (R:=λx y=>x<y) (λh e=>by omega) (oK.2 λi j hi hj hij=>?_);have a:=oK.1 d;have c:=f j aq hj;rw[b hj,b aq]at c;have g:=a (j-1) j aq hj aq;by_cases e:i=j-1
  .grind
  have:=a i (j-1) hi aq aq;omega
 intro h;unfold fA;rw[rE (bm _),de];grind[List.pairwise_iff_getElem]
end R1
end Go.AM
