/- Part 7. No condition. -/
import Derived.Test.YtacjdcdlmahinaaGreatDoorA6
set_option linter.all false
set_option maxHeartbeats 8000000
open Go.Proofs
open List renaming length → V, getD_eq_getElem?_getD → aj
open Go renaming Value → ah, TypeId → av, Frame → bd, Operand → aG, World → aB, Program → aR, Oper → aJ, Goroutine → au
open Bool renaming true → W, false → ae
open Go.Proofs.Tryz renaming prog → ag
namespace Go.AM
variable {n:Nat}{k:Int}{l b i j:Nat}{E:av}{L:Array Bool}{M:Mem}{N:Nat}{P:aR}{S:au->St->Prop}{c:Code}{g:au}{o:aJ}{s:St}{t:av}{v:ah}{w:aB}{x y:aG}{α:Type}{η:aG->D}{ι:Type}{U:List bq}{J:Fr}{all:List aJ}{lh:Array av}{cap:List C}{cR:List D}{cs:List bd}{ds:List (Nat×Bool)}{es:Nat->List C}{fo:aG}{gs:Array au}{ks:List Nat}{obs:List Prop}{off:Nat}{op:BinOp}{ops:Array aJ}{ps:List Prop}{rest:List aJ}{s':St}{tx:Bool}{ty:av}{val:Nat->Nat->ah}{vs:List ah}{w':aB}{xs:Array aG}{U' Us:List bq}{res:ι->D}{σ1:ι->List bq}
variable {CT:List (Nat×eP)}{K:List It}{Qf:Post}{T:List (Nat×TI)}{ie:TI}
namespace R1
def xp(A z:av×ah)(m:Nat)(b:Nat->Int)(hb:Bytes b)(_:m<=9223372036854775807):Ev (Cx.cx ag) 3 [b7 (.sl ae 1 m (xT b))] (L9 A z) (dB W) (L9 A z):=by
 refine Ev.bQ Tryz.func3 rfl λhf=>?_;by_cases hm:1048576<m
 .refine ba [(19,W)] aK c6 (I.dt [0,1,2] aK ?_ aK aK aK kt);simp
 refine ba [(19,ae)] aK c6 (I.cP (wi m b hb aq) [] aK fe ?_);rintro⟨⟨w,by_,t⟩,f,Q,P⟩;simp only at f Q P;have L:=f.sz;have ak:=nb (X:=Cx.cx ag) 7 w by_ t L;have Z:=nc A z 7 w by_ t f.smW L.s f.s.Dq ek;refine bt aK an (I.cQ ak [] aK (bt aK an (I.cQ Z [0,1,2] aK ?_)));have E:=f.noS (k:=7) (by_:=by_) (t:=t);have g:=f.after (k:=7) (by_:=by_) (t:=t);obtain⟨⟨x,ok⟩,T⟩:∃q,q=mo 7 w by_ t:=⟨_,rfl⟩;rw[<-T]at E g⊢;cases ok with
 |false =>
  have c1:b5 (Cx.cx ag) [(9,mi [sJ x,sJ x] (dB W))]:=.cons (mL (mQ x (E aK))) .nil;refine bj c1 [(46,ae),(52,ae),(55,W),(59,W)] aK ?_ (I.dt [0,1,2] aK ay aK aK aK kt);simp
 |true =>
  have d:=g aK;have u:x=gw 7 w by_ t:=by have:=d.e;rw[<-T]at this;exact et Prod.fst this
  have r:iw x.1:=by rw[u];exact d.ta.rF
  have B:Wn x:=by rw[u];exact d.sm
  have M:g6 7 x:=by rw[u];exact d.q
  have S:=kL.2 d.p.told;have l:=vl A z 7 w.1 by_ t L.s f.smW.toYo f.s.Dq ek λh=>(kL.1 h).sZ f.s.Dq;rw[CQ,zr S d.v.by' d.v.tr,d.v.fu,bc ay]at l;have R:dZ 7 w.1 by_ t=x.1:=ek;have o:x.2.2=w.2.2:=ek;have D:x.2.1=(fh (di (cq w.1) 7 t).2).foldl jF w.2.1:=ek;rw[R]at l;have c1:b5 (Cx.cx ag) [(9,mi [sJ x,sJ x] (dB W))]:=.cons (mL (mQ x r)) .nil;refine bj c1 [(46,ae),(52,ae),(55,ae)] aK ay (I.cQ l [0,1,2] aK ?_);have a:x.1.2.1.getD (V x.1.2.1-1) (0,[])=di (cq w.1) 7 t:=by rw[u];simp[gw,dZ,aj]
  have hln:0<V x.1.2.1/\V x.1.2.1<=4000000:=by refine⟨?_,r.sn⟩;rw[u];simp[gw,dZ]
  have aa:TA x.1:=by rw[u];exact d.ta
  have C:=aa.a4 (di (cq w.1) 7 t) (by rw[<-a];exact gv aq _);have Y:=kM C.2;have AK:=xB (X:=Cx.cx ag) (di (cq w.1) 7 t) aq aq;rw[ER]at AK;generalize di (cq w.1) 7 t=y at *;have H:((V x.1.2.1:Int)-1).toNat=V x.1.2.1-1:=aq;have hd:x.1.2.1.getD ((V x.1.2.1:Int)-1).toNat dY.cy=y:=by rw[H];exact a
  have c2:b5 (Cx.cx ag) [(11,mi [Ke y] (cI.sl (fh y.2)))]:=.cons (mL AK) .nil;refine cY c2 aK ?_ ?_
  .simp only[aA,hd,cd];and_intros<;>first|rfl|exact True.intro|omega
  have U:=jZ y.2;have J:∀i,i<V (fh y.2)->x.2.1.contains ((fh y.2).getD i 0)=W:=λi hi=>by rw[wA,D,oI];exact .inr (gv hi 0)
  have G:∀i,i<V w.2.1->x.2.1.contains (w.2.1.getD i 0)=W:=λi hi=>by rw[wA,D,oI];exact .inl (gv hi 0)
  have ab:=L.n;generalize fh y.2=ns at *;have c3:b5 (Cx.cx ag) [(12,aaR)]:=.cons agN .nil;refine I.cm 7 (λi=>i<=V ns) (λi:Nat=>[(3,dI 7),(4,cE 3 0),(9,cE 5 0),(11,cE 6 0),(12,dB W),(14,cI.sl ns),(15,dI i)])
   (λ_=>L9 A z++[rK w,rK x,rK x,wo x.1]) (λi=>V ns-i) 0 aK ay aK ay aK aq ?_
  intro i hi;by_cases h:i<V ns
  .have j:ns.getD (i:Int).toNat cI.cy=ns.getD i 0:=rfl;have N:=J i h;refine bj c3 [(88,W),(98,ae)] aK ?_ (I.aQ (i+1) aK ay ay h aq);simp only[aA,j,cI.aw,N,cd,bu];and_intros<;>first|rfl|exact cI.aE _|omega
  obtain rfl:i=V ns:=aq;refine bM [(88,ae)] aK ay (I.br aK aK ?_);refine dj aK an ?_;refine I.cm 7 (λi=>i<=V w.2.1) (λi:Nat=>[(3,dI 7),(4,cE 3 0),(9,cE 5 0),(11,cE 6 0),(12,dB W),(16,dI i)])
   (λ_=>L9 A z++[rK w,rK x,rK x,wo x.1]) (λi=>V w.2.1-i) 0 aK ay aK ay aK aq ?_
  intro i hi;by_cases h:i<V w.2.1
  .have j:w.2.1.getD (i:Int).toNat cI.cy=w.2.1.getD i 0:=rfl;have N:=G i h;refine bj c3 [(103,W),(114,ae)] aK ?_ (I.aQ (i+1) aK ay ay h aq);simp only[aA,j,cI.aw,N,cd,bu];and_intros<;>first|rfl|exact cI.aE _|omega
  obtain rfl:i=V w.2.1:=aq;have K:=gT.2 M;have F:(x.1,x.2.1,x.2.2)=x:=rfl;have c4:b5 (Cx.cx ag) [(13,mi [n5 x.1,n5 x.1] (dB W)),(14,X7),(15,rD)]:=.cons (mL (B4 x.1 r)) (.cons acM (.cons uL .nil));refine bM [(103,ae)] aK ay (I.br aK aK ?_);refine bj c4 [(116,W),(122,W),(129,W)] aK ?_ (I.dt [0,1,2] aK ?_ aK aK aK kt)
  .simp only[aA,cP.aw,cP.aE,dY.aw,dY.aE,cH.aw,cH.aE,cI.aw,cI.aE,F,K,B,o,aX,aW];and_intros<;>first|rfl|exact True.intro|exact B|(rw[<-o];omega)|(simp[o,cI.aw,cI.aE];done)
  simp only[cP.aw,dY.aw,cH.aw,cI.aw,F,K];simp
end R1
end Go.AM
