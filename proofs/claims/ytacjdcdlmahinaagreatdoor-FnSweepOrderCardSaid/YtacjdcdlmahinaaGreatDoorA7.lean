/- Part 7. No condition. -/
import Derived.Test.YtacjdcdlmahinaaGreatDoorA6
set_option linter.all false
set_option maxHeartbeats 8000000
open Go.Proofs
open List renaming length → V
open Go renaming Value → ah, TypeId → av, Frame → bd, Operand → aG, World → aB, Program → aR, Oper → aJ, Goroutine → au
open Bool renaming true → W, false → ae
open Go.Proofs.Tryz renaming prog → ag
namespace Go.AM
variable {n:Nat}{k:Int}{l b i j:Nat}{E:av}{L:Array Bool}{M:Mem}{N:Nat}{P:aR}{S:au->St->Prop}{c:Code}{g:au}{o:aJ}{s:St}{t:av}{v:ah}{w:aB}{x y:aG}{α:Type}{η:aG->D}{ι:Type}{U:List bq}{J:Fr}{all:List aJ}{lh:Array av}{cap:List C}{cR:List D}{cs:List bd}{ds:List (Nat×Bool)}{es:Nat->List C}{fo:aG}{gs:Array au}{ks:List Nat}{obs:List Prop}{off:Nat}{op:BinOp}{ops:Array aJ}{ps:List Prop}{rest:List aJ}{s':St}{tx:Bool}{ty:av}{val:Nat->Nat->ah}{vs:List ah}{w':aB}{xs:Array aG}{U' Us:List bq}{res:ι->D}{σ1:ι->List bq}
variable {CT:List (Nat×eP)}{K:List It}{Qf:Post}{T:List (Nat×TI)}{ie:TI}
namespace R1
def yA(F E:av×ah)(m G:Nat)(b S:Nat->Int)(hb:Bytes b)(_:Bytes S)(_:m<=9223372036854775807)(_:G<=9223372036854775807):Ev (Cx.cx ag) 5 [b7 (.sl ae 1 m (xT b)),b7 (.sl ae 1 G (xT S))] (L9 F E) (dB W) (L9 F E):=by
 refine Ev.bQ Tryz.func5 rfl λhf=>?_;by_cases hm:1048576<m
 .refine ba [(24,W),(28,W)] aK c6 (I.dt [0,1,2] aK ?_ aK aK aK kt);simp
 by_cases hm':1048576<G
 .refine ba [(24,ae),(28,W)] aK c6 (I.dt [0,1,2] aK ?_ aK aK aK kt);simp
 refine ba [(24,ae),(28,ae)] aK c6 (I.cP (wi m b hb aq) [] aK fe ?_);rintro⟨⟨w,by_,t⟩,j,R,P⟩;simp only at j R P;have L:=j.sz;have u:cd .i64 by_:=ek;have Y:=nb (X:=Cx.cx ag) 7 w by_ t L;have hI:=nc F E 7 w by_ t j.smW L.s j.s.Dq u;refine bt aK an (I.cQ Y [] aK (bt aK an (I.cQ hI [0,1,2] aK ?_)));have B:=j.noS (k:=7) (by_:=by_) (t:=t);have i:=j.after (k:=7) (by_:=by_) (t:=t);obtain⟨⟨x,ok⟩,T⟩:∃q,q=mo 7 w by_ t:=⟨_,rfl⟩;rw[<-T]at B i⊢;cases ok with
 |false =>
  have c1:b5 (Cx.cx ag) [(9,mi [sJ x,sJ x] (dB W))]:=.cons (mL (mQ x (B aK))) .nil;refine bj c1 [(55,ae),(61,ae),(64,W),(68,W)] aK ?_ (I.dt [0,1,2] aK ay aK aK aK kt);simp
 |true =>
  have h:=i aK;have n:x=gw 7 w by_ t:=by have:=h.e;rw[<-T]at this;exact et Prod.fst this
  have C:iw x.1:=by rw[n];exact h.ta.rF
  have AK:Wn x:=by rw[n];exact h.sm
  have J:g6 7 x:=by rw[n];exact h.q
  have l:=Dz 7 w j.smW L.s;unfold db at l;rw[bh (gT.2 h.p)]at l;have c1:b5 (Cx.cx ag) [(9,mi [sJ x,sJ x] (dB W))]:=.cons (mL (mQ x C)) .nil;refine bj c1 [(55,ae),(61,ae),(64,ae)] aK ay (I.cQ l [] aK ?_);by_cases h0:w.2.2=[]
  .have aa:Qe w=ae:=by unfold Qe;exact c9
   refine bM [(80,W)] aK (by simp[aa]) (I.dt [0,1,2] aK ?_ aK aK aK kt);simp[h0]
  have aa:Qe w=W:=by unfold Qe;exact c9
  have g:=j.step;have M:=nc F E 7 (gz w) by_ t g.smW g.sz.s g.s.Dq u;refine bM [(80,ae)] aK (by simp[aa]) (I.cQ M [0,1,2] aK ?_);have d:=g.after (k:=7) (by_:=by_) (t:=t);obtain⟨⟨z,Q⟩,D⟩:∃q,q=mo 7 (gz w) by_ t:=⟨_,rfl⟩;rw[<-D]at d⊢;cases Q with
  |false =>
   refine bM [(94,W)] aK ay (I.dt [0,1,2] aK ?_ aK aK aK kt);simp
  |true =>
   have hB:=d aK;have a:z=gw 7 (gz w) by_ t:=by have:=hB.e;rw[<-D]at this;exact et Prod.fst this
   have H:g6 7 z:=by rw[a];exact hB.q
   have o:=sv 7 x AK C;have r:=sv 7 z (by rw[a];exact hB.sm) (by rw[a];exact hB.ta.rF);unfold V7 at o r;rw[bh (gT.2 J)]at o;rw[bh (gT.2 H)]at r;have A:TA (qH x (V x.2.2)).1:=Hd (by rw[n];exact h.ta) _;have N:TA (qH z (V z.2.2)).1:=Hd (by rw[a];exact hB.ta) _;have K:=CW 7 (qH x (V x.2.2)).1 (qH z (V z.2.2)).1 A.rF.s2 N.rF.s2 A.rF.sn λy U=>by rw[n]at U;rw[n,a];exact Mv h.p h.v hB.v U
   have ak:(qH x (V x.2.2)).1.2.1.length=(qH z (V z.2.2)).1.2.1.length:=by have e1:(qH x (V x.2.2)).1.2=x.1.2:=yU;have ab:(qH z (V z.2.2)).1.2=z.1.2:=yU;rw[e1,ab,n,a];simp only[gw,dZ,cj,eY,C1]
   refine bM [(94,ae)] aK ay (I.cQ o [] aK (dj aK an (I.cQ r [] aK ?_)));generalize(qH x (V x.2.2)).1=e at *;generalize(qH z (V z.2.2)).1=f at *;have Z:b5 (Cx.cx ag) [(19,mi [dI 7,n5 e,n5 f] (dB W))]:=.cons (mL K) .nil;refine bj Z [(108,W),(111,W),(117,W)] aK ay (I.dt [0,1,2] aK ?_ aK aK aK kt);exact c9
end R1
end Go.AM
