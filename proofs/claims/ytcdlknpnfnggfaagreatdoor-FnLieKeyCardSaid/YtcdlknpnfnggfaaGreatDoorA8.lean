/-
  Part 8 of a machine of values without memory, proved sound over the model, and of contracts of the functions that the laws reach. Nothing is taken for granted: no condition.
-/
import Derived.Test.YtcdlknpnfnggfaaGreatDoorA7
import Derived.Conc.LeavingOf
import Derived.Below
set_option linter.unusedVariables false
set_option linter.unusedSimpArgs false
set_option linter.defProp false
set_option linter.deprecated false
namespace Go.AM.R1
open Go.Proofs
variable {X:Cx Tryz.prog}
def words:List Bs:=[[97,98,99],[104,101,108,108,111],[119,111,114,108,100],[97,97,97,97],[107,101,101,112],[122,122],[98,97,99,107,117,112],[113]]
abbrev PR(k:Nat):={ q:Bs×Nat // q.1.length<=100000/\k<=q.2/\q.2<=k+60 }
theorem Ct(s:Bs) (n:Int)(g:s.length<=10)(j:0<=n/\n<=100):cf (ι:={ p:Bs // p.length<=100000 }) X 68 [dS s,dI n] [] (λp=>dS p.1) (λ_=>[]):=by
 refine cf.m7 Tryz.func68 rfl rfl rfl λc=>?_
 refine aA rfl ab ?_;refine AK.lV (λx:Nat×Bs×Bs=>x.1<=100/\x.2.2.length+x.2.1.length*x.1<=1010) (λx=>[(0,dS x.2.1),(1,dI x.1),(5,dS x.2.2)]) (λ_=>[]) (λx=>x.1) (n.toNat,s,[]) rfl ?_ rfl ab ⟨by simp only;omega,?_⟩ ?_
 ·simp[aa,aa.cat];omega
 ·have:s.length*n.toNat<=10*100:=Nat.mul_le_mul g (by omega)
  simp only[ef];omega
 rintro⟨k,t,out⟩ ⟨d,f⟩;simp only at d f
 by_cases b:0<k
 ·have i:t.length<=t.length*k:=sa _ b;have h:((k:Int) / 2)=((k / 2:Nat):Int):=by omega
  by_cases l:k % 2=1
  ·have a:(t++t).length*(k / 2)+t.length=t.length*k:=by
    have e:k=2*(k / 2)+1:=by omega
    generalize k / 2=q at *;subst e;simp only[ba,pH,eT];rw[<-sG,iX t.length 2,sG];omega
   refine aq [(7,true),(10,true)] 100 rfl ?_ (AK.gK (k / 2,t++t,out++t) rfl ?_ rfl ab ?_ ?_)
   ·simp[aa,b];omega
   ·simp[aa,aa.cat]
   ·refine⟨by simp only;omega,?_⟩
    simp only[ba] at a ⊢;omega
   ·simp only;omega
  ·have a:(t++t).length*(k / 2)=t.length*k:=by
    have e:k=2*(k / 2):=by omega
    generalize k / 2=q at *;subst e;simp only[ba,eT];rw[<-sG,iX t.length 2,sG];omega
   refine aq [(7,true),(10,false)] 100 rfl ?_ (AK.gK (k / 2,t++t,out) rfl ?_ rfl ab ?_ ?_)
   ·simp[aa,b];omega
   ·simp[aa,aa.cat]
   ·refine⟨by simp only;omega,?_⟩
    simp only at a ⊢;omega
   ·simp only;omega
 ·obtain rfl:k=0:=by omega
  refine aq [(7,false)] 100 rfl (by simp[aa]) (AK.leave rfl rfl ?_)
  refine aA rfl ab (AK.jF ⟨out,by omega⟩ (AK.aK rfl ?_))
  simp[aa]
set_option maxRecDepth 20000 in
theorem Cn(m:Nat)(b:Nat->Int)(d:Bytes b)(k:Nat)(G:k<=100000)(c:m<=1048576) :
  cf (ι:=PR k) X 33 [.e (.one (.ptr 0 0))] [jY m b k] (λq=>dS q.1.1) (λq=>[jY m b q.1.2]):=by
 refine cf.m7 Tryz.func33 rfl rfl rfl λB=>?_
 refine aA rfl ab ?_;refine AK.bZ (gY m b d k 5 (by omega) c (by omega)) [0] rfl rfl rfl rfl rfl rfl rfl (λ_=>rfl) rfl (λ_=>rfl) rfl ?_
 rintro⟨v,v0,v1⟩;refine aA rfl ab ?_;refine AK.bA 1 (λs:Nat×Bs×Nat=>s.1<=4/\s.2.1.length+6*s.1<=24/\k<=s.2.2/\s.2.2+s.1<=k+5) (λs=>[(0,.e (.one (.ptr 0 0))),(4,dI s.1),(3,dS s.2.1)]) (λs=>[jY m b s.2.2]) (λs=>s.1) (v.toNat,[],k+1) rfl ?_ rfl ?_ rfl ⟨by omega,by simp;omega,by simp,by simp;omega⟩ ?_
 ·simp[aa,aa.cat];omega
 ·simp[aa,aa.cat,au.same]
 rintro⟨n,s,k1⟩ ⟨z,D,o,r⟩;simp only at z D o r
 by_cases j:0<n
 ·refine aq [(9,true)] 100 rfl ?_ ?_
  ·simp[aa,j]
  have:=Hp (X:=X) m b d k1 (by omega) c words (by decide)
  refine AK.pV this [0] rfl rfl rfl rfl ?_ rfl rfl rfl (λ_=>rfl) rfl (λ_=>rfl) rfl ?_
  ·refine⟨rfl,λi hi=>?_⟩
   rcases i with _|_|_|_|_|_|_|_|i <;> first|rfl|omega
  rintro⟨p,h⟩;have t:p.length<=6:=(by decide:∀ p∈words,p.length<=6) p h
  refine aA rfl ?_ (AK.ay (n-1,s++p,k1+1) rfl ?_ rfl rfl rfl ?_ rfl ?_ ?_)
  ·simp[aa,aJ];omega
  ·simp[aa,aa.cat];omega
  ·simp[aa,aa.cat,au.same]
  ·simp;omega
  ·simp;omega
 ·obtain rfl:n=0:=by omega
  refine aq [(9,false)] 100 rfl (by simp[aa]) (AK.leaveD rfl rfl ?_)
  refine aA rfl ab ?_;refine AK.bZ (gY m b d k1 4 (by omega) c (by omega)) [0] rfl rfl rfl rfl rfl rfl rfl (λ_=>rfl) rfl (λ_=>rfl) rfl ?_
  rintro⟨u,H,I⟩
  by_cases l:u=0
  ·refine aq [(19,true)] 100 rfl (by simp[aa,l]) ?_
   refine AK.bZ (gY m b d (k1+1) 12 (by omega) c (by omega)) [0] rfl rfl rfl rfl rfl rfl rfl (λ_=>rfl) rfl (λ_=>rfl) rfl ?_
   rintro⟨w,K,w1⟩;refine aA rfl ab ?_;refine AK.bA 1 (λs:Nat×Bs×Nat=>s.1<=11/\s.2.1.length+s.1<=36/\k<=s.2.2/\s.2.2+s.1<=k+20) (λs=>[(0,.e (.one (.ptr 0 0))),(5,dI s.1),(3,dS s.2.1)]) (λs=>[jY m b s.2.2]) (λs=>s.1) (w.toNat,s,k1+2) rfl ?_ rfl ?_ rfl ⟨by omega,by simp only;omega,by simp only;omega,by simp only;omega⟩ ?_
   ·simp[aa,aa.cat];omega
   ·simp[aa,aa.cat,au.same];omega
   rintro⟨n,s2,f⟩ ⟨A,g2,g3,g4⟩;simp only at A g2 g3 g4
   by_cases j:0<n
   ·refine aq [(23,true)] 100 rfl ?_ ?_
    ·simp[aa,j]
    refine AK.bZ (gY m b d f 26 (by omega) c (by omega)) [0] rfl rfl rfl rfl rfl rfl rfl (λ_=>rfl) rfl (λ_=>rfl) rfl ?_
    rintro⟨x,F,J⟩;refine aA rfl ?_ (AK.ay (n-1,s2++[UInt8.ofNat (97+x).toNat],f+1) rfl ?_ rfl rfl rfl ?_ rfl ?_ ?_)
    ·simp[aa,aJ];omega
    ·simp[aa,aa.cat];omega
    ·simp[aa,aa.cat,au.same]
    ·simp;omega
    ·simp;omega
   ·obtain rfl:n=0:=by omega
    refine aq [(23,false)] 100 rfl (by simp[aa]) (AK.leaveD rfl rfl ?_)
    refine aq [(36,false)] 100 rfl ?_ ?_
    ·simp[aa];omega
    refine AK.bZ (gY m b d f 60 (by omega) c (by omega)) [0] rfl rfl rfl rfl rfl rfl rfl (λ_=>rfl) rfl (λ_=>rfl) rfl ?_
    rintro⟨y,C,E⟩
    by_cases g:y=0
    ·refine aq [(41,true)] 100 rfl ?_ (AK.jF ⟨(s2++[65],f+1),by simp;omega,by simp only;omega,by simp only;omega⟩ (AK.cZ [0] rfl ?_ rfl rfl rfl vi))
     ·simp[aa,g];omega
     ·simp[aa]
    by_cases a:y=1
    ·refine aq [(41,false),(45,true)] 100 rfl ?_ ?_
     ·simp[aa,a]
     refine AK.bZ (Ct [97,98,99,100,101] 9 (by decide) (by decide)) [] rfl rfl rfl rfl rfl rfl rfl (λ_=>rfl) rfl (λ_=>rfl) rfl ?_
     rintro⟨p,h⟩;refine aA rfl ab (AK.jF ⟨(p,f+1),h,by simp only;omega,by simp only;omega⟩ (AK.cZ [0] rfl ?_ rfl rfl rfl vi))
     simp[aa]
    ·refine aq [(41,false),(45,false)] 100 rfl ?_ (AK.jF ⟨(s2,f+1),by simp only;omega,by simp only;omega,by simp only;omega⟩ (AK.cZ [0] rfl ?_ rfl rfl rfl vi))
     ·simp[aa,g,a]
     ·simp[aa]
  ·refine aq [(19,false)] 2 rfl (by simp[aa,l]) ?_
   refine aq [(36,false)] 100 rfl ?_ ?_
   ·simp[aa];omega
   refine AK.bZ (gY m b d (k1+1) 60 (by omega) c (by omega)) [0] rfl rfl rfl rfl rfl rfl rfl (λ_=>rfl) rfl (λ_=>rfl) rfl ?_
   rintro⟨y,C,E⟩
   by_cases g:y=0
   ·refine aq [(41,true)] 100 rfl ?_ (AK.jF ⟨(s++[65],(k1+1)+1),by simp;omega,by simp only;omega,by simp only;omega⟩ (AK.cZ [0] rfl ?_ rfl rfl rfl vi))
    ·simp[aa,g];omega
    ·simp[aa]
   by_cases a:y=1
   ·refine aq [(41,false),(45,true)] 100 rfl ?_ ?_
    ·simp[aa,a]
    refine AK.bZ (Ct [97,98,99,100,101] 9 (by decide) (by decide)) [] rfl rfl rfl rfl rfl rfl rfl (λ_=>rfl) rfl (λ_=>rfl) rfl ?_
    rintro⟨p,h⟩;refine aA rfl ab (AK.jF ⟨(p,(k1+1)+1),h,by simp only;omega,by simp only;omega⟩ (AK.cZ [0] rfl ?_ rfl rfl rfl vi))
    simp[aa]
   ·refine aq [(41,false),(45,false)] 100 rfl ?_ (AK.jF ⟨(s,(k1+1)+1),by simp only;omega,by simp only;omega,by simp only;omega⟩ (AK.cZ [0] rfl ?_ rfl rfl rfl vi))
    ·simp[aa,g,a]
    ·simp[aa]
theorem JK(m:Nat)(b:Nat->Int)(f:m<=1048576):cf (ι:={ n:Nat // n<=1048576 }) X 11 [.e (.one (.c (.sl false 1 m (Cm b))))] [] (λ_=>.e (.one (.ptr 0 0))) (λn=>[jY n.1 b 0]):=by
 refine cf.m7 Tryz.func11 rfl rfl rfl λd=>?_
 by_cases h:2000<m
 ·refine aq [(5,true)] 100 rfl ?_ (AK.norm [jY 2000 b 0] rfl ?_ (AK.jF ⟨2000,by decide⟩ (AK.cZ [0] rfl ?_ rfl rfl rfl (λj a=>by simp at a))))
  ·simp[aa];omega
  ·simp[aa,aa.cat,au,j7,bT]
  ·simp[aa]
 ·refine aq [(5,false)] 100 rfl ?_ (AK.jF ⟨m,f⟩ (AK.cZ [0] rfl ?_ rfl rfl rfl (λj a=>by simp at a)))
  ·simp[aa];omega
  ·simp[aa]
end Go.AM.R1
namespace Go.AM
def En(p:Bs):Value:=.string ⟨p.toArray⟩
theorem M7{a:ByteArray}{p:Bs}(h:a.data.toList=p):Value.string a=En p:=by
 subst h;simp[En]
theorem str_val{M:Mem}{v:Value}{p:Bs}(h:Rd M v (.str p)):v=En p/\cg v=true:=by
 cases h with
 |str e _=>exact⟨M7 e,rfl⟩
end Go.AM
namespace Go.AM.R1
open Go.Proofs
variable {X:Cx Tryz.prog} [X.kB]
theorem M8(t:List aH):∀ i,i<t.length->(cF.fn t i).length=2/\∀ c∈cF.fn t i,tc c=true:=by
 intro i _;refine⟨rfl,λc a=>?_⟩
 simp only[gN.fn,qT,cF,dr,pz,or_false] at a;rcases a with rfl|rfl <;> rfl
abbrev Hs(t:List aH)(xs:List Value):Prop:=c6 2 t.length (cF.fn t) xs
abbrev bK(bf:oZ)(n:Nat)(xs:List Value):aj:=.cx (gz 99 2 bf n xs)
abbrev Yj(bf:oZ)(n:Nat)(b:Bool):D:=.dH [.one (.v (kF bf n)),.one (.c (.bool b))]
theorem zr(t:List aH)(p x:Bs):cf (ι:={ q:oZ×List Value // Hs (dc t p x).1 q.2 }) X 31 [cF.sl t,dS p,dS x] [] (λq=>Yj q.1.1 (dc t p x).1.length (dc t p x).2) (λq=>[bK q.1.1 (dc t p x).1.length q.1.2]) :=
 (rJ t p x).thaw Tryz.func31 rfl (by simp[pR,kG,mF,gV,oY,tc]) (M8 _)
theorem c6.nil{k:Nat}{es:Nat->List C}:c6 k 0 es []:=⟨by simp,λi hi=>by omega,λi hi=>by omega⟩
theorem D8{t:List aH}{p x:Bs}(h:(dc t p x).2=true):(dc t p x).1.length<=6:=by
 unfold dc at h ⊢;split at h
 ·rename_i b
  rw[an b];split at h
  ·rename_i a;rw[an a];exact mT a
  ·cases h
 ·cases h
theorem PS{o:Oper}{x y:Operand}(h:o.op=.call { callee:=.builtin .append,args:=#[x,y],argTypes:=#[34,34] }):oH Tryz.prog o x y 99 i99 :=
 ⟨⟨34,34,i34,i34,h,Tb,rfl,Tb,rfl⟩,Vi,by decide,by decide⟩
theorem Ht{M:Mem}{p:Bs}(h:p.length<=9223372036854775807):Rd M (En p) (.str p):=Rd.str rfl h
theorem Hs.snoc{t:List aH}{xs:List Value}(h:Hs t xs)(p x:Bs)(d:p.length<=9223372036854775807)(b:x.length<=9223372036854775807):Hs (t++[(p,x)]) (xs++[En p,En x]):=by
 unfold Hs;rw[ba];refine c6.snoc h (λi hi=>?_) rfl rfl λq c a=>?_
 ·simp[gN.fn,qT,List.getD_eq_getElem?_getD,bc hi]
 ·have e:cF.fn (t++[(p,x)]) t.length=[.str p,.str x]:=by
   simp[gN.fn,qT,cF]
  rw[e] at a;rcases q with _|_|q
  ·simp at a;subst a;exact⟨En p,rfl,λM=>Ht d⟩
  ·simp at a;subst a;exact⟨En x,rfl,λM=>Ht b⟩
  ·simp at a
theorem Hs.JY{t:List aH}{xs vs:List Value}(h:Hs t xs)(i:Nat)(hi:i<t.length)(x:Bs)(f:lE vs [.c (.str x)]):Hs (t.set i ((t.getD i cF.bl).1,x)) (xs.take (i*2+1)++vs++xs.drop (i*2+1+vs.length)):=by
 unfold Hs;rw[sA];refine c6.dL h i 1 hi f (ar _) (λg d b=>?_) rfl λq c a=>?_
 ·simp[gN.fn,qT,List.getD_eq_getElem?_getD,fJ b]
 ·have e:cF.fn (t.set i ((t.getD i cF.bl).1,x)) i=[.str (t.getD i cF.bl).1,.str x]:=by
   simp[gN.fn,qT,cF,List.getD_eq_getElem?_getD,hi]
  rw[e] at a;rcases q with _|_|q
  ·right;simp at a;subst a;exact⟨by omega,rfl⟩
  ·left;simp at a;subst a;exact⟨by omega,by simp,rfl⟩
  ·simp at a
theorem JZ:∀ j,j<1->([0,1]:List Nat)[j]?=some j:=λj a=>by
 have:j=0:=by omega
 subst this;rfl
structure PT (k c:Nat) where
 t:List aH
 bf:oZ
 xs:List Value
 k1:Nat
 fl:Hs t xs
 hl:t.length<=7
 h1:k<=k1
 h2:k1<=k+c
set_option maxRecDepth 20000 in
theorem JI(m:Nat)(b:Nat->Int)(y:Bytes b)(k:Nat)(T:k<=50000)(i:m<=1048576) :
  cf (ι:=PT k 400) X 58 [.e (.one (.ptr 0 0))] [jY m b k] (λq=>.e (.one (.v (kF q.bf q.t.length)))) (λq=>[jY m b q.k1,bK q.bf q.t.length q.xs]):=by
 refine cf.m7 Tryz.func58 rfl rfl rfl λQ=>?_
 refine aq [] 9 rfl ab ?_;refine AK.Im 3 99 2 rfl λA=>?_
 refine aA rfl ab ?_;refine AK.bZ (gY m b y k 6 (by omega) i (by omega)) [0] rfl rfl rfl rfl rfl rfl rfl (λ_=>rfl) rfl (λ_=>rfl) rfl ?_
 rintro⟨v,v0,v1⟩;refine aA rfl ab ?_;refine AK.bA 2 (λs:Nat×List aH×oZ×List Value×Nat=>s.1<=5/\Hs s.2.1 s.2.2.2.1/\s.2.1.length<=6/\k<=s.2.2.2.2/\s.2.2.2.2+70*s.1<=k+351) (λs=>[(0,.e (.one (.ptr 0 0))),(4,dI s.1),(3,.e (.one (.v (kF s.2.2.1 s.2.1.length))))]) (λs=>[jY m b s.2.2.2.2,bK s.2.2.1 s.2.1.length s.2.2.2.1]) (λs=>s.1) (v.toNat,[],A,[],k+1) rfl ?_ rfl ?_ rfl ⟨by omega,c6.nil,by simp,by simp,by simp;omega⟩ ?_
 ·simp[aa,aa.cat];omega
 ·simp[aa,aa.cat,au.same]
 rintro⟨n,t,bf,xs,k1⟩ ⟨P,a,G,K,R⟩;simp only at P a G K R
 by_cases J:0<n
 ·refine aq [(11,true)] 100 rfl (by simp[aa,J]) ?_
  refine AK.bZ (sZ m b y k1 (by omega) i) [0] rfl rfl rfl rfl rfl rfl rfl (λ_=>rfl) rfl (λ_=>rfl) rfl ?_
  rintro⟨p,L⟩;refine aA rfl ab ?_;refine AK.bZ (Cn m b y (k1+1+1) (by omega) i) [0] rfl rfl rfl rfl rfl rfl rfl (λ_=>rfl) rfl (λ_=>rfl) rfl ?_
  rintro⟨⟨x,H⟩,N,C,o⟩;simp only at N C o;refine aA rfl ab ?_;refine AK.EC (zr t p x) 1 0 rfl rfl rfl rfl (gz.Bx rfl (cF.fn t) a.rd) rfl ?_ rfl (λ_=>rfl) (λ_=>rfl) rfl ?_
  ·simp[aa,aa.cat,au.same]
  rintro⟨⟨d,xs'⟩,f⟩;simp only at f ⊢;cases E:(dc t p x).2 with
  |true =>
   have r:=D8 E;generalize (dc t p x).1=t' at f r ⊢;refine aq [] 6 rfl ab ?_;refine AK.swap 1 2 (by decide) rfl rfl (λv O h=>h.1) (λv O h=>h.1) ?_
   refine aq [(23,true)] 100 rfl ?_ (AK.ay (n-1,t',d,xs',H) rfl ?_ rfl rfl rfl ?_ rfl ?_ ?_)
   ·simp[aa,aJ];omega
   ·simp[aa,aa.cat];omega
   ·simp[aa,aa.cat,au.same]
   ·exact⟨by simp only;omega,f,r,by simp only;omega,by simp only;omega⟩
   ·simp only;omega
  |false =>
   refine aq [(23,false)] 100 rfl ?_ (AK.ay (n-1,t,bf,xs,H) rfl ?_ rfl rfl rfl ?_ rfl ?_ ?_)
   ·simp[aa,aJ];omega
   ·simp[aa,aa.cat];omega
   ·simp[aa,aa.cat,au.same]
   ·exact⟨by simp only;omega,a,G,by simp only;omega,by simp only;omega⟩
   ·simp only;omega
 ·obtain rfl:n=0:=by omega
  refine aq [(11,false)] 100 rfl (by simp[aa]) (AK.leaveD rfl rfl ?_)
  refine aA rfl ab ?_;refine AK.bZ (gY m b y k1 40 (by omega) i (by omega)) [0] rfl rfl rfl rfl rfl rfl rfl (λ_=>rfl) rfl (λ_=>rfl) rfl ?_
  rintro⟨u,U,V⟩
  by_cases F:u=0
  ·refine aq [(27,true)] 100 rfl (by simp[aa,F]) ?_
   refine AK.bZ (sZ m b y (k1+1) (by omega) i) [0] rfl rfl rfl rfl rfl rfl rfl (λ_=>rfl) rfl (λ_=>rfl) rfl ?_
   rintro⟨p,L⟩;refine aA rfl ab ?_;refine AK.zQ (l:=1) (bf:=bf) (xs:=xs) (n:=t.length) (xv:=[En p,En [97]]) (PS rfl) rfl rfl rfl rfl rfl rfl rfl rfl (λM v j c B I=>?_) (by show _*32<=_;omega) λd=>?_
   ·rcases j with _|_|j
    ·cases B;have:=str_val I;exact⟨cn some this.1.symm,this.2⟩
    ·cases B;have:=str_val I;exact⟨cn some this.1.symm,this.2⟩
    ·cases B
   refine aA rfl ab (AK.jF ⟨t++[(p,[97])],d,xs++[En p,En [97]],k1+1+1+1,a.snoc p [97] (by omega) (by decide),by simp;omega,by omega,by omega⟩ (AK.cZ [0,1] rfl ?_ ?_ rfl rfl ?_))
   ·simp[aa]
   ·simp;rfl
   ·exact JZ
  by_cases g:u=1
  ·by_cases z:0<t.length
   ·refine AK.EF (gz.len (l:=1) rfl) λD=>?_
    obtain⟨S,cap,rfl⟩:=D.2.2.1 z;refine aq [(27,false),(35,true),(39,true)] 100 rfl ?_ ?_
    ·simp[aa,z,g];omega
    refine AK.zR tok 1 rfl rfl rfl rfl rfl rfl rfl ?_ rfl rfl λvs EB=>?_
    ·have:=a.len;simp;omega
    have w:=a.JY 0 z [65] EB;refine aA rfl ab (AK.jF ⟨t.set 0 ((t.getD 0 cF.bl).1,[65]),.row S cap,_,k1+1,w,by simp;omega,by omega,by omega⟩ (AK.cZ [0,1] rfl ?_ ?_ rfl rfl ?_))
    ·simp[aa]
    ·simp;rfl
    ·exact JZ
   ·cases bf
    all_goals
     refine aq [(27,false),(35,true),(39,false)] 100 rfl ?_ (AK.jF ⟨t,_,xs,k1+1,a,by omega,by omega,by omega⟩ (AK.cZ [0,1] rfl ?_ rfl rfl rfl ?_))
     ·simp[aa,z,g] <;> omega
     ·simp[aa]
     ·exact JZ
  ·refine aq [(27,false),(35,false)] 100 rfl (by simp[aa,F,g]) (AK.jF ⟨t,bf,xs,k1+1,a,by omega,by omega,by omega⟩ (AK.cZ [0,1] rfl ?_ rfl rfl rfl ?_))
   ·simp[aa]
   ·exact JZ
end Go.AM.R1
namespace Go.AM.R1
open Go.Proofs
def zc(a:List D)(res:D):c7:=λargs σ=>match σ with|[]=>some (res,[],[args=a])|_=>none
theorem DF{X:Cx Tryz.prog}{f:FuncId}{a:List D}{res:D}(h:Ev X f a [] res []):dw X f (zc a res):=by
 intro args σ r σ' obs he ho;unfold zc at he;split at he
 ·cases he;have:args=a:=ho;subst this;exact h
 ·cases he
variable {X:Cx Tryz.prog} [X.kB]
abbrev KV:List aH:=[([97],[104,101,108,108,111])]
theorem GX:cr KV=true:=by decide +kernel
abbrev Pv(k:Nat):={ q:List aH×Nat // cr q.1=true/\k<=q.2/\q.2<=k+400 }
theorem JH(m:Nat)(b:Nat->Int)(l:Bytes b)(k:Nat)(f:k<=50000)(d:m<=1048576) :
  cf (ι:=Pv k) X 28 [.e (.one (.ptr 0 0))] [jY m b k] (λq=>cF.sl q.1.1) (λq=>[jY m b q.1.2]):=by
 refine cf.m7 Tryz.func28 rfl rfl rfl λj=>?_
 refine aA rfl ab ?_;refine AK.bZ (JI m b l k f d) [0] rfl rfl rfl rfl rfl rfl rfl (λ_=>rfl) rfl (λ_=>rfl) rfl ?_
 rintro⟨t,bf,xs,k1,h,n,a,c⟩;refine aq [(1000002,true)] 100 rfl ab ?_;refine AK.tg 3 1 (cF.fn t) rfl rfl h.rd ?_;refine aA rfl ab ?_;refine AK.aC (vY t) [] rfl rfl rfl rfl rfl rfl rfl rfl rfl rfl rfl ?_;cases g:cr t with
 |true =>
  refine aA rfl ab (AK.jF ⟨(t,k1),g,a,c⟩ (AK.cZ [0] rfl ?_ rfl rfl rfl gB));simp[aa,au.same]
 |false =>
  refine aA rfl ab (AK.jF ⟨(KV,k1),GX,a,c⟩ (AK.cZ [0] rfl ?_ rfl rfl rfl gB));refine⟨rfl,λi hi=>?_⟩
  have:i=0:=by simp at hi;omega
  subst this;rfl
end Go.AM.R1
namespace Go.AM
section
variable {P:Program}{X:Cx P}{N:Nat}{all:List Oper}{φ:Fr}{x:Nat->D}{r:Bool->Bool->Bool->List aj}{i l f g:Nat}{o:Oper}
abbrev vZ(r:Bool->Bool->Bool->List aj)(l f g:Nat):(Nat->Bool)->List aj:=λD=>r (D l) (D f) (D g)
theorem kg{i j:Nat}{D:Nat->Bool}(h:Nat.beq j i=false):lS i D j=D j:=by simp only[lS,h]
theorem xT{i:Nat}{D:Nat->Bool}:lS i D i=true:=by simp only[lS,gT]
theorem iQ.q3(h1:Nat.beq l i=false)(h2:Nat.beq f i=false)(b:Nat.beq g i=false)(h:∀ a c d,OA X N all o (iO all φ x i) (r a c d) (x i) (r a c d)):iQ X N all φ x (vZ r l f g) i o:=by
 intro D _ _;show OA X N all o _ (r (D l) (D f) (D g)) _ (r (lS i D l) (lS i D f) (lS i D g));rw[kg h1,kg h2,kg b];exact h _ _ _
theorem iQ.e1(hi:Nat.beq l i=true)(h1:Nat.beq l i=true)(h2:Nat.beq f i=false)(a:Nat.beq g i=false)(h:∀ c d,OA X N all o (iO all φ x i) (r false c d) (x i) (r true c d)):iQ X N all φ x (vZ r l f g) i o:=by
 intro D _ b;have e:=aO hi;subst e;show OA X N all o _ (r (D l) (D f) (D g)) _ (r (lS l D l) (lS l D f) (lS l D g));rw[xT,kg h2,kg a,b l (.inl rfl)];exact h _ _
theorem iQ.e2(hi:Nat.beq f i=true)(h1:Nat.beq l i=false)(j:Nat.beq g i=false)(c:Aa all g i=true)(d:Nat.beq f i=true)(h:∀ a,OA X N all o (iO all φ x i) (r a false false) (x i) (r a true false)):iQ X N all φ x (vZ r l f g) i o:=by
 intro D _ b;have e:=aO hi;subst e;show OA X N all o _ (r (D l) (D f) (D g)) _ (r (lS f D l) (lS f D f) (lS f D g));rw[xT,kg h1,kg j,b f (.inl rfl),b g (.inr c)];exact h _
theorem iQ.e3(hi:Nat.beq g i=true)(h1:Nat.beq l i=false)(h2:Nat.beq f i=false)(c:Aa all i f=true)(d:Nat.beq g i=true)(h:∀ a,OA X N all o (iO all φ x i) (r a true false) (x i) (r a true true)):iQ X N all φ x (vZ r l f g) i o:=by
 intro D b j;have e:=aO hi;subst e;show OA X N all o _ (r (D l) (D f) (D g)) _ (r (lS g D l) (lS g D f) (lS g D g));rw[xT,kg h1,kg h2,j g (.inl rfl),b f c];exact h _
end
namespace R1
open Go.Proofs
variable {X:Cx Tryz.prog} [X.kB]
abbrev nU:aj:=.cells 27 [dk,dk,dk]
def d92(m:Nat)(b:Nat->Int) (k:Int)(s s':az)(a c d:Bool):List aj :=
 match a,c,d with
 |false,false,false=>[jY m b k,nU,mS s]
 |true,false,false=>[jY m b (k+1),nU,mS s]
 |false,true,false=>[jY m b k,nU,mS s,nU]
 |true,true,false=>[jY m b (k+1),nU,mS s,nU]
 |false,true,true=>[jY m b k,nU,mS s,mS s']
 |true,true,true=>[jY m b (k+1),nU,mS s,mS s']
 |false,false,true=>[jY m b k,nU,mS s]
 |true,false,true=>[jY m b (k+1),nU,mS s]
abbrev XM(v:Int)(s s':az)(t:List aH)(ok:Bool)(i:Nat):D:=[eH s,.e (.one (.ptr 0 0)),dI v,dI (1+v),cF.sl t,QF s' ok,QF s' ok,eH s',dB ok,.e (.one (.ptr 3 0)),.any,dB ok].getD i .any
abbrev XN(k:Nat):={ q:az×Nat // D7 q.1/\k<=q.2/\q.2<=k+1000 }
abbrev f92(t:List aH)(n:Nat):Fr:=[(0,.e (.one (.ptr 0 0))),(2,.e (.one (.ptr 1 0))),(3,.e (.one (.ptr 2 0))),(4,cF.sl t),(5,dI n)]
set_option maxHeartbeats 8000000 in
set_option maxRecDepth 20000 in
theorem A0(m:Nat)(b:Nat->Int)(H:Bytes b)(k:Nat)(hk:k<=40000)(z:m<=1048576) :
  cf (ι:=XN k) X 12 [.e (.one (.ptr 0 0))] [jY m b k] (λq=>eH q.1.1) (λq=>[jY m b q.1.2]):=by
 refine cf.jz tok Tryz.func12 rfl rfl rfl λhf=>?_
 refine aA rfl ab ?_;refine AK.bZ (JH m b H k (by omega) z) [0] rfl rfl rfl rfl rfl rfl rfl (λ_=>rfl) rfl (λ_=>rfl) rfl ?_
 rintro⟨⟨t0,k1⟩,T,Z,J⟩;simp only at T Z J;refine aA rfl ab ?_;refine AK.bZ (gY m b H k1 5 (by omega) z (by omega)) [0] rfl rfl rfl rfl rfl rfl rfl (λ_=>rfl) rfl (λ_=>rfl) rfl ?_
 rintro⟨u,u0,u1⟩;refine aA rfl ab ?_;refine AK.bA 3 (λq:az×List aH×Nat×Nat=>D7 q.1/\cr q.2.1=true/\q.2.2.1<=4/\k<=q.2.2.2/\q.2.2.2+100*q.2.2.1<=k+900) (λq=>f92 q.2.1 q.2.2.1) (λq=>[jY m b q.2.2.2,nU,mS q.1]) (λq=>q.2.2.1) (([],[],[]),t0,u.toNat,k1+1) rfl ?_ rfl ?_ rfl ⟨D7.nil,T,by simp only;omega,by simp only;omega,by simp only;omega⟩ ?_
 ·simp only[aa.cat,aa,af,ae];and_intros <;> first|exactλ_ _=>rfl|omega
 ·simp[aa.cat,aa,au.same,au.nil]
 rintro⟨s,t,n,j⟩ ⟨A,U,XO,I,L⟩;simp only at A U XO I L
 by_cases hn:0<n
 ·refine aq [(19,true),(1000006,true)] 200 rfl (by simp only[aa,av];omega) ?_
  have hv:=ig m b j 2 (by omega)
  have V:=DC (X:=X) 7 s (1+fR m b j 2) t (by decide) A.size A.num (jG U) A.eb
  have K:D7 (if jX 7 s t=true then s else m8 7 s (1+fR m b j 2) t):=by
   cases W:jX 7 s t with
   |true=>exact A
   |false=>exact A.save U (by omega) W
  generalize LL:(if jX 7 s t=true then s else m8 7 s (1+fR m b j 2) t)=s' at *
  have Qx:jX 7 s t=true->s'=s:=λh=>by rw[<-LL,an h]
  generalize jX 7 s t=fu at *;have y:aY X [(29,SX),(30,zc [dI 7,eH s,dI (1+fR m b j 2),cF.sl t] (QF s' (!fu)))]:=.cons t29 (.cons (DF V) .nil);have G:aa [(j:Int)=(j:Int).toNat,Cm b=Cm (JJ (Cm b)),Bytes (JJ (Cm b)),(j:Int)<=1000000,m<=1048576,(1:Int)<=2,(2:Int)<=1000000]:=⟨rfl,rfl,H,by omega,z,by omega,(by decide:(2:Int)<=1000000)⟩
  have M:aJ .i64 (1+fR m b j 2):=by simp only[aJ];omega
  have F:([dI 7,eH s,dI (1+fR m b j 2),cF.sl t]:List D)=[dI 7,eH s,dI (1+fR m b j 2),cF.sl t]:=rfl;refine AK.flags nc (XM (fR m b j 2) s s' t (!fu)) (vZ (d92 m b j s s') 2 9 10) rfl rfl rfl rfl
   ⟨iQ.q3 rfl rfl rfl (λa c d=>by cases a <;> cases c <;> cases d <;> exact OA.bS tok y rfl),
  iQ.q3 rfl rfl rfl (λa c d=>by cases a <;> cases c <;> cases d <;> exact OA.bS tok y rfl),
  iQ.e1 rfl rfl rfl rfl (λc d=>by cases c <;> cases d <;> exact gp (ds:=[]) tok y (σ':=some _) rfl G),
  iQ.q3 rfl rfl rfl (λa c d=>by cases a <;> cases c <;> cases d <;> exact OA.eval (ds:=[]) tok y rfl M),
  iQ.q3 rfl rfl rfl (λa c d=>by cases a <;> cases c <;> cases d <;> exact OA.bS tok y rfl),
  iQ.q3 rfl rfl rfl (λa c d=>by cases a <;> cases c <;> cases d <;> exact OA.eval (ds:=[]) tok y rfl F),
  iQ.q3 rfl rfl rfl (λa c d=>by cases a <;> cases c <;> cases d <;> exact OA.bS tok y rfl),
  iQ.q3 rfl rfl rfl (λa c d=>by cases a <;> cases c <;> cases d <;> exact OA.bS tok y rfl),
  iQ.q3 rfl rfl rfl (λa c d=>by cases a <;> cases c <;> cases d <;> exact OA.bS tok y rfl),
  iQ.e2 rfl rfl rfl rfl rfl (λa=>by cases a <;> exact gp (ds:=[]) tok y (σ':=some _) rfl ab),
  iQ.e3 rfl rfl rfl rfl rfl (λa=>by cases a <;> exact gp (ds:=[]) tok y (σ':=some _) rfl ab),
  iQ.q3 rfl rfl rfl (λa c d=>by cases a <;> cases c <;> cases d <;> exact OA.bS tok y rfl),ab⟩ ?_
  intro D B;show AK X _ _ _ _ _ (d92 m b j s s' (D 2) (D 9) (D 10));rw[B 2 (by decide),B 9 (by decide),B 10 (by decide)]
  apply AK.join (f92 t n) [jY m b (j+1:Nat),nU,mS s',mS s']
  ·intro out;cases fu with
   |true =>
    obtain rfl:=Qx rfl;refine aq [(1000009,true)] 200 rfl ab ?_;exact out _ _ rfl (by simp[aa.cat,aa,au.same])
   |false =>
    refine aq [(1000009,true)] 200 rfl ab ?_;exact out _ _ rfl (by simp[aa.cat,aa,au.same])
  refine cE rfl ab ?_;refine AK.bZ (sZ m b H (j+1) (by omega) z) [0] rfl rfl rfl rfl rfl rfl rfl (λ_=>rfl) rfl (λ_=>rfl) rfl ?_
  rintro⟨p,hp⟩;refine cE rfl ab ?_;refine AK.bZ (Cn m b H (j+1+1+1) (by omega) z) [0] rfl rfl rfl rfl rfl rfl rfl (λ_=>rfl) rfl (λ_=>rfl) rfl ?_
  rintro⟨⟨x,S⟩,hx,Y,Q⟩;simp only at hx Y Q;refine cE rfl ab ?_;refine AK.aC (uD t p x) [] rfl rfl rfl rfl rfl rfl rfl rfl rfl rfl rfl ?_;have R:=A1 (t:=t) (p:=p) (x:=x);obtain⟨E,v⟩:∃ E,E=if (dc t p x).2=true then (dc t p x).1 else t:=⟨_,rfl⟩
  have C:cr E=true:=by
   rw[v];split
   ·rename_i h;exact R h
   ·exact U
  apply AK.join (f92 E n) [jY m b S,nU,mS s',mS s']
  ·intro out;cases O:(dc t p x).2 with
   |true =>
    rw[O,an rfl] at v;rw[<-v];refine aq [(1000012,true)] 200 rfl ab ?_;exact out _ _ rfl (by simp[aa.cat,aa,au.same])
   |false =>
    rw[O,ak (by simp)] at v
    rw[v] at out;refine aq [(1000012,true)] 200 rfl ab ?_;exact out _ _ rfl (by simp[aa.cat,aa,au.same])
  clear v;refine cE rfl ab ?_;refine AK.bZ (gY m b H S 3 (by omega) z (by omega)) [0] rfl rfl rfl rfl rfl rfl rfl (λ_=>rfl) rfl (λ_=>rfl) rfl ?_
  rintro⟨w,w0,w1⟩
  by_cases hw:w=0
  ·refine aq [(46,true)] 200 rfl (by simp[aa,hw]) ?_
   refine AK.bZ (sZ m b H (S+1) (by omega) z) [0] rfl rfl rfl rfl rfl rfl rfl (λ_=>rfl) rfl (λ_=>rfl) rfl ?_
   rintro⟨p2,BK⟩;have OL:=mT C;refine cE rfl ab ?_;refine AK.aC (Co E p2 (by omega)) [] rfl rfl rfl rfl rfl rfl rfl rfl rfl rfl rfl ?_
   refine cE rfl ?_ (AK.ay (s',jH E p2,n-1,S+1+1+1) rfl ?_ rfl rfl rfl ?_ rfl ?_ ?_)
   ·simp only[aa,aJ];omega
   ·simp only[aa.cat,aa,af,ae];and_intros <;> first|exactλ_ _=>rfl|omega
   ·simp[aa.cat,aa,au.same]
   ·exact⟨K,GY p2 C,by simp only;omega,by simp only;omega,by simp only;omega⟩
   ·simp only;omega
  ·refine aq [(46,false)] 200 rfl (by simp[aa,hw,aJ];omega) (AK.ay (s',E,n-1,S+1) rfl ?_ rfl rfl rfl ?_ rfl ?_ ?_)
   ·simp only[aa.cat,aa,af,ae];and_intros <;> first|exactλ_ _=>rfl|omega
   ·simp[aa.cat,aa,au.same]
   ·exact⟨K,C,by simp only;omega,by simp only;omega,by simp only;omega⟩
   ·simp only;omega
 ·refine aq [(19,false)] 200 rfl (by simp only[aa,aZ];omega) (AK.leaveD rfl rfl ?_)
  refine cE rfl ab ?_;refine AK.ez ⟨(s,j),A,I,by simp only;omega⟩ [0] rfl rfl rfl rfl rfl rfl rfl rfl ?_ rfl rfl rfl rfl gB
  simp[aa.cat,aa,au.same]
end R1
end Go.AM
namespace Go.AM.R1
open Go.Proofs
section
variable {X:Cx Tryz.prog}
set_option maxRecDepth 20000 in
theorem MR(m:Nat)(b:Nat->Int)(f:Bytes b)(k:Nat)(c:k<=1000000)(a:m<=1048576)(l:List Bs)(g:1<=l.length/\l.length<=1000) :
  Ev X 35 [.e (.one (.ptr 0 0)),cS.sl l] [jY m b k] (dS (l.getD (fR m b k l.length).toNat [])) [jY m b (k+1)]:=by
 refine Ev.body Tryz.func35 rfl rfl rfl λd=>?_
 refine aA rfl ab ?_;refine AK.aC (iK m b f k l.length c a (by omega)) [0] rfl rfl rfl rfl rfl rfl rfl rfl rfl rfl rfl ?_
 have h:=ig m b k l.length (by omega)
 refine aA rfl ?_ (AK.cZ [0] rfl ?_ rfl rfl rfl vi)
 ·simp[aa];omega
 ·rfl
def A2:List Bs:=[[122,122],[98,46],[97,98,99,46],[104,101,108,108,111,46,46,46],[]]
theorem GZ:au 5 (λi=>([[.str [122,122]],[.str [98,46]],[.str [97,98,99,46]],[.str [104,101,108,108,111,46,46,46]],[.str []]]:List (List C)).getD i []) (cS.fn A2):=by
 intro i hi;have:i=0∨i=1∨i=2∨i=3∨i=4:=by omega
 rcases this with rfl|rfl|rfl|rfl|rfl <;> rfl
abbrev A3(m:Nat)(b:Nat->Int)(k:Nat):Int:=fR m b k 5
abbrev MS(m:Nat)(b:Nat->Int)(k:Nat):Int:=fR m b (k+2) 4
abbrev MT(m:Nat)(b:Nat->Int)(k:Nat):Bs:=A2.getD (fR m b (k+3) 5).toNat []
def ql(m:Nat)(b:Nat->Int)(k n:Nat):Int×Nat:=if A3 m b k=2∨A3 m b k=4 then (fR m b (k+4) (n+1:Nat),k+5) else (1+fR m b (k+1) 5,k+4)
def MU(m:Nat)(b:Nat->Int)(k n:Nat):cQ:=(if fR m b (ql m b k n).2 24=0 then 5 else A3 m b k,(ql m b k n).1,MS m b k,MT m b k)
abbrev G0:aj:=.cells 29 [.c (.int .i64 0),.c (.int .i64 0),.c (.int .i64 0),.c (.str [])]
set_option maxRecDepth 20000 in
set_option maxHeartbeats 2000000 in
theorem G1(m:Nat)(b:Nat->Int)(d:Bytes b)(k:Nat)(s:az)(n:k<=500000)(a:m<=1048576)(r:s.2.2.length<=1000) :
  Ev X 13 [.e (.one (.ptr 0 0)),eH s] [jY m b k] (fX (MU m b k s.2.2.length)) [jY m b ((ql m b k s.2.2.length).2+1:Nat)]:=by
 refine Ev.jV tok Tryz.func13 rfl rfl rfl λl=>?_
 refine aA rfl ab ?_;refine AK.aC (iK m b d k 5 (by omega) a (by omega)) [0] rfl rfl rfl rfl rfl rfl rfl rfl rfl rfl rfl ?_
 refine aA rfl ab ?_;refine AK.aC (iK m b d (k+1) 5 (by omega) a (by omega)) [0] rfl rfl rfl rfl rfl rfl rfl rfl rfl rfl rfl ?_
 have r0:=ig m b k 5 (by omega)
 have p:=ig m b (k+1) 5 (by omega)
 have o:=ig m b (k+2) 4 (by omega)
 refine aA rfl (by simp only[aa,aJ];omega) ?_
 refine AK.aC (iK m b d (k+2) 4 (by omega) a (by omega)) [0] rfl rfl rfl rfl rfl rfl rfl rfl rfl rfl rfl ?_
 refine aA rfl ab ?_;refine AK.pV (MR m b d (k+3) (by omega) a A2 (by decide)).EM [0] rfl rfl rfl rfl ?_ rfl rfl rfl (λ_=>rfl) rfl (λ_=>rfl) rfl ?_
 ·simp only[aa.cat,aa,af,ae];exact⟨rfl,GZ⟩
 rintro -
 apply AK.join [(0,.e (.one (.ptr 0 0))),(4,.e (.one (.ptr 2 0))),(5,.e (.one (.ptr 3 0)))] [jY m b ((ql m b k s.2.2.length).2:Nat),mS s,G0,.cells 29 [.c (.int .i64 (A3 m b k)),.c (.int .i64 (ql m b k s.2.2.length).1),.c (.int .i64 (MS m b k)),.c (.str (MT m b k))]]
 ·intro out
  by_cases f:A3 m b k=2
  ·refine aq [(19,true)] 100 rfl ?_ ?_
   ·simp only[aa,aJ,f];and_intros <;> first|rfl|omega
   refine AK.aC (iK m b d (k+4) (s.2.2.length+1:Nat) (by omega) a (by omega)) [0] rfl rfl rfl rfl rfl rfl rfl rfl rfl rfl rfl ?_
   refine aq [(1000004,true)] 100 rfl ab ?_;refine AK.norm _ rfl ?_ (out _ _ rfl ?_)
   ·simp[aa.cat,aa,au.same,ql,f]
    and_intros <;> first|omega|rfl
   ·simp[aa.cat,aa]
  by_cases h:A3 m b k=4
  ·refine aq [(19,false),(23,true)] 100 rfl ?_ ?_
   ·simp only[aa,aJ,cD,eU,bY];and_intros <;> first|exact f|exact h|omega
   refine AK.aC (iK m b d (k+4) (s.2.2.length+1:Nat) (by omega) a (by omega)) [0] rfl rfl rfl rfl rfl rfl rfl rfl rfl rfl rfl ?_
   refine aq [(1000004,true)] 100 rfl ab ?_;refine AK.norm _ rfl ?_ (out _ _ rfl ?_)
   ·simp[aa.cat,aa,au.same,ql,h]
    and_intros <;> first|omega|rfl
   ·simp[aa.cat,aa]
  ·refine aq [(19,false),(23,false),(1000004,true)] 100 rfl ?_ ?_
   ·simp only[aa,cD,bY];and_intros <;> first|exact f|exact h
   refine AK.norm _ rfl ?_ (out _ _ rfl ?_)
   ·simp[aa.cat,aa,au.same,ql,f,h]
    and_intros <;> first|omega|rfl
   ·simp[aa.cat,aa]
 have j:(ql m b k s.2.2.length).2<=k+5:=by unfold ql;split <;> simp
 have i:MU m b k s.2.2.length=(if fR m b (ql m b k s.2.2.length).2 24=0 then 5 else A3 m b k,(ql m b k s.2.2.length).1,MS m b k,MT m b k):=rfl
 rw[i];generalize ql m b k s.2.2.length=q at *;refine aA rfl ab ?_;refine AK.aC (iK m b d q.2 24 (by omega) a (by omega)) [0] rfl rfl rfl rfl rfl rfl rfl rfl rfl rfl rfl ?_
 by_cases g:fR m b q.2 24=0
 ·rw[an g];refine aq [(34,true)] 100 rfl (by simp[aa,g]) ?_
  refine AK.ez () [0] rfl rfl rfl rfl rfl rfl rfl rfl ?_ rfl rfl rfl rfl gB;simp[aa.cat,aa]
 ·rw[ak g];refine aq [(34,false)] 100 rfl (by simp[aa,g]) ?_
  refine AK.ez () [0] rfl rfl rfl rfl rfl rfl rfl rfl ?_ rfl rfl rfl rfl gB;simp[aa.cat,aa]
end
def KW(a:List D)(σ0:List aj)(res:D)(σ1:List aj):c7:=λargs σ=>some (res,σ1,[args=a,σ=σ0])
theorem Pw{X:Cx Tryz.prog}{f:FuncId}{a:List D}{σ0 σ1:List aj}{res:D}(h:Ev X f a σ0 res σ1):dw X f (KW a σ0 res σ1):=by
 intro args σ r σ' obs he ho;cases he;obtain⟨c,b⟩:args=a/\σ=σ0:=ho;subst c b;exact h
variable {X:Cx Tryz.prog} [X.kB]
def Ve(m:Nat)(b:Nat->Int) (k k':Int)(s:az)(l:cQ)(a c d:Bool):List aj :=
 match a,c,d with
 |false,false,false=>[nU,G0,jY m b k,mS s]
 |true,false,false=>[nU,G0,jY m b k',mS s]
 |true,true,false=>[mS s,G0,jY m b k',mS s]
 |true,true,true=>[mS s,.cells 29 (ux l),jY m b k',mS s]
 |false,true,false=>[mS s,G0,jY m b k,mS s]
 |false,true,true=>[mS s,.cells 29 (ux l),jY m b k,mS s]
 |false,false,true=>[nU,.cells 29 (ux l),jY m b k,mS s]
 |true,false,true=>[nU,.cells 29 (ux l),jY m b k',mS s]
abbrev x4(s:az)(l:cQ)(i:Nat):D:=[eH s,.e (.one (.ptr 2 0)),eH s,fX l,.any,.any].getD i .any
abbrev XP(q:az×cQ):D:=.dH [.agg [.c (SR q.1.1),.c (SU q.1.2.1),.c (y7 q.1.2.2)],.agg (ux q.2)]
set_option maxHeartbeats 4000000 in
set_option maxRecDepth 20000 in
theorem G2(m:Nat)(b:Nat->Int)(j:Bytes b)(n:m<=1048576) :
  cf (ι:={ q:az×cQ // D7 q.1 }) X 4 [.e (.one (.c (.sl false 1 m (Cm b))))] [] (λq=>XP q.1) (λ_=>[]):=by
 refine cf.EP Tryz.func4 rfl rfl (cA rfl) (AK.of_code ?_);refine aA rfl ab ?_;refine AK.bZ (JK m b n) [] rfl rfl rfl rfl rfl rfl rfl (λ_=>rfl) rfl (λ_=>rfl) rfl ?_
 rintro⟨f,hm'⟩;refine aA rfl ab ?_;refine AK.bZ (A0 f b j 0 (by omega) hm') [2] rfl rfl rfl rfl rfl rfl rfl (λ_=>rfl) rfl (λ_=>rfl) rfl ?_
 rintro⟨⟨s,k⟩,i,_,o⟩;simp only at i o;refine aq [(1000003,true)] 100 rfl ab ?_;have hl:=G1 (X:=X) f b j k s (by omega) hm' (by have:=i.hl;omega)
 generalize MU f b k s.2.2.length=l at hl;generalize (ql f b k s.2.2.length).2+1=k' at hl;have h:aY X [(13,KW [.e (.one (.ptr 0 0)),eH s] [jY f b k] (fX l) [jY f b k'])]:=.cons (Pw hl) .nil;refine AK.flags nc (x4 s l) (vZ (Ve f b k k' s l) 3 4 5) rfl rfl rfl rfl
  ⟨iQ.q3 rfl rfl rfl (λa c d=>by cases a <;> cases c <;> cases d <;> exact OA.bS tok h rfl),
  iQ.q3 rfl rfl rfl (λa c d=>by cases a <;> cases c <;> cases d <;> exact OA.bS tok h rfl),
  iQ.q3 rfl rfl rfl (λa c d=>by cases a <;> cases c <;> cases d <;> exact OA.bS tok h rfl),
  iQ.e1 rfl rfl rfl rfl (λc d=>by cases c <;> cases d <;> exact gp (ds:=[]) tok h (σ':=some _) rfl ⟨rfl,rfl⟩),
  iQ.e2 rfl rfl rfl rfl rfl (λa=>by cases a <;> exact gp (ds:=[]) tok h (σ':=some _) rfl ab),
  iQ.e3 rfl rfl rfl rfl rfl (λa=>by cases a <;> exact gp (ds:=[]) tok h (σ':=some _) rfl ab),ab⟩ ?_
 intro D g;show AK X _ _ _ _ _ (Ve f b k k' s l (D 3) (D 4) (D 5));rw[g 3 (by decide),g 4 (by decide),g 5 (by decide)]
 refine aA rfl ab ?_;refine AK.freeze 2 0 rfl rfl rfl ?_;refine AK.freeze 3 1 rfl rfl rfl ?_;refine AK.gE (λ_ _ _ q=>⟨⟨(s,l),i⟩,q⟩) ?_
 refine AK.zV tok [] rfl ?_ rfl rfl rfl mP;simp[aa.cat,aa,au.same]
end Go.AM.R1
namespace Go.AM.R1
open Go.Proofs
variable {X:Cx Tryz.prog}
theorem DG(l:List Int):Ev X 50 [cI.sl l,cI.sl l] [] (dB true) []:=by
 refine Ev.body Tryz.func50 rfl rfl rfl λa=>?_
 have b:=a.sl 0 rfl;refine aq [(10,false)] 100 rfl (by simp[aa]) ?_
 refine AK.bA 0 (λi=>i<=l.length) (λi:Nat=>[(0,cI.sl l),(1,cI.sl l),(5,dI i)]) (λ_=>[]) (λi=>l.length-i) 0 rfl (by simp[aa.cat,aa,au.same]) rfl (by simp[aa]) rfl (by omega) ?_
 intro i hi
 by_cases h:i<l.length
 ·refine aq [(14,true),(25,false)] 200 rfl ?_ (AK.ay (i+1) rfl ?_ rfl rfl rfl ?_ rfl ?_ ?_)
  ·simp only[aa,aJ,fG,iu,ma,av,af,ae];and_intros <;> omega
  ·simp[aa.cat,aa,au.same]
  ·simp[aa]
  ·show i+1<=_;omega
  ·omega
 ·refine aq [(14,false)] 200 rfl (by simp[aa];omega) (AK.leaveD rfl rfl ?_)
  refine cE rfl ab (AK.aK rfl ?_);simp[aa]
abbrev Px:c7:=qO (aL cI) (aL cI) (λ_ _=>dB true) λa b=>[b=a]
theorem SY:dw X 50 Px:=.xz λa b h=>by
 have:b=a:=h;subst this;exact DG _
theorem G3(l:List (Int×Int)):Ev X 16 [cH.sl l,cH.sl l] [] (dB true) []:=by
 refine Ev.body Tryz.func16 rfl rfl rfl λa=>?_
 have b:=a.sl 0 rfl;refine aq [(10,false)] 100 rfl (by simp[aa]) ?_
 refine AK.bA 0 (λi=>i<=l.length) (λi:Nat=>[(0,cH.sl l),(1,cH.sl l),(5,dI i)]) (λ_=>[]) (λi=>l.length-i) 0 rfl (by simp[aa.cat,aa,au.same]) rfl (by simp[aa]) rfl (by omega) ?_
 intro i hi
 by_cases h:i<l.length
 ·refine aq [(14,true),(25,false)] 200 rfl ?_ (AK.ay (i+1) rfl ?_ rfl rfl rfl ?_ rfl ?_ ?_)
  ·simp[aa,aJ,h];omega
  ·simp[aa.cat,aa,au.same]
  ·simp[aa]
  ·show i+1<=_;omega
  ·omega
 ·refine aq [(14,false)] 200 rfl (by simp[aa];omega) (AK.leaveD rfl rfl ?_)
  refine cE rfl ab (AK.aK rfl ?_);simp[aa]
abbrev Py:c7:=qO (aL cH) (aL cH) (λ_ _=>dB true) λa b=>[b=a]
theorem SZ:dw X 16 Py:=.xz λa b h=>by
 have:b=a:=h;subst this;exact G3 _
abbrev pB(p:a9):aj:=.cells 56 [.c (.int .i64 p.1),.c (.sl false 2 p.2.length (dO.fn p.2))]
theorem DH(p:a9):Ev X 17 [AE p,AE p] [] (dB true) []:=by
 refine Ev.body Tryz.func17 rfl rfl rfl λk=>?_
 by_cases o:p.2.length<=9223372036854775807
 ·refine aq [(10,false),(18,false)] 100 rfl (by simp[aa]) ?_
  refine AK.bA 2 (λi=>i<=p.2.length) (λi:Nat=>[(2,.e (.one (.ptr 0 0))),(3,.e (.one (.ptr 1 0))),(5,dI i)]) (λ_=>[pB p,pB p]) (λi=>p.2.length-i) 0 rfl (by simp[aa.cat,aa]) rfl (by simp[aa.cat,aa,au.same]) rfl (by omega) ?_
  intro i hi
  by_cases h:i<p.2.length
  ·refine aq [(24,true),(37,false)] 200 rfl ?_ (AK.ay (i+1) rfl ?_ rfl rfl rfl ?_ rfl ?_ ?_)
   ·simp[aa,aJ,h];omega
   ·simp[aa.cat,aa]
   ·simp[aa.cat,aa,au.same]
   ·show i+1<=_;omega
   ·omega
  ·refine aq [(24,false)] 200 rfl (by simp[aa];omega) (AK.leaveD rfl rfl ?_)
   refine cE rfl ab (AK.aK rfl ?_);simp[aa]
 ·exfalso;obtain⟨s,vs,d,_⟩:=k;obtain⟨n,l⟩:∃ v,cd [] s v (AE p):=by
   match vs,d with
   |[a,_],d=>exact⟨a,d.1⟩
  obtain⟨m,_,g⟩:=l
  match m,g with
  |[a,c],g =>
   have:=g.2.1;cases (show Rd s.M c (.sl false 2 p.2.length (dO.fn p.2)) from this) with
   |sl b off f j q=>omega
abbrev Pz:c7:=qO (H5 dO) (H5 dO) (λ_ _=>dB true) λa b=>[b=a]
theorem S0:dw X 17 Pz:=.xz λa b h=>by
 have:b=a:=h;subst this;exact DH _
abbrev sB(p:cB):aj:=.cells 39 [.c (.int .i64 p.1),.c (.sl false 2 p.2.length (cL.fn p.2))]
theorem DI(x:cB)(c:x.2.length<=1000000):Ev X 18 [Cd x,Cd x] [] (dB true) []:=by
 refine Ev.body Tryz.func18 rfl rfl rfl λb=>?_
 have a:aY X [(50,Px)]:=.cons SY .nil;refine ah a [(10,false),(18,false)] 100 rfl (by simp[aa]) ?_
 refine AK.bA 2 (λi=>i<=x.2.length) (λi:Nat=>[(2,.e (.one (.ptr 0 0))),(3,.e (.one (.ptr 1 0))),(5,dI i)]) (λ_=>[sB x,sB x]) (λi=>x.2.length-i) 0 rfl (by simp[aa.cat,aa]) rfl (by simp[aa.cat,aa,au.same]) rfl (by omega) ?_
 intro i hi
 by_cases h:i<x.2.length
 ·refine ah a [(24,true),(39,false),(53,true)] 200 rfl ?_ (AK.ay (i+1) rfl ?_ rfl rfl rfl ?_ rfl ?_ ?_)
  ·simp only[aa,aJ,fG,iu,ma,av,af,ae];and_intros <;> first|exact cI.bu _|omega
  ·simp[aa.cat,aa]
  ·simp[aa.cat,aa,au.same]
  ·show i+1<=_;omega
  ·omega
 ·refine ah a [(24,false)] 200 rfl (by simp[aa];omega) (AK.leaveD rfl rfl ?_)
  refine ah a [] 200 rfl ab (AK.aK rfl ?_);simp[aa]
abbrev PC:c7:=qO (H5 cL) (H5 cL) (λ_ _=>dB true) λa b=>[b=a,b.2.length<=1000000]
theorem S1:dw X 18 PC:=.xz λa b h=>by
 obtain⟨rfl,c⟩:b=a/\_:=h;exact DI _ c
abbrev KS(s:az):aj:=.cells 27 [.c (.sl false 2 s.1.length (cP.fn s.1)),.c (.sl false 2 s.2.1.length (cT.fn s.2.1)),.c (.sl false 2 s.2.2.length (cH.fn s.2.2))]
set_option maxHeartbeats 1000000 in
theorem A4(s:az)(b:fb s):Ev X 6 [eH s,eH s] [] (dB true) []:=by
 refine Ev.body Tryz.func6 rfl rfl rfl λd=>?_
 have a:aY X [(16,Py),(17,Pz),(18,PC)]:=.cons SZ (.cons S0 (.cons S1 .nil));have g:=b.p;have j:=b.sn;refine ah a [(13,false),(21,false),(28,true)] 200 rfl ?_ ?_
 ·simp only[aa,aJ,fG,iu,ma,av,af,ae];and_intros <;> first|exact cH.bu _|omega
 refine AK.bA 2 (λi=>i<=s.1.length) (λi:Nat=>[(2,.e (.one (.ptr 0 0))),(3,.e (.one (.ptr 1 0))),(5,dI i)]) (λ_=>[KS s,KS s]) (λi=>s.1.length-i) 0 rfl (by simp[aa.cat,aa]) rfl (by simp[aa.cat,aa,au.same]) rfl (by omega) ?_
 intro i hi
 by_cases h:i<s.1.length
 ·refine ah a [(35,true),(48,true)] 200 rfl ?_ (AK.ay (i+1) rfl ?_ rfl rfl rfl ?_ rfl ?_ ?_)
  ·simp only[aa,aJ,av,af,ae];and_intros <;> first|exact dO.bu _|omega
  ·simp[aa.cat,aa]
  ·simp[aa.cat,aa,au.same]
  ·show i+1<=_;omega
  ·omega
 refine ah a [(35,false)] 200 rfl (by simp[aa];omega) (AK.leaveD rfl rfl ?_)
 refine ah a [] 200 rfl ab ?_;refine AK.bA 2 (λi=>i<=s.2.1.length) (λi:Nat=>[(2,.e (.one (.ptr 0 0))),(3,.e (.one (.ptr 1 0))),(6,dI i)]) (λ_=>[KS s,KS s]) (λi=>s.2.1.length-i) 0 rfl (by simp[aa.cat,aa]) rfl (by simp[aa.cat,aa,au.same]) rfl (by omega) ?_
 intro i hi
 by_cases h:i<s.2.1.length
 ·have f:=(b.s2 _ (jh h (0,[]))).1;have c:s.2.1.getD (i:Int).toNat cT.bl=s.2.1.getD i (0,[]):=by rw[aF];rfl
  refine ah a [(54,true),(67,true)] 200 rfl ?_ (AK.ay (i+1) rfl ?_ rfl rfl rfl ?_ rfl ?_ ?_)
  ·simp only[aa,aJ,c,cL.list_fn,av,af,ae];and_intros <;> first|exact cL.bu _|omega
  ·simp[aa.cat,aa]
  ·simp[aa.cat,aa,au.same]
  ·show i+1<=_;omega
  ·omega
 refine ah a [(54,false)] 200 rfl (by simp[aa];omega) (AK.leaveD rfl rfl ?_)
 refine ah a [] 200 rfl ab (AK.aK rfl ?_);simp[aa]
end Go.AM.R1
namespace Go.AM.R1
open Go.Proofs
abbrev XB:Cx Tryz.prog:=Cx.beside Tryz.prog
theorem MZ.names{x:cB}(h:MZ x):(bU x.2).length<=1000000:=by
 obtain⟨no,t,_,_,a,rfl⟩:=h.ex;have b:=jG a;have:(bU (ga no 7 t).2).length=(iJ t).length:=by
  simp only[bU,ga,iJ,List.flatMap_map,List.length_flatMap,lp,ku]
 have:=b.all;omega
set_option maxHeartbeats 4000000 in
theorem M0(n f:Nat)(q v:Nat->Int)(r:Bytes q)(G:Bytes v)(E:n<=9223372036854775807)(I:f<=9223372036854775807) :
  Ev XB 3 [.e (.one (.c (.sl false 1 n (Cm q)))),.e (.one (.c (.sl false 1 f (Cm v))))] [] (dB true) []:=by
 refine Ev.body Tryz.func3 rfl rfl rfl λK=>?_
 by_cases L:n>1048576
 ·refine aq [(15,true),(19,true)] 100 rfl ?_ (AK.aK rfl ?_)
  ·simp only[aa,av,aZ,af,ae];omega
  ·simp[aa]
 by_cases N:f>1048576
 ·refine aq [(15,false),(19,true)] 100 rfl ?_ (AK.aK rfl ?_)
  ·simp only[aa,av,aZ,af,ae];omega
  ·simp[aa]
 refine aq [(15,false),(19,false)] 100 rfl ?_ ?_
 ·simp only[aa,aZ,ae];omega
 refine AK.bZ (G2 n q r (by omega)) [] rfl rfl rfl rfl rfl rfl rfl (λ_=>rfl) rfl (λ_=>rfl) rfl ?_
 rintro⟨⟨s,l⟩,j⟩;refine aA rfl ab ?_;obtain⟨s',H,D,J⟩:=Hd (X:=XB) j l;refine AK.aC D [] rfl rfl rfl rfl rfl rfl rfl rfl rfl rfl rfl ?_;have y:aY XB [(7,zc [eH s,fX l] (eH s')),(6,zc [eH s',eH s'] (dB true))]:=.cons (DF J) (.cons (DF (A4 s' H)) .nil);refine ah y [(33,false),(1000008,true)] 100 rfl ?_ ?_
 ·simp only[aa,aJ,iu,af,ae];omega
 have o:=j.size;have b:b5 (8+(f:Int) % 90)=true:=by simp only[b5,bq,av];omega
 have g:(8+(f:Int) % 90)≠7:=by omega
 generalize M:(8+(f:Int) % 90)=k at *;refine ah y [] 100 rfl ab ?_;have F:s.2.1.length<=1000000:=o.sn;refine AK.bA 3 (λi=>i<=s.2.1.length) (λi:Nat=>[(5,.e (.one (.ptr 0 0))),(8,dI k),(9,dI i)]) (λ_=>[mS s,.cells 29 (ux l),mS s']) (λi=>s.2.1.length-i) 0 rfl ?_ rfl ?_ rfl (by omega) ?_
 ·simp[aa.cat,aa]
 ·simp[aa.cat,aa,au.same]
 intro i hi
 by_cases h:i<s.2.1.length
 ·have w:s.2.1.getD i (0,[])∈s.2.1:=by rw[List.getD_eq_getElem?_getD,ai h];exact bJ h
  have B:s.2.1.getD (i:Int).toNat cT.bl=s.2.1.getD i (0,[]):=by rw[aF];rfl
  generalize s.2.1.getD i (0,[])=x at *;have d:=j.s x w;have C:=d.len;have z:=d.no;have t:=xY j w b g;have Sy:aY XB [(8,zc [dI k,eH s,dI x.1] (KO ((eJ k s x.1).getD []) (eJ k s x.1).isSome)),(9,zc [Cd x] (cI.sl (fN x)))]:=.cons (DF (xC k s x.1 o.s2)) (.cons (DF (xZ x (by omega) d.names)) .nil)
  refine ah Sy [(42,true),(66,false)] 100 rfl ?_ (AK.ay (i+1) rfl ?_ rfl rfl rfl ?_ rfl ?_ ?_)
  ·simp only[aa,B,aJ,av,af,ae];have t:(eJ k s x.1).isSome=decide ((fN x).length=0):=t;have A:(((fN x).length:Int)==0)=decide ((fN x).length=0):=by
    by_cases u:(fN x).length=0
    ·rw[u];rfl
    ·rw[fh u];exact cD.2 (by omega)
   rw[t,A];refine⟨by omega,by cases decide ((fN x).length=0) <;> rfl,by omega⟩
  ·simp[aa.cat,aa]
  ·simp[aa.cat,aa,au.same]
  ·show i+1<=_;omega
  ·omega
 obtain rfl:i=s.2.1.length:=by omega
 have a:=DY j b g;have m:aY XB [(10,zc [dI k,eH s] (cI.sl (dg k s.1)))]:=.cons (DF (Dl k s b o.p o.p2)) .nil;refine ah m [(42,false)] 100 rfl (by simp[aa]) (AK.leaveD rfl rfl ?_)
 refine ah m [] 100 rfl ?_ (AK.aK rfl ?_)
 ·simp only[aa,aJ,av,af,ae]
 ·simp only[aa,aa.cat,ae];have a:(dg k s.1).length=s.1.length:=a;rw[a];exact fG _
end Go.AM.R1
namespace Go.AM
open Go.RowKit
open Go.Conc (G solo crowd AtRel Past EvL Leavers)
def St.top(w:World):St:={ β:=[],M:=λb o=>w.cell? ⟨b,o,none⟩,w:=w,own:=λb=>b<w.heap.size }
theorem ag.top(w:World):ag [] (St.top w):=⟨λ_ _ _ h=>h,rfl,by simp,by simp[St.top],by simp[St.top],λb a=>⟨a,by simp[St.top]⟩⟩
theorem Me{P:Program}{f:FuncId}{a:Frame}{v:Value}{s:St}(h:rO P f a v s)(hi:P.inits.idxOf? f=none)(w:World)(l:∀ b o u,s.M b o=some u->w.cell? ⟨b,o,none⟩=some u):∃ es,stepG P true (G a []) w=.ended (.done v) w es/\∀ e∈es,∃ b o u,e=⟨.cell ⟨b,o,none⟩,false,false⟩/\s.M b o=some u:=by
 obtain⟨fn,g,c⟩:=h.fn;obtain⟨j,k⟩:=c w l;refine⟨seen P a.fn ((results fn a.tmps).events P w #[]),?_,λe i=>k e (Go.Conc.mem_seen i)⟩
 have d:P.inits.idxOf? a.fn=none:=by rw[h.Vu];exact hi
 simp[G,stepG,unwind,doReturn,h.mode,h.defers,h.kind,g,j,d,GStep.after]
theorem cf.Sm{P:Program}{ι:Type}{f:FuncId}{args:List D}{res:ι->D}{σ':ι->List aj}(h:cf (Cx.beside P) f args [] res σ')(hi:P.inits.idxOf? f=none){w:World}{vs:List Value}(I:bC [] (St.top w) vs args){Post:Value->World->Prop}
  (y:∀ i v s',cd (σ' i) s' v (res i)->ag (σ' i) s'->Below w.heap.size w s'.w->∀ d,Post v (s'.w.at d)) :
  ∃ M last o w' t',runNT P (M+1) (solo (G (Frame.enter P f vs.toArray .normal) []) w) #[]=(.ended o w',t')/\runN P M (solo (G (Frame.enter P f vs.toArray .normal) []) w)=.next last /\
   step P last=.ended o w'/\Go.Conc.Good P Post last o w' t':=by
 have key:=h.2 (St.top w) vs I (ag.top w) (λg s'=>∃ i v fr,g=G fr []/\rO P f fr v s'/\cd (σ' i) s' v (res i)/\ag (σ' i) s'/\Below w.heap.size w s'.w) []
  (λi fr v s' h1 h2 h3 h4=>.stop ⟨i,v,fr,rfl,h1,h2,h3,⟨h4.os,h4.tape,h4.output,h4.size,λk K=>h4.eC k K⟩⟩)
 have Q:AM.kC (λ_=>False)=λ_=>False:=by funext l;cases l <;> rfl
 obtain⟨N,r,q,g',s',j,t',T,h1,h2,h3,h4,J,x,S,⟨i,v,fr,rfl,k1,C,R,z⟩⟩:=key.beside (λ_=>False) #[G (Frame.enter P f vs.toArray .normal) []] none #[] (λ_=>0) (ag.top w).mem rfl (Go.Conc.leavers_one P _)
  (by rw[Q];exact Go.Conc.past_nil.mono (fH _)) ⟨λ_ h=>h.elim,λ_ h=>h.elim,λ_ h=>h.elim,λ_ h=>h.elim⟩ (λa=>by intro i hi;simp[Trace.act?] at hi)
 have c:=Go.Conc.beside_ends (P:=P) (Shun:=AM.kC r) (B:=s'.w.heap.size) (D:=λ_ _ _=>False) (Post:=Post) (λ_ _ _ h=>h.elim) (sl:=j) (n:=0) h3 h4 J (Go.Conc.Goes.stop λw1 Lk=>by
  obtain⟨d,rfl⟩:=Lk;obtain⟨es,e1,e2⟩:=Me k1 hi (s'.w.at d) (λb o u p=>h2 b o u p)
  refine⟨rfl,v,es,e1,λe t=>?_,y i v s' C R z d⟩
  obtain⟨b,o,u,rfl,p⟩:=e2 e t;refine Go.Conc.evL_cell _ _ (λO=>?_) (fA.lt h2 p)
  have:=x.M b O o;rw[p] at this;cases this)
 obtain⟨m,last,o,w',E,L,F,A,H⟩:=c;refine⟨N+m,last,o,w',E,?_,?_,A,H⟩
 ·rw[show N+m+1=N+(m+1) by omega]
  exact(runNT_add N (m+1) h1).trans L
 ·have e:=runNT_fst P N (crowd #[G (Frame.enter P f vs.toArray .normal) []] w none) #[];have s:(runNT P N (crowd #[G (Frame.enter P f vs.toArray .normal) []] w none) #[]).1=.next (crowd q s'.w j):=by
   have:runNT P N (crowd #[G (Frame.enter P f vs.toArray .normal) []] w none) #[]=_:=h1;rw[this]
  rw[s] at e;rw[Go.Conc.solo_eq_crowd,runN_add,<-e];exact F
end Go.AM
