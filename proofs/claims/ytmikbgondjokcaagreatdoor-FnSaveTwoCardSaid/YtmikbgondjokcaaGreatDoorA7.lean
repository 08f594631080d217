/- Part 7. No condition. -/
import Derived.Test.YtmikbgondjokcaaGreatDoorA6
set_option linter.all false
set_option maxHeartbeats 8000000
open Go.Proofs
open Go renaming Value → ai, TypeId → av, Operand → aB, World → ay, Program → aJ, Oper → aC, Goroutine → ar, Frame → aX
open Bool renaming true → ab, false → af
open Go.Proofs.Tryz renaming prog → ag
namespace Go.AM
variable {n:Nat}{k:Int}{l b i j:Nat}{E:av}{H:ai->(Nat->Option Obj)->Prop}{L:Array Bool}{M:Mem}{N:Nat}{P:aJ}{S:ar->St->Prop}{c:Code}{g:ar}{o:aC}{s:St}{t:av}{v:ai}{w:ay}{x y:aB}{α:Type}{η:aB->D}{ι:Type}{σ:List bg}{φ:Fr}{all:List aC}{jU:Array av}{cap:List C}{cv:List D}{cs:List aX}{ds:List (Nat×Bool)}{es:Nat->List C}{fo:aB}{ks:List Nat}{obs:List Prop}{off:Nat}{op:BinOp}{ops:Array aC}{ps:List Prop}{rest:List aC}{s':St}{ty:av}{val:Nat->Nat->ai}{vs:List ai}{w':ay}{xs:Array aB}{σ' σs:List bg}{res:ι->D}{σ1:ι->List bg}
variable {CT:List (Nat×dJ)}{K:List It}{Qf:Post}{T:List (Nat×TI)}{ie:TI}
namespace R1
def iA.num{s:bd}(h:iA k s):rE s:=by
 refine⟨λp a=>?_,λx c=>?_,λy b=>?_⟩
 .have:=(h.pk p a).no;omega
 .have:=(h.sn x c).1;omega
 .have hl:=h.log;simp only[kz,bM,dy]at hl;obtain⟨i,hi,rfl⟩:=dD b;have:=hl.1 i hi;simp only[gD,bM,a9,pb hi]at this;omega
def Ax{k:Int}:∀(f:Nat) (no:Int)(l:List Bs),l.length<=f->(bx (dA k f no l)).length=l.length
 |0,no,l,h=>by simp[dA,bx];omega
 |f+1,no,l,h=>by
  simp only[dA];split
  .have a:=Ax (k:=k) f (no+1) (l.drop 4) (by grind);have e:bx (fT no k (l.take 4)::dA k f (no+1) (l.drop 4))=(o7 k (l.take 4)).map (·.1)++bx (dA k f (no+1) (l.drop 4)):=by simp[bx];rfl
   rw[e,cW,a,jM,rm];grind
  .simp[bx];omega
def GR{s:bd}{by_:Int}{t:List bw}:(bx (cn k s by_ t).1).length=(bx s.1).length+(c7 k t (indexOf s.1)).length:=by have:=Ax (k:=k) (c7 k t (indexOf s.1)).length (cy s) (c7 k t (indexOf s.1)) (bh _);simp only[cn,bx,List.flatMap_append,cW]at this⊢;rw[<-this];rfl
def Of{X:Cx ag}(s:bd)(a:∀p∈s.1,p.2.length<=4000000)(b:(bx s.1).length<=4000000):Ev X 12 [oY s] [] (dI (bx s.1).length) []:=by
 refine Ev.bQ Tryz.func12 rfl λd=>?_;have c:bH X [(41,Gm)]:=.cons MZ .nil;refine cG c rfl ?_ ?_
 .simp[cP.aK,eX.aK,cH.aK]
 simp only[cP.list_fn,eX.list_fn,cH.list_fn];refine AK.cQ (Ah s.1 a b) [] rfl ?_;exact bu rfl ak (AK.bC rfl)
abbrev Sk:dJ:=kD RM (λs=>dI (bx s.1).length) λs=>[∀p∈s.1,p.2.length<=4000000,(bx s.1).length<=4000000]
def XO{X:Cx ag}:eh X 12 Sk:=.pF λs h=>Of s h.1 h.2
section
variable {X:Cx ag}
def ML(l:List bw):Ev X 15 [cF.sl l,cF.sl l] [] (dB ab) []:=by
 refine Ev.bQ Tryz.func15 rfl λa=>?_;have b:=a.sl 0 rfl;refine aW [(10,af)] rfl (by simp) ?_;refine AK.cJ 0 (λi=>i<=l.length) (λi:Nat=>[(0,cF.sl l),(1,cF.sl l),(5,dI i)]) (λ_=>[]) (λi=>l.length-i) 0 rfl (by simp) rfl (by simp) rfl (by omega) ?_;intro i hi;by_cases h:i<l.length
 .refine bO [(14,ab),(25,af)] rfl ?_ (AK.aQ (i+1) rfl ?_ ?_ ?_ ?_)
  .simp[bE,h];omega
  .simp
  .simp
  .show i+1<=_;omega
  .omega
 .refine bO [(14,af)] rfl (by simp;omega) (AK.leaveD rfl rfl ?_);exact dk rfl ak (AK.bC rfl)
end
def Yq:List Bs:=[[],[97],[104,101,108,108,111],[97,98,99,97,98,99,97,98,99,97,98,99],[107,101,101,112,116,104,105,115,111,110,101],[122,122,122,122,122,122,122,122,122,122,122,122,122,122,122,122],[116,104,101,113,117,105,99,107,98,114,111,119,110,102,111,120]]
def Vj(n:Int):Bs:=Yq.getD (n % 7).toNat []
def JO{X:Cx ag}(n:Int)(h:0<=n)(b:n<=4000000):Ev X 16 [dI n] [] (dS (Vj n)) []:=by
 refine Ev.bQ Tryz.func16 rfl λc=>?_;refine aW [(1000001,ab)] rfl ak ?_;refine AK.region ?_;refine qi [] 3 rfl (by simp[h]) ?_;have a:n % 7=0∨n % 7=1∨n % 7=2∨n % 7=3∨n % 7=4∨n % 7=5∨n % 7=6:=by omega
 rcases a with a|a|a|a|a|a|a
 all_goals (unfold Vj;rw[a];exact bu rfl (by simp) (AK.bC rfl (by simp[Yq])))
abbrev XP:dJ:=kD aI (λn=>dS (Vj n)) λn=>[0<=n,n<=4000000]
def aaS{X:Cx ag}:eh X 16 XP:=.pF λn h=>JO n h.1 h.2
def UT(n:Int):∃i,i<7/\Vj n=Yq.getD i []:=⟨(n % 7).toNat,by omega,rfl⟩
def Oh{l:Bs}(h:l∈[[97],[98],[101]])(n:Int):cA [(l,Vj n)]=ab:=by
 obtain⟨i,hi,e⟩:=UT n;rw[e];have:∀l∈([[97],[98],[101]]:List Bs),∀i,i<7->cA [(l,Yq.getD i [])]=ab:=by decide +kernel
 exact this l h i hi
abbrev XQ:dJ:=pv (aL cF) (aL cF) (λ_ _=>dB ab) λa b=>[b=a]
def aaT{X:Cx ag}:eh X 15 XQ:=.sI λa b h=>by cases h;exact ML a
def zo(A z:av×ai)(m B:Nat)(b Q:Nat->Int)(V:Bytes b)(_:Bytes Q)(_:m<=9223372036854775807)(_:B<=9223372036854775807):Ev (Cx.beside ag) 5 [.e (.one (.c (.sl af 1 m (ud b)))),.e (.one (.c (.sl af 1 B (ud Q))))] (OD A z) (dB ab) (OD A z):=by
 refine Ev.bQ Tryz.func5 rfl λhf=>?_;by_cases hm:1048576<m
 .refine aW [(24,ab),(28,ab)] rfl (by simp;omega) (AK.cX [0,1,2] rfl ?_ rfl rfl rfl jw);simp
 by_cases hm':1048576<B
 .refine aW [(24,af),(28,ab)] rfl (by simp;omega) (AK.cX [0,1,2] rfl ?_ rfl rfl rfl jw);simp
 refine aW [(24,af),(28,af)] rfl (by simp;omega) ?_;refine AK.cP (Ob m b V (by omega)) [] rfl (λ_=>rfl) ?_;rintro⟨⟨s,by_,t⟩,o,u,a,I,F⟩;simp only at o u a I F;have v:fa 7 s=ab->vc 7 s:=λh=>(fh.1 h).save a;have M:=nI (X:=Cx.beside ag) 7 s by_ t o a v;have L:=iv A z 7 s by_ t o u a (by simp only[bE];omega) v;rw[k8]at L;refine bu rfl ak ?_;refine AK.cQ M [] rfl ?_;refine bu rfl ak ?_;refine AK.cQ L [0,1,2] rfl ?_;have p:=o0 (X:=Cx.beside ag) (fV 7 s by_ t).1 (jb o);have f:=ov (k:=7) (s:=s) (by_:=by_) (t:=t) a;generalize fV 7 s by_ t=q at *;obtain⟨x,ok⟩:=q;have c1:bH (Cx.beside ag) [(9,sr [oY x,oY x] (dB ab)),(16,XP)]:=.cons (uG p) (.cons aaS .nil);cases ok with
 |false =>
  refine bm c1 [(55,af),(61,af),(64,ab),(68,ab)] rfl ?_ (AK.cX [0,1,2] rfl (by simp) rfl rfl rfl jw);simp
 |true =>
  obtain⟨C,e⟩:=f rfl;cases e;have Y:=C.Vi;have d:=C.size o;have g:=C.ok;have P:=C.an;have J:=g.XN d (by omega);have j:=g.num;have K:(cn 7 s by_ t).2.2=s.2.2++[(by_,cq s)]:=rfl;have H:(cn 7 s by_ t).2.1=s.2.1++[ey (cq s) 7 t]:=rfl;have G:=C.load;refine bm c1 [(55,af),(61,af),(64,af),(1000009,ab)] rfl (by simp;omega) ?_;have U:=Oh (l:=[101]) (by simp) B;generalize Vj B=tx at *;clear c1 p M L f;have Z:=o.h;generalize cn 7 s by_ t=x at *;refine AK.Bn (φ':=[(5,dI 7),(7,dI by_),(8,cF.sl t),(11,.e (.one (.ptr 5 0))),(13,cF.sl [([101],tx)])]) (σ':=OD A z++[wM s,wM x,wM x]) ?_ rfl ?_ rfl ?_
  .have T:=iv A z 7 x (3-by_) [([101],tx)] d J j (by simp only[bE];omega) λ_=>g.save j;rw[k8]at T;have f:=ov (k:=7) (s:=x) (by_:=3-by_) (t:=[([101],tx)]) j;have E:=jb (k:=7) (by_:=3-by_) (t:=[([101],tx)]) d;have n:=vM (k:=7) (s:=x) (by_:=3-by_) (t:=[([101],tx)]) (fh.2 g) (by omega) U;refine bu rfl (by simp[bE];omega) ?_;refine AK.cQ T [0,1,2] rfl ?_;generalize fV 7 x (3-by_) [([101],tx)]=q at *;obtain⟨y,ok⟩:=q;cases ok with
   |false =>
    have e:y=x:=by
     split at n
     .exact(Prod.mk.inj n).1
     .rename_i W;have:=(Prod.mk.inj n).2;simp[W]at this
    cases e;have c1:bH (Cx.beside ag) [(9,sr [oY x,oY x] (dB ab))]:=.cons (uG (o0 x d)) .nil;refine bm c1 [(88,ab)] rfl ?_ (AK.cX [0,1,2] rfl (by simp) rfl rfl rfl jw);simp
   |true =>
    obtain⟨R,e⟩:=f rfl;cases e;have r:=R.Q7 (x:=ey (cq s) 7 t) (by rw[H];simp);rw[show(ey (cq s) 7 t).1=cq s from rfl,G]at r;have D:=R.load;have w:(cn 7 x (3-by_) [([101],tx)]).2.2=s.2.2++[(by_,cq s),(3-by_,cq x)]:=by show x.2.2++_=_;rw[K];simp
    generalize cn 7 x (3-by_) [([101],tx)]=y at *;obtain⟨y1,y2,y3⟩:=y;simp only at w;subst w;have c2:bH (Cx.beside ag) [(13,ss),(15,XQ)]:=.cons yf (.cons aaT .nil);have N:(s.2.2++[(by_,cq s),(3-by_,cq x)]).getD s.2.2.length (0,0)=(by_,cq s):=by simp
    have S:(s.2.2++[(by_,cq s),(3-by_,cq x)]).getD (s.2.2.length+1) (0,0)=(3-by_,cq x):=by simp
    have n1:((s.2.2++[(by_,cq s),(3-by_,cq x)]).length:Int)=s.2.2.length+2:=by simp
    have O:(((s.2.2++[(by_,cq s),(3-by_,cq x)]).length:Int)-2).toNat=s.2.2.length:=by omega
    have i2:(((s.2.2++[(by_,cq s),(3-by_,cq x)]).length:Int)-1).toNat=s.2.2.length+1:=by omega
    refine bm c2 [(88,af),(122,ab),(127,ab),(130,ab),(135,ab),(147,ab)] rfl ?_ (AK.cX [0,1,2] rfl ?_ rfl rfl rfl jw)
    .simp only[au,cP.list_fn,eX.list_fn,cH.list_fn,cF.list_fn,bE,O,i2,show cH.b8=(0,0)from rfl,N,S,r,D,gv,wj];and_intros<;>first|rfl|exact cP.aK _|exact eX.aK _|exact cH.aK _|exact cF.aK _|exact E.s2|omega|(simp<;>omega)
    .simp only[O,i2,show cH.b8=(0,0)from rfl,N,S];simp
  .simp;intro i hi;obtain rfl:i=0:=by omega
   rfl
  .simp
end R1
end Go.AM
