/- Part 7. No condition. -/
import Derived.Test.YtmikbgondjokcaaGreatDoorA6
set_option linter.all false
set_option maxHeartbeats 8000000
open Go.Proofs
open Go renaming Value → ai, TypeId → av, Operand → aB, World → ay, Program → aJ, Oper → aC, Goroutine → ar, Frame → aX
open Bool renaming true → ab, false → af
open Go.Proofs.Tryz renaming prog → ag
namespace Go.AM
variable {n:Nat}{k:Int}{l b i j:Nat}{E:av}{H:ai->(Nat->Option Obj)->Prop}{L:Array Bool}{M:Mem}{N:Nat}{P:aJ}{S:ar->St->Prop}{c:Code}{g:ar}{o:aC}{s:St}{t:av}{v:ai}{w:ay}{x y:aB}{α:Type}{η:aB->D}{ι:Type}{σ:List bg}{φ:Fr}{all:List aC}{jU:Array av}{cap:List C}{cv:List D}{cs:List aX}{ds:List (Nat×Bool)}{es:Nat->List C}{fo:aB}{ks:List Nat}{obs:List Prop}{off:Nat}{op:BinOp}{ops:Array aC}{ps:List Prop}{rest:List aC}{s':St}{ty:av}{val:Nat->Nat->ai}{vs:List ai}{w':ay}{xs:Array aB}{σ' σs:List bg}{res:ι->D}{σ1:ι->List bg}
variable {CT:List (Nat×dJ)}{K:List It}{Qf:Post}{T:List (Nat×TI)}{ie:TI}
namespace R1
section
variable {X:Cx ag}
def ML(l:List bw):Ev X 15 [cF.sl l,cF.sl l] [] (dB ab) []:=by
 refine Ev.bQ Tryz.func15 rfl λa=>?_;have b:=a.sl 0 rfl;refine aW [(10,af)] rfl (by simp) ?_;refine AK.cJ 0 (λi=>i<=l.length) (λi:Nat=>[(0,cF.sl l),(1,cF.sl l),(5,dI i)]) (λ_=>[]) (λi=>l.length-i) 0 rfl (by simp) rfl (by simp) rfl (by omega) ?_;intro i hi;by_cases h:i<l.length
 .refine bO [(14,ab),(25,af)] rfl ?_ (AK.aQ (i+1) rfl ?_ ?_ ?_ ?_)
  .simp[bE,h];omega
  .simp
  .simp
  .show i+1<=_;omega
  .omega
 .refine bO [(14,af)] rfl (by simp;omega) (AK.leaveD rfl rfl ?_);exact dk rfl ak (AK.bC rfl)
end
def US(h:b5 k=ab):iA k ([],[],[]):=⟨by simp,by simp,by simp[bx],by simp,by simp,h,rfl,by simp⟩
def Og{s:bd}{t:List bw}{p:bG}{l:List bG}(h:iY k s t=p::l):p.1=cy s:=by
 unfold iY at h;cases a:(c7 k t (indexOf s.1)).length<;>rw[a]at h<;>simp only[dA]at h
 .cases h
 .split at h<;>cases h
  rfl
def uQ(z w:av×ai)(m B:Nat)(b M:Nat->Int)(O:Bytes b)(_:Bytes M)(_:m<=9223372036854775807)(_:B<=9223372036854775807):Ev (Cx.beside ag) 4 [.e (.one (.c (.sl af 1 m (ud b)))),.e (.one (.c (.sl af 1 B (ud M))))] (OD z w) (dB ab) (OD z w):=by
 refine Ev.bQ Tryz.func4 rfl λS=>?_;by_cases T:1048576<m
 .refine aW [(21,ab),(25,ab)] rfl (by simp;omega) (AK.cX [0,1,2] rfl ?_ rfl rfl rfl jw);simp
 by_cases hm':1048576<B
 .refine aW [(21,af),(25,ab)] rfl (by simp;omega) (AK.cX [0,1,2] rfl ?_ rfl rfl rfl jw);simp
 refine aW [(21,af),(25,af)] rfl (by simp;omega) ?_;refine AK.cP (Ob m b O (by omega)) [] rfl (λ_=>rfl) ?_;rintro⟨⟨s,by_,t⟩,v,u,d,D,C⟩;simp only at v u d D C;have n:fa 7 s=ab->vc 7 s:=λh=>(fh.1 h).save d;have L:=nI (X:=Cx.beside ag) 7 s by_ t v d n;have G:=iv z w 7 s by_ t v u d (by simp only[bE];omega) n;rw[k8]at G;refine bu rfl ak ?_;refine AK.cQ L [] rfl ?_;refine bu rfl ak ?_;refine AK.cQ G [0,1,2] rfl ?_;have o:=o0 (X:=Cx.beside ag) (fV 7 s by_ t).1 (jb v);generalize fV 7 s by_ t=q at *;obtain⟨x,ok⟩:=q;have c1:bH (Cx.beside ag) [(9,sr [oY x,oY x] (dB ab))]:=.cons (uG o) .nil;cases ok with
 |false =>
  refine bm c1 [(52,af),(58,af),(61,ab),(65,ab)] rfl ?_ (AK.cX [0,1,2] rfl (by simp) rfl rfl rfl jw);simp
 |true =>
  refine bm c1 [(52,af),(58,af),(61,af)] rfl (by simp[bE];omega) ?_;clear c1 o L G n;generalize R:1+(B:Int) % 99=K;have hk:b5 K=ab:=by simp[b5];omega
  have I:=US hk;have g:kI (([],[],[]):bd):=⟨by simp,by simp,by simp,λx h=>absurd h (by simp),by simp⟩
  have a:=I.XN g (by simp[tO]);have N:=iv z w K ([],[],[]) by_ t g a ⟨by simp,by simp,by simp⟩ (by simp only[bE];omega) λ_=>I.save ⟨by simp,by simp,by simp⟩;rw[k8]at N;have F:=ov (k:=K) (s:=([],[],[])) (by_:=by_) (t:=t) ⟨by simp,by simp,by simp⟩;have f:=jb (k:=K) (by_:=by_) (t:=t) g;refine AK.jB N.sH [0,1,2] rfl rfl rfl rfl (by simp[au]) rfl rfl rfl (λ_=>rfl) rfl (λ_=>rfl) rfl λ_=>?_;generalize fV K ([],[],[]) by_ t=q at *;obtain⟨y,ok⟩:=q;have H:=fh.2 I;have c2:bH (Cx.beside ag) [(13,ss),(14,uS),(15,sr [cF.sl t,cF.sl t] (dB ab))]:=.cons yf (.cons Aj (.cons (uG (ML t)) .nil));cases ok with
  |false =>
   refine bm c2 [(91,ab),(94,ab)] rfl ?_ (AK.cX [0,1,2] rfl (by simp) rfl rfl rfl jw);simp only[au,cP.list_fn,eX.list_fn,cH.list_fn];and_intros<;>first|rfl|exact H|exact cP.aK _|exact eX.aK _|exact cH.aK _|exact a|exact f.s2|exactλi hi=>absurd hi (fy _)
  |true =>
   obtain⟨Q,e⟩:=F rfl;cases e;have E:=Q.load;rw[show cq (([],[],[]):bd)=1 from rfl]at E;have J:(cn K ([],[],[]) by_ t).1=iY K ([],[],[]) t:=rfl;have A:(cn K ([],[],[]) by_ t).2.1.length=1:=rfl;have r:∀p l,iY K ([],[],[]) t=p::l->p.1=1:=λp l h=>Og h;generalize cn K ([],[],[]) by_ t=y at *;obtain⟨P,U,V⟩:=y;simp only at J;rw[<-J]at r;cases P with
   |nil =>
    have j:=True.intro;refine bm c2 [(91,ab),(94,af),(96,ab),(101,ab),(106,ab),(115,ab)] rfl ?_ (AK.cX [0,1,2] rfl ?_ rfl rfl rfl jw)
    .simp only[au,cP.list_fn,eX.list_fn,cH.list_fn,E,gv,wj];and_intros<;>first|rfl|exact H|exact cP.aK _|exact eX.aK _|exact cH.aK _|exact a|exact f.s2|exactλi hi=>absurd hi (fy _)|(simp[j];done)
    .simp only at A;simp[A]
   |cons p l =>
    have j:=r p l rfl;refine bm c2 [(91,ab),(94,af),(96,ab),(101,ab),(106,af),(115,ab)] rfl ?_ (AK.cX [0,1,2] rfl ?_ rfl rfl rfl jw)
    .simp only[au,cP.list_fn,eX.list_fn,cH.list_fn,E,gv,wj];and_intros<;>first|rfl|exact H|exact cP.aK _|exact eX.aK _|exact cH.aK _|exact a|exact f.s2|exactλi hi=>absurd hi (fy _)|(simp[j];done)
    .simp only at A;simp[A]
end R1
end Go.AM
