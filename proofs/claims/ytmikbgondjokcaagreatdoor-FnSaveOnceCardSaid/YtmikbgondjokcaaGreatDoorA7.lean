/- Part 7. No condition. -/
import Derived.Test.YtmikbgondjokcaaGreatDoorA6
set_option linter.all false
set_option maxHeartbeats 8000000
open Go.Proofs
open Go renaming Value → ai, TypeId → av, Operand → aB, World → ay, Program → aJ, Oper → aC, Goroutine → ar, Frame → aX
open Bool renaming true → ab, false → af
open Go.Proofs.Tryz renaming prog → ag
namespace Go.AM
variable {n:Nat}{k:Int}{l b i j:Nat}{E:av}{H:ai->(Nat->Option Obj)->Prop}{L:Array Bool}{M:Mem}{N:Nat}{P:aJ}{S:ar->St->Prop}{c:Code}{g:ar}{o:aC}{s:St}{t:av}{v:ai}{w:ay}{x y:aB}{α:Type}{η:aB->D}{ι:Type}{σ:List bg}{φ:Fr}{all:List aC}{jU:Array av}{cap:List C}{cv:List D}{cs:List aX}{ds:List (Nat×Bool)}{es:Nat->List C}{fo:aB}{ks:List Nat}{obs:List Prop}{off:Nat}{op:BinOp}{ops:Array aC}{ps:List Prop}{rest:List aC}{s':St}{ty:av}{val:Nat->Nat->ai}{vs:List ai}{w':ay}{xs:Array aB}{σ' σs:List bg}{res:ι->D}{σ1:ι->List bg}
variable {CT:List (Nat×dJ)}{K:List It}{Qf:Post}{T:List (Nat×TI)}{ie:TI}
namespace R1
def iA.num{s:bd}(h:iA k s):rE s:=by
 refine⟨λp a=>?_,λx c=>?_,λy b=>?_⟩
 .have:=(h.pk p a).no;omega
 .have:=(h.sn x c).1;omega
 .have hl:=h.log;simp only[kz,bM,dy]at hl;obtain⟨i,hi,rfl⟩:=dD b;have:=hl.1 i hi;simp only[gD,bM,a9,pb hi]at this;omega
def Ax{k:Int}:∀(f:Nat) (no:Int)(l:List Bs),l.length<=f->(bx (dA k f no l)).length=l.length
 |0,no,l,h=>by simp[dA,bx];omega
 |f+1,no,l,h=>by
  simp only[dA];split
  .have a:=Ax (k:=k) f (no+1) (l.drop 4) (by grind);have e:bx (fT no k (l.take 4)::dA k f (no+1) (l.drop 4))=(o7 k (l.take 4)).map (·.1)++bx (dA k f (no+1) (l.drop 4)):=by simp[bx];rfl
   rw[e,cW,a,jM,rm];grind
  .simp[bx];omega
def GR{s:bd}{by_:Int}{t:List bw}:(bx (cn k s by_ t).1).length=(bx s.1).length+(c7 k t (indexOf s.1)).length:=by have:=Ax (k:=k) (c7 k t (indexOf s.1)).length (cy s) (c7 k t (indexOf s.1)) (bh _);simp only[cn,bx,List.flatMap_append,cW]at this⊢;rw[<-this];rfl
def Of{X:Cx ag}(s:bd)(a:∀p∈s.1,p.2.length<=4000000)(b:(bx s.1).length<=4000000):Ev X 12 [oY s] [] (dI (bx s.1).length) []:=by
 refine Ev.bQ Tryz.func12 rfl λd=>?_;have c:bH X [(41,Gm)]:=.cons MZ .nil;refine cG c rfl ?_ ?_
 .simp[cP.aK,eX.aK,cH.aK]
 simp only[cP.list_fn,eX.list_fn,cH.list_fn];refine AK.cQ (Ah s.1 a b) [] rfl ?_;exact bu rfl ak (AK.bC rfl)
abbrev Sk:dJ:=kD RM (λs=>dI (bx s.1).length) λs=>[∀p∈s.1,p.2.length<=4000000,(bx s.1).length<=4000000]
def XO{X:Cx ag}:eh X 12 Sk:=.pF λs h=>Of s h.1 h.2
theorem Sv.same{s:bd}{by_:Int}{t:List bw}(h:Sv k s by_ t)(Vi:Int):(cn k (cn k s by_ t) Vi t).1=(cn k s by_ t).1:=by
 have e:iY k (cn k s by_ t) t=[]:=by unfold iY;rw[h.again];rfl
 show _++iY k (cn k s by_ t) t=_;rw[e,iw]
def yr(B A:av×ai)(m:Nat)(b:Nat->Int)(M:Bytes b)(_:m<=9223372036854775807):Ev (Cx.beside ag) 3 [.e (.one (.c (.sl af 1 m (ud b))))] (OD B A) (dB ab) (OD B A):=by
 refine Ev.bQ Tryz.func3 rfl λY=>?_;by_cases Z:1048576<m
 .refine aW [(16,ab)] rfl (by simp;omega) (AK.cX [0,1,2] rfl ?_ rfl rfl rfl jw);simp
 refine aW [(16,af)] rfl (by simp;omega) ?_;refine AK.cP (Ob m b M (by omega)) [] rfl (λ_=>rfl) ?_;rintro⟨⟨s,by_,t⟩,f,j,g,F,E⟩;simp only at f j g F E;have o:fa 7 s=ab->vc 7 s:=λh=>(fh.1 h).save g;have H:=nI (X:=Cx.beside ag) 7 s by_ t f g o;have G:=iv B A 7 s by_ t f j g (by simp only[bE];omega) o;rw[k8]at G;refine bu rfl ak ?_;refine AK.cQ H [] rfl ?_;refine bu rfl ak ?_;refine AK.cQ G [0,1,2] rfl ?_;have v:=o0 (X:=Cx.beside ag) (fV 7 s by_ t).1 (jb f);have i:=ov (k:=7) (s:=s) (by_:=by_) (t:=t) g;generalize fV 7 s by_ t=q at *;obtain⟨x,ok⟩:=q;have c1:bH (Cx.beside ag) [(9,sr [oY x,oY x] (dB ab))]:=.cons (uG v) .nil;cases ok with
 |false =>
  refine bm c1 [(43,af),(49,af),(52,ab),(56,ab)] rfl ?_ (AK.cX [0,1,2] rfl (by simp) rfl rfl rfl jw);simp
 |true =>
  obtain⟨r,e⟩:=i rfl;cases e;have a:=r.size f;have V:=f.h;have Q:=f.p;have P:=f.sn;refine bm c1 [(43,af),(49,af),(52,af)] rfl (by simp) ?_;clear c1 v H G i;obtain⟨N,I,S,o4,W⟩:=o (fh.2 r.st);have u:=r.ok;have J:=r.an;have z:=u.XN a (by omega);have n:=u.num;have C:=GR (k:=7) (s:=s) (by_:=by_) (t:=t);have K:=iv B A 7 (cn 7 s by_ t) by_ t a z n (by simp only[bE];omega) λ_=>u.save n;rw[k8]at K;have i:=ov (k:=7) (s:=cn 7 s by_ t) (by_:=by_) (t:=t) n;have d:=r.same by_;have w:=jb (k:=7) (by_:=by_) (t:=t) a;have T:=(gC (k:=7) (l:=indexOf s.1) (dx r.tr)).2;have L:=j.nm;have U:=z.nm;have D:=vI (X:=Cx.beside ag) B A 7 t (indexOf s.1) N r.tr S (iN (ql I) (by decide));generalize cn 7 s by_ t=x at *;generalize c7 7 t (indexOf s.1)=l at *;refine AK.cQ (vL s.1 f.p I) [] rfl ?_;refine dk rfl ak ?_;refine AK.cQ D [0,1] rfl ?_;refine dk rfl ak ?_;refine AK.cQ K [0,1,2] rfl ?_;generalize fV 7 x by_ t=q at *;obtain⟨y,ok⟩:=q;have c2:bH (Cx.beside ag) [(12,Sk)]:=.cons XO .nil;cases ok with
  |false =>
   refine bm c2 [(83,ab),(86,ab)] rfl ?_ (AK.cX [0,1,2] rfl (by simp) rfl rfl rfl jw);simp only[au,cP.list_fn,eX.list_fn,cH.list_fn,C,bE];and_intros<;>first|rfl|exact cP.aK _|exact eX.aK _|exact cH.aK _|exact f.p2|exact a.p2|omega|(simp;omega)|simp
  |true =>
   obtain⟨_,e⟩:=i rfl;cases e;simp only at w;have R:(cn 7 x by_ t).1.length=x.1.length:=by rw[d]
   have O:bx (cn 7 x by_ t).1=bx x.1:=by rw[d]
   generalize cn 7 x by_ t=y at *;refine bm c2 [(83,ab),(86,af),(92,ab)] rfl ?_ (AK.cX [0,1,2] rfl ?_ rfl rfl rfl jw)
   .simp only[au,cP.list_fn,eX.list_fn,cH.list_fn,O,C,bE];and_intros<;>first|rfl|exact cP.aK _|exact eX.aK _|exact cH.aK _|exact f.p2|exact a.p2|exact w.p2|omega|(simp;omega)|simp
   .simp[R]
end R1
end Go.AM
