/- Part 5. No condition. -/
import Derived.Test.YtmikbgondjokcaaGreatDoorA4
import Derived.Sort.Walk13a
import Derived.RowKit
set_option linter.all false
set_option maxHeartbeats 8000000
open Go.Proofs
open Go renaming Value → ai, TypeId → av, undef → ah, Operand → aB, execOp → aq, World → ay, Program → aJ, Oper → aC, Goroutine → ar, stepG → aG, Frame → aX, FuncId → aH
open Option renaming some → aa, none → ae
open Bool renaming true → ab, false → af
open Go.World renaming cell? → aP
open List renaming getD_eq_getElem?_getD → aj, range → bc, all_eq_true → bz
open Go.Sem renaming events_bind → aR
open Go.Result renaming evThen_ok → aV
open Nat renaming beq → aw, ble → bD
open Go.Op renaming equalIn → aZ, bytesLess → bq
open Go.Proofs.Tryz renaming prog → ag
namespace Go.AM
variable {n:Nat}{k:Int}{l b i j:Nat}{E:av}{H:ai->(Nat->Option Obj)->Prop}{L:Array Bool}{M:Mem}{N:Nat}{P:aJ}{S:ar->St->Prop}{c:Code}{g:ar}{o:aC}{s:St}{t:av}{v:ai}{w:ay}{x y:aB}{α:Type}{η:aB->D}{ι:Type}{σ:List bg}{φ:Fr}{all:List aC}{jU:Array av}{cap:List C}{cv:List D}{cs:List aX}{ds:List (Nat×Bool)}{es:Nat->List C}{fo:aB}{ks:List Nat}{obs:List Prop}{off:Nat}{op:BinOp}{ops:Array aC}{ps:List Prop}{rest:List aC}{s':St}{ty:av}{val:Nat->Nat->ai}{vs:List ai}{w':ay}{xs:Array aB}{σ' σs:List bg}{res:ι->D}{σ1:ι->List bg}
variable {CT:List (Nat×dJ)}{K:List It}{Qf:Post}{T:List (Nat×TI)}{ie:TI}
namespace R1
section
open Go.Sort (swp scanUp scanDown partLoop partEqLoop partition partitionEqual ltInt)
variable {X:Cx ag}
theorem nt{p:Int->Bool}{d:Array Int}(h:i<=j)(a:p d[i]! = ab):scanUp p d j i=scanUp p d j (i+1):=by rw[scanUp.eq_1 p d j i,bo (by grind)]
theorem ia{p:Int->Bool}{d:Array Int}(h:i<=j->p d[i]! = af):scanUp p d j i=i:=by rw[scanUp,aY];grind
theorem lj{p:Int->Bool}{d:Array Int}(c:1<=j)(h:i<=j)(b:p d[j]! = ab):scanDown p d i j=scanDown p d i (j-1):=by
 obtain⟨j,rfl⟩:∃a,j=a+1:=⟨j-1,by omega⟩
 rw[scanDown,bo (by grind),qD]
theorem fK{p:Int->Bool}{d:Array Int}(h:i<=j->p d[j]! = af):scanDown p d i j=j:=by
 cases j with
 |zero=>rfl
 |succ j =>
  rw[scanDown,aY];grind
def ot{p:Int->Bool}{d:Array Int}:∀(m i:Nat),j+1-i<=m->i<=scanUp p d j i/\(scanUp p d j i<=j+1∨scanUp p d j i=i):=by
 intro m;induction m with
 |zero=>intro i h;rw[ia (λa=>by omega)];omega
 |succ m c =>
  intro i h;by_cases b:i<=j
  .cases a:p d[i]! with
   |true=>grind[nt]
   |false=>grind[ia]
  grind
def lI{p:Int->Bool}{d:Array Int}:∀j:Nat,scanDown p d i j<=j/\(i<=scanDown p d i j+1∨scanDown p d i j=j):=by
 intro j;induction j with
 |zero=>rw[show scanDown p d i 0=0 from rfl];omega
 |succ j c =>
  by_cases b:i<=j+1
  .cases a:p d[j+1]! with
   |true=>grind[lj]
   |false=>grind[fK]
  grind[fK]
def partLoop_eq{a:Nat}{d:Array Int}{i2 j2:Nat}(f:1<=i)(hi:i2=scanUp (λx=>ltInt x d[a]!) d j i)(b:j2=scanDown (λx=>!ltInt x d[a]!) d i2 j):
  partLoop ltInt a i j d=if i2>j2 then(j2,d)else partLoop ltInt a (i2+1) (j2-1) (swp d i2 j2):=by have e:=ot (p:=λx=>ltInt x d[a]!) (d:=d) (j:=j) (j+1-i) i (bh _);have c:=lI (p:=λx=>!ltInt x d[a]!) (d:=d) (i:=i2) j;rw[<-hi]at e;rw[<-b]at c;rw[partLoop.eq_1,<-hi,<-b];grind
def EB{d c:Array Int}{a v:Nat}(f:c=swp d a v)(hi:i=scanUp (λx=>ltInt x c[a]!) c (b-1) (a+1))(e:j=scanDown (λx=>!ltInt x c[a]!) c i (b-1))(h:i>j):partition ltInt d a b v=(j,ab,swp c j a):=by unfold partition;grind
def EC{d c:Array Int}{a v:Nat}(g:c=swp d a v)(hi:i=scanUp (λx=>ltInt x c[a]!) c (b-1) (a+1))(f:j=scanDown (λx=>!ltInt x c[a]!) c i (b-1))(h:¬i>j){r:Nat×Array Int}(e:partLoop ltInt a (i+1) (j-1) (swp c i j)=r):partition ltInt d a b v=(r.1,af,swp r.2 r.1 a):=by subst e;unfold partition;grind
def QH(n:Nat)(d:Array Int)(a b v:Nat)(S:d.size=n)(T:a<b)(Y:b<=n)(Z:v<n)(V:n<=4000000):
  Ev X 193 [lf n,dI a,dI b,dI v] [bI n d] (.fD [.one (.c (.int .i64 (partition ltInt d a b v).1)),.one (.c (.bool (partition ltInt d a b v).2.1))]) [bI n (partition ltInt d a b v).2.2]:=by
 have h:bH X [(191,vF)]:=.cons yR .nil;refine Ev.bQ Tryz.func193 rfl λW=>?_;refine bm h [(1000002,ab)] rfl ?_ ?_
 .simp only[au,bF,b9,bE,aF,aD];and_intros<;>omega
 refine AK.norm [bI n (swp d a v)] rfl ?_ ?_
 .simp only[au.cat,au,bF,b9,aD,aF];exact iB S (by omega) (by omega) (λ_ _=>rfl)
 have y:(swp d a v).size=n:=by grind[size_swp]
 obtain⟨f,N⟩:∃f,f=swp d a v:=⟨_,rfl⟩;rw[<-N]at y⊢;refine cG h rfl ?_ ?_
 .simp only[au,bE];and_intros<;>omega
 refine AK.lB (S2:=Unit) 0 rfl rfl (λ_=>True) (λ_=>[(0,lf n),(1,dI a),(10,dI ((scanUp (λx=>ltInt x f[a]!) f (b-1) (a+1)):Nat)),(11,dI (b-1:Nat))]) (λ_=>[bI n f]) 1 (λk:Nat=>a+1<=k/\k<=n+1/\scanUp (λx=>ltInt x f[a]!) f (b-1) k=scanUp (λx=>ltInt x f[a]!) f (b-1) (a+1)) (λk=>[(0,lf n),(1,dI a),(10,dI (k:Nat)),(11,dI (b-1:Nat))]) (λ_=>[bI n f]) (λk=>b-1+1-k) (a+1) rfl ?_ rfl ?_ rfl ⟨bh _,by omega,rfl⟩ ?_ ?_
 .simp[cE]<;>omega
 .simp[cE]
 .rintro out k ⟨t,w,o⟩;by_cases u:k<=b-1
  .by_cases K:(λx=>ltInt x f[a]!) f[k]! = ab
   .have g:ltInt f[k]! f[a]! = ab:=by grind
    refine bm h [(32,ab),(42,ab)] rfl ?_ (AK.aQ (k+1) rfl ?_ ?_ ?_ ?_)
    .simp only[au,bF,b9,g,bE,a9,aF,aD];and_intros<;>omega
    .simp only[au.cat,au,aF,aD];omega
    .simp[cE]
    .grind [nt]
    .omega
   .have g:ltInt f[k]! f[a]! = af:=by grind
    refine bm h [(32,ab),(42,af)] rfl ?_ (AK.leaveD rfl rfl ?_)
    .simp only[au,bF,b9,g,bE,a9,aF,aD];and_intros<;>omega
    have e:scanUp (λx=>ltInt x f[a]!) f (b-1) (a+1)=k:=by grind[ia]
    exact out () ak rfl (by simp only[au.cat,au,e,aF,aD]) rfl (by simp[cE])
  .refine bm h [(32,af)] rfl ?_ (AK.leaveD rfl rfl ?_)
   .simp only[au,bE,bR,aF,aD];omega
   have e:scanUp (λx=>ltInt x f[a]!) f (b-1) (a+1)=k:=by grind[ia]
   exact out () ak rfl (by simp only[au.cat,au,e,aF,aD]) rfl (by simp[cE])
 rintro⟨⟩ -;have U:=ot (p:=λx=>ltInt x f[a]!) (d:=f) (j:=b-1) (b-1+1-(a+1)) (a+1) (bh _);obtain⟨i,hi⟩:∃i,i=scanUp (λx=>ltInt x f[a]!) f (b-1) (a+1):=⟨_,rfl⟩
 rw[<-hi]at U⊢;refine cG h rfl ak ?_;refine AK.lB (S2:=Unit) 2 rfl rfl (λ_=>True) (λ_=>[(0,lf n),(1,dI a),(10,dI (i:Nat)),(11,dI ((scanDown (λx=>!ltInt x f[a]!) f (i) (b-1)):Nat))]) (λ_=>[bI n f]) 1 (λk:Nat=>k<=b-1/\k<=n/\scanDown (λx=>!ltInt x f[a]!) f (i) k=scanDown (λx=>!ltInt x f[a]!) f (i) (b-1)) (λk=>[(0,lf n),(1,dI a),(10,dI (i:Nat)),(11,dI (k:Nat))]) (λ_=>[bI n f]) (λk=>k) (b-1) rfl ?_ rfl ?_ rfl ⟨bh _,by omega,rfl⟩ ?_ ?_
 .simp[cE]<;>omega
 .simp[cE]
 .rintro out k ⟨t,w,o⟩;by_cases u:i<=k
  .by_cases K:(λx=>!ltInt x f[a]!) f[k]! = ab
   .have g:ltInt f[k]! f[a]! = af:=by grind
    refine bm h [(48,ab),(58,af)] rfl ?_ (AK.aQ (k-1) rfl ?_ ?_ ?_ ?_)
    .simp only[au,bF,b9,g,bE,a9,aF,aD];and_intros<;>omega
    .simp only[au.cat,au,aF,aD];omega
    .simp[cE]
    .exact⟨by omega,by omega,by grind[lj]⟩
    .omega
   .have g:ltInt f[k]! f[a]! = ab:=by grind
    refine bm h [(48,ab),(58,ab)] rfl ?_ (AK.leaveD rfl rfl ?_)
    .simp only[au,bF,b9,g,bE,a9,aF,aD];and_intros<;>omega
    have e:scanDown (λx=>!ltInt x f[a]!) f (i) (b-1)=k:=by grind[fK]
    exact out () ak rfl (by simp only[au.cat,au,e,aF,aD]) rfl (by simp[cE])
  .refine bm h [(48,af)] rfl ?_ (AK.leaveD rfl rfl ?_)
   .simp only[au,bE,bR,aF,aD];omega
   have e:scanDown (λx=>!ltInt x f[a]!) f (i) (b-1)=k:=by grind[fK]
   exact out () ak rfl (by simp only[au.cat,au,e,aF,aD]) rfl (by simp[cE])
 rintro⟨⟩ -;have R:=lI (p:=λx=>!ltInt x f[a]!) (d:=f) (i:=i) (b-1);obtain⟨j,I⟩:∃j,j=scanDown (λx=>!ltInt x f[a]!) f i (b-1):=⟨_,rfl⟩
 rw[<-I]at R⊢;by_cases M:j<i
 .rw[EB N hi I M];refine bm h [(65,ab),(1000009,ab)] rfl ?_ ?_
  .simp only[au,bF,b9,bE,a9,aF,aD];and_intros<;>omega
  refine AK.norm [bI n (swp f j a)] rfl ?_ ?_
  .simp only[au.cat,au,bF,b9,aD,aF];exact iB y (by omega) (by omega) (λ_ _=>rfl)
  refine cG h rfl ak (AK.cX [0] rfl ?_ rfl rfl rfl iI);simp
 refine bm h [(65,af),(1000011,ab)] rfl ?_ ?_
 .simp only[au,bF,b9,bE,bR,aF,aD];and_intros<;>omega
 refine AK.norm [bI n (swp f i j)] rfl ?_ ?_
 .simp only[au.cat,au,bF,b9,aD,aF];exact iB y (by omega) (by omega) (λ_ _=>rfl)
 refine cG h rfl ?_ ?_
 .simp only[au,bE];and_intros<;>omega
 have C:(swp f i j).size=n:=by grind[size_swp]
 obtain⟨r,O⟩:∃r,partLoop ltInt a (i+1) (j-1) (swp f i j)=r:=⟨_,rfl⟩;rw[EC N hi I (by omega) O]
 obtain⟨d1,P⟩:∃d1,d1=swp f i j:=⟨_,rfl⟩;rw[<-P]at C O⊢;refine AK.lB (S2:=Unit) 4 rfl rfl (λ_=>r.1<n/\r.2.size=n) (λ_=>[(0,lf n),(1,dI a),(11,dI r.1)]) (λ_=>[bI n r.2]) 1 (λs:Nat×Nat×Array Int=>s.2.2.size=n/\a+1<=s.1/\s.1<=n+1/\s.2.1<n/\partLoop ltInt a s.1 s.2.1 s.2.2=r) (λs=>[(0,lf n),(1,dI a),(10,dI s.1),(11,dI s.2.1)]) (λs=>[bI n s.2.2]) (λs=>s.2.1+1-s.1) (i+1,j-1,d1) rfl ?_ rfl ?_ rfl ⟨C,by grind,by grind,by grind,O⟩ ?_ ?_
 .simp only[au.cat,au,aF,aD];and_intros<;>omega
 .simp[cE]
 .rintro D ⟨i3,l,d2⟩ ⟨F,J,A,L,m⟩;simp only at F J A L m;refine cG h rfl ak ?_;refine AK.lB (S2:=Unit) 6 rfl rfl (λ_=>True) (λ_=>[(0,lf n),(1,dI a),(10,dI ((scanUp (λx=>ltInt x d2[a]!) d2 (l) (i3)):Nat)),(11,dI (l:Nat))]) (λ_=>[bI n d2]) 1 (λk:Nat=>i3<=k/\k<=n+1/\scanUp (λx=>ltInt x d2[a]!) d2 (l) k=scanUp (λx=>ltInt x d2[a]!) d2 (l) (i3)) (λk=>[(0,lf n),(1,dI a),(10,dI (k:Nat)),(11,dI (l:Nat))]) (λ_=>[bI n d2]) (λk=>l+1-k) (i3) rfl ?_ rfl ?_ rfl ⟨bh _,by omega,rfl⟩ ?_ ?_
  .simp[cE]<;>omega
  .simp[cE]
  .rintro out k ⟨t,w,o⟩;by_cases u:k<=l
   .by_cases K:(λx=>ltInt x d2[a]!) d2[k]! = ab
    .have g:ltInt d2[k]! d2[a]! = ab:=by grind
     refine bm h [(101,ab),(111,ab)] rfl ?_ (AK.aQ (k+1) rfl ?_ ?_ ?_ ?_)
     .simp only[au,bF,b9,g,bE,a9,aF,aD];and_intros<;>omega
     .simp only[au.cat,au,aF,aD];omega
     .simp[cE]
     .grind [nt]
     .omega
    .have g:ltInt d2[k]! d2[a]! = af:=by grind
     refine bm h [(101,ab),(111,af)] rfl ?_ (AK.leaveD rfl rfl ?_)
     .simp only[au,bF,b9,g,bE,a9,aF,aD];and_intros<;>omega
     have e:scanUp (λx=>ltInt x d2[a]!) d2 (l) (i3)=k:=by grind[ia]
     exact out () ak rfl (by simp only[au.cat,au,e,aF,aD]) rfl (by simp[cE])
   .refine bm h [(101,af)] rfl ?_ (AK.leaveD rfl rfl ?_)
    .simp only[au,bE,bR,aF,aD];omega
    have e:scanUp (λx=>ltInt x d2[a]!) d2 (l) (i3)=k:=by grind[ia]
    exact out () ak rfl (by simp only[au.cat,au,e,aF,aD]) rfl (by simp[cE])
  rintro⟨⟩ -;have c1:=ot (p:=λx=>ltInt x d2[a]!) (d:=d2) (j:=l) (l+1-i3) i3 (bh _);obtain⟨i4,B⟩:∃i4,i4=scanUp (λx=>ltInt x d2[a]!) d2 l i3:=⟨_,rfl⟩
  rw[<-B]at c1⊢;refine cG h rfl ak ?_;refine AK.lB (S2:=Unit) 8 rfl rfl (λ_=>True) (λ_=>[(0,lf n),(1,dI a),(10,dI (i4:Nat)),(11,dI ((scanDown (λx=>!ltInt x d2[a]!) d2 (i4) (l)):Nat))]) (λ_=>[bI n d2]) 1 (λk:Nat=>k<=l/\k<=n/\scanDown (λx=>!ltInt x d2[a]!) d2 (i4) k=scanDown (λx=>!ltInt x d2[a]!) d2 (i4) (l)) (λk=>[(0,lf n),(1,dI a),(10,dI (i4:Nat)),(11,dI (k:Nat))]) (λ_=>[bI n d2]) (λk=>k) (l) rfl ?_ rfl ?_ rfl ⟨bh _,by omega,rfl⟩ ?_ ?_
  .simp[cE]<;>omega
  .simp[cE]
  .rintro out k ⟨t,w,o⟩;by_cases u:i4<=k
   .by_cases K:(λx=>!ltInt x d2[a]!) d2[k]! = ab
    .have g:ltInt d2[k]! d2[a]! = af:=by grind
     refine bm h [(117,ab),(127,af)] rfl ?_ (AK.aQ (k-1) rfl ?_ ?_ ?_ ?_)
     .simp only[au,bF,b9,g,bE,a9,aF,aD];and_intros<;>omega
     .simp only[au.cat,au,aF,aD];omega
     .simp[cE]
     .exact⟨by omega,by omega,by grind[lj]⟩
     .omega
    .have g:ltInt d2[k]! d2[a]! = ab:=by grind
     refine bm h [(117,ab),(127,ab)] rfl ?_ (AK.leaveD rfl rfl ?_)
     .simp only[au,bF,b9,g,bE,a9,aF,aD];and_intros<;>omega
     have e:scanDown (λx=>!ltInt x d2[a]!) d2 (i4) (l)=k:=by grind[fK]
     exact out () ak rfl (by simp only[au.cat,au,e,aF,aD]) rfl (by simp[cE])
   .refine bm h [(117,af)] rfl ?_ (AK.leaveD rfl rfl ?_)
    .simp only[au,bE,bR,aF,aD];omega
    have e:scanDown (λx=>!ltInt x d2[a]!) d2 (i4) (l)=k:=by grind[fK]
    exact out () ak rfl (by simp only[au.cat,au,e,aF,aD]) rfl (by simp[cE])
  rintro⟨⟩ -;have c2:=lI (p:=λx=>!ltInt x d2[a]!) (d:=d2) (i:=i4) l;obtain⟨z,G⟩:∃z,z=scanDown (λx=>!ltInt x d2[a]!) d2 i4 l:=⟨_,rfl⟩
  rw[<-G]at c2⊢;have q:=partLoop_eq (by omega) B G;by_cases E:z<i4
  .have e:=q;rw[m,bo E]at e;refine bm h [(134,ab)] rfl ?_ (AK.leaveD rfl rfl ?_)
   .simp only[au,bE,a9];omega
   exact D () (by grind) rfl (by simp only[au.cat,au,e,aF,aD]) rfl (by simp[cE,e])
  .have e:=q;rw[m,aY (by omega)]at e;refine bm h [(134,af),(1000019,ab)] rfl ?_ ?_
   .simp only[au,bF,b9,bE,bR,aF,aD];and_intros<;>omega
   refine AK.norm [bI n (swp d2 i4 z)] rfl ?_ ?_
   .simp only[au.cat,au,bF,b9,aD,aF];exact iB F (by omega) (by omega) (λ_ _=>rfl)
   refine cG h rfl ?_ (AK.aQ (i4+1,z-1,swp d2 i4 z) rfl ?_ ?_ ?_ ?_)
   .simp only[au,bE];and_intros<;>omega
   .simp only[au.cat,au,aF,aD];and_intros<;>omega
   .simp[cE]
   .grind [size_swp]
   grind
 rintro⟨⟩ ⟨Q,H⟩;refine bm h [(1000022,ab)] rfl ?_ ?_
 .simp only[au,bF,b9,bE,aF,aD];and_intros<;>omega
 refine AK.norm [bI n (swp r.2 r.1 a)] rfl ?_ ?_
 .simp only[au.cat,au,bF,b9,aD,aF];exact iB H (by omega) (by omega) (λ_ _=>rfl)
 refine cG h rfl ak (AK.cX [0] rfl ?_ rfl rfl rfl iI);simp
def partEqLoop_eq{a:Nat}{d:Array Int}{i2 j2:Nat}(f:1<=i)(hi:i2=scanUp (λx=>!ltInt d[a]! x) d j i)(b:j2=scanDown (λx=>ltInt d[a]! x) d i2 j):
  partEqLoop ltInt a i j d=if i2>j2 then(i2,d)else partEqLoop ltInt a (i2+1) (j2-1) (swp d i2 j2):=by have e:=ot (p:=λx=>!ltInt d[a]! x) (d:=d) (j:=j) (j+1-i) i (bh _);have c:=lI (p:=λx=>ltInt d[a]! x) (d:=d) (i:=i2) j;rw[<-hi]at e;rw[<-b]at c;rw[partEqLoop.eq_1,<-hi,<-b];grind
def JG(n:Nat)(d:Array Int)(a b v:Nat)(K:d.size=n)(L:a<b)(O:b<=n)(P:v<n)(M:n<=4000000):
  Ev X 192 [lf n,dI a,dI b,dI v] [bI n d] (dI (partitionEqual ltInt d a b v).1) [bI n (partitionEqual ltInt d a b v).2]:=by
 have g:bH X [(191,vF)]:=.cons yR .nil;refine Ev.bQ Tryz.func192 rfl λN=>?_;refine bm g [(1000002,ab)] rfl ?_ ?_
 .simp only[au,bF,b9,bE,aF,aD];and_intros<;>omega
 refine AK.norm [bI n (swp d a v)] rfl ?_ ?_
 .simp only[au.cat,au,bF,b9,aD,aF];exact iB K (by omega) (by omega) (λ_ _=>rfl)
 have C:(swp d a v).size=n:=by grind[size_swp]
 unfold partitionEqual;generalize swp d a v=d1 at *;obtain⟨r,G⟩:∃r,partEqLoop ltInt a (a+1) (b-1) d1=r:=⟨_,rfl⟩;rw[G];refine cG g rfl ?_ ?_
 .simp only[au,bE];and_intros<;>omega
 refine AK.lB (S2:=Unit) 0 rfl rfl (λ_=>r.1<=n+1/\r.2.size=n) (λ_=>[(0,lf n),(1,dI a),(9,dI r.1)]) (λ_=>[bI n r.2]) 1 (λs:Nat×Nat×Array Int=>s.2.2.size=n/\a+1<=s.1/\s.1<=n+1/\s.2.1<n/\partEqLoop ltInt a s.1 s.2.1 s.2.2=r) (λs=>[(0,lf n),(1,dI a),(9,dI s.1),(10,dI s.2.1)]) (λs=>[bI n s.2.2]) (λs=>s.2.1+1-s.1) (a+1,b-1,d1) rfl ?_ rfl ?_ rfl ⟨C,by grind,by grind,by grind,G⟩ ?_ ?_
 .simp only[au.cat,au,aF,aD];and_intros<;>omega
 .simp[cE]
 .rintro t ⟨i3,c,d2⟩ ⟨w,A,m,B,h⟩;simp only at w A m B h;refine cG g rfl ak ?_;refine AK.lB (S2:=Unit) 2 rfl rfl (λ_=>True) (λ_=>[(0,lf n),(1,dI a),(9,dI ((scanUp (λx=>!ltInt d2[a]! x) d2 (c) (i3)):Nat)),(10,dI (c:Nat))]) (λ_=>[bI n d2]) 1 (λk:Nat=>i3<=k/\k<=n+1/\scanUp (λx=>!ltInt d2[a]! x) d2 (c) k=scanUp (λx=>!ltInt d2[a]! x) d2 (c) (i3)) (λk=>[(0,lf n),(1,dI a),(9,dI (k:Nat)),(10,dI (c:Nat))]) (λ_=>[bI n d2]) (λk=>c+1-k) (i3) rfl ?_ rfl ?_ rfl ⟨bh _,by omega,rfl⟩ ?_ ?_
  .simp[cE]<;>omega
  .simp[cE]
  .rintro out k ⟨D,F,z⟩;by_cases E:k<=c
   .by_cases J:(λx=>!ltInt d2[a]! x) d2[k]! = ab
    .have f:ltInt d2[a]! d2[k]! = af:=by grind
     refine bm g [(31,ab),(41,af)] rfl ?_ (AK.aQ (k+1) rfl ?_ ?_ ?_ ?_)
     .simp only[au,bF,b9,f,bE,a9,aF,aD];and_intros<;>omega
     .simp only[au.cat,au,aF,aD];omega
     .simp[cE]
     .grind [nt]
     .omega
    .have f:ltInt d2[a]! d2[k]! = ab:=by grind
     refine bm g [(31,ab),(41,ab)] rfl ?_ (AK.leaveD rfl rfl ?_)
     .simp only[au,bF,b9,f,bE,a9,aF,aD];and_intros<;>omega
     have e:scanUp (λx=>!ltInt d2[a]! x) d2 (c) (i3)=k:=by grind[ia]
     exact out () ak rfl (by simp only[au.cat,au,e,aF,aD]) rfl (by simp[cE])
   .refine bm g [(31,af)] rfl ?_ (AK.leaveD rfl rfl ?_)
    .simp only[au,bE,bR,aF,aD];omega
    have e:scanUp (λx=>!ltInt d2[a]! x) d2 (c) (i3)=k:=by grind[ia]
    exact out () ak rfl (by simp only[au.cat,au,e,aF,aD]) rfl (by simp[cE])
  rintro⟨⟩ -;have c1:=ot (p:=λx=>!ltInt d2[a]! x) (d:=d2) (j:=c) (c+1-i3) i3 (bh _);obtain⟨i4,o⟩:∃i4,i4=scanUp (λx=>!ltInt d2[a]! x) d2 c i3:=⟨_,rfl⟩
  rw[<-o]at c1⊢;refine cG g rfl ak ?_;refine AK.lB (S2:=Unit) 4 rfl rfl (λ_=>True) (λ_=>[(0,lf n),(1,dI a),(9,dI (i4:Nat)),(10,dI ((scanDown (λx=>ltInt d2[a]! x) d2 (i4) (c)):Nat))]) (λ_=>[bI n d2]) 1 (λk:Nat=>k<=c/\k<=n/\scanDown (λx=>ltInt d2[a]! x) d2 (i4) k=scanDown (λx=>ltInt d2[a]! x) d2 (i4) (c)) (λk=>[(0,lf n),(1,dI a),(9,dI (i4:Nat)),(10,dI (k:Nat))]) (λ_=>[bI n d2]) (λk=>k) (c) rfl ?_ rfl ?_ rfl ⟨bh _,by omega,rfl⟩ ?_ ?_
  .simp[cE]<;>omega
  .simp[cE]
  .rintro out k ⟨D,F,z⟩;by_cases E:i4<=k
   .by_cases J:(λx=>ltInt d2[a]! x) d2[k]! = ab
    .have f:ltInt d2[a]! d2[k]! = ab:=by grind
     refine bm g [(48,ab),(58,ab)] rfl ?_ (AK.aQ (k-1) rfl ?_ ?_ ?_ ?_)
     .simp only[au,bF,b9,f,bE,a9,aF,aD];and_intros<;>omega
     .simp only[au.cat,au,aF,aD];omega
     .simp[cE]
     .exact⟨by omega,by omega,by grind[lj]⟩
     .omega
    .have f:ltInt d2[a]! d2[k]! = af:=by grind
     refine bm g [(48,ab),(58,af)] rfl ?_ (AK.leaveD rfl rfl ?_)
     .simp only[au,bF,b9,f,bE,a9,aF,aD];and_intros<;>omega
     have e:scanDown (λx=>ltInt d2[a]! x) d2 (i4) (c)=k:=by grind[fK]
     exact out () ak rfl (by simp only[au.cat,au,e,aF,aD]) rfl (by simp[cE])
   .refine bm g [(48,af)] rfl ?_ (AK.leaveD rfl rfl ?_)
    .simp only[au,bE,bR,aF,aD];omega
    have e:scanDown (λx=>ltInt d2[a]! x) d2 (i4) (c)=k:=by grind[fK]
    exact out () ak rfl (by simp only[au.cat,au,e,aF,aD]) rfl (by simp[cE])
  rintro⟨⟩ -;have c2:=lI (p:=λx=>ltInt d2[a]! x) (d:=d2) (i:=i4) c;obtain⟨l,y⟩:∃l,l=scanDown (λx=>ltInt d2[a]! x) d2 i4 c:=⟨_,rfl⟩
  rw[<-y]at c2⊢;have q:=partEqLoop_eq (by omega) o y;by_cases u:l<i4
  .have e:=q;rw[h,bo u]at e;refine bm g [(64,ab)] rfl ?_ (AK.leaveD rfl rfl ?_)
   .simp only[au,bE,a9];omega
   exact t () (by grind) rfl (by simp only[au.cat,au,e,aF,aD]) rfl (by simp[cE,e])
  .have e:=q;rw[h,aY (by omega)]at e;refine bm g [(64,af),(1000009,ab)] rfl ?_ ?_
   .simp only[au,bF,b9,bE,bR,aF,aD];and_intros<;>omega
   refine AK.norm [bI n (swp d2 i4 l)] rfl ?_ ?_
   .simp only[au.cat,au,bF,b9,aD,aF];exact iB w (by omega) (by omega) (λ_ _=>rfl)
   refine cG g rfl ?_ (AK.aQ (i4+1,l-1,swp d2 i4 l) rfl ?_ ?_ ?_ ?_)
   .simp only[au,bE];and_intros<;>omega
   .simp only[au.cat,au,aF,aD];and_intros<;>omega
   .simp[cE]
   .grind [size_swp]
   grind
 rintro⟨⟩ ⟨I,H⟩;refine cG g rfl ak (AK.cX [0] rfl ?_ rfl rfl rfl iI);simp
end
section
open Go.Sort (swp scanSorted shiftDown shiftUp partialIns partialInsertionSort ltInt)
variable {X:Cx ag}
theorem yS{d:Array Int}(h:i<b)(a:ltInt d[i]! d[i-1]! = af):scanSorted ltInt d b i=scanSorted ltInt d b (i+1):=by rw[scanSorted.eq_1 ltInt d b i,bo (by grind)]
theorem pf{d:Array Int}(h:i<b->ltInt d[i]! d[i-1]! = ab):scanSorted ltInt d b i=i:=by rw[scanSorted,aY];grind
def Nq{d:Array Int}:∀(m i:Nat),b-i<=m->i<=b->i<=scanSorted ltInt d b i/\scanSorted ltInt d b i<=b:=by
 intro m;induction m with
 |zero=>grind[pf]
 |succ m f =>
  intro i h a;by_cases c:i<b
  .cases e:ltInt d[i]! d[i-1]! with
   |false=>grind[yS]
   |true=>grind[pf]
  grind
theorem Nr{d:Array Int}(b:1<=j)(h:ltInt d[j]! d[j-1]! = ab):shiftDown ltInt j d=shiftDown ltInt (j-1) (swp d j (j-1)):=by
 obtain⟨j,rfl⟩:∃a,j=a+1:=⟨j-1,by omega⟩
 simp only[qD]at h⊢;rw[shiftDown,aY (by simp[h])]
theorem Ex{d:Array Int}(h:1<=j->ltInt d[j]! d[j-1]! = af):shiftDown ltInt j d=d:=by
 cases j with
 |zero=>rfl
 |succ j =>
  have:=h (by omega);simp only[qD]at this;rw[shiftDown,bo (by grind)]
theorem Ns{d:Array Int}(a:j<b)(h:ltInt d[j]! d[j-1]! = ab):shiftUp ltInt b j d=shiftUp ltInt b (j+1) (swp d j (j-1)):=by rw[shiftUp.eq_1 ltInt b j d,bo a,aY (by simp[h])]
theorem Ey{d:Array Int}(h:j<b->ltInt d[j]! d[j-1]! = af):shiftUp ltInt b j d=d:=by rw[shiftUp];grind
abbrev Sc(n a b i s:Nat):Fr:=[(0,lf n),(1,dI a),(2,dI b),(7,dI i),(8,dI (5-(s:Int)))]
def QE{a s:Nat}{d:Array Int}:partialIns ltInt a b (s+1) i d=(if scanSorted ltInt d b i=b then(d,ab)else if b-a<50 then(d,af)else
  partialIns ltInt a b s (scanSorted ltInt d b i) (if b-scanSorted ltInt d b i≥2 then shiftUp ltInt b (scanSorted ltInt d b i+1) (if scanSorted ltInt d b i-a≥2 then shiftDown ltInt (scanSorted ltInt d b i-1) (swp d (scanSorted ltInt d b i) (scanSorted ltInt d b i-1))else swp d (scanSorted ltInt d b i) (scanSorted ltInt d b i-1))else(if scanSorted ltInt d b i-a≥2 then shiftDown ltInt (scanSorted ltInt d b i-1) (swp d (scanSorted ltInt d b i) (scanSorted ltInt d b i-1))else swp d (scanSorted ltInt d b i) (scanSorted ltInt d b i-1)))):=rfl
def yT(n:Nat)(d:Array Int)(a b:Nat)(P:d.size=n)(R:a<b)(V:b<=n)(T:n<=4000000):
  Ev X 190 [lf n,dI a,dI b] [bI n d] (dB (partialInsertionSort ltInt d a b).2) [bI n (partialInsertionSort ltInt d a b).1]:=by
 have g:bH X [(191,vF)]:=.cons yR .nil;refine Ev.bQ Tryz.func190 rfl λU=>?_;obtain⟨r,L⟩:∃r,partialIns ltInt a b 5 (a+1) d=r:=⟨_,rfl⟩;have E:partialInsertionSort ltInt d a b=r:=L;rw[E];refine cG g rfl (by simp only[au,bE];omega) ?_
 refine AK.lB (S2:=Unit) 0 rfl rfl (λ_=>r.2=af) (λ_=>[(0,lf n)]) (λ_=>[bI n r.1]) 1 (λs:Nat×Nat×Array Int=>s.2.2.size=n/\s.1<=5/\a+1<=s.2.1/\s.2.1<=b/\partialIns ltInt a b s.1 s.2.1 s.2.2=r) (λs=>Sc n a b s.2.1 s.1) (λs=>[bI n s.2.2]) (λs=>s.1) (5,a+1,d) rfl ?_ rfl ?_ rfl ⟨P,by grind,by grind,by grind,L⟩ ?_ ?_
 .simp
 .simp[cE]
 .rintro x ⟨s,i,d1⟩ ⟨K,v,hi,q,f⟩;simp only at K v hi q f;cases s with
  |zero =>
   rw[partialIns]at f;refine bm g [(14,af)] rfl ?_ (AK.leaveD rfl rfl ?_)
   .simp
   exact x () (by grind) rfl (by simp) rfl (by simp[cE,<-f])
  |succ s =>
   rw[QE]at f;refine bm g [(14,ab)] rfl (by simp only[au,a9];omega) ?_;refine AK.lB (S2:=Unit) 2 rfl rfl (λ_=>True) (λ_=>Sc n a b (scanSorted ltInt d1 b i) (s+1)) (λ_=>[bI n d1]) 1 (λk:Nat=>i<=k/\k<=b/\scanSorted ltInt d1 b k=scanSorted ltInt d1 b i) (λk=>Sc n a b k (s+1)) (λ_=>[bI n d1]) (λk=>b-k) i rfl ?_ rfl ?_ rfl ⟨bh _,q,rfl⟩ ?_ ?_
   .simp
   .simp[cE]
   .rintro out k ⟨N,Q,M⟩;by_cases O:k<b
    .have B:((k:Int)-1).toNat=k-1:=by omega
     cases p:ltInt d1[k]! d1[k-1]! with
     |false =>
      refine bm g [(19,ab),(30,af)] rfl ?_ (AK.aQ (k+1) rfl ?_ ?_ ?_ ?_)
      .simp only[au,bF,b9,B,p,bE,a9,aF,aD];and_intros<;>omega
      .simp only[au.cat,au,aF,aD];omega
      .simp[cE]
      .grind [yS]
      .omega
     |true =>
      refine bm g [(19,ab),(30,ab)] rfl ?_ (AK.leaveD rfl rfl ?_)
      .simp only[au,bF,b9,B,p,bE,a9,aF,aD];and_intros<;>omega
      have e:scanSorted ltInt d1 b i=k:=by grind[pf]
      exact out () ak rfl (by simp only[au.cat,au,e,aF,aD]) rfl (by simp[cE])
    .refine bm g [(19,af)] rfl ?_ (AK.leaveD rfl rfl ?_)
     .simp only[au,bE,bR,aF,aD];omega
     have e:scanSorted ltInt d1 b i=k:=by grind[pf]
     exact out () ak rfl (by simp only[au.cat,au,e,aF,aD]) rfl (by simp[cE])
   rintro⟨⟩ -;have c:=Nq (d:=d1) (b:=b) (b-i) i (bh _) q;obtain⟨i2,G⟩:∃i2,i2=scanSorted ltInt d1 b i:=⟨_,rfl⟩;rw[<-G]at c f⊢
   by_cases u:i2=b
   .rw[bo u]at f;rw[<-f];refine bm g [(37,ab)] rfl ?_ (AK.fR (cz.mk [0] rfl ?_ rfl rfl rfl iI))
    .simp[u]
    .simp
   rw[aY u]at f;by_cases z:b-a<50
   .rw[bo z]at f;rw[<-f];refine bm g [(37,af),(41,ab)] rfl ?_ (AK.fR (cz.mk [0] rfl ?_ rfl rfl rfl iI))
    .simp[bE];omega
    .simp
   rw[aY z]at f;have B:((i2:Int)-1).toNat=i2-1:=by omega
   refine bm g [(37,af),(41,af),(1000012,ab)] rfl ?_ ?_
   .simp only[au,bF,b9,B,bE,bR,eF,dz,aF,aD];and_intros<;>omega
   refine AK.norm [bI n (swp d1 i2 (i2-1))] rfl ?_ ?_
   .simp only[au.cat,au,bF,b9,B,aD,aF];exact iB K (by omega) (by omega) (λ_ _=>rfl)
   have w:(swp d1 i2 (i2-1)).size=n:=by grind[size_swp]
   obtain⟨d2,H⟩:∃d2,d2=swp d1 i2 (i2-1):=⟨_,rfl⟩;rw[<-H]at w f⊢;obtain⟨d3,o⟩:∃d3,d3=if i2-a≥2 then shiftDown ltInt (i2-1) d2 else d2:=⟨_,rfl⟩
   rw[<-o]at f;have Y:∀(j:Nat) (d:Array Int),(shiftDown ltInt j d).size=d.size:=by
    intro j;induction j with
    |zero=>intro d;rfl
    |succ j W =>
     intro d;rw[shiftDown];grind[size_swp]
   have F:d3.size=n:=by grind
   apply AK.join (Sc n a b i2 (s+1)) [bI n d3]
   .intro out;by_cases J:i2-a≥2
    .rw[bo J]at o;refine bm g [(61,ab)] rfl ?_ ?_
     .simp only[au,bE,a9,aF,aD];and_intros<;>omega
     refine AK.lB (S2:=Unit) 4 rfl rfl (λ_=>True) (λ_=>Sc n a b i2 (s+1)) (λ_=>[bI n d3]) 1 (λs:Nat×Array Int=>s.2.size=n/\s.1<b/\shiftDown ltInt s.1 s.2=d3) (λs2=>Sc n a b i2 (s+1)++[(9,dI s2.1)]) (λs=>[bI n s.2]) (λs=>s.1) (i2-1,d2) rfl ?_ rfl ?_ rfl ⟨w,by grind,o.symm⟩ ?_ ?_
     .simp only[au.cat,au,aF,aD];omega
     .simp[cE]
     .rintro h ⟨j,d4⟩ ⟨m,D,l⟩;simp only at m D l;by_cases y:1<=j
      .have t:((j:Int)-1).toNat=j-1:=by omega
       cases p:ltInt d4[j]! d4[j-1]! with
       |true =>
        refine bm g [(65,ab),(77,ab)] rfl ?_ (AK.aQ (j-1,swp d4 j (j-1)) rfl ?_ ?_ ?_ ?_)
        .simp only[au,bF,b9,t,p,bE,a9,aF,aD];and_intros<;>omega
        .simp only[au.cat,au,aF,aD];omega
        .simp only[au.cat,au,bF,b9,t,aD,aF];exact iB m (by omega) (by omega) (λ_ _=>rfl)
        .grind [Nr]
        grind
       |false =>
        refine bm g [(65,ab),(77,af)] rfl ?_ (AK.leaveD rfl rfl ?_)
        .simp only[au,bF,b9,t,p,bE,a9,aF,aD];and_intros<;>omega
        have e:d3=d4:=by grind[Ex]
        exact h () ak rfl (by simp) rfl (by simp[cE,e])
      .refine bm g [(65,af)] rfl ?_ (AK.leaveD rfl rfl ?_)
       .simp only[au,bR];omega
       have e:d3=d4:=by grind[Ex]
       exact h () ak rfl (by simp) rfl (by simp[cE,e])
     rintro⟨⟩ -;refine bm g [(1000018,ab)] rfl ak ?_;exact out _ _ rfl (by simp)
    .rw[aY J]at o;rw[<-o];refine bm g [(61,af),(1000018,ab)] rfl ?_ ?_
     .simp only[au,bE,bR,aF,aD];and_intros<;>omega
     exact out _ _ rfl (by simp)
   by_cases I:b-i2≥2
   .rw[bo I]at f;obtain⟨d5,A⟩:∃d5,shiftUp ltInt b (i2+1) d3=d5:=⟨_,rfl⟩;rw[A]at f;refine bm g [(98,ab)] rfl ?_ ?_
    .simp only[au,bE,a9,aF,aD];and_intros<;>omega
    refine AK.lB (S2:=Unit) 6 rfl rfl (λ_=>d5.size=n) (λ_=>Sc n a b i2 (s+1)) (λ_=>[bI n d5]) 1 (λs:Nat×Array Int=>s.2.size=n/\1<=s.1/\s.1<=b/\shiftUp ltInt b s.1 s.2=d5) (λs2=>Sc n a b i2 (s+1)++[(10,dI s2.1)]) (λs=>[bI n s.2]) (λs=>b-s.1) (i2+1,d3) rfl ?_ rfl ?_ rfl ⟨F,by grind,by grind,A⟩ ?_ ?_
    .simp only[au.cat,au,aF,aD];omega
    .simp[cE]
    .rintro h ⟨j,d4⟩ ⟨m,y,D,l⟩;simp only at m y D l;by_cases S:j<b
     .have t:((j:Int)-1).toNat=j-1:=by omega
      cases p:ltInt d4[j]! d4[j-1]! with
      |true =>
       refine bm g [(103,ab),(115,ab)] rfl ?_ (AK.aQ (j+1,swp d4 j (j-1)) rfl ?_ ?_ ?_ ?_)
       .simp only[au,bF,b9,t,p,bE,a9,aF,aD];and_intros<;>omega
       .simp only[au.cat,au,aF,aD];omega
       .simp only[au.cat,au,bF,b9,t,aD,aF];exact iB m (by omega) (by omega) (λ_ _=>rfl)
       .grind [size_swp,Ns]
       grind
      |false =>
       refine bm g [(103,ab),(115,af)] rfl ?_ (AK.leaveD rfl rfl ?_)
       .simp only[au,bF,b9,t,p,bE,a9,aF,aD];and_intros<;>omega
       have e:d5=d4:=by grind[Ey]
       exact h () (by grind) rfl (by simp) rfl (by simp[cE,e])
     .refine bm g [(103,af)] rfl ?_ (AK.leaveD rfl rfl ?_)
      .simp only[au,bR];omega
      have e:d5=d4:=by grind[Ey]
      exact h () (by grind) rfl (by simp) rfl (by simp[cE,e])
    rintro⟨⟩ v;refine cG g rfl ?_ (AK.aQ (s,i2,d5) rfl ?_ ?_ ?_ ?_)
    .simp only[au,bE];omega
    .simp only[au.cat,au,aF,aD];omega
    .simp[cE]
    .grind
    grind
   .rw[aY I]at f;refine bm g [(98,af)] rfl ?_ (AK.aQ (s,i2,d3) rfl ?_ ?_ ?_ ?_)
    .simp only[au,bE,bR,aF,aD];and_intros<;>omega
    .simp only[au.cat,au,aF,aD];omega
    .simp[cE]
    .grind
    grind
 rintro⟨⟩ C;refine cG g rfl ak (AK.cX [0] rfl ?_ rfl rfl rfl iI);simp[C]
end
section
open Go.Sort (swp pdq rd Rd Below SWO insertionSort heapSort breakPatterns choosePivot reverseRange partialInsertionSort partition partitionEqual Hint ltInt PermIn SortedIn)
variable {X:Cx ag}
abbrev Xs(n a b c:Nat)(wb wp:Bool):Fr:=[(0,lf n),(1,dI a),(2,dI b),(3,dI c),(8,dB wb),(9,dB wp)]
def Ao{h:Hint}:oo h=2↔h=.decreasing:=by cases h<;>simp[oo]
def uY{h:Hint}:oo h=1↔h=.increasing:=by cases h<;>simp[oo]
structure PqS where
 a:Nat
 b:Nat
 lim:Nat
 wb:Bool
 wp:Bool
 d:Array Int
def QF(n:Nat)(d:Array Int){a:Nat}(h:d.size=n)(g:b<=n)(e:a<=n)(c:n<=4000000){r:Array Int}(f:r=insertionSort ltInt d a b):Ev X 185 [lf n,dI a,dI b] [bI n d] (.fD []) [bI n r]:=by grind[Uz]
def Nt(n:Nat)(d:Array Int){a:Nat}(h:d.size=n)(c:a<=b)(i:1<=b-a)(g:b<=n)(e:n<=4000000){r:Array Int}(f:r=heapSort ltInt d a b):Ev X 186 [lf n,dI a,dI b] [bI n d] (.fD []) [bI n r]:=by grind[QG]
def UA(n:Nat)(G:n<=4000000):∀(m:Nat)(d:Array Int)(a b lim:Nat),b-a<=m->d.size=n->a<=b->b<=n->lim<=100->Below ltInt a b d ->
  ∀{x y z:Int},x=a->y=b->z=lim->∀{R:Array Int},R=pdq ltInt d a b lim ab ab->Ev X 146 [lf n,dI x,dI y,dI z] [bI n d] (.fD []) [bI n R]:=by
 have i:bH X [(191,vF)]:=.cons yR .nil;have F:SWO ltInt:=Go.Sort.swo_ltInt;have Y:=Go.Sort.partialInsertionSort_holds (lt:=ltInt);have hpt:=Go.Sort.partition_holds ltInt;have hpe:=Go.Sort.partitionEqual_holds ltInt;have N:=Go.Sort.reverseRange_holds (α:=Int);have M:=Go.Sort.pdq_sorts ltInt;intro m;induction m using Nat.strongRecOn with
 |_ m ih =>
 intro d a b lim hm hd hab hb hl hB x y z hx hy hz R hR;subst hx hy hz;refine Ev.bQ Tryz.func146 rfl λhf=>?_;refine cG i rfl ak ?_;refine AK.cJ 1 (λs:PqS=>s.d.size=n/\s.a<=s.b/\s.b<=n/\s.lim<=100/\s.b-s.a<=b-a/\Below ltInt s.a s.b s.d/\pdq ltInt s.d s.a s.b s.lim s.wb s.wp=R) (λs=>Xs n s.a s.b s.lim s.wb s.wp) (λs=>[bI n s.d]) (λs=>s.b-s.a) ⟨a,b,lim,ab,ab,d⟩ rfl ?_ rfl ?_ rfl ⟨hd,hab,hb,hl,bh _,hB,hR.symm⟩ ?_
 .simp
 .simp[cE]
 clear hf hB hd hR;rintro⟨f,h,q,wb,wp,d1⟩ ⟨U,A,j,Z,ZI,hB,k⟩;simp only at U A j Z ZI hB k;by_cases B:h-f<=12
 .rw[Go.Sort.pdq_small B]at k;refine bm i [(23,ab)] rfl ?_ ?_
  .simp only[au,bE,a9];and_intros<;>omega
  refine AK.cQ (QF n d1 (a:=f) (b:=h) U j (by omega) G k.symm) [0] rfl ?_;refine cG i rfl ak (AK.fR (cz.mk [0] rfl ak rfl rfl rfl iI))
 by_cases Q:q=0
 .rw[Go.Sort.pdq_heap B Q]at k;refine bm i [(23,af),(29,ab)] rfl ?_ ?_
  .simp only[au,bE,bR,gw];and_intros<;>omega
  refine AK.cQ (Nt n d1 (a:=f) (b:=h) U A (by omega) j G k.symm) [0] rfl ?_;refine cG i rfl ak (AK.fR (cz.mk [0] rfl ak rfl rfl rfl iI))
 have o:f<h:=by omega
 obtain⟨f1,f2,f3,f4,f5,V,W,f8⟩:=Go.Sort.rd_facts (limit:=q) (wb:=wb) (wp:=wp) F Y N o (by grind) hB;have fl:=Go.Sort.rd_lim_le (lt:=ltInt) (d:=d1) (a:=f) (b:=h) (limit:=q) (wb:=wb) (wp:=wp);have S:=Go.Sort.rd_dec (lt:=ltInt) (d:=d1) (a:=f) (b:=h) (limit:=q) (wb:=wb) (wp:=wp);have O:=Go.Sort.rd_not (lt:=ltInt) (d:=d1) (a:=f) (b:=h) (limit:=q) (wb:=wb) (wp:=wp);have H:=Go.Sort.rd_pi_yes (lt:=ltInt) (d:=d1) (a:=f) (b:=h) (limit:=q) (wb:=wb) (wp:=wp);have fno:=Go.Sort.rd_pi_no (lt:=ltInt) (d:=d1) (a:=f) (b:=h) (limit:=q) (wb:=wb) (wp:=wp);have fc:=Go.Sort.rd_c (lt:=ltInt) (d:=d1) (a:=f) (b:=h) (limit:=q) (wb:=wb) (wp:=wp);have fd1:wb=af->(rd ltInt d1 f h q wb wp).d1=breakPatterns d1 f h/\(rd ltInt d1 f h q wb wp).lim=q-1:=by grind[Go.Sort.rd_false]
 have fd2:wb=ab->(rd ltInt d1 f h q wb wp).d1=d1/\(rd ltInt d1 f h q wb wp).lim=q:=by grind[Go.Sort.rd_true]
 have E:=Go.Sort.pdq_done (lt:=ltInt) (d:=d1) (wb:=wb) (wp:=wp) B Q;have geq:=Go.Sort.pdq_eq (lt:=ltInt) (d:=d1) (wb:=wb) (wp:=wp) B Q;have C:=Go.Sort.pdq_left (lt:=ltInt) (d:=d1) (wb:=wb) (wp:=wp) B Q;have w:=Go.Sort.pdq_right (lt:=ltInt) (d:=d1) (wb:=wb) (wp:=wp) B Q;rw[U]at f1 f4 W;rw[k]at E geq C w;generalize rd ltInt d1 f h q wb wp=r at *;apply AK.join (Xs n f h r.lim wb wp++[(10,dI ((h-f:Nat):Int))]) [bI n r.d1]
 .intro out;cases wb with
  |false =>
   obtain⟨J,I⟩:=fd1 rfl;refine bm i [(23,af),(29,af)] rfl ?_ ?_
   .simp only[au,bE,bR,eF,dz];and_intros<;>omega
   refine AK.cQ (Nu n d1 f h U A j G) [0] rfl ?_;rw[<-J];refine bm i [(1000010,ab)] rfl ?_ ?_
   .simp only[au,bE];and_intros<;>omega
   exact out _ _ rfl (by simp only[au.cat,au,I,aF,aD];and_intros<;>omega)
  |true =>
   obtain⟨J,I⟩:=fd2 rfl;subst J;refine bm i [(23,af),(29,af),(1000010,ab)] rfl ?_ ?_
   .simp only[au,bE,bR,eF,dz];and_intros<;>omega
   exact out _ _ rfl (by simp only[au.cat,au,I,aF,aD];and_intros<;>omega)
 refine cG i rfl ak ?_;refine AK.cQ (JF n r.d1 f h A j (by omega) G) [0] rfl ?_;rw[<-fc];apply AK.join (Xs n f h r.lim wb wp++[(10,dI ((h-f:Nat):Int)),(11,dI r.pivot),(12,dI (oo r.hint))]) [bI n r.d2]
 .intro out;by_cases u:r.c.2=.decreasing
  .obtain⟨J,I,e3⟩:=S u;refine bm i [(50,ab)] rfl ?_ ?_
   .simp only[au,gw,Ao];exact u
   refine AK.cQ (UB n r.d1 f h f1 (by omega) (by omega) j G) [0] rfl ?_;rw[<-J];refine bm i [(1000015,ab)] rfl ?_ ?_
   .simp only[au,bE];and_intros<;>omega
   exact out _ _ rfl (by simp only[au.cat,au,I,e3,oo,aF,aD];and_intros<;>omega)
  .obtain⟨J,I,e3⟩:=O u;rw[<-J];refine bm i [(50,af),(1000015,ab)] rfl ?_ ?_
   .simp only[au,eF,dz,Ao];exact u
   exact out _ _ rfl (by simp only[au.cat,au,I,e3,aF,aD])
 by_cases p:r.pi.2=ab
 ·
  have t:(wb&&wp&&decide (r.hint=.increasing))=ab:=by grind
  have e:=H t;simp only[bM,a9]at t;obtain⟨⟨rfl,rfl⟩,D⟩:=t;refine bm i [(67,ab)] rfl ?_ ?_
  .simp only[au,gw,uY];exact D
  refine AK.cQ (yT n r.d2 f h f4 o j G) [0] rfl ?_;rw[<-e,p,<-E p];refine cG i rfl ak (AK.fR (cz.mk [0] rfl ak rfl rfl rfl iI))
 rw[oG]at p;apply AK.join (Xs n f h r.lim wb wp++[(10,dI ((h-f:Nat):Int)),(11,dI r.pivot)]) [bI n r.pi.1]
 .intro out;cases l:(wb&&wp&&decide (r.hint=.increasing))with
  |true =>
   have e:=H l;simp only[bM,a9]at l;obtain⟨⟨rfl,rfl⟩,D⟩:=l;refine bm i [(67,ab)] rfl ?_ ?_
   .simp only[au,gw,uY];exact D
   refine AK.cQ (yT n r.d2 f h f4 o j G) [0] rfl ?_;rw[<-e,p];refine bm i [(1000017,ab)] rfl ak ?_;exact out _ _ rfl (by simp)
  |false =>
   have e:r.d2=r.pi.1:=by grind
   rw[e];cases wb with
   |false =>
    refine bm i [(1000017,ab)] rfl ak ?_;exact out _ _ rfl (by simp)
   |true =>
    cases wp with
    |false =>
     refine bm i [(1000017,ab)] rfl ak ?_;exact out _ _ rfl (by simp)
    |true =>
     refine bm i [(67,af),(1000017,ab)] rfl ?_ ?_
     .simp only[au,eF,dz,uY];grind
     exact out _ _ rfl (by simp)
 have ep:((f:Int)-1).toNat=f-1:=by omega
 cases l:(decide (f>0)&&!ltInt r.pi.1[f-1]! r.pi.1[r.pivot]!)with
 |true =>
  have v:=l;simp only[bM,a9,j0]at v;obtain⟨L,q2,K,q4,_⟩:=Go.Sort.round_eq (mid:=(partitionEqual ltInt r.pi.1 f h r.pivot).1) (d4:=(partitionEqual ltInt r.pi.1 f h r.pivot).2) F hpe v.1 V.1 V.2 (by grind) f8 v.2 rfl;have g:=geq p l ⟨L,q2⟩;refine bm i [(74,ab),(85,af)] rfl ?_ ?_
  .simp only[au,bF,b9,ep,v.2,bE,a9,aF,aD];and_intros<;>omega
  refine AK.cQ (JG n r.pi.1 f h r.pivot W o j (by omega) G) [0] rfl ?_;refine cG i rfl ak (AK.aQ ⟨(partitionEqual ltInt r.pi.1 f h r.pivot).1,h,r.lim,wb,wp,(partitionEqual ltInt r.pi.1 f h r.pivot).2⟩ rfl ?_ ?_ ?_ ?_)
  .simp
  .simp[cE]
  .grind
  grind
 |false =>
  obtain⟨L,q2,K,q4,q5,q6,q7⟩:=Go.Sort.round_part (mid:=(partition ltInt r.pi.1 f h r.pivot).1) (ap:=(partition ltInt r.pi.1 f h r.pivot).2.1) (d4:=(partition ltInt r.pi.1 f h r.pivot).2.2) F hpt V.1 V.2 (by grind) f8 rfl;apply AK.join (Xs n f h r.lim wb wp++[(10,dI ((h-f:Nat):Int)),(11,dI r.pivot)]) [bI n r.pi.1]
  .intro out;by_cases ha0:0<f
   .have ug:ltInt r.pi.1[f-1]! r.pi.1[r.pivot]! = ab:=by grind
    refine bm i [(74,ab),(85,ab),(1000020,ab)] rfl ?_ ?_
    .simp only[au,bF,b9,ep,ug,bE,a9,aF,aD];and_intros<;>omega
    exact out _ _ rfl (by simp)
   .refine bm i [(74,af),(1000020,ab)] rfl ?_ ?_
    .simp only[au,bR];omega
    exact out _ _ rfl (by simp)
  refine cG i rfl ak ?_;refine AK.cQ (QH n r.pi.1 f h r.pivot W o j (by omega) G) [0] rfl ?_;have gl:=C p l ⟨L,q2⟩;have gr:=w p l ⟨L,q2⟩;generalize partition ltInt r.pi.1 f h r.pivot=P at *;rw[W]at K;by_cases T:P.1-f<h-P.1
  .have g:=gl T;obtain⟨w1,w2⟩:=M F P.2.2 f P.1 r.lim ab ab L (by grind) q4;obtain⟨w3,_⟩:=q6 _ w1 w2;refine bm i [(113,ab)] rfl ?_ ?_
   .simp only[au,bE,a9,aF,aD];and_intros<;>omega
   refine AK.cQ (ih (P.1-f) (by omega) P.2.2 f P.1 r.lim (bh _) K L (by omega) (by omega) q4 rfl rfl rfl rfl) [0] rfl ?_;refine cG i rfl ?_ (AK.aQ ⟨P.1+1,h,r.lim,decide (P.1-f≥(h-f) / 8),P.2.1,pdq ltInt P.2.2 f P.1 r.lim ab ab⟩ rfl ?_ ?_ ?_ ?_)
   .simp only[au,bE,aF,aD];and_intros<;>omega
   .simp only[au.cat,au,aF,aD];grind
   .simp[cE]
   .exact⟨by simp only;rw[w1.1,K],by grind,j,by grind,by grind,w3,g.symm⟩
   grind
  .have g:=gr T;obtain⟨w1,w2⟩:=M F P.2.2 (P.1+1) h r.lim ab ab (by omega) (by grind) q5;obtain⟨w3,_⟩:=q7 _ w1 w2;refine bm i [(113,af)] rfl ?_ ?_
   .simp only[au,bE,bR,aF,aD];and_intros<;>omega
   refine AK.cQ (ih (h-(P.1+1)) (by omega) P.2.2 (P.1+1) h r.lim (bh _) K (by omega) j (by omega) q5 (x:=(P.1:Int)+1) (by omega) rfl rfl rfl) [0] rfl ?_;refine cG i rfl ?_ (AK.aQ ⟨f,P.1,r.lim,decide (h-P.1≥(h-f) / 8),P.2.1,pdq ltInt P.2.2 (P.1+1) h r.lim ab ab⟩ rfl ?_ ?_ ?_ ?_)
   .trivial
   .simp only[au.cat,au,aF,aD];grind
   .simp[cE]
   .exact⟨by simp only;rw[w1.1,K],by grind,by grind,by grind,by grind,w3,g.symm⟩
   grind
end
section
variable {X:Cx ag}[X.ik]
def Un(t:List bw):∀i,i<t.length->(cF.fn t i).length=2/\∀c∈cF.fn t i,vP c=ab:=by intro i _;refine⟨rfl,λc a=>?_⟩;simp only[mS.fn,BQ,cF,eb,oF,jy]at a;rcases a with rfl|rfl<;>rfl
abbrev Nc(t:List bw)(xs:List ai):Prop:=gE 2 t.length (cF.fn t) xs
abbrev bK(bf:nL)(n:Nat)(xs:List ai):bg:=.cj (gk 50 2 bf n xs)
abbrev tKB(bf:nL)(n:Nat)(b:Bool):D:=.fD [.one (.v (lK bf n)),.one (.c (.bool b))]
def Eo(t:List bw)(p x:Bs):ek (ι:={q:nL×List ai // Nc (eD t p x).1 q.2}) X 50 [cF.sl t,dS p,dS x] [] (λq=>tKB q.1.1 (eD t p x).1.length (eD t p x).2) (λq=>[bK q.1.1 (eD t p x).1.length q.1.2]) :=
 (vE t p x).thaw Tryz.func50 rfl (by simp[wH,qf,ri,nh,wX,vP]) (Un _)
def gE.nil{k:Nat}:gE k 0 es []:=⟨by simp,λi hi=>by omega,λi hi=>by omega⟩
def JB{t:List bw}{p x:Bs}(h:(eD t p x).2=ab):(eD t p x).1.length<=6:=by
 unfold eD at h⊢;split at h
 .rename_i b;rw[bo b];split at h
  .rename_i a;rw[bo a];exact mO a
  grind
 grind
def Xg(h:o.op=.call {callee:=.builtin .append,args:=#[x,y],argTypes:=#[28,28]}):lW ag o x y 50 i50 :=
 ⟨⟨28,28,i28,i28,h,(tok _ _ rfl),rfl,(tok _ _ rfl),rfl⟩,(tok _ _ rfl),by decide,by decide⟩
def Nd{p:Bs}(h:p.length<=9223372036854775807):Rd M (Cw p) (.str p):=Rd.str rfl h
def Nc.snoc{t:List bw}{xs:List ai}(h:Nc t xs)(p x:Bs)(b:p.length<=9223372036854775807)(d:x.length<=9223372036854775807):Nc (t++[(p,x)]) (xs++[Cw p,Cw x]):=by
 unfold Nc;rw[cW];refine gE.snoc h (λi hi=>?_) rfl rfl λq c a=>?_
 .simp[mS.fn,BQ,aj,jH hi]
 .have e:cF.fn (t++[(p,x)]) t.length=[.str p,.str x]:=by simp[mS.fn,BQ,cF]
  rw[e]at a;rcases q with _|_|q
  .simp at a;subst a;exact⟨Cw p,rfl,λM=>Nd b⟩
  .simp at a;subst a;exact⟨Cw x,rfl,λM=>Nd d⟩
  grind
def Nc.Qw{t:List bw}{xs:List ai}(h:Nc t xs)(i:Nat)(hi:i<t.length)(x:Bs)(d:nC vs [.c (.str x)]):Nc (t.set i ((t.getD i cF.b8).1,x)) (xs.take (i*2+1)++vs++xs.drop (i*2+1+vs.length)):=by
 unfold Nc;rw[List.length_set];refine gE.fI h i 1 hi d (bh _) (λg f b=>?_) rfl λq c a=>?_
 .simp[mS.fn,BQ,aj,Ne.symm b]
 .have e:cF.fn (t.set i ((t.getD i cF.b8).1,x)) i=[.str (t.getD i cF.b8).1,.str x]:=by simp[mS.fn,BQ,cF,aj,hi]
  rw[e]at a;rcases q with _|_|q
  .right;simp at a;subst a;exact⟨by omega,rfl⟩
  .grind
  grind
structure Ep(k c:Nat) where
 t:List bw
 bf:nL
 xs:List ai
 k1:Nat
 fl:Nc t xs
 hl:t.length<=7
 h1:k<=k1
 h2:k1<=k+c
set_option maxRecDepth 20000 in
def HU(m:Nat)(b:Nat->Int)(g:Bytes b)(k:Nat)(hk:k<=50000)(o:m<=1048576):
  ek (ι:=Ep k 400) X 20 [.e (.one (.ptr 0 0))] [lF m b k] (λq=>.e (.one (.v (lK q.bf q.t.length)))) (λq=>[lF m b q.k1,bK q.bf q.t.length q.xs]):=by
 refine ek.rN Tryz.func20 rfl rfl rfl λJ=>?_;refine qi [] 9 rfl ak ?_;refine AK.OT 3 50 2 rfl λC=>?_;refine bu rfl ak ?_;refine AK.cP (gK m b g k 6 (by omega) o (by omega)) [0] rfl (λ_=>rfl) ?_;rintro⟨v,v0,v1⟩;refine bu rfl ak ?_;refine AK.cJ 2 (λs:Nat×List bw×nL×List ai×Nat=>s.1<=5/\Nc s.2.1 s.2.2.2.1/\s.2.1.length<=6/\k<=s.2.2.2.2/\s.2.2.2.2+70*s.1<=k+351) (λs=>[(0,.e (.one (.ptr 0 0))),(4,dI s.1),(3,.e (.one (.v (lK s.2.2.1 s.2.1.length))))]) (λs=>[lF m b s.2.2.2.2,bK s.2.2.1 s.2.1.length s.2.2.2.1]) (λs=>s.1) (v.toNat,[],C,[],k+1) rfl ?_ rfl ?_ rfl ⟨by omega,gE.nil,by simp,by simp,by grind⟩ ?_
 .simp;omega
 .simp
 rintro⟨n,t,bf,xs,k1⟩ ⟨Q,f,H,O,N⟩;simp only at Q f H O N;by_cases G:0<n
 .refine aW [(11,ab)] rfl (by simp[G]) ?_;refine AK.cP (wP m b g k1 (by omega) o) [0] rfl (λ_=>rfl) ?_;rintro⟨p,I⟩;refine bu rfl ak ?_;refine AK.cP (H9 m b g (k1+1+1) (by omega) o) [0] rfl (λ_=>rfl) ?_;rintro⟨⟨x,E⟩,K,B,i⟩;simp only at K B i;refine bu rfl ak ?_;refine AK.Lf (Eo t p x) 1 0 rfl rfl rfl rfl (gk.CL rfl (cF.fn t) f.rd) rfl ?_ rfl (λ_=>rfl) (λ_=>rfl) rfl ?_
  .simp
  rintro⟨⟨a,xs'⟩,r⟩;simp only at r⊢;cases A:(eD t p x).2 with
  |true =>
   have D:=JB A;generalize(eD t p x).1=t' at r D⊢;refine qi [] 6 rfl ak ?_;refine AK.swap 1 2 (by decide) rfl rfl (λv P h=>h.1) (λv P h=>h.1) ?_;refine aW [(23,ab)] rfl ?_ (AK.aQ (n-1,t',a,xs',E) rfl ?_ ?_ ?_ ?_)
   .simp[bE];omega
   .simp;omega
   .simp
   .grind
   grind
  |false =>
   refine aW [(23,af)] rfl ?_ (AK.aQ (n-1,t,bf,xs,E) rfl ?_ ?_ ?_ ?_)
   .simp[bE];omega
   .simp;omega
   .simp
   .grind
   grind
 .obtain rfl:n=0:=by omega
  refine aW [(11,af)] rfl (by simp) (AK.leaveD rfl rfl ?_);refine bu rfl ak ?_;refine AK.cP (gK m b g k1 40 (by omega) o (by omega)) [0] rfl (λ_=>rfl) ?_;rintro⟨u,T,S⟩;by_cases F:u=0
  .refine aW [(27,ab)] rfl (by simp[F]) ?_;refine AK.cP (wP m b g (k1+1) (by omega) o) [0] rfl (λ_=>rfl) ?_;rintro⟨p,I⟩;refine bu rfl ak ?_;refine AK.oN (l:=1) (bf:=bf) (xs:=xs) (n:=t.length) (xv:=[Cw p,Cw [97]]) (Xg rfl) rfl rfl rfl rfl rfl rfl rfl rfl (λM v j c R U=>?_) (by show _*32<=_;omega) λa=>?_
   .grind [str_val]
   refine bu rfl ak (AK.oe ⟨t++[(p,[97])],a,xs++[Cw p,Cw [97]],k1+1+1+1,f.snoc p [97] (by omega) (by decide),by grind,by omega,by omega⟩ (AK.cX [0,1] rfl ?_ ?_ rfl rfl ?_))
   .simp
   .simp;rfl
   grind
  by_cases d:u=1
  .by_cases y:0<t.length
   .refine AK.Kn (gk.len (l:=1) rfl) λz=>?_;obtain⟨L,cap,rfl⟩:=z.2.2.1 y;refine aW [(27,af),(35,ab),(39,ab)] rfl ?_ ?_
    .simp[y,d];omega
    refine AK.AT tok 1 rfl rfl rfl rfl rfl rfl rfl ?_ rfl rfl λvs UX=>?_
    .grind
    have w:=f.Qw 0 y [65] UX;refine bu rfl ak (AK.oe ⟨t.set 0 ((t.getD 0 cF.b8).1,[65]),.row L cap,_,k1+1,w,by grind,by omega,by omega⟩ (AK.cX [0,1] rfl ?_ ?_ rfl rfl ?_))
    .simp
    .simp;rfl
    grind
   .cases bf;all_goals
     refine aW [(27,af),(35,ab),(39,af)] rfl ?_ (AK.oe ⟨t,_,xs,k1+1,f,by omega,by omega,by omega⟩ (AK.cX [0,1] rfl ?_ rfl rfl rfl ?_))
     .simp[y,d]<;>omega
     .simp
     grind
  .refine aW [(27,af),(35,af)] rfl (by simp[F,d]) (AK.oe ⟨t,bf,xs,k1+1,f,by omega,by omega,by omega⟩ (AK.cX [0,1] rfl ?_ rfl rfl rfl ?_))
   .simp
   grind
def Oc(m:Nat)(b:Nat->Int)(c:Bytes b)(k:Nat)(hk:k<=50000)(a:m<=1048576):
  ek (ι:=Ep k 400) X 20 [.e (.one (.ptr 0 0))] [lF m b k] (λq=>cF.sl q.t) (λq=>[lF m b q.k1]) :=
 ek.CU (σ1:=λq:Ep k 400=>[lF m b q.k1]) (k:=2) (n:=λq:Ep k 400=>q.t.length) (es:=λq:Ep k 400=>cF.fn q.t) (HU m b c k hk a) (λq=>q.fl) (λ_=>rfl) (λ_=>bh _)
end
section
open Go.Proofs Go.Extern
abbrev sJ:av:=66
abbrev lV:av:=64
abbrev QS:av:=184
abbrev hT(t:av):ai:=.pointer (aa ⟨6,t,ae⟩)
abbrev rT(t:av):ai:=.iface QS (.agg #[hT t])
abbrev vV(t:av)(g:Nat)(fl:Int):ai:=.agg #[hT t,.pointer (aa ⟨g,0,ae⟩),.int .u64 fl]
def EF:ly ag 77 λargs=>ReflectliteValue.unpack (args.getD 0 (.tuple #[])):=⟨_,Tryz.func77,by kernel_rfl,by kernel_rfl,by kernel_rfl,by kernel_rfl⟩
def GH(p:Addr)(w:ay):(ReflectliteValue.unpack (.iface sJ (.pointer (aa p)))).run ag w=.ok (vV sJ w.heap.size 150) (w.alloc (.cells #[.pointer (aa p)] sJ)):=by kernel_rfl
def GI(p:Addr)(w:ay)(es:Array Event):(ReflectliteValue.unpack (.iface sJ (.pointer (aa p)))).events ag w es=es:=by kernel_rfl
def GJ(p:Addr)(w:ay):(ReflectliteValue.unpack (.iface lV (.pointer (aa p)))).run ag w=.ok (vV lV w.heap.size 150) (w.alloc (.cells #[.pointer (aa p)] lV)):=by kernel_rfl
def GK(p:Addr)(w:ay)(es:Array Event):(ReflectliteValue.unpack (.iface lV (.pointer (aa p)))).events ag w es=es:=by kernel_rfl
def XA:ly ag 78 (ReflectliteValue.methodAny (ReflectliteValue.valueError "reflectlite.Value.Type" 0) λt _ _ _=>ReflectliteType.toType t):=⟨_,Tryz.func78,by kernel_rfl,by kernel_rfl,by kernel_rfl,by kernel_rfl⟩
def XB(g:Nat)(w:ay):(ReflectliteValue.methodAny (ReflectliteValue.valueError "reflectlite.Value.Type" 0) (λt _ _ _=>ReflectliteType.toType t) #[vV sJ g 150]).run ag w=.ok (rT sJ) w:=by kernel_rfl
def XC(g:Nat)(w:ay)(es:Array Event):(ReflectliteValue.methodAny (ReflectliteValue.valueError "reflectlite.Value.Type" 0) (λt _ _ _=>ReflectliteType.toType t) #[vV sJ g 150]).events ag w es=es:=by kernel_rfl
def Sf(h:ai)(w:ay):(Go.method (Tryz.prog.types.size+Made.depth) QS (.agg #[h]) "Kind").run ag w=.ok (259,h) w/\∀es,(Go.method (Tryz.prog.types.size+Made.depth) QS (.agg #[h]) "Kind").events ag w es=es:=⟨by kernel_rfl,λes=>by kernel_rfl⟩
def Sg:ly ag 259 (ReflectliteType.abiMethod λt=>do pure (.int .u8 (<-Rtype.kind t))):=⟨_,Tryz.func259,by kernel_rfl,by kernel_rfl,by kernel_rfl,by kernel_rfl⟩
def QT(w:ay):((ReflectliteType.abiMethod λt=>do pure (.int .u8 (<-Rtype.kind t))) #[hT sJ]).run ag w=.ok (.int .u8 22) w:=by kernel_rfl
def QU(w:ay)(es:Array Event):((ReflectliteType.abiMethod λt=>do pure (.int .u8 (<-Rtype.kind t))) #[hT sJ]).events ag w es=es:=by kernel_rfl
def QV(w:ay):((ReflectliteType.abiMethod λt=>do pure (.int .u8 (<-Rtype.kind t))) #[hT lV]).run ag w=.ok (.int .u8 22) w:=by kernel_rfl
def QW(w:ay)(es:Array Event):((ReflectliteType.abiMethod λt=>do pure (.int .u8 (<-Rtype.kind t))) #[hT lV]).events ag w es=es:=by kernel_rfl
def UI:ly ag 79 (ReflectliteValue.method (ReflectliteValue.valueError "reflectlite.Value.IsNil" 0) ReflectliteValue.isNil):=⟨_,Tryz.func79,by kernel_rfl,by kernel_rfl,by kernel_rfl,by kernel_rfl⟩
def rlm(z:Sem ai)(f:av->Addr->Nat->Nat->Sem ai)(v:ai):ReflectliteValue.method z f #[v]=(do match<-ReflectliteValue.parts v with|none=>z|some (t,a,fl)=>f t a fl (fl % 32)):=rfl
def vb(g:Nat)(w:ay):(ReflectliteValue.parts (vV sJ g 150)).run ag w=.ok (aa (sJ,⟨g,0,ae⟩,150)) w/\∀es,(ReflectliteValue.parts (vV sJ g 150)).events ag w es=es:=⟨by kernel_rfl,λes=>by kernel_rfl⟩
def UJ(g:Nat)(p:Addr)(w:ay)(d:w.cell? ⟨g,0,ae⟩=aa (.pointer (aa p))):(ReflectliteValue.method (ReflectliteValue.valueError "reflectlite.Value.IsNil" 0) ReflectliteValue.isNil #[vV sJ g 150]).run ag w=.ok (.bool af) w /\
  ∀es,∀b∈(ReflectliteValue.method (ReflectliteValue.valueError "reflectlite.Value.IsNil" 0) ReflectliteValue.isNil #[vV sJ g 150]).events ag w es,b∈es∨b=⟨.cell ⟨g,0,ae⟩,af,af⟩:=by
 have c:=Tryz.underlying66;rw[rlm];constructor
 .simp only[bT,(vb g w).1,cu];simp[ReflectliteValue.isNil,loadVar,isAgg,underlying,c,d]
 .intro es b a;simp only[aR,bT,(vb g w).1,(vb g w).2,cu,aV]at a;simpa[ReflectliteValue.isNil,loadVar,isAgg,underlying,c,d,show(Mode.plain==Mode.atomic)=af from rfl]using a
def XD(h:ai)(w:ay):(Go.method (Tryz.prog.types.size+Made.depth) QS (.agg #[h]) "Elem").run ag w=.ok (275,.agg #[h]) w/\∀es,(Go.method (Tryz.prog.types.size+Made.depth) QS (.agg #[h]) "Elem").events ag w es=es:=⟨by kernel_rfl,λes=>by kernel_rfl⟩
def UK:ly ag 275 (ReflectliteType.method ReflectliteType.elem):=⟨_,Tryz.func275,by kernel_rfl,by kernel_rfl,by kernel_rfl,by kernel_rfl⟩
def UL(w:ay):(ReflectliteType.method ReflectliteType.elem #[.agg #[hT sJ]]).run ag w=.ok (rT lV) w:=by kernel_rfl
def UM(w:ay)(es:Array Event):(ReflectliteType.method ReflectliteType.elem #[.agg #[hT sJ]]).events ag w es=es:=by kernel_rfl
def XE(h:ai)(w:ay):(Go.method (Tryz.prog.types.size+Made.depth) QS (.agg #[h]) "Implements").run ag w=.ok (276,.agg #[h]) w/\∀es,(Go.method (Tryz.prog.types.size+Made.depth) QS (.agg #[h]) "Implements").events ag w es=es:=⟨by kernel_rfl,λes=>by kernel_rfl⟩
def XF:ly ag 276 (ReflectliteType.relation "Implements" ReflectliteType.implements_):=⟨_,Tryz.func276,by kernel_rfl,by kernel_rfl,by kernel_rfl,by kernel_rfl⟩
def XG(w:ay):(ReflectliteType.relation "Implements" ReflectliteType.implements_ #[.agg #[hT lV],rT 61]).run ag w=.ok (.bool ab) w:=by kernel_rfl
def XH(w:ay)(es:Array Event):(ReflectliteType.relation "Implements" ReflectliteType.implements_ #[.agg #[hT lV],rT 61]).events ag w es=es:=by kernel_rfl
def aaH(h:ai)(w:ay):(Go.method (Tryz.prog.types.size+Made.depth) QS (.agg #[h]) "AssignableTo").run ag w=.ok (273,.agg #[h]) w/\∀es,(Go.method (Tryz.prog.types.size+Made.depth) QS (.agg #[h]) "AssignableTo").events ag w es=es:=⟨by kernel_rfl,λes=>by kernel_rfl⟩
def aaI:ly ag 273 (ReflectliteType.relation "AssignableTo" ReflectliteType.assignableTo):=⟨_,Tryz.func273,by kernel_rfl,by kernel_rfl,by kernel_rfl,by kernel_rfl⟩
def aaJ(w:ay):(ReflectliteType.relation "AssignableTo" ReflectliteType.assignableTo #[.agg #[hT lV],rT lV]).run ag w=.ok (.bool ab) w:=by kernel_rfl
def aaK(w:ay)(es:Array Event):(ReflectliteType.relation "AssignableTo" ReflectliteType.assignableTo #[.agg #[hT lV],rT lV]).events ag w es=es:=by kernel_rfl
def QX:ly ag 129 ReflectliteType.typeOf:=⟨_,Tryz.func129,by kernel_rfl,by kernel_rfl,by kernel_rfl,by kernel_rfl⟩
def QY(v:ai)(w:ay):(ReflectliteType.typeOf #[.iface lV v]).run ag w=.ok (rT lV) w:=by kernel_rfl
def QZ(v:ai)(w:ay)(es:Array Event):(ReflectliteType.typeOf #[.iface lV v]).events ag w es=es:=by kernel_rfl
def UN:ly ag 130 (ReflectliteValue.method (ReflectliteValue.valueError "reflectlite.Value.Elem" 0) ReflectliteValue.elem):=⟨_,Tryz.func130,by kernel_rfl,by kernel_rfl,by kernel_rfl,by kernel_rfl⟩
def Il(w:ay):(Rtype.elem? sJ).run ag w=.ok (aa lV) w/\∀es,(Rtype.elem? sJ).events ag w es=es:=⟨by kernel_rfl,λes=>by kernel_rfl⟩
def rMk(p:Addr)(w:ay):(ReflectliteValue.mk lV p ReflectliteValue.flagAddr).run ag w=.ok (.agg #[hT lV,.pointer (aa p),.int .u64 406]) w/\∀es,(ReflectliteValue.mk lV p ReflectliteValue.flagAddr).events ag w es=es:=⟨by kernel_rfl,λes=>by kernel_rfl⟩
def UO(g:Nat)(p:Addr)(w:ay)(d:w.cell? ⟨g,0,ae⟩=aa (.pointer (aa p))):(ReflectliteValue.method (ReflectliteValue.valueError "reflectlite.Value.Elem" 0) ReflectliteValue.elem #[vV sJ g 150]).run ag w=.ok (.agg #[hT lV,.pointer (aa p),.int .u64 406]) w /\
  ∀es,∀b∈(ReflectliteValue.method (ReflectliteValue.valueError "reflectlite.Value.Elem" 0) ReflectliteValue.elem #[vV sJ g 150]).events ag w es,b∈es∨b=⟨.cell ⟨g,0,ae⟩,af,af⟩:=by
 have c:=Tryz.underlying66;rw[rlm];constructor
 .simp only[bT,(vb g w).1,cu];simp[ReflectliteValue.elem,loadVar,isAgg,underlying,c,d,Il,rMk]
 .intro es b a;simp only[aR,bT,(vb g w).1,(vb g w).2,cu,aV]at a;simpa[ReflectliteValue.elem,loadVar,isAgg,underlying,c,d,Il,rMk,show(Mode.plain==Mode.atomic)=af from rfl]using a
def aaL:ly ag 131 ReflectliteValue.set:=⟨_,Tryz.func131,by kernel_rfl,by kernel_rfl,by kernel_rfl,by kernel_rfl⟩
def rls(v x:ai):ReflectliteValue.set #[v,x]=(do
  let (aa (c,a,fl),aa (d,b,_)):=(<-ReflectliteValue.parts v,<-ReflectliteValue.parts x)
   |unsupported (.noEntry "extern/(internal/reflectlite.Value).Set.zeroValue")
  if fl / ReflectliteValue.flagAddr % 2==0 then unsupported (.noEntry "extern/(internal/reflectlite.Value).Set.unaddressable")
  let val<-loadVar d b
  if<-Rtype.directlyAssignable c d then storeVar c a val
  else if<-Rtype.implements c d then
   if(<-Rtype.kind d)==20 then
    match val with
    |.nilIface=>unsupported (.noEntry "extern/reflectlite: a nil value of one interface type handed on as a value of another")
    |_=>storeVar c a val
   else storeVar c a (.iface d val)
  else panicString ("reflectlite.Set: value of type "++(<-Rtype.spelt d)++ " is not assignable to type "++(<-Rtype.spelt c))
  pure (.tuple #[])):=rfl
def Cm(p:Addr)(w:ay):(ReflectliteValue.parts (.agg #[hT lV,.pointer (aa p),.int .u64 406])).run ag w=.ok (aa (lV,p,406)) w/\∀es,(ReflectliteValue.parts (.agg #[hT lV,.pointer (aa p),.int .u64 406])).events ag w es=es:=⟨by kernel_rfl,λes=>by kernel_rfl⟩
def Cn(g:Nat)(w:ay):(ReflectliteValue.parts (vV lV g 150)).run ag w=.ok (aa (lV,⟨g,0,ae⟩,150)) w/\∀es,(ReflectliteValue.parts (vV lV g 150)).events ag w es=es:=⟨by kernel_rfl,λes=>by kernel_rfl⟩
def Im(w:ay):(Rtype.directlyAssignable lV lV).run ag w=.ok ab w/\∀es,(Rtype.directlyAssignable lV lV).events ag w es=es:=⟨by kernel_rfl,λes=>by kernel_rfl⟩
def Si(w:ay):(sizeOf lV).run ag w=.ok 1 w/\∀es,(sizeOf lV).events ag w es=es:=⟨by kernel_rfl,λes=>by kernel_rfl⟩
def aaM(g b:Nat)(E:av)(w0:ai)(e:Addr)(w:ay)(o:w.heap[g]?=aa (.cells #[w0] E (0,0)))(n:w.cell? ⟨b,0,ae⟩=aa (.pointer (aa e))):
  (ReflectliteValue.set #[.agg #[hT lV,.pointer (aa ⟨g,0,ae⟩),.int .u64 406],vV lV b 150]).run ag w=.ok (.tuple #[]) (w.setRow g #[.pointer (aa e)]) /\
  ∀es,∀c∈(ReflectliteValue.set #[.agg #[hT lV,.pointer (aa ⟨g,0,ae⟩),.int .u64 406],vV lV b 150]).events ag w es,c∈es∨c=⟨.cell ⟨b,0,ae⟩,af,af⟩∨c=⟨.cell ⟨g,0,ae⟩,ab,af⟩:=by
 have m:=Tryz.underlying64;have i:∀w∈[Value.pointer (aa e)],w.oneCell'=ab:=λw l=>by simp at l;subst l;rfl
 have k:=run_storeCells_at ag g 0 E [.pointer (aa e)] 0 #[w0] w o (by simp) i;have a:(storeCells ⟨g,0,ae⟩ [.pointer (aa e)] 0).run ag w=.ok () (w.setRow g #[.pointer (aa e)]):=k;rw[rls];constructor
 .simp only[bT,(Cm ⟨g,0,ae⟩ w).1,(Cn b w).1,cu];simp[ReflectliteValue.flagAddr,loadVar,isAgg,underlying,m,n,Im,storeVar,Value.cells,Si,a]
 .intro es c d;simp only[aR,bT,(Cm ⟨g,0,ae⟩ w).1,(Cm ⟨g,0,ae⟩ w).2,(Cn b w).1,(Cn b w).2,cu,aV]at d;have f:c∈(storeCells ⟨g,0,ae⟩ [.pointer (aa e)] 0).events ag w (es.push ⟨.cell ⟨b,0,ae⟩,af,af⟩):=by simpa[ReflectliteValue.flagAddr,loadVar,isAgg,underlying,m,n,Im,storeVar,Value.cells,Si,a,show(Mode.plain==Mode.atomic)=af from rfl]using d
  rcases dT [.pointer (aa e)] 0 #[w0] w _ o (by simp) i c f with h|⟨j,q,p,rfl⟩
  .grind
  .obtain rfl:j=0:=by grind
   exact .inr (.inr rfl)
end
section
open Go.Proofs Go.Extern
variable {X:Cx ag}
abbrev GBE:bg:=.cj (dZ 0 130 (rT 61))
abbrev OC(v:ai):D:=.e (.one (.c (.val v)))
abbrev Q0(t:av)(g:Nat)(fl:Int):D:=.e (.agg [.c (.val (hT t)),.c (.val (.pointer (aa ⟨g,0,ae⟩))),.c (.val (.int .u64 fl))])
abbrev asB(p:Addr)(g a:Nat):List bg:=[.cj (dZ a sJ (.pointer (aa ⟨g,0,ae⟩))),.cj (dZ g lV (.pointer ae))]
def Sj:∀j,j<2->([0,1]:List Nat)[j]?=aa j:=by decide
def NT(p:Addr)(g a:Nat):Ev X 80 [OC (.iface lV (.pointer (aa p))),OC (.iface sJ (.pointer (aa ⟨g,0,ae⟩))),Q0 sJ a 150,OC (rT lV)] (asB p g a) (dB ab) [.cj (dZ a sJ (.pointer (aa ⟨g,0,ae⟩))),.cj (dZ g lV (.pointer (aa p)))]:=by
 refine Ev.bQ Tryz.func80 rfl λh=>?_;refine bu rfl ak ?_;refine AK.tv 3 [0,1,3,6] (λ_:Unit=>True) (λ_=>[]) (λ_=>asB p g a++[.cells 127 [.c (.val (hT sJ)),.c (.val (.pointer (aa ⟨a,0,ae⟩))),.c (.val (.int .u64 150))]]) (λ_=>0) () rfl ?_ rfl ?_ rfl ak λ_ _=>?_
 .simp
 .simp
 refine bu rfl ak ?_;refine AK.pr rfl rfl (eg.Fl (gA.direct rfl rfl) QX (QY _) (QZ _) (x:=OC (rT lV)) λ_=>Rd.val rfl) λ_=>?_;refine bu rfl ak ?_;refine AK.pr rfl rfl (eg.Fl (gA.invoke rfl rfl rfl (aaH _)) aaI aaJ aaK (x:=dB ab) λ_=>Rd.bool) λ_=>?_;refine aW [(19,ab)] rfl (by simp) ?_;refine AK.pr rfl rfl (eg.Ro 0 (u:=.pointer (aa ⟨g,0,ae⟩)) rfl (gA.direct rfl rfl) UN (λw e=>UO a ⟨g,0,ae⟩ w e) (x:=Q0 lV g 406) λ_=>⟨_,rfl,Rd.val rfl,Rd.val rfl,Rd.val rfl,ak⟩) λ_=>?_;refine bu rfl ak ?_;refine AK.pr rfl rfl (eg.KS (E:=lV) (u:=.pointer (aa p)) (v:=λb=>vV lV b 150) (x:=λb=>Q0 lV b 150) (gA.direct rfl rfl) EF (GJ p) (GK p) λb _ _=>⟨_,rfl,Rd.val rfl,Rd.val rfl,Rd.val rfl,ak⟩) λb=>?_;refine bu rfl ak ?_;refine AK.pr rfl rfl (eg.SZ 1 3 (w0:=.pointer ae) (u:=.pointer (aa p)) rfl rfl (gA.direct rfl rfl) aaL (λw f d=>aaM g b lV _ p w f d) (x:=.fD []) λ_ _=>⟨[],rfl,ak⟩) λ_=>?_;refine bu rfl ak (AK.fR (cz.mk [0,1] rfl ?_ rfl rfl rfl Sj));simp
def Io{T:av}(h:o.op=.binOp op t x y ty){c:Bool}{r:Array (String×av)}(m:P.underlying t=aa (.interface r))(q:η x=.e (.one (.c (.val (.iface T v)))))(u:η y=.e (.one (.c .jk)))(b:∀w,(eqGuard op t x y (.iface T v) .nilIface).run P w=.ok () w)(g:∀w es,(eqGuard op t x y (.iface T v) .nilIface).events P w es=es)(l:jv op af=aa c):bL P o η σ (.e (.one (.c (.bool c)))) σ:=by
 refine .quiet λs p z n=>?_;have i:=n x;have f:=n y;rw[q]at i;rw[u]at f;replace i:=fe i;replace f:=fe f;generalize a:p x=vx at i;generalize d:p y=vy at f;cases i;cases f;have k:(Op.equal t (.iface T v) .nilIface).run P s.w=.ok af s.w:=by show(aZ (9999+1) t _ _).run P s.w=_;unfold aZ;simp[underlying,m]
 have j:∀es,(Op.equal t (.iface T v) .nilIface).events P s.w es=es:=λes=>by show(aZ (9999+1) t _ _).events P s.w es=es;unfold aZ;simp[underlying,m]
 cases op<;>simp only[jv,reduceCtorEq,dn]at l
 .subst l;exact⟨.bool af,by simp[aq,h,a,d,b,binOp,k],Rd.bool,by simp[aq,h,a,d,b,g,binOp,k,j]⟩
 .subst l;exact⟨.bool ab,by simp[aq,h,a,d,b,binOp,k],Rd.bool,by simp[aq,h,a,d,b,g,binOp,k,j]⟩
def NU(p:Addr)(g:Nat):Ev X 27 [OC (.iface lV (.pointer (aa p))),OC (.iface sJ (.pointer (aa ⟨g,0,ae⟩)))] [GBE,.cj (dZ g lV (.pointer ae))] (dB ab) [GBE,.cj (dZ g lV (.pointer (aa p)))]:=by refine Ev.bQ Tryz.func27 rfl λf=>?_;refine bu rfl ak ?_;refine AK.law (Io rfl Tryz.underlying61 rfl rfl (λ_=>rfl) (λ_ _=>rfl) rfl) rfl rfl ?_;refine aW [(9,af)] rfl (by simp) ?_;refine AK.law (Io rfl Tryz.underlying20 rfl rfl (λ_=>rfl) (λ_ _=>rfl) rfl) rfl rfl ?_;refine aW [(11,af)] rfl (by simp) ?_;refine AK.pr rfl rfl (eg.KS (E:=sJ) (u:=.pointer (aa ⟨g,0,ae⟩)) (v:=λa=>vV sJ a 150) (x:=λa=>Q0 sJ a 150) (gA.direct rfl rfl) EF (GH _) (GI _) λa _ _=>⟨_,rfl,Rd.val rfl,Rd.val rfl,Rd.val rfl,ak⟩) λb=>?_;refine bu rfl ak ?_;refine AK.pr rfl rfl (eg.Fl (gA.direct rfl rfl) XA (XB b) (XC b) (x:=OC (rT sJ)) λ_=>Rd.val rfl) λ_=>?_;refine bu rfl ak ?_;refine AK.pr rfl rfl (eg.Fl (gA.invoke rfl rfl rfl (Sf _)) Sg QT QU (x:=.e (.one (.c (.int .u8 22)))) λ_=>Rd.int (by simp[bE])) λ_=>?_;refine aW [(20,af)] rfl (by simp) ?_;refine AK.pr rfl rfl (eg.Ro 2 (u:=.pointer (aa ⟨g,0,ae⟩)) rfl (gA.direct rfl rfl) UI (λw d=>UJ b ⟨g,0,ae⟩ w d) (x:=dB af) λ_=>Rd.bool) λ_=>?_;refine aW [(23,af)] rfl (by simp) ?_;refine AK.pr rfl rfl (eg.Fl (gA.invoke rfl rfl rfl (XD _)) UK UL UM (x:=OC (rT lV)) λ_=>Rd.val rfl) λ_=>?_;refine bu rfl ak ?_;refine AK.pr rfl rfl (eg.Fl (gA.invoke rfl rfl rfl (Sf _)) Sg QV QW (x:=.e (.one (.c (.int .u8 22)))) λ_=>Rd.int (by simp[bE])) λ_=>?_;refine aW [(30,ab)] rfl (by simp) ?_;refine AK.one (OA.K8 tok 0 rfl rfl rfl rfl rfl rfl) rfl ?_;refine AK.pr rfl rfl (eg.Fl (gA.invoke rfl rfl rfl (XE _)) XF XG XH (x:=dB ab) λ_=>Rd.bool) λ_=>?_;refine aW [(35,af)] rfl (by simp) ?_;refine AK.cQ (NT p g b) [2,1] rfl ?_;refine bu rfl ak (AK.cX [0,1] rfl ?_ rfl rfl rfl Sj);simp
end
end R1
abbrev Qz(a b:Bs)(c:Bool):D:=.fD [.one (.c (.str a)),.one (.c (.str b)),.one (.c (.bool c))]
namespace R1
variable {X:Cx ag}
def zq(s:Bs)(c:Int)(h:0<=c/\c<=255):Ev X 221 [dS s,dU c] [] (dI (Lib.indexByte s (UInt8.ofNat (Int.toNat c)))) []:=by
 have e:c=((UInt8.ofNat c.toNat).toNat:Int):=by grind[UInt8.toNat_ofNat']
 grind[Cb]
def Uq:dJ:=λargs σ=>match args,σ with
 |[.e (.one (.c (.str a))),.e (.one (.c (.int .u8 b)))],[]=>aa (dI (Lib.indexByte a (UInt8.ofNat (Int.toNat b))),[],[0<=b/\b<=255])
 |_,_=>ae
def t221:eh X 221 Uq:=by
 intro args σ res σ' obs h a;unfold Uq at h;split at h
 .cases h;exact(zq _ _ (a)).args (λ_ _ r=>r)
 .cases h
def Xh:List (Nat×dJ):=(221,Uq)::ct7
def Ng:bH X Xh:=bH.cons t221 (aav)
def iZ(s:Bs):Int:=Lib.indexByte s 47
theorem Nh(s:Bs):Ev X 200 [dS s,dS [47]] [] (dI (iZ s)) []:=by
 refine Ev.bQ Tryz.func200 rfl λa=>?_;by_cases h:s=[47]
 .subst h;refine aU Ng [(18,af),(22,ab)] rfl ?_ (AK.bC rfl ?_)
  .simp
  .simp[iZ,Lib.indexByte.eq_def]
 .refine aU Ng [(18,af),(22,af),(26,ab)] rfl ?_ (AK.bC rfl ?_)
  .simp[cY,cU];grind
  .simp[iZ,jl]
def Ur:dJ:=λargs σ=>match args,σ with
 |[.e (.one (.c (.str a))),.e (.one (.c (.str [47])))],[]=>aa (dI (iZ a),[],[])
 |_,_=>ae
def t200:eh X 200 Ur:=by intro args σ res σ' obs h a;unfold Ur at h;grind[Nh]
def Xi:List (Nat×dJ):=(200,Ur)::Xh
def Ni:bH X Xi:=bH.cons t200 (Ng)
def jW(s:Bs):Bs:=if 0<=iZ s then s.take (iZ s).toNat else s
def nn(s:Bs):Bs:=if 0<=iZ s then s.drop ((iZ s).toNat+1)else[]
def kJ(s:Bs):Bool:=decide (0<=iZ s)
theorem Nj(s:Bs):Ev X 155 [dS s,dS [47]] [] (Qz (jW s) (nn s) (kJ s)) []:=by
 refine Ev.bQ Tryz.func155 rfl λb=>?_;have d:=b.str 0 rfl;have a:=me s 47;change iZ s<s.length∨iZ s=-1 at a;by_cases h:0<=iZ s
 .have c:(iZ s+1).toNat=(iZ s).toNat+1:=by omega
  refine aU Ni [(12,ab)] rfl ?_ (AK.bC rfl ?_)
  .simp[h,bE];omega
  .simp[jW,nn,kJ,h,tk,c]
 .refine aU Ni [(12,af)] rfl ?_ (AK.bC rfl ?_)
  .simp;omega
  .simp[jW,nn,kJ,h]
def Us:dJ:=λargs σ=>match args,σ with
 |[.e (.one (.c (.str a))),.e (.one (.c (.str [47])))],[]=>aa (Qz (jW a) (nn a) (kJ a),[],[])
 |_,_=>ae
def t155:eh X 155 Us:=by intro args σ res σ' obs h a;unfold Us at h;grind[Nj]
def Xj:List (Nat×dJ):=(155,Us)::Xi
def R8:bH X Xj:=bH.cons t155 (Ni)
theorem Ut(s:Bs):Ev X 118 [dS s,dS [47]] [] (Qz (jW s) (nn s) (kJ s)) []:=by refine Ev.bQ Tryz.func118 rfl λa=>?_;exact ck R8 rfl ak (AK.bC rfl)
def Uu:dJ:=λargs σ=>match args,σ with
 |[.e (.one (.c (.str a))),.e (.one (.c (.str [47])))],[]=>aa (Qz (jW a) (nn a) (kJ a),[],[])
 |_,_=>ae
def t118:eh X 118 Uu:=by intro args σ res σ' obs h a;unfold Uu at h;grind[Ut]
def cK(s:Bs):Bool:=decide (s.length=1)&&decide (97<=cU s 0)&&decide (cU s 0<=101)
theorem vX(s:Bs):Ev X 119 [dS s] [] (dB (cK s)) []:=by
 refine Ev.bQ Tryz.func119 rfl λc=>?_;by_cases b:s.length=1
 .by_cases a:97<=cU s 0
  .refine aW [(5,ab),(9,ab)] rfl ?_ (AK.bC rfl ?_)
   .simp only[au,a9];grind[cY]
   .show decide (cU s 0<=101)=cK s;simp[cK,b,a]
  .refine aW [(5,ab),(9,af)] rfl ?_ (AK.bC rfl ?_)
   .simp only[au,bR];grind[cY]
   .simp[cK,a]
 .refine aW [(5,af)] rfl ?_ (AK.bC rfl ?_)
  .simp;omega
  .simp[cK,b]
def Uv:dJ:=λargs σ=>match args,σ with
 |[.e (.one (.c (.str a)))],[]=>aa (dB (cK a),[],[])
 |_,_=>ae
def t119:eh X 119 Uv:=by intro args σ res σ' obs h a;unfold Uv at h;grind[vX]
def Xk:List (Nat×dJ):=(118,Uu)::(119,Uv)::Xj
def Ib:bH X Xk:=bH.cons t118 (bH.cons t119 (R8))
def ft(s:Bs):Bool:=cK (jW s)&&(!kJ s||cK (nn s))
theorem Gy(s:Bs):Ev X 67 [dS s] [] (dB (ft s)) []:=by
 refine Ev.bQ Tryz.func67 rfl λc=>?_;cases a:cK (jW s)with
 |false =>
  refine aU Ib [(13,af)] rfl ?_ (AK.bC rfl ?_)
  .simp[a]
  .simp[ft,a]
 |true =>
  cases b:kJ s with
  |false =>
   refine aU Ib [(13,ab),(15,af)] rfl ?_ (AK.bC rfl ?_)
   .simp[a,b]
   .simp[ft,a,b]
  |true =>
   refine aU Ib [(13,ab),(15,ab)] rfl ?_ (AK.bC rfl ?_)
   .simp[a,b]
   .simp[ft,a,b]
def c67:dJ:=λargs σ=>match args,σ with
 |[.e (.one (.c (.str a)))],[]=>aa (dB (ft a),[],[])
 |_,_=>ae
def t67:eh X 67 c67:=by intro args σ res σ' obs h a;unfold c67 at h;grind[Gy]
theorem Eu(s:Bs):Ev X 120 [dS s] [] (dB (cf s)) []:=by
 refine Ev.bQ Tryz.func120 rfl λe=>?_;have g:=e.str 0 rfl;refine bu rfl ak ?_;refine AK.kq (λi=>i<=s.length/\∀j,j<i->e9 (s.getD j 0)=ab) (λi:Nat=>[(0,dS s),(5,dI s.length),(6,dI i)]) (λ_=>[]) (λi=>s.length-i) 0 rfl ?_ rfl ak ⟨by omega,by omega⟩ ?_
 .simp
 rintro i ⟨hi,c⟩;by_cases h:i<s.length
 .generalize a:s.getD i 0=b;by_cases k:b.toNat<97
  .refine aW [(7,ab),(12,ab)] rfl ?_ (AK.iC (cz.zero rfl ?_))
   .simp only[au,k6,a9,a];omega
   .rw[au,lg h (by rw[a];simp only[e9,qx,bR];omega)]
  .by_cases f:b.toNat>122
   .refine aW [(7,ab),(12,af),(17,ab)] rfl ?_ (AK.iC (cz.zero rfl ?_))
    .simp only[au,k6,a9,bR,a];omega
    .rw[au,lg h (by rw[a];simp only[e9,qx,bR];omega)]
   .refine aW [(7,ab),(12,af),(17,af)] rfl ?_ (AK.gg (i+1) rfl ?_ rfl ak ?_ ?_)
    .simp only[au,k6,a9,bR,a,bE];omega
    .simp
    .refine⟨by omega,λj d=>?_⟩;rcases wa.1 d with d|rfl
     .grind
     .rw[a];simp only[e9,bM,a9];omega
    .omega
 .refine aW [(7,af)] rfl (by simp;omega) (AK.leave rfl rfl ?_);refine bu rfl ak (AK.bC rfl ?_);rw[au,tS (λj d=>c j (by omega))]
def Uw:dJ:=λargs σ=>match args,σ with
 |[.e (.one (.c (.str a)))],[]=>aa (dB (cf a),[],[])
 |_,_=>ae
def t120:eh X 120 Uw:=by intro args σ res σ' obs h a;unfold Uw at h;grind[Eu]
def Xl:List (Nat×dJ):=(67,c67)::(120,Uw)::Xk
def Nk:bH X Xl:=bH.cons t67 (bH.cons t120 (Ib))
theorem yd(s:Bs):Ev X 68 [dS s] [] (dB (ez s)) []:=by
 refine Ev.bQ Tryz.func68 rfl λb=>?_;by_cases a:s.length<=40
 .refine aU Nk [(5,ab)] rfl ?_ (AK.bC rfl ?_)
  .simp;omega
  .simp[ez,a]
 .refine aU Nk [(5,af)] rfl ?_ (AK.bC rfl ?_)
  .simp;omega
  .simp[ez,a]
def c68:dJ:=λargs σ=>match args,σ with
 |[.e (.one (.c (.str a)))],[]=>aa (dB (ez a),[],[])
 |_,_=>ae
def t68:eh X 68 c68:=by intro args σ res σ' obs h a;unfold c68 at h;grind[yd]
def lR(s p:Bs):Bool:=decide (p.length<=s.length)&&(s.take p.length==p)
theorem Ew(s p:Bs):Ev X 122 [dS s,dS p] [] (dB (lR s p)) []:=by
 refine Ev.bQ Tryz.func122 rfl λb=>?_;by_cases a:p.length<=s.length
 .refine aW [(9,ab)] rfl ?_ (AK.bC rfl ?_)
  .simp[a]
  .simp[lR,a,tk]
 .refine aW [(9,af)] rfl ?_ (AK.bC rfl ?_)
  .simp;omega
  .simp[lR,a]
def Ux:dJ:=λargs σ=>match args,σ with
 |[.e (.one (.c (.str a))),.e (.one (.c (.str b)))],[]=>aa (dB (lR a b),[],[])
 |_,_=>ae
def t122:eh X 122 Ux:=by intro args σ res σ' obs h a;unfold Ux at h;grind[Ew]
def Xm:List (Nat×dJ):=(68,c68)::(122,Ux)::Xl
def R9:bH X Xm:=bH.cons t68 (bH.cons t122 (Nk))
theorem JE(s p:Bs):Ev X 71 [dS s,dS p] [] (dB (lR s p)) []:=by refine Ev.bQ Tryz.func71 rfl λa=>?_;exact ck R9 rfl ak (AK.bC rfl)
def c71:dJ:=λargs σ=>match args,σ with
 |[.e (.one (.c (.str a))),.e (.one (.c (.str b)))],[]=>aa (dB (lR a b),[],[])
 |_,_=>ae
def t71:eh X 71 c71:=by intro args σ res σ' obs h a;unfold c71 at h;grind[JE]
def Xn:List (Nat×dJ):=(71,c71)::Xm
def Sa:bH X Xn:=bH.cons t71 (R9)
end R1
def mS.Nl(c:mS α)(l:List α)(k n:Nat)(h:k+n<=l.length):c.list n (my k (c.fn l))=(l.drop k).take n:=by
 apply sR
 .simp[mS.list];omega
 .intro i h1 h2;have hi:i<n:=by grind
  simp[mS.list,my,mS.fn,BQ,aj,bn (by omega:k+i<l.length),c.inv]
def mS.Nm(c:mS α)(l:List α){k:Nat}:c.fits n (my k (c.fn l)):=λi _=>by simp[my,mS.fn,BQ,c.inv]
abbrev dR(p x:Bs):D:=.e (.one (.c (.rp [.str p,.str x])))
namespace R1
variable {X:Cx ag}
def under(p q:Bs):Bool:=lR p (q++[47])
def Nn(a:bw)(p x:Bs)(h:a.1.length<=4000000):Ev X 70 [dP a,dR p x] [] (dB (under p a.1)) []:=by
 refine Ev.bQ Tryz.func70 rfl λb=>?_;refine ck Sa rfl ?_ (AK.bC rfl ?_)
 .simp;omega
 .simp[under]
def c70:dJ:=λargs σ=>match args,σ with
 |[.e (.agg [.c (.str a0),.c (.str a1)]),.e (.one (.c (.rp [.str p,.str x])))],[]=>aa (dB (under p a0),[],[a0.length<=4000000/\a1=a1/\x=x])
 |_,_=>ae
def t70:eh X 70 c70:=by
 intro args σ res σ' obs h a;unfold c70 at h;split at h
 .rename_i c b p x;cases h;exact Nn (c,b) p x a.1
 grind
def Xo:List (Nat×dJ):=(70,c70)::Xn
def Am:bH X Xo:=bH.cons t70 (Sa)
abbrev No(p x:Bs):D:=.e (.one (.c (.fn (.func 70) [] [.rp [.str p,.str x]])))
def vY(t:List bw)(p:Bs):Int:=match t.findIdx? (λf=>under p f.1)with|some i=>i|none=>-1
def QA{t:List bw}{p:Bs}(hi:i<t.length)(h:under p (fG t i)=ab)(a:∀j,j<i->under p (fG t j)=af):vY t p=i:=by
 have:t.findIdx? (λf=>under p f.1)=aa i:=by grind[List.findIdx?_eq_some_iff_getElem,fileAt]
 rw[vY,this]
theorem An{t:List bw}{p:Bs}(a:∀j,j<t.length->under p (fG t j)=af):vY t p=-1:=by
 have:t.findIdx? (λf=>under p f.1)=ae:=by grind[List.getElem_of_mem,fileAt]
 rw[vY,this]
def QB(t:List bw)(p x:Bs)(f:∀j,j<t.length->(fG t j).length<=4000000):Ev X 121 [cF.sl t,No p x] [] (dI (vY t p)) []:=by
 refine Ev.bQ Tryz.func121 rfl λd=>?_;have c:=d.sl 0 rfl;refine ck Am rfl ak ?_;refine AK.kq (λi=>i<=t.length/\∀j,j<i->under p (fG t j)=af) (λi:Nat=>[(0,cF.sl t),(1,No p x),(7,dI t.length),(8,dI i)]) (λ_=>[]) (λi=>t.length-i) 0 rfl ?_ rfl ak ⟨by omega,by omega⟩ ?_
 .simp
 rintro i ⟨hi,a⟩;by_cases h:i<t.length
 .have e:=f i h;cases b:under p (fG t i)with
  |true =>
   refine aU Am [(9,ab),(16,ab)] rfl ?_ (AK.iC (cz.zero rfl ?_))
   .simp[-aj,h,g7,b];omega
   .simp[QA h b a]
  |false =>
   refine aU Am [(9,ab),(16,af)] rfl ?_ (AK.gg (i+1) rfl ?_ rfl ak ?_ ?_)
   .simp[-aj,h,g7,b,bE];omega
   .simp
   .grind
   .omega
 .refine aU Am [(9,af)] rfl (by simp;omega) (AK.leave rfl rfl ?_);refine ck Am rfl ak (AK.bC rfl ?_);simp[An (λj g=>a j (by omega))]
def Cc(t:List bw):Prop:=∀j,j<t.length->(fG t j).length<=4000000
def Uy:dJ:=λargs σ=>match args,σ with
 |[d,.e (.one (.c (.fn (.func 70) [] [.rp [.str p,.str x]])))],[]=>match kH 2 d with
  |none=>ae
  |some (n,es)=>aa (dI (vY (cF.list n es) p),[],[cF.fits n es,Cc (cF.list n es),x=x])
 |_,_=>ae
def t121:eh X 121 Uy:=by
 intro args σ res σ' obs h a;unfold Uy at h;split at h
 .rename_i d p x;split at h
  .cases h
  rename_i n es hd;cases h;exact(QB _ p x a.2.1).args (λ_ vs=>cp.imp (λ_=>cF.jS hd a.1) (cp.imp (λ_ r=>r) (λ_ r=>r)) vs)
 grind
def Xp:List (Nat×dJ):=(121,Uy)::Xo
def Sb:bH X Xp:=bH.cons t121 (Am)
def QC(t:List bw)(p x:Bs)(a:Cc t):Ev X 69 [cF.sl t,No p x] [] (dB (decide (0<=vY t p))) []:=by
 refine Ev.bQ Tryz.func69 rfl λb=>?_;refine ck Sb rfl ?_ (AK.bC rfl ?_)
 .simp[cF.aK,cF.list_fn,a]
 .simp[cF.list_fn]
def c69:dJ:=λargs σ=>match args,σ with
 |[d,.e (.one (.c (.fn (.func 70) [] [.rp [.str p,.str x]])))],[]=>match kH 2 d with
  |none=>ae
  |some (n,es)=>aa (dB (decide (0<=vY (cF.list n es) p)),[],[cF.fits n es,Cc (cF.list n es),x=x])
 |_,_=>ae
def t69:eh X 69 c69:=by
 intro args σ res σ' obs h a;unfold c69 at h;split at h
 .rename_i d p x;split at h
  .cases h
  rename_i n es hd;cases h;exact(QC _ p x a.2.1).args (λ_ vs=>cp.imp (λ_=>cF.jS hd a.1) (cp.imp (λ_ r=>r) (λ_ r=>r)) vs)
 grind
def aaB:List (Nat×dJ):=(69,c69)::Xp
def rP:bH X aaB:=bH.cons t69 (Sb)
def jE(t:List bw)(i:Nat):Bool :=
 ft (fG t i)&&ez (uc t i)&&(i==0||!(bq (fG t i) (fG t (i-1))||fG t i==fG t (i-1)))&&(bc i).all λj=>!under (fG t i) (fG t j)
def nq(t:List bw):Bool:=(bc t.length).all (jE t)&&decide (t.length<=6)
def lh{t:List bw}(hi:i<t.length)(h:jE t i=af):nq t=af:=by
 cases a:nq t with
 |false=>rfl
 |true =>
  simp only[nq,bM]at a;grind
theorem vv{s:Bs}(h:ft s=ab):s.length<=3:=by
 simp only[ft,cK,bM,j3,a9,j0]at h;obtain⟨⟨⟨d,_⟩,_⟩,a⟩:=h;have c:=me s 47;change iZ s<s.length∨iZ s=-1 at c;by_cases b:0<=iZ s
 .simp only[jW,b,b6,List.length_take]at d;rcases a with a|a
  .simp[kJ,b]at a
  .have:=a.1.1;simp only[nn,b,b6,sQ]at this;omega
 .simp only[jW,b,cg]at d;omega
def Gz{t:List bw}{p:Bs}(hi:i<=t.length):decide (0<=vY (t.take i) p)=!(bc i).all λj=>!under p (fG t j):=by
 have e:∀j,j<i->fG (t.take i) j=fG t j:=by intro j d;simp[fG,aj,d]
 cases h:(bc i).all λj=>!under p (fG t j)with
 |true =>
  grind[An]
 |false =>
  have a:∃j,j<i/\under p (fG t j)=ab:=by grind
  have:∃k:Nat,vY (t.take i) p=k:=by
   unfold vY;cases c:(t.take i).findIdx? (λf=>under p f.1)with
   |some k=>grind
   |none =>
    obtain⟨j,d,g⟩:=a;rw[AB]at c;have b:j<(t.take i).length:=by grind
    have:=c _ (oC b);grind[fileAt]
  grind
def ye(t:List bw):Ev X 25 [cF.sl t] [] (dB (nq t)) []:=by
 refine Ev.bQ Tryz.func25 rfl λv=>?_;have s:=v.sl 0 rfl;refine ck rP rfl ak ?_;refine AK.cJ 0 (λi=>i<=t.length/\∀j,j<i->jE t j=ab) (λi:Nat=>[(0,cF.sl t),(5,cF.sl t),(6,dI t.length),(7,dI i)]) (λ_=>[]) (λi=>t.length-i) 0 rfl ?_ rfl ak rfl ⟨by omega,by omega⟩ ?_
 .simp
 rintro i ⟨hi,k⟩;by_cases h:i<t.length
 .cases b:ft (fG t i)with
  |false =>
   refine bm rP [(8,ab),(14,af)] rfl ?_ (AK.fR (cz.zero rfl ?_))
   .simp[-aj,h,g7,b]
   .simp[au,lh h (by simp[jE,b])]
  |true =>
   cases f:ez (uc t i)with
   |false =>
    refine bm rP [(8,ab),(14,ab),(19,af)] rfl ?_ (AK.fR (cz.zero rfl ?_))
    .simp[-aj,h,g7,qq,b,f]
    .simp[au,lh h (by simp[jE,f])]
   |true =>
    have w:Cc (t.take i):=by
     intro j y;simp only[List.length_take]at y;have e:fG (t.take i) j=fG t j:=by simp[fG,aj,(by omega:j<i)]
     rw[e];have:=k j (by omega);simp only[jE,bM]at this;grind[vv]
    have x:cF.list ((i:Int).toNat-0) (my 0 (cF.fn t))=t.take i:=by rw[cF.Nl t 0 _ (by grind)];simp
    cases u:(i==0||!(bq (fG t i) (fG t (i-1))||fG t i==fG t (i-1)))with
    |false =>
     have a:jE t i=af:=by simp only[jE,u];simp
     have o:i≠0:=by grind
     have n:(bq (fG t i) (fG t (i-1))||fG t i==fG t (i-1))=ab:=by grind
     have d:bE .i64 ((i:Int)-1):=by simp only[bE];omega
     have l:((i:Int)-1).toNat=i-1:=by omega
     refine bm rP [(8,ab),(14,ab),(19,ab),(24,ab),(34,ab)] rfl ?_ (AK.fR (cz.zero rfl ?_))
     .simp only[au,g7,qq,b9,l,n,b,f,a9,d];grind
     .simp[lh h a]
    |true =>
     have a:jE t i=(bc i).all λj=>!under (fG t i) (fG t j):=by simp only[jE,u,b,f];simp
     apply AK.join [(0,cF.sl t),(3,dI i),(5,cF.sl t),(6,dI t.length),(7,dI i),(4,.e (.one (.ptr 0 0)))] [.cells 50 [.c (.str (fG t i)),.c (.str (uc t i))]]
     .intro hk;by_cases o:i=0
      .refine bm rP [(8,ab),(14,ab),(19,ab),(24,af),(1000006,ab)] rfl ?_ (hk _ _ rfl ?_)
       .simp only[au,g7,qq,b9,b,f,a9,bR];grind
       .simp
      .have n:(bq (fG t i) (fG t (i-1))||fG t i==fG t (i-1))=af:=by grind
       have d:bE .i64 ((i:Int)-1):=by simp only[bE];omega
       have l:((i:Int)-1).toNat=i-1:=by omega
       refine bm rP [(8,ab),(14,ab),(19,ab),(24,ab),(34,af),(1000006,ab)] rfl ?_ (hk _ _ rfl ?_)
       .simp only[au,g7,qq,b9,l,n,b,f,a9,d];grind
       .simp
     .refine AK.freeze 4 0 rfl rfl rfl ?_;have r:=Gz (t:=t) (p:=fG t i) (i:=i) hi;have g:cF.fits ((i:Int).toNat-0) (my 0 (cF.fn t)):=cF.Nm t;cases q:(bc i).all λj=>!under (fG t i) (fG t j)with
      |false =>
       rw[q]at r a;refine bm rP [(41,ab)] rfl ?_ (AK.fR (cz.zero rfl ?_))
       .simp only[au,dm];grind
       .simp[lh h a]
      |true =>
       rw[q]at r a;refine bm rP [(41,af)] rfl ?_ (AK.aQ (i+1) rfl ?_ ?_ ?_ ?_)
       .simp only[au,dm];have m:decide (0<=vY (cF.list ((i:Int).toNat-0) (my 0 (cF.fn t))) (fG t i))=af:=by grind
        exact⟨by simp only[bE];omega,g,by grind,ak,m,by omega,by omega⟩
       .simp
       .trivial
       .grind
       .omega
 .have:i=t.length:=by omega
  subst this;refine aU rP [(8,af)] rfl (by simp) (AK.leaveD rfl rfl ?_);refine ck rP rfl ak (AK.bC rfl ?_);simp only[au,nq];grind
def Xq:dJ:=λargs σ=>match args,σ with
 |[c],[]=>match kH 2 c with
  |none=>ae
  |some (b,a)=>aa (dB (nq (cF.list b a)),[],[cF.fits b a])
 |_,_=>ae
def t25:eh X 25 Xq:=by
 intro args σ res σ' obs h a;unfold Xq at h;split at h
 .split at h
  .cases h
  rename_i d c b;cases h;exact(ye _ ).args (λ_ vs=>cp.imp (λ_=>cF.jS b a) (λ_ r=>r) vs)
 grind
end R1
def cp.bs{σ σ':List bg}{s:St}(h:∀(v:ai)(d:D),du σ s v d->du σ' s v d):∀{vs:List ai}{ds:List D},cp σ s vs ds->cp σ' s vs ds
 |[],[],_=>trivial
 |[],_::_,r=>r.elim
 |_::_,[],r=>r.elim
 |_::_,_::_,r=>⟨h _ _ r.1,cp.bs h r.2⟩
def Ev.more{X:Cx P}{f:aH}{args Ek:List D}{σ0:List bg}{res:D}(h:Ev X f args σ res σ')(i:∀s vs,cp σ s vs Ek->cp σ s vs args)(e:pE σ0 σ=aa ps)(g:au ps):Ev X f Ek σ0 res σ' :=
 ⟨h.1,λs vs hr hh S cs hS=>by obtain⟨h1,h2,j⟩:=ic e g s hh;exact h.2 s vs (i s vs (hr.bs j)) h1 S cs λfr v s' a b c d=>hS fr v s' a b c ((h2.nN hh).trans d)⟩
def OA.Ve{X:Cx P}{x:D}(h:m9 (ι:=Unit) X N all o φ σ (λ_=>x) (λ_=>σ')):OA X N all o φ σ x σ' :=
 λs a f hh b k cs S i rest hb hi hK=>h s a f hh b k cs S i rest hb hi λ_=>hK
namespace R1
variable {X:Cx ag}
abbrev Cy(l:List (Int×Int)):bg:=.vec 84 2 l.length (cH.fn l)
abbrev Kc(l:List (Int×Int)):D:=.e (.one (.vec 0 2 l.length (cH.fn l)))
def lsS(L:List (Int×Int))(B M R:bg)(a b c _:Bool):List bg:=match c with
 |true=>[R]
 |false=>match b with
  |true=>[M]
  |false=>match a with
   |true=>[B]
   |false=>[Cy L]
def Co:∀(t:Tr)(l:List (Int×Int)),l.length+t.list.length<=4000000->Ev X 40 [.e (.one (.c (tC t))),Kc l] [Cy l] (Kc (l++t.list)) [Cy (l++t.list)]
 |.nil,l,_=>by refine Ev.bQ Tryz.func40 rfl λj=>?_;refine bu rfl ak ?_;refine AK.law (uF rfl Tryz.underlying76 rfl rfl rfl) rfl rfl ?_;refine bu rfl ak ?_;rw[show l++Tr.nil.list=l from iw l];exact AK.cX [0] rfl ⟨rfl,cE.same⟩ rfl rfl rfl kB
 |.nd lt x y rt,l,h=>by
  have n:(Tr.nd lt x y rt).list=lt.list++(x,y)::rt.list:=rfl;have f:l.length+lt.list.length+(rt.list.length+1)<=4000000:=by grind
  have o:=Co lt l (by omega);have i2:=Co rt (l++lt.list++[(x,y)]) (by grind);have d:=cH.cD (l++lt.list) (x,y);have i3:Ev X 40 [.e (.one (.c (tC rt))),.e (.one (.vec 0 2 ((l++lt.list).length+1) (cM (l++lt.list).length (cH.fn (l++lt.list)) λi=>([[.int .i64 x,.int .i64 y]]:List (List C)).getD i [])))] [.vec 84 2 ((l++lt.list).length+1) (cM (l++lt.list).length (cH.fn (l++lt.list)) λi=>([[.int .i64 x,.int .i64 y]]:List (List C)).getD i [])] (Kc (l++(Tr.nd lt x y rt).list)) [Cy (l++(Tr.nd lt x y rt).list)]:=by
   rw[n,show l++(lt.list++(x,y)::rt.list)=l++lt.list++[(x,y)]++rt.list by simp];refine i2.more (λs vs r=>?_) rfl (au.cat.2 ⟨⟨by grind,d⟩,ak⟩)
   match vs,r with
   |[_,_],⟨k,g,m⟩=>exact⟨k,oQ rfl (show au [_,_]from⟨by grind,d⟩) g,m⟩
  have Oq:((l++lt.list).length+1)*i84.bytes<=140737488355328:=by rw[show i84.bytes=16 from rfl,cW];omega
  clear i2 d f h;generalize l++(Tr.nd lt x y rt).list=R at *;generalize l++lt.list=B at *;have a:bH X []:=bH.nil;refine Ev.bQ Tryz.func40 rfl λj=>?_;refine bu rfl ak ?_;refine AK.law (HJ rfl Tryz.underlying76 rfl rfl rfl) rfl rfl ?_;refine aW [(1000003,ab)] rfl ak ?_;let xs:Nat->D:=λi=>([.e (.one (.c (tC (.nd lt x y rt)))),.e (.one (.c (tC (.nd lt x y rt)))),.e (.one (.c (.rp [tC rt]))),.e (.one (.c (tC rt))),.e (.one (.c (tC (.nd lt x y rt)))),.e (.one (.c (tC (.nd lt x y rt)))),.e (.one (.c (.rp [tC lt,tC rt]))),.e (.one (.c (tC lt))),Kc l,Kc B,.e (.one (.c (tC (.nd lt x y rt)))),.e (.one (.c (tC (.nd lt x y rt)))),.e (.one (.c (tC (.nd lt x y rt)))),QN x y,.e (.one (.c (.sl ab 2 1 λi=>([[.int .i64 x,.int .i64 y]]:List (List C)).getD i []))),.e (.one (.vec 0 2 (B.length+1) (cM B.length (cH.fn B) λi=>([[.int .i64 x,.int .i64 y]]:List (List C)).getD i []))),Kc R,Kc R]:List D).getD i .any
  cases lt<;>cases rt<;>(
   refine AK.flags ju xs (pY (lsS l (Cy B) (.vec 84 2 (B.length+1) (cM B.length (cH.fn B) λi=>([[.int .i64 x,.int .i64 y]]:List (List C)).getD i [])) (Cy R)) 9 15 16 17) rfl rfl rfl rfl ⟨
   .rC tok a,
   .rC tok a,
   .rC tok a,
   .rC tok a,
   .rC tok a,
   .rC tok a,
   .rC tok a,
   .rC tok a,
   .rC tok a,
   en.c1 rfl rfl rfl rfl rfl rfl (OA.Ve (m9.jB o.sH [0] rfl rfl rfl rfl (by simp) rfl rfl rfl (λ_=>rfl) rfl (λ_=>rfl))),
   .rC tok a,
   .rC tok a,
   .rC tok a,
   .rC tok a,
   .rC tok a,
   en.c2 rfl rfl rfl rfl rfl rfl (gV (ds:=[]) tok a (σ':=aa _) rfl ⟨rfl,rfl,Oq⟩),
   en.c3 rfl rfl rfl rfl rfl rfl (OA.Ve (m9.jB i3.sH [0] rfl rfl rfl rfl (by simp) rfl rfl rfl (λ_=>rfl) rfl (λ_=>rfl))),
   en.c4 rfl rfl rfl rfl rfl rfl (OA.c8 tok a rfl),ak⟩ ?_
   intro D b;show AK X _ _ _ _ _ (lsS l (Cy B) _ (Cy R) (D 9) (D 15) (D 16) (D 17));rw[b 9 (by decide),b 15 (by decide),b 16 (by decide),b 17 (by decide)]
   exact AK.cX [0] rfl ⟨rfl,cE.same⟩ rfl rfl rfl kB)
abbrev XI:D:=.e (.one (.c (.sl ab 2 0 λ_=>[])))
def lsN(B M R:bg)(a b c _:Bool):List bg:=match c with
 |true=>[R]
 |false=>match b with
  |true=>[M]
  |false=>match a with
   |true=>[B]
   |false=>[]
def EG:∀(t:Tr),t.list.length<=4000000->Ev X 40 [.e (.one (.c (tC t))),XI] [] (Kc t.list) [Cy t.list]
 |.nil,_=>by refine Ev.bQ Tryz.func40 rfl λk=>?_;refine bu rfl ak ?_;refine AK.law (uF rfl Tryz.underlying76 rfl rfl rfl) rfl rfl ?_;refine bu rfl ak ?_;refine AK.iW 4 84 2 rfl rfl ?_;refine AK.norm [Cy []] rfl (by simp) ?_;exact AK.cX [0] rfl (by simp;rfl) rfl rfl rfl (ND _)
 |.nd lt x y rt,h=>by
  have f:(Tr.nd lt x y rt).list=lt.list++(x,y)::rt.list:=rfl;have g:lt.list.length+(rt.list.length+1)<=4000000:=by grind
  have n:=EG lt (by omega);have i2:=Co (X:=X) rt (lt.list++[(x,y)]) (by grind);have d:=cH.cD lt.list (x,y);have i3:Ev X 40 [.e (.one (.c (tC rt))),.e (.one (.vec 0 2 (lt.list.length+1) (cM lt.list.length (cH.fn lt.list) λi=>([[.int .i64 x,.int .i64 y]]:List (List C)).getD i [])))] [.vec 84 2 (lt.list.length+1) (cM lt.list.length (cH.fn lt.list) λi=>([[.int .i64 x,.int .i64 y]]:List (List C)).getD i [])] (Kc (Tr.nd lt x y rt).list) [Cy (Tr.nd lt x y rt).list]:=by
   rw[f,show lt.list++(x,y)::rt.list=lt.list++[(x,y)]++rt.list by simp];refine i2.more (λs vs r=>?_) rfl (au.cat.2 ⟨⟨by simp,d⟩,ak⟩)
   match vs,r with
   |[_,_],⟨l,j,m⟩=>exact⟨l,oQ rfl (show au [_,_]from⟨by simp,d⟩) j,m⟩
  have Oq:(lt.list.length+1)*i84.bytes<=140737488355328:=by rw[show i84.bytes=16 from rfl];omega
  clear i2 d g h;clear f;generalize(Tr.nd lt x y rt).list=R at *;generalize lt.list=B at *;have a:bH X []:=bH.nil;refine Ev.bQ Tryz.func40 rfl λk=>?_;refine bu rfl ak ?_;refine AK.law (HJ rfl Tryz.underlying76 rfl rfl rfl) rfl rfl ?_;refine aW [(1000003,ab)] rfl ak ?_;let xs:Nat->D:=λi=>([.e (.one (.c (tC (.nd lt x y rt)))),.e (.one (.c (tC (.nd lt x y rt)))),.e (.one (.c (.rp [tC rt]))),.e (.one (.c (tC rt))),.e (.one (.c (tC (.nd lt x y rt)))),.e (.one (.c (tC (.nd lt x y rt)))),.e (.one (.c (.rp [tC lt,tC rt]))),.e (.one (.c (tC lt))),XI,Kc B,.e (.one (.c (tC (.nd lt x y rt)))),.e (.one (.c (tC (.nd lt x y rt)))),.e (.one (.c (tC (.nd lt x y rt)))),QN x y,.e (.one (.c (.sl ab 2 1 λi=>([[.int .i64 x,.int .i64 y]]:List (List C)).getD i []))),.e (.one (.vec 0 2 (B.length+1) (cM B.length (cH.fn B) λi=>([[.int .i64 x,.int .i64 y]]:List (List C)).getD i []))),Kc R,Kc R]:List D).getD i .any
  cases lt<;>cases rt<;>(
   refine AK.flags ju xs (pY (lsN (Cy B) (.vec 84 2 (B.length+1) (cM B.length (cH.fn B) λi=>([[.int .i64 x,.int .i64 y]]:List (List C)).getD i [])) (Cy R)) 9 15 16 17) rfl rfl rfl rfl ⟨
   .rC tok a,
   .rC tok a,
   .rC tok a,
   .rC tok a,
   .rC tok a,
   .rC tok a,
   .rC tok a,
   .rC tok a,
   .rC tok a,
   en.c1 rfl rfl rfl rfl rfl rfl (OA.Ve (m9.jB n.sH [] rfl rfl rfl rfl (by simp) rfl rfl rfl (λ_=>rfl) rfl (λ_=>rfl))),
   .rC tok a,
   .rC tok a,
   .rC tok a,
   .rC tok a,
   .rC tok a,
   en.c2 rfl rfl rfl rfl rfl rfl (gV (ds:=[]) tok a (σ':=aa _) rfl ⟨rfl,rfl,Oq⟩),
   en.c3 rfl rfl rfl rfl rfl rfl (OA.Ve (m9.jB i3.sH [0] rfl rfl rfl rfl (by simp) rfl rfl rfl (λ_=>rfl) rfl (λ_=>rfl))),
   en.c4 rfl rfl rfl rfl rfl rfl (OA.c8 tok a rfl),ak⟩ ?_
   intro D b;show AK X _ _ _ _ _ (lsN (Cy B) _ (Cy R) (D 9) (D 15) (D 16) (D 17));rw[b 9 (by decide),b 15 (by decide),b 16 (by decide),b 17 (by decide)]
   exact AK.cX [0] rfl ⟨rfl,cE.same⟩ rfl rfl rfl (ND _))
end R1
section
open Go.Conc
def aE.WI(hh:aE σ s){B:bg}{L:Loc}(hB:σ[l]?=aa B)(k:s.β[l]?=aa L)(hk:(∃E cs,B=.cells E cs)∨∃H,B=.cj H):
  aE (σ.set l .dead) {s with β:=s.β.set l ⟨L.v,[]⟩}/\Step σ s (σ.set l .dead) {s with β:=s.β.set l ⟨L.v,[]⟩}:=by
 have j:l<σ.length:=(bX.1 hB).1;have i:l<s.β.length:=(bX.1 k).1;have d:∀l',(s.β.set l ⟨L.v,[]⟩)[l']?=if l=l' then aa ⟨L.v,[]⟩else s.β[l']?:=by grind
 have a:∀L'∈s.β.set l ⟨L.v,[]⟩,∀b∈L'.bs,L'∈s.β:=by grind
 have st:Step σ s (σ.set l .dead) {s with β:=s.β.set l ⟨L.v,[]⟩}:=by
  refine⟨bh _,λ_ _ _=>rfl,λ_ _ _ h=>h,λ_ _ _ _=>rfl,λL' fC b c=>.inr ⟨L',a L' fC b c,c⟩,?_,rfl,rfl,rfl,rfl⟩;intro l' B' L' kG fC;by_cases e:l=l'
  .subst e;rw[hB]at kG;cases kG;rw[k]at fC;cases fC;refine⟨.dead,⟨L.v,[]⟩,by grind,by grind,?_⟩;rcases hk with⟨E,cs,rfl⟩|⟨H,rfl⟩<;>rfl
  .exact⟨B',L',by grind,by grind,.refl _ _⟩
 refine⟨⟨hh.mem,by simp[hh.len],?_,?_,λL' fC b c=>hh.lt L' (a L' fC b c) b c,λb c=>⟨(hh.own b c).1,λL' fC JY=>(hh.own b c).2 L' (a L' fC b JY) JY⟩⟩,st⟩
 .intro l' B' L' kG fC;by_cases e:l=l'
  .subst e;rw[gu j]at kG;cases kG;trivial
  .rw[kL e]at kG;rw[d,aY e]at fC;exact(hh.box l' B' L' kG fC).carry st.ext hh.len λb c=>⟨rfl,λo=>rfl⟩
 .intro m n L1 L2 h1 h2 b f g;rw[d]at h1 h2;split at h1
  .grind
  .split at h2
   .grind
   .exact hh.eO m n L1 L2 h1 h2 b f g
def du.closed(e:s'.M=s.M){d:D}(h:du σ s v d)(c:w7 0 d=ab):du σ' s' v d:=by have h1:=du.drop (σ1:=[]) (rest:=σ) h c;refine du.mono (σ:=[]) (s:=s.cut 0) ⟨λb o v a=>by rw[e];exact a,λl B L hB _=>by grind⟩ (by simp[St.cut]) h1
end
namespace R1
section
variable {X:Cx ag}
def ig(t:Bs):List Bs:=if ez t then pieces t else[]
def RL(t:Bs)(f:Nat)(acc:List Bs):Prop:=∃k,eT t t.length 0=acc++eT t k f/\t.length<=f+k/\acc.length<=f
def HK:eh X 68 (kD aS (λs=>dB (ez s)) λ_=>[]):=.pF λs _=>yd s
def Ma:dJ:=λargs σ=>match args,σ with
 |[.e (.one (.c (.str t)))],[]=>aa (.e (.one (.c (RK t))),[],[])
 |_,_=>ae
def TN:eh X 86 Ma:=by intro args σ res σ' obs h a;unfold Ma at h;grind[PV]
def I6(t:Bs):Ev X 35 [dS t] [] (cS.sl (ig t)) []:=by
 refine(ek.Fx (ι:=Unit) (σ':=λ_=>[]) (res:=λ_=>cS.sl (ig t)) Tryz.func35 rfl rfl rfl λu=>?_).E9;have l:bH X [(68,kD aS (λs=>dB (ez s)) λ_=>[])]:=.cons HK .nil;refine lA.seq (AW.top (AK.of_code ?_));refine ck l rfl ak ?_;refine lA.seq (AW.top (AK.of_code ?_));cases h:ez t with
 |false =>
  refine aU l [(8,ab)] rfl ?_ (AK.ret ⟨(),cz.zero rfl ?_⟩)
  .simp[h]
  .simp[ig,h]
 |true =>
  have d:=h;simp only[ez,bM,a9]at d;refine aU l [(8,af)] rfl ?_ ?_
  .simp[h]
  refine lA.seq (AW.top (AK.of_code ?_));refine ck l rfl ak ?_;refine lA.seq (lA.seq (AW.top (AK.of_code (AK.iq 1 0 9 1 (cS.fn []) rfl rfl ?_))));refine ck (.cons TN .nil) rfl ak ?_;refine lA.block ?_;refine lA.rangeFunc (capD:=fY [.rp [.str t]]) (cx.callee rfl) (I5 (T:=List Bs) t d.2 (by omega) (λ_=>.cells 9 [.c (.str t)]) (λacc=>.cells 34 [.vec 2 1 acc.length (cS.fn acc)]) (λacc=>.vec 9 1 acc.length (cS.fn acc)) (RL t) [] ?_ (λt=>⟨by simp,by simp,by simp⟩) ?_) (λi=>⟨rfl,by simp⟩) λi=>⟨.normal,rfl,?_⟩
  .exact⟨t.length,by simp,by omega,by simp⟩
  .rintro f acc hf hR;have b:=mI t f hf;refine Yields.intro (j:=ae) rfl rfl rfl rfl (AK.of_code ?_);refine bu rfl ak ?_;refine⟨rfl,rfl,AK.of_code ?_⟩;refine bu rfl ?_ ?_
   .obtain⟨k,_,_,p⟩:=hR;have r:=b.1;have q2:=b.2.1;refine⟨rfl,rfl,?_,Int.natCast_nonneg _,Int.ofNat_le.2 (Nat.le_of_lt r),Int.ofNat_le.2 q2⟩;show(acc.length+1)*16<=_;omega
   have n:RL t (cutAt t f) (acc++[(t.drop f).take (cutAt t f-f)]):=by
    obtain⟨k,m,q,p⟩:=hR;obtain⟨k',rfl⟩:∃k',k=k'+1:=⟨k-1,by omega⟩
    refine⟨k',?_,by omega,by grind⟩;rw[m];simp only[eT];grind
   refine⟨rfl,rfl,⟨_,n⟩,ic rfl ?_⟩;have e:tk t (aa (f:Int)) (aa (cutAt t f:Int))=(t.drop f).take (cutAt t f-f):=by simp[tk,List.drop_take]
   have o:cE (acc.length+1) (cM acc.length (cS.fn acc) λi=>[[C.str (tk t (aa (f:Int)) (aa (cutAt t f:Int)))]].getD i []) (cS.fn (acc++[(t.drop f).take (cutAt t f-f)])):=by rw[e];exact mS.cD cS acc _
   have a:acc.length+1=(acc++[(t.drop f).take (cutAt t f-f)]).length:=by simp
   refine au.cat.2 ⟨by simp,au.cat.2 ⟨au.cat.2 ⟨⟨a,o⟩,ak⟩,au.cat.2 ⟨⟨a,o⟩,au.cat.2 ⟨rfl,ak⟩⟩⟩⟩
  .obtain⟨acc,k,m,q,p⟩:=i;have g:eT t k t.length=[]:=by cases k<;>simp[eT]
   rw[g,iw]at m;have e:ig t=acc:=by simp only[ig,h,b6,pieces,m]
   rw[e];show lA X _ _ _ _ _;refine AW.top (AK.of_code ?_);refine bu rfl ak ?_;refine AK.ret ⟨(),cz.zero rfl ?_⟩;exact⟨rfl,cE.same⟩
def BF:eh X 35 (kD aS (λs=>cS.sl (ig s)) λ_=>[]):=.pF λs _=>I6 s
def Wx:eh X 143 (pv (aL cS) aS (λl _=>dS l.flatten) λl s=>[s=[],l.flatten.length<=140737488355328]):=.sI λl s h=>by obtain⟨rfl,h⟩:=h;exact PN l h
def PW:dJ:=pv (aL cS) (aL cS) (λa b=>dB (a==b)) λ_ _=>[]
def ZV:eh X 144 PW:=.sI λa b _=>TC a b
def F3(l:List Bs)(h:l.flatten.length<=140737488355328):Ev X 93 [cS.sl l] [] (BD (fW l)) []:=by
 refine Ev.bQ Tryz.func93 rfl λd=>?_;have c:bH X [(143,pv (aL cS) aS (λl _=>dS l.flatten) λl s=>[s=[],l.flatten.length<=140737488355328]),(68,kD aS (λs=>dB (ez s)) λ_=>[]),(144,PW),(35,kD aS (λs=>cS.sl (ig s)) λ_=>[])]:=.cons Wx (.cons HK (.cons ZV (.cons BF .nil)));have el:cS.list l.length (cS.fn l)=l:=cS.list_fn l;cases a:ez l.flatten with
 |false =>
  refine aU c [(8,af),(9,ab),(16,ab)] rfl ?_ (AK.bC rfl ?_)
  .simp only[au,el,a,cS.aK,eq_self,aF,aD];grind
  .simp[fW,a]
 |true =>
  cases b:(pieces l.flatten==l)with
  |false =>
   refine aU c [(8,ab),(9,af),(14,af),(16,ab)] rfl ?_ (AK.bC rfl ?_)
   .simp only[au,el,cS.list_fn,a,cS.aK];simp[h,ig,a,b,-List.length_flatten]
   .simp[fW,b]
  |true =>
   refine aU c [(8,ab),(9,af),(14,ab),(16,af)] rfl ?_ (AK.bC rfl ?_)
   .simp only[au,el,cS.list_fn,a,cS.aK];simp[h,ig,a,b,-List.length_flatten]
   .simp[fW,a,b,el]
def Ip{l:List (Int×Int)}(h:i<l.length):l.getD i (0,0)∈l:=by grind
def ph(l:List (Int×Int)):Tr:=l.foldl (λt x=>t.put x.1 x.2) .nil
theorem JM(l:List (Int×Int))(x:Int×Int):ph (l++[x])=(ph l).put x.1 x.2:=by unfold ph;grind
def tY{l:List (Int×Int)}(h:j<l.length):ph (l.take (j+1))=(ph (l.take j)).put (l.getD j (0,0)).1 (l.getD j (0,0)).2:=by grind[List.take_add_one,JM]
abbrev Sd(l:List (Int×Int)):D:=.e (.one (.c (.sl af 1 1 λi=>([[.sl af 2 l.length (cH.fn l)]]:List (List C)).getD i [])))
abbrev spX(x:Int×Int):bg:=.cells 84 [.c (.int .i64 x.1),.c (.int .i64 x.2)]
def frJ(l:List (Int×Int)):Nat->Fr
 |0=>[(3,.e (.one (.c .iD))),(8,Sd l),(9,dI 1),(10,dI 0),(14,cH.sl l),(15,dI l.length),(16,dI 0)]
 |j+1=>[(3,.e (.one (.ref 1))),(8,Sd l),(9,dI 1),(10,dI 0),(14,cH.sl l),(15,dI l.length),(16,dI (j+1:Nat))]
def stJ(l:List (Int×Int)):Nat->List bg
 |0=>[]
 |j+1=>[spX (l.getD 0 (0,0)),.cj (nQ Kb (ph (l.take (j+1))))]
def aaQ(l:List (Int×Int)):Nat->Fr
 |0=>[(3,.e (.one (.c .iD))),(8,Sd l),(9,dI 1),(10,dI 0)]
 |j+1=>match l with
  |[]=>[(3,.e (.one (.c .iD))),(8,Sd l),(9,dI 1),(10,dI (j+1:Nat))]
  |_::_=>[(3,.e (.one (.ref 1))),(8,Sd l),(9,dI 1),(10,dI (j+1:Nat))]
def aaR(l:List (Int×Int)):Nat->List bg
 |0=>[]
 |_+1=>match l with
  |[]=>[]
  |x::r=>[spX x,.cj (nQ Kb (ph (x::r)))]
def As(l:List (Int×Int))(t:l.length<=4000000)(p:∀x∈l,bE .i64 x.1/\bE .i64 x.2):Ev X 34 [Sd l] [] (.e (.one (.c (tC (ph l))))) []:=by
 refine Ev.bQ Tryz.func34 rfl λq=>?_;refine bu rfl ak ?_;refine AK.RA 0 (λx=>x<=1) (aaQ l) (aaR l) (λx=>1-x) 0 rfl (by simp) rfl ak rfl (by omega) ?_;intro x g;rcases x with _|x
 .refine aW [(11,ab)] rfl ?_ ?_
  .simp only[au,aF,aD];and_intros<;>first|rfl|omega
  refine AK.RA 0 (λj=>j<=l.length) (frJ l) (stJ l) (λj=>l.length-j) 0 rfl (by simp) rfl ak rfl (by omega) ?_;intro j s;rcases j with _|j
  .by_cases h:0<l.length
   .have g:=p _ (Ip h);have e:=tY h;have c1:bH X [(85,zR [.e (.one (.c .iD)),QN (l.getD 0 (0,0)).1 (l.getD 0 (0,0)).2] [] (.e (.one (.ref 0))) [.cj (nQ Kb (.nd .nil (l.getD 0 (0,0)).1 (l.getD 0 (0,0)).2 .nil))])]:=.cons (Dw (Ch _ _ g.1 g.2 .nil)) .nil;refine bm c1 [(17,ab)] rfl ?_ (AK.Bl 2 1 (by omega) rfl ?_ rfl rfl rfl ?_ rfl h (by grind))
    .simp only[au,bE,a9,aF,aD];and_intros<;>first|rfl|omega
    .simp
    .simp only[au.cat,au,aF,aD];rw[e];and_intros<;>rfl
   .obtain rfl:l=[]:=jF (by omega);refine bO [(17,af)] rfl (by simp) (AK.Bm rfl rfl ?_);refine dk rfl (by simp[bE]) (AK.Bl 0 1 (by omega) rfl ?_ rfl rfl rfl ak rfl (by omega) (by decide));simp
  .obtain⟨i,k,m,n,e⟩:∃a b c d,ph (l.take (j+1))=.nd a b c d:=by rw[tY (by omega)];exact Cg _ _ _
   show AK X _ _ _ _ (frJ l (j+1)) [spX (l.getD 0 (0,0)),.cj (nQ Kb (ph (l.take (j+1))))];by_cases h:j+1<l.length
   .have g:=p _ (Ip h);have o:=tY h;rw[e]at o⊢;have c1:bH X [(85,zR [.e (.one (.ref 0)),QN (l.getD (j+1) (0,0)).1 (l.getD (j+1) (0,0)).2] [.cj (nQ Kb (.nd i k m n))] (.e (.one (.ref 0))) [.cj (nQ Kb ((Tr.nd i k m n).put (l.getD (j+1) (0,0)).1 (l.getD (j+1) (0,0)).2))])]:=.cons (Dw (Ch _ _ g.1 g.2 (.nd i k m n))) .nil;refine bm c1 [(17,ab)] rfl ?_ (AK.Bl 2 (j+2) (by omega) rfl ?_ rfl rfl rfl ?_ rfl h (by grind))
    .simp only[au,bE,a9,aF,aD];and_intros<;>first|rfl|omega
    .simp only[au.cat,au,aF,aD];and_intros<;>first|exact cE.same|rfl|omega
    .simp only[au.cat,au,aF,aD];rw[o]
   .have f:j+1=l.length:=by omega
    rw[f,dt]at e
    match l,f,e with
    |x::r,f,e =>
     rw[f,dt,e];refine bO [(17,af)] rfl (by simp[f]) (AK.Bm rfl rfl ?_);refine dk rfl (by simp[bE]) (AK.Bl 2 1 (by omega) rfl ?_ rfl rfl rfl ?_ rfl (by omega) (by decide))
     .simp
     .simp only[au.cat,au,aF,aD];grind
 .cases l with
  |nil =>
   refine bO [(11,af)] rfl (by simp only[au,bR,aD];omega) (AK.Bm rfl rfl ?_);exact dk rfl ak (AK.bC rfl (by simp;rfl))
  |cons y r =>
   refine bO [(11,af)] rfl (by simp only[au,bR,aD];omega) (AK.Bm rfl rfl ?_);refine dk rfl ak ?_;refine AK.Bv 2 1 rfl rfl ?_;obtain⟨i,k,m,n,e⟩:∃a b c d,ph (y::r)=.nd a b c d:=by have:=tY (l:=y::r) (j:=r.length) (by simp);rw[List.take_of_length_le (by simp)]at this;rw[this];exact Cg _ _ _
   rw[e];exact AK.bC rfl
end
section
open Go.Proofs Go.Conc Go.Conc.Lib
open Go.ConcN (WgLive PayAt Has RW AtR0)
open Go.ConcR (KK WgAt stA smA rd wr mk Payload DC0)
noncomputable def WJ:Code:=yh (lE (lE (lE F5)))
noncomputable def cR3:Code:=yh WJ
noncomputable def ZZ:Code:=lE (lE (lE F5))
def TT:ZZ=.seq (.seq cR3 (.block 0 (.loop iX))) n9:=by kernel_rfl
section
variable {σ0:List bg}{s0:St}{φ:Fr}{σ:List bg}{a:Act}{s:St}{S:ar->St->Prop}
def At.goes{Wg:Nat}{j:ar}:∀(m:Nat)(g:ar)(s:St),At σ0 s0 φ σ a s->WgLive 211 Wg s.w->Goes ag ab (fJ 211 Wg) DC0 (λg _=>g=j) m g s.w ->
  (∀b,At σ0 s0 φ σ a b->fL (Cx.beside ag) S j b)->fL (Cx.beside ag) S g s
 |0,g,s,h,_,f,K=>by obtain rfl:g=j:=f s.w (.refl _);grind
 |m+1,g,s,h,hl,f,K=>by
  rcases f with f|⟨n,f⟩
  .obtain rfl:g=j:=f s.w (.refl _);grind
  .refine .next n λb c=>?_;have h1:=h.rely c.1;obtain⟨d,o⟩:=c.2;have i:WgLive 211 Wg b.w:=by rw[o];exact hl
   have h2:=f b.w (λ_=>i);cases e:aG ag ab g b.w with
   |go g' w' es =>
    rw[e,goes_go]at h2;obtain⟨⟨rfl,rfl⟩,l⟩:=h2;exact⟨g',b,#[],e,.quiet h1.hh,At.goes m g' b h1 i l K⟩
   |_=>rw[e]at h2;exact h2.elim
def l9{σ:List bg}{s:St}(b:∀B∈σ,B=.dead){ds:List Deferred}{ls:List Nat}(h:pA σ s ds ls):ds=[]:=by
 cases ds with
 |nil=>rfl
 |cons d ds =>
  cases ls with
  |nil=>exact h.elim
  |cons l ls =>
   have:=b _ (bP h.1.1);cases this
end
section
variable {k:Int}{ps:List bG}{ns:List Int}{C:Nat}{xs:List ai}
variable (k ps ns C)in
def P2:Fr:=[(2,cI.sl ns),(3,.e (.one (.ptr 0 0))),(4,.e (.one (.ptr 1 0))),(8,.e (.one (.ptr 3 0))),(9,.e (.one (.ptr 4 0)))]
variable (k ps ns C xs)in
def BK:List bg:=[.cells 3 [.c (.int .i64 k)],.cells 23 [.c (.sl af 2 ps.length (cP.fn ps))],.cj (gk 214 2 (.row C ns.length) ns.length xs),.cells 201 [.c (.val (.slice (aa ⟨C,0,ae⟩) ns.length ns.length))],.cells 211 [.c (.int .u64 0),.c (.int .u32 0)]]
variable (k ps ns)in
def OR(x i:Nat):ai:=if i=0 then .string ⟨((dg k ps (ns.getD x 0)).getD []).toArray⟩else .bool (dg k ps (ns.getD x 0)).isSome
variable (k ps ns)in
def mK:List ai:=ns.flatMap λn=>[.string ⟨((dg k ps n).getD []).toArray⟩,.bool (dg k ps n).isSome]
variable (k ps ns C)in
def F7:List bg:=[.dead,.dead,.cj (gk 214 2 (.row C ns.length) ns.length (mK k ps ns)),.dead,.dead]
def pR3{X:Cx ag}:AW X 45 cR3 (NQ ((18,cI.sl ns)::(19,dI ns.length)::(20,dI 0)::P2 ns) (BK k ps ns C xs)) (P2 ns) (BK k ps ns C xs):=by refine AK.of_code ?_;refine bu rfl ak ⟨rfl,db rfl ?_,rfl⟩;simp
theorem DF:(mK k ps ns).length=ns.length*2:=by
 unfold mK;induction ns with
 |nil=>rfl
 |cons n r b=>grind
def BL:∀{ns:List Int}{x i:Nat},x<ns.length->i<2->(mK k ps ns)[2*x+i]?=aa (OR k ps ns x i)
 |[],x,i,h,_=>by grind
 |n::r,0,i,_,hi=>by
  match i,hi with
  |0,_=>rfl
  |1,_=>rfl
 |n::r,x+1,i,h,hi=>by have:=BL (ns:=r) (x:=x) (i:=i) (by grind) hi;unfold mK at this⊢;rw[sO,gp (by grind)];rw[show 2*(x+1)+i - [Value.string ⟨((dg k ps n).getD []).toArray⟩,Value.bool (dg k ps n).isSome].length=2*x+i by grind];rw[this];simp[OR]
def _root_.Go.AM.cx.seen{N b:Nat}{d:D}{σ:List bg}{s:St}{φ:Fr}{a:Act}(f:cx N σ s φ a)(h:du σ s (a.tmps.getD b ah) d):cx N σ s ((b,d)::φ) a:=by
 refine⟨f.size,f.defers,λt=>?_⟩;simp only[look];cases c:aw b t with
 |false=>exact f.slot t
 |true=>grind[Nat.eq_of_beq_eq_true]
abbrev Mi(n C:Nat):Fr:=[(8,.e (.one (.c (.rp [.val (.slice (aa ⟨C,0,ae⟩) n n)]))))]
variable (k ps ns C)in
abbrev WK:Fr:=(8,.e (.one (.c (.rp [.val (.slice (aa ⟨C,0,ae⟩) ns.length ns.length)]))))::(4,.e (.one (.c (.rp [.sl af 2 ps.length (cP.fn ps)]))))::(3,.e (.one (.c (.rp [.int .i64 k]))))::(18,cI.sl ns)::(19,dI ns.length)::(20,dI 0)::[(9,.e (.one (.ptr 4 0)))]
def WL(hfe:eh (Cx.work ag) 141 (mH k)){Q:Post}(hn:ns.length<=4000000)(WM:lA (Cx.beside ag) 45 rM Q (Mi ns.length C) (F7 k ps ns C)):lA (Cx.beside ag) 45 ZZ Q (P2 ns) (BK k ps ns C xs):=by
 intro so ao hf hho b kk cs S hb Pn hQ;have h:At (BK k ps ns C xs) so (P2 ns) (BK k ps ns C xs) ao so:=⟨hf,hho,.refl _ _⟩;refine h.ctl rfl (λw=>wL TT) λs h=>?_
 refine h.ctl rfl (λw=>oL) λs h=>?_;refine h.code hb pR3 λa s h=>?_;obtain⟨s1,w1,f1,A,SG⟩:=cx.freeze 3 0 (E:=3) (cs:=[.c (.int .i64 k)]) (cc:=[.int .i64 k]) rfl rfl rfl h.fr h.hh;refine .ghost (.of h.hh A w1 (SG.nN h.hh)) ?_;obtain⟨s2,w2,f2,z,m0⟩:=cx.freeze 4 1 (E:=23) (cs:=[.c (.sl af 2 ps.length (cP.fn ps))]) (cc:=[.sl af 2 ps.length (cP.fn ps)]) rfl rfl rfl f1 A;refine .ghost (.of A z w2 (m0.nN A)) ?_;obtain⟨s3,w3,f3,U6,Tp⟩:=cx.freeze 8 3 (E:=201) (cs:=[.c (.val (.slice (aa ⟨C,0,ae⟩) ns.length ns.length))]) (cc:=[.val (.slice (aa ⟨C,0,ae⟩) ns.length ns.length)]) rfl rfl rfl f2 z;refine .ghost (.of z U6 w3 (Tp.nN z)) ?_;have h:At (BK k ps ns C xs) so (WK k ps ns C)
   [.dead,.dead,.cj (gk 214 2 (.row C ns.length) ns.length xs),.dead,.cells 211 [.c (.int .u64 0),.c (.int .u32 0)]] a s3 :=
  ⟨f3.le (db rfl (by simp)),U6,h.st.trans ((SG.nN h.hh).trans ((m0.nN A).trans (Tp.nN z)))⟩
 clear SG m0 Tp f1 f2 f3 A z U6;refine h.ctl rfl (λw=>sZ) λs h=>?_;refine h.ctl rfl (λw=>G0) λs h=>?_;have hlen:=h.hh.len;simp only[fb,gO]at hlen;obtain⟨D,u⟩:∃L,s.β[2]?=aa L:=⟨_,bn (by omega)⟩
 obtain⟨W,F⟩:∃L,s.β[4]?=aa L:=⟨_,bn (by omega)⟩
 obtain⟨ch,hH,WN,Vp,ZH⟩:=h.hh.box 2 _ D rfl u;obtain⟨zs,XZ,Sx,VB⟩:=gk.lookup hH;obtain⟨hv2,_,hxl,_,_,_⟩:=hH;have P:C∈D.bs:=(Vp C).2 (by grind);have WO:=WN C _ Sx;obtain⟨Wg,vs,aeI,J,UX,hM4⟩:=h.hh.box 4 _ W rfl F;have Z0:vs=[.int .u64 0,.int .u32 0]:=by
  match vs,UX with
  |[],r=>exact r.elim
  |[_],r=>exact r.2.elim
  |_::_::_::_,r=>exact r.2.2.elim
  |[u0,u1],r =>
   have r0:Rd s.M u0 (.int .u64 0):=r.1;have X:Rd s.M u1 (.int .u32 0):=r.2.1;cases r0;cases X;rfl
 subst Z0;have CE:C≠Wg:=by grind
 have hv9:a.tmps.getD 9 ah=.pointer (aa ⟨Wg,0,ae⟩):=by obtain⟨_,L,bb,q1,q2,q3⟩:=h.fr.slot 9;grind
 obtain⟨g1,t1⟩:=h.hh.WI (l:=2) rfl u (.inr ⟨_,rfl⟩);have Z1:(s.β.set 2 ⟨D.v,[]⟩)[4]?=aa W:=by grind
 obtain⟨g2,t2⟩:=g1.WI (l:=4) (B:=.cells 211 [.c (.int .u64 0),.c (.int .u32 0)]) rfl Z1 (.inl ⟨_,_,rfl⟩);generalize hsB:({s with β:=(s.β.set 2 ⟨D.v,[]⟩).set 4 ⟨W.v,[]⟩}:St)=sB at g2 t2;have eβ:sB.β=(s.β.set 2 ⟨D.v,[]⟩).set 4 ⟨W.v,[]⟩:=by grind
 have eM:sB.M=s.M:=by grind
 have ew:sB.w=s.w:=by grind
 have eo:sB.own=s.own:=by grind
 have hhB:aE d5 sB:=g2;have RQ:=(t1.nN h.hh).trans (t2.nN g1);have Z2:sB.β[2]?=aa ⟨D.v,[]⟩:=by grind
 have p:∀L∈sB.β,∀x∈L.bs,∃l,l≠2/\l≠4/\s.β[l]?=aa L:=by grind[List.mem_iff_getElem?]
 have EV:C<s.w.heap.size:=h.hh.lt D (bP u) C P;have Ct:Wg<s.w.heap.size:=h.hh.lt W (bP F) Wg (by grind)
 have Z3:Oz C sB:=⟨by rw[eo];exactλho=>(h.hh.own C ho).2 D (bP u) P,λL d f=>by obtain⟨l,n2,n4,hl⟩:=p L d C f;exact n2 (h.hh.eO l 2 L D hl u C f P),λo=>by rw[eM];grind,by grind⟩
 have H:Oz Wg sB:=⟨by rw[eo];exactλho=>(h.hh.own Wg ho).2 W (bP F) (by grind),λL d f=>by obtain⟨l,n2,n4,hl⟩:=p L d Wg f;exact n4 (h.hh.eO l 4 L W hl F Wg f (by grind)),λo=>by rw[eM];grind,by grind⟩
 have fB:cx 45 d5 sB (nD k ps ns C Wg 0) a:=by have q:=h.fr.mono RQ h.hh.len;have q9:cx 45 d5 sB ((9,.e (.one (.v (.pointer (aa ⟨Wg,0,ae⟩)))))::WK k ps ns C) a:=q.seen (by rw[hv9];exact Rd.val rfl);exact q9.le (db rfl (by simp))
 have R:(xs++zs).toArray.size=2*ns.length:=by grind
 have Pk:∀x,(s.own x∨∃L∈s.β,x∈L.bs)->x<s.w.heap.size:=λx f=>f.elim (λq=>(h.hh.own x q).1) λ⟨L,d,q⟩=>h.hh.lt L d x q;refine .y9 (T:=λg' s'=>∃a4 m,At (BK k ps ns C xs) so (Mi ns.length C) (F7 k ps ns C) a4 s'/\WgLive 211 Wg s'.w/\Goes ag ab (fJ 211 Wg) DC0 (λg _=>g=G (b.aT (a4.put (aa 28) (.tuple #[])) (.inRegion zn []::.code rM::kk)) cs) m g' s'.w)
  (Vr.fork (n:=ns.length) (ty:=211) (val:=OR k ps ns) (N:=2*ns.length) (s0:=sB) 2 (by omega) Wg C (by omega) CE (.of h.hh hhB ew RQ) rfl ⟨D,bP u,P⟩ ⟨W,bP F,by grind⟩ Pk ?_ J ⟨_,WO,R⟩ ?_) ?_
 .rintro x (rfl|rfl)
  .exact⟨Z3.own,Z3.β,Z3.M⟩
  .exact⟨H.own,H.β,H.M⟩
 .intro Y hYW hYC hYk;subst hYW hYC;refine⟨TF k ps ns Y d5 sB b kk cs,Yl k ps ns Y d5 sB b kk cs,λg s f=>anF H Pn f,?_,?_⟩
  .refine P1 hfe hYk H Pn hb (by decide) hn (λi hi=>rfl) (λi hi=>rfl) ns.length (bh _) a sB ⟨by grind,hhB,.refl _ _⟩ ⟨_,_,by rw[ew];exact J⟩
  .rintro g' s' ⟨a4,⟨j,Mf⟩,m,hgo⟩ hm' WQ TU V3 KE;obtain⟨o1,o2,o3⟩:=KE Y.C (.inl rfl);obtain⟨nO,O,aeN⟩:=WQ;have V4:nO=(mK k ps ns).toArray:=by
    apply Array.ext_getElem?;intro o;have eo':(mK k ps ns).toArray[o]?=(mK k ps ns)[o]?:=by simp
    rw[eo'];rcases cN o (2*ns.length)with ho|ho
    .have q1:=TU (o / 2) (by omega) (o % 2) (by omega);have q2:=BL (k:=k) (ps:=ps) (ns:=ns) (x:=o / 2) (i:=o % 2) (by omega) (by omega);rw[show 2*(o / 2)+o % 2=o by omega]at q1 q2;rw[q2];simpa[aP,O]using q1
    grind[DF]
   subst V4;have ES:s'.β.length=5:=j.hh.len;obtain⟨B2',L2',p1,p2,p3⟩:=j.st.box 2 .dead ⟨D.v,[]⟩ rfl Z2;have aeP:L2'.v=.nilFunc:=by cases p1;exact(show L2'.v=D.v from p3).trans hv2
   have K:∀(l:Nat) (B:bg),d5[l]?=aa B->B=.dead:=by
    intro l B hB
    match l,hB with
    |0,hB|1,hB|2,hB|3,hB|4,hB=>cases hB;rfl
   have V:∀l,(s'.β.set 2 ⟨.nilFunc,[Y.C]⟩)[l]?=if l=2 then aa ⟨.nilFunc,[Y.C]⟩else s'.β[l]?:=by grind
   have y:∀L∈s'.β.set 2 ⟨.nilFunc,[Y.C]⟩,L=⟨.nilFunc,[Y.C]⟩∨L∈s'.β:=λL d=>by grind
   have ZF:aE (F7 k ps ns Y.C) {s' with β:=s'.β.set 2 ⟨.nilFunc,[Y.C]⟩}:=by
    refine⟨j.hh.mem,by simp[ES,F7],?_,?_,?_,λx f=>⟨(j.hh.own x f).1,λL d I=>?_⟩⟩
    .intro l B L hB d;rw[V]at d;by_cases e:l=2
     .subst e;rw[bo rfl]at d;cases d;cases hB;refine⟨λb'=>if b'=Y.C then aa (.cells (mK k ps ns++[]).toArray 214 (0,0))else ae,⟨rfl,?_,DF,bh _,by omega,[],by grind,rfl⟩,λb' ob Z=>?_,λb'=>?_,λb' Z o=>?_⟩
      .intro x f;simp only[mK,qJ]at f;obtain⟨_,_,f⟩:=f;simp only[eb,oF,jy]at f;rcases f with rfl|rfl<;>rfl
      .by_cases e:b'=Y.C
       .subst e;simp only[b6]at Z;cases Z;rw[iw];exact O
       grind
      .by_cases e:b'=Y.C<;>simp[e]
      grind
     .match l,hB,e with
      |0,hB,_|1,hB,_|3,hB,_|4,hB,_=>cases hB;trivial
      |2,_,e=>grind
    .intro l l' L L' d fC x f Ru;rw[V]at d fC;by_cases e:l=2
     .grind
     .rw[aY e]at d;by_cases e':l'=2
      .grind
      .rw[aY e']at fC;exact j.hh.eO l l' L L' d fC x f Ru
    .intro L d x f;rcases y L d with rfl|d
     .grind
     .exact j.hh.lt L d x f
    .rcases y L d with rfl|d
     .grind
     .exact(j.hh.own x f).2 L d I
   have Z4:c6 [.dead,.dead,.cj (gk 214 2 (.row Y.C ns.length) ns.length xs),.dead,.cells 211 [.c (.int .u64 0),.c (.int .u32 0)]] s (F7 k ps ns Y.C) {s' with β:=s'.β.set 2 ⟨.nilFunc,[Y.C]⟩}:=by
    have q:=j.st;refine⟨by have:=q.size;grind,λx f=>by have:=q.fA x (by grind);grind,λx o v f=>q.mem x o v (by grind),λx f hnx o=>?_,λL d x f=>?_,?_,by rw[q.os,ew],by rw[q.tape,ew],by rw[q.output,ew],by rw[q.own,eo]⟩
    .rw[q.jo x (by grind) (λL d I=>by
      obtain⟨l,_,_,hl⟩:=p L d x I
      grind) o,eM]
    .rcases y L d with rfl|d
     .grind
     .rcases q.wu L d x f with X|⟨L0,X,r2⟩
      .grind
      .obtain⟨l,_,_,hl⟩:=p L0 X x r2;grind
    .intro l B L hB d;obtain⟨B1,L1,X,r2,r3⟩:=RQ.box l B L hB d;obtain⟨B3,L3,u1,u2,u3⟩:=q.box l B1 L1 X r2;have eB1:=K l B1 X;have eB3:=K l B3 u1;subst eB1 eB3;by_cases e:l=2
     .subst e;cases hB;rw[u]at d;cases d;exact⟨_,⟨.nilFunc,[Y.C]⟩,rfl,by grind,hv2.symm⟩
     .refine⟨.dead,L3,?_,by grind,r3.trans u3⟩
      match l,u1,e with
      |0,_,_|1,_,_|3,_,_|4,_,_=>rfl
      |2,_,e=>grind
   refine⟨{s' with β:=s'.β.set 2 ⟨.nilFunc,[Y.C]⟩},⟨a4,m,⟨⟨j.fr.size,⟨[],?_⟩,λt=>?_⟩,ZF,h.st.trans Z4⟩,Mf,hgo⟩,rfl,hm',λSh U hnC=>⟨U.own,λx f L d I=>?_,U.M,U.lt⟩⟩
   .obtain⟨ls,Tb⟩:=j.fr.defers;rw[l9 (λB hB=>by grind) Tb];trivial
   .have fq:cx 45 d5 s' (Mi ns.length Y.C) a4:=j.fr.le (db rfl (by simp));exact du.closed (s:=s') (s':={s' with β:=s'.β.set 2 ⟨.nilFunc,[Y.C]⟩}) rfl (fq.slot t) (n7 rfl)
   .rcases y L d with rfl|d
    .grind
    .exact U.β x f L d I
 .rintro g' s' ⟨a4,m,h4,hl4,hgo⟩;refine At.goes m g' s' h4 hl4 hgo λs1 h1=>?_;have h2:At (BK k ps ns C xs) so ((28,.any)::Mi ns.length C) (F7 k ps ns C) (a4.put (aa 28) (.tuple #[])) s1:=⟨h1.fr.put (by decide) ak,h1.hh,h1.st⟩
  refine h2.ctl rfl (λw=>jr) λs2 h3=>?_;refine WM s2 _ (h3.fr.le (db rfl (by simp))) h3.hh b kk cs S hb Pn λe φ' σ' s' a' q f' h' rB=>hQ e φ' σ' s' a' q f' h' (h3.st.trans rB)
end
end
abbrev Z5(a:List Bs)(b:Bool):D:=.fD [.one (.c (.sl af 1 a.length (cS.fn a))),.one (.c (.bool b))]
def dN(k:Int)(ps:List bG)(ns:List Int):Option (List Bs):=if ns.all (λn=>(dg k ps n).isSome)then aa (ns.map λn=>(dg k ps n).getD [])else ae
noncomputable def cR0:Code:=yh F5
noncomputable def cR1:Code:=yh (lE F5)
noncomputable def cR2:Code:=yh (lE (lE F5))
def P3:Tryz.f92.body=aa (.seq cR0 (.seq cR1 (.seq cR2 ZZ))):=by kernel_rfl
def TV(k:Int)(ps:List bG)(ns:List Int)(i:Nat):List AM.C:=[.str ((dg k ps (ns.getD i 0)).getD []),.bool (dg k ps (ns.getD i 0)).isSome]
def vU(k:Int)(ps:List bG)(ns:List Int):List Bs:=ns.map λn=>(dg k ps n).getD []
theorem DG{b p:Bs}(h:eK b=aa p):p.length<=8:=by
 unfold eK at h;split at h
 .rename_i a;cases h;simp only[bM,bA,a9]at a;omega
 grind
theorem Ja{x:br}{p:Bs}(h:chunk k x=aa p):p.length<=8:=by unfold chunk at h;grind[DG]
theorem zT{ps:List bG}{n:Int}:((dg k ps n).getD []).length<=8:=by
 cases h:dg k ps n with
 |none=>simp
 |some p =>
  obtain⟨q,_,a⟩:=List.exists_of_findSome?_eq_some h;unfold ee at a;grind[Ja]
theorem TX{ps:List bG}{ns:List Int}(hi:i<ns.length){c:AM.C}{x:ai}(a:(TV k ps ns i)[j]?=aa c)(d:(mK k ps ns)[i*2+j]?=aa x):Rd M x c:=by
 have b:j<2:=(bX.1 a).1;have:=BL (k:=k) (ps:=ps) hi b;rw[Nat.mul_comm,this]at d;cases d
 match j,b with
 |0,_ =>
  cases a;have:=zT (k:=k) (ps:=ps) (n:=ns.getD i 0);exact .str rfl (by omega)
 |1,_=>cases a;exact .bool
def _root_.Go.AM.lA.le{P:aJ}{X:Cx P}{N:Nat}{Q:Post}{φ φ':Fr}{σ:List bg}{c:Code}(h:lA X N c Q φ' σ)(hl:oO φ φ'):lA X N c Q φ σ:=λs a f hh=>h s a (f.le hl) hh
def Dz(f:eh (Cx.work ag) 141 (mH k))(ps:List bG)(ns:List Int)(p:ns.length<=4000000):
  Ev (Cx.beside ag) 92 [dI k,cP.sl ps,cI.sl ns] [] (Z5 ((dN k ps ns).getD []) (dN k ps ns).isSome) []:=by
 refine ek.E9 (ek.Fx (ι:=Unit) Tryz.func92 rfl P3 rfl λt=>?_);show lA _ 45 _ _ _ _;refine lA.seq (AW.top (AK.of_code ?_));refine bu rfl ak ?_;show lA _ 45 _ _ _ _;refine lA.seq (AW.top (AK.of_code ?_));refine bu rfl ak ?_;refine AK.Ko (E:=214) (n:=ns.length) tok rfl rfl rfl rfl rfl rfl (by show _*24<=_;omega) (by omega) rfl rfl λC xs=>?_;refine bu rfl ak ?_;show lA _ 45 _ _ _ _;refine lA.seq (AW.top (AK.of_code ?_));refine bu rfl ak ?_;show lA _ 45 _ _ _ _;have a:lA (Cx.beside ag) 45 rM (λe φ σ1=>∃_:Unit,cz Tryz.f92 0 (Z5 ((dN k ps ns).getD []) (dN k ps ns).isSome) [] e φ σ1) (Mi ns.length C) (F7 k ps ns C):=by
  refine AW.top (AW.mono (Q:=cz Tryz.f92 0 (Z5 ((dN k ps ns).getD []) (dN k ps ns).isSome) []) (AK.of_code ?_) λ_ _ _ q=>⟨(),q⟩);refine bu rfl (show _<=_ by omega) ?_;refine AK.wY 29 2 (bf:=.row C ns.length) (n:=ns.length) (k:=2) (TV k ps ns) rfl rfl (λi hi=>⟨rfl,λM j c x u s=>?_⟩) ?_
  .grind [TX]
  refine AK.iW 12 9 1 rfl rfl ?_;refine AK.cJ 6 (λi=>i<=ns.length/\∀j,j<i->(dg k ps (ns.getD j 0)).isSome=ab) (λi:Nat=>[(29,.e (.one (.c (.sl af 2 ns.length (TV k ps ns))))),(30,dI ns.length),(31,dI i),(12,.e (.one (.vec 5 1 (vU k ps (ns.take i)).length (cS.fn (vU k ps (ns.take i))))))]) (λi=>[.dead,.dead,.dead,.dead,.dead,.vec 9 1 (vU k ps (ns.take i)).length (cS.fn (vU k ps (ns.take i)))]) (λi=>ns.length-i) 0 rfl ?_ rfl ?_ rfl ⟨by omega,by omega⟩ ?_
  .simp[cE,vU]
  .simp[cE,vU]
  rintro i ⟨hi,o⟩;by_cases h:i<ns.length
  .cases m:(dg k ps (ns.getD i 0)).isSome with
   |true =>
    have d:vU k ps (ns.take (i+1))=vU k ps (ns.take i)++[(dg k ps (ns.getD i 0)).getD []]:=by unfold vU;grind[List.take_add_one]
    have r:(vU k ps (ns.take i)).length<=4000000:=by simp[vU];omega
    refine bO [(32,ab),(37,af)] rfl ?_ (AK.aQ (i+1) rfl ?_ ?_ ?_ ?_)
    .simp[-aj,h,TV,m,bE];have:i9.bytes=16:=rfl;grind
    .rw[d];simp[-aj,TV];exact cS.cD _ _
    .rw[d];simp[-aj,TV];exact cS.cD _ _
    .grind
    .omega
   |false =>
    refine bO [(32,ab),(37,ab)] rfl ?_ (AK.fR (cz.zero rfl ?_))
    .simp[-aj,h,TV,m]
    .have g:dN k ps ns=ae:=by unfold dN;rw[aY];grind
     simp[g]
  .have l:i=ns.length:=by omega
   subst l;refine bO [(32,af)] rfl (by simp) (AK.leaveD rfl rfl ?_);refine dk rfl ak (AK.bC rfl ?_);have b:dN k ps ns=aa (vU k ps ns):=by
    unfold dN;rw[bo]
    .rfl
    grind[List.mem_iff_getElem]
   simp[b]
 exact lA.le (σ:=BK k ps ns C xs) (WL (xs:=xs) f p a) (db rfl (by simp))
end R1
end Go.AM
namespace Go.AM.R1
def kv(a:UInt8)(s:Bs):iZ (a::s)=if a=47 then 0 else if iZ s=-1 then -1 else iZ s+1:=by unfold iZ;grind[Lib.indexByte.eq_def]
def wN:iZ []=-1:=by unfold iZ;rw[Lib.indexByte.eq_def]
def Jj(s:Bs):ft s=dO s:=by
 by_cases i:s.length<=3
 .match s,i with
  |[],_=>simp[ft,dO,cK,jW,wN]
  |[a],_ =>
   by_cases d:a=47
   .subst d;simp[ft,dO,cK,jW,nn,kJ,kv,mL,cU]
   .simp[ft,dO,cK,jW,kJ,kv,wN,d,mL,cU]
  |[a,b],_ =>
   by_cases d:a=47
   .subst d;simp[ft,dO,cK,jW,nn,kJ,kv]
   .by_cases e:b=47
    .subst e;simp[ft,dO,cK,jW,nn,kJ,kv,d]
    .simp[ft,dO,cK,jW,kJ,kv,wN,d,e]
  |[a,b,c],_ =>
   by_cases d:a=47
   .subst d;simp[ft,dO,cK,jW,nn,kJ,kv,mL,cU]
   .by_cases e:b=47
    .subst e;simp[ft,dO,cK,jW,nn,kJ,kv,d,mL,cU]
    .have f:¬(b.toNat:Int)=47:=by intro h;apply e;apply oH.1;grind
     by_cases g:c=47
     .subst g;simp[ft,dO,cK,jW,nn,kJ,kv,d,e,mL,cU]
     .simp[ft,dO,cK,jW,kJ,kv,wN,d,e,g,f,mL,cU]
  |_::_::_::_::_,h=>grind
 .have j:dO s=af:=by unfold dO;grind
  grind[vv]
end Go.AM.R1
namespace Go.AM
theorem tK(a:Bs):bq a []=af:=by rw[Op.bytesLess.eq_def]
def yC(b:UInt8)(l:Bs):bq [] (b::l)=ab:=by rw[Op.bytesLess.eq_def]
theorem tL(a b:UInt8)(x y:Bs):bq (a::x) (b::y)=(decide (a<b)||a==b&&bq x y):=by rw[Op.bytesLess.eq_def]
theorem rn:∀a:Bs,bq a a=af
 |[]=>tK []
 |a::l=>by rw[tL,rn l];simp
def D1:∀a b:Bs,bq a b=ab∨a=b∨bq b a=ab
 |[],[]=>.inr (.inl rfl)
 |[],b::y=>.inl (yC b y)
 |a::x,[]=>.inr (.inr (yC a x))
 |a::x,b::y=>by
  rw[tL,tL];rcases D1 x y with h|h|h
  .grind
  .grind
  grind
theorem yD:∀{a b c:Bs},bq a b=ab->bq b c=ab->bq a c=ab
 |a,b,[],_,d=>by grind[tK]
 |a,[],c::z,e,_=>by grind[tK]
 |[],b::y,c::z,_,_=>yC c z
 |a::x,b::y,c::z,e,d=>by
  rw[tL,j3,bM,a9,gw]at e d⊢;rcases e with e|⟨rfl,e⟩
  .grind
  .rcases d with d|⟨rfl,d⟩
   .grind
   .exact .inr ⟨rfl,yD e d⟩
theorem D2{a b:Bs}(h:bq a b=ab):bq b a=af:=by grind[yD,rn]
def Ub{a b:Bs}:(!(bq b a||b==a))=bq a b:=by
 rcases D1 a b with h|h|h
 .have c:(b==a)=af:=by simp only[eF,dz];grind[rn]
  grind[D2]
 .grind [rn]
 grind[D2]
namespace R1
def W9{t:List bw}{i:Nat}(h:∀k,0<k->k<=i->bq (fG t (k-1)) (fG t k)=ab):∀j,j<i->bq (fG t j) (fG t i)=ab:=by
 intro j f;induction i with
 |zero=>omega
 |succ i d =>
  have c:=h (i+1) (by omega) (bh _);simp only[qD]at c;by_cases e:j=i
  .grind
  .exact yD (d (λk a b=>h k a (by omega)) (by omega)) c
def vA{s:Bs}(h:dO s=ab):(∃a,s=[a])∨∃a b,s=[a,47,b]:=by
 unfold dO at h;split at h
 .rename_i d
  match s,d with
  |[a],_=>grind
 .split at h
  .rename_i d
   match s,d with
   |[a,b,c],_ =>
    right;simp[mL,cU]at h;have e:b=47:=by apply oH.1;grind
    grind
  grind
theorem D3{p q:Bs}(i:dO p=ab)(f:dO q=ab)(g:bq p q=ab):clash p q=under q p:=by
 rcases vA i with⟨a,rfl⟩|⟨a,b,rfl⟩<;>rcases vA f with⟨c,rfl⟩|⟨c,d,rfl⟩
 .simp[clash,under,lR]
 .by_cases e:a=c
  .subst e;simp[clash,under,lR,cU]
  .have:¬(a.toNat:Int)=c.toNat:=λh=>e (oH.1 (by omega));have k:((a.toNat:Int)==(c.toNat:Int))=af:=by grind
   have j:(c==a)=af:=by grind
   simp[clash,under,lR,cU];grind
 .have:¬(a.toNat:Int)=c.toNat:=by grind[UInt8.toNat_inj,tL,tK]
  simp[clash,under,lR,cU,this]
 .simp[clash,under,lR]
theorem Ae{t:List bw}{i:Nat}(a:∀j,j<i->g6 t j=ab):jE t i=g6 t i:=by
 unfold jE g6;rw[Jj,Ub];cases l:dO (fG t i)with
 |false=>simp
 |true =>
  cases d:ez (uc t i)with
  |false=>simp
  |true =>
   cases f:(i==0||bq (fG t (i-1)) (fG t i))with
   |false=>simp
   |true =>
    simp only[fP];have g:∀j,j<i->bq (fG t j) (fG t i)=ab:=by
     apply W9;intro k hk hki;by_cases e:k=i
     .grind
     .have:=a k (by omega);simp only[g6,bM,j3,gw]at this;grind
    rw[qL,dy,dy];have h:∀j,j<i->clash (fG t j) (fG t i)=under (fG t i) (fG t j):=by
     intro j b;have c:dO (fG t j)=ab:=by have:=a j b;simp only[g6,bM]at this;exact this.1.1.1
     grind[D3]
    grind
def iu(t:List bw):nq t=cA t:=by
 unfold nq cA;congr 1;rw[qL,dy,dy];constructor
 .intro h i;induction i using Nat.strongRecOn with
  |_ i a=>grind[Ae]
 grind[Ae]
end R1
end Go.AM
namespace Go.AM
variable {n:Nat}{k:Int}{l b i j:Nat}{E:av}{H:ai->(Nat->Option Obj)->Prop}{L:Array Bool}{M:Mem}{N:Nat}{P:aJ}{S:ar->St->Prop}{c:Code}{g:ar}{o:aC}{s:St}{t:av}{v:ai}{w:ay}{x y:aB}{α:Type}{η:aB->D}{ι:Type}{σ:List bg}{φ:Fr}{all:List aC}{jU:Array av}{cap:List C}{cv:List D}{cs:List aX}{ds:List (Nat×Bool)}{es:Nat->List C}{fo:aB}{ks:List Nat}{obs:List Prop}{off:Nat}{op:BinOp}{ops:Array aC}{ps:List Prop}{rest:List aC}{s':St}{ty:av}{val:Nat->Nat->ai}{vs:List ai}{w':ay}{xs:Array aB}{σ' σs:List bg}{res:ι->D}{σ1:ι->List bg}
variable {CT:List (Nat×dJ)}{K:List It}{Qf:Post}{T:List (Nat×TI)}{ie:TI}
namespace R1
section
variable {X:Cx ag}
def fileOf(k:Int)(ps:List bG)(x:jD):Option bw:=match dN k ps x.2 with
 |none=>ae
 |some l=>match fW l with
  |none=>ae
  |some t=>aa (x.1,t)
def dc(k:Int)(ps:List bG)(l:List jD):List bw:=l.map λx=>(fileOf k ps x).getD ([],[])
def cd(k:Int)(s:ff)(ps:List bG):Option (List bw) :=
 if b5 k&&s.2.all (λx=>(fileOf k ps x).isSome)&&cA (dc k ps s.2)then aa (dc k ps s.2)else ae
abbrev PX(a:List bw)(b:Bool):D:=.fD [.one (.c (.sl af 2 a.length (cF.fn a))),.one (.c (.bool b))]
abbrev Ox(s:ff):D:=.e (.agg [.c (.int .i64 s.1),.c (.sl af 2 s.2.length (cL.fn s.2))])
theorem qj{ps:List bG}{l:List jD}(h:i<l.length):dc k ps (l.take (i+1))=dc k ps (l.take i)++[(fileOf k ps (l.getD i ([],[]))).getD ([],[])]:=by unfold dc;grind[List.take_add_one]
def qk{ps:List bG}{s:ff}(h:i<s.2.length)(a:fileOf k ps (s.2.getD i ([],[]))=ae):cd k s ps=ae:=by unfold cd;rw[aY];grind
def zl{ps:List bG}{ns:List Int}{l:List Bs}(h:dN k ps ns=aa l)(a:ns.length<=4000000):l.flatten.length<=140737488355328/\l.length<=4000000:=by
 unfold dN at h;split at h
 .rename_i b;cases h;refine⟨?_,by grind⟩;have key:∀ns:List Int,(ns.all λn=>(dg k ps n).isSome)=ab->(ns.map λn=>(dg k ps n).getD []).flatten.length<=8*ns.length:=by
   intro ns;induction ns with
   |nil=>grind
   |cons n ns ih =>
    intro h;simp only[List.all_cons,bM]at h;grind[zT]
  grind
 grind
def Dy(k:Int)(s:ff)(ps:List bG)(I:s.2.length<=4000000)(D:∀x∈s.2,x.2.length<=4000000):
  Ev (Cx.beside ag) 45 [dI k,Ox s,cP.sl ps] [] (PX ((cd k s ps).getD []) (cd k s ps).isSome) []:=by
 refine Ev.bQ Tryz.func45 rfl λE=>?_;have z:=E.sl 2 rfl;have b:bH (Cx.beside ag) [(32,kD aI (λk=>dB (b5 k)) λ_=>[])]:=.cons t32 .nil;cases hk:b5 k with
 |false =>
  refine aU b [(15,af),(16,ab)] rfl ?_ (AK.bC rfl ?_)
  .simp[hk]
  .simp[cd,hk]
 |true =>
  have n:eh (Cx.work ag) 141 (mH k):=TJ PK hk;refine aU b [(15,ab),(16,af),(1000004,ab)] rfl ?_ ?_
  .simp[hk]
  refine AK.iW 8 50 2 rfl rfl ?_;refine ck b rfl ak ?_;refine AK.cJ 2 (λi=>i<=s.2.length/\∀j,j<i->(fileOf k ps (s.2.getD j ([],[]))).isSome=ab) (λi:Nat=>[(0,dI k),(2,cP.sl ps),(4,.e (.one (.ptr 0 0))),(8,.e (.one (.vec 1 2 (dc k ps (s.2.take i)).length (cF.fn (dc k ps (s.2.take i)))))),(18,cL.sl s.2),(19,dI s.2.length),(20,dI i)]) (λi=>[.cells 73 [.c (.int .i64 s.1),.c (.sl af 2 s.2.length (cL.fn s.2))],.vec 50 2 (dc k ps (s.2.take i)).length (cF.fn (dc k ps (s.2.take i)))]) (λi=>s.2.length-i) 0 rfl ?_ rfl ?_ rfl ⟨by omega,by omega⟩ ?_
  .simp[dc]
  .simp[dc]
  rintro i ⟨hi,A⟩;by_cases h:i<s.2.length
  .have q:s.2.getD i ([],[])∈s.2:=by grind
   generalize f:s.2.getD i ([],[])=x at q;have g:=D x q;have d:=Dz n ps x.2 g;cases a:dN k ps x.2 with
   |none =>
    rw[a]at d;refine aU b [(21,ab)] rfl ?_ ?_
    .exact⟨by omega,by omega,de (by omega)⟩
    refine AK.cQ (f▸d) [] rfl ?_;refine aU b [(33,ab)] rfl ?_ (AK.fR (cz.zero rfl ?_))
    .simp
    .have e:fileOf k ps x=ae:=by simp[fileOf,a]
     rw[qk h (by grind)];simp
   |some l =>
    obtain⟨o,B⟩:=zl a g;rw[a]at d;have r:=F3 (X:=Cx.beside ag) l o;refine aU b [(21,ab)] rfl ?_ ?_
    .exact⟨by omega,by omega,de (by omega)⟩
    refine AK.cQ (f▸d) [] rfl ?_;refine aU b [(33,af)] rfl ?_ ?_
    .simp
    refine AK.cQ r [] rfl ?_;cases u:fW l with
    |none =>
     refine aU b [(40,ab)] rfl ?_ (AK.fR (cz.zero rfl ?_))
     .simp
     .have e:fileOf k ps x=ae:=by simp[fileOf,a,u]
      rw[qk h (by grind)];simp
    |some t =>
     have e:fileOf k ps x=aa (x.1,t):=by simp[fileOf,a,u]
     have F:s.2.getD (i:Int).toNat cL.b8=x:=f;have G:(dc k ps (s.2.take i)).length<=4000000:=by simp[dc];omega
     have v:cE ((dc k ps (s.2.take i)).length+1) (cM (dc k ps (s.2.take i)).length (cF.fn (dc k ps (s.2.take i))) λp=>[[C.str (s.2.getD (i:Int).toNat cL.b8).1,C.str ((aa t).getD [])]].getD p []) (cF.fn (dc k ps (s.2.take (i+1)))):=by rw[qj h,f,e,F];exact cF.cD (dc k ps (s.2.take i)) (x.1,t)
     have y:(dc k ps (s.2.take i)).length+1=(dc k ps (s.2.take (i+1))).length:=by grind[qj]
     refine aU b [(40,af)] rfl ?_ (AK.aQ (i+1) rfl ?_ ?_ ?_ ?_)
     .refine⟨by simp only[bE];omega,rfl,rfl,?_,rfl⟩;show _*32<=_;omega
     .refine au.cat.2 ⟨rfl,au.cat.2 ⟨⟨rfl,cE.same⟩,au.cat.2 ⟨ak,au.cat.2 ⟨⟨y,v⟩,au.cat.2 ⟨⟨rfl,cE.same⟩,au.cat.2 ⟨rfl,au.cat.2 ⟨?_,ak⟩⟩⟩⟩⟩⟩⟩;simp
     .exact au.cat.2 ⟨au.cat.2 ⟨rfl,au.cat.2 ⟨⟨rfl,cE.same⟩,ak⟩⟩,au.cat.2 ⟨⟨y,v⟩,ak⟩⟩
     .grind
     .omega
  .have e:i=s.2.length:=by omega
   subst e;refine aU b [(21,af)] rfl (by simp) (AK.leaveD rfl rfl ?_);rw[dt];have m:=ye (X:=Cx.beside ag) (dc k ps s.2);rw[iu]at m;refine ck b rfl ak ?_;refine AK.cQ m [] rfl ?_;have H:s.2.all (λx=>(fileOf k ps x).isSome)=ab:=bz.2 λx q=>by grind[List.mem_iff_getElem]
   cases w:cA (dc k ps s.2)with
   |false =>
    refine aU b [(51,ab)] rfl ?_ (AK.bC rfl ?_)
    .simp
    .simp[cd,w]
   |true =>
    refine aU b [(51,af)] rfl ?_ (AK.bC rfl ?_)
    .simp
    .simp[cd,w,hk,H]
abbrev bd:=List bG×List ff×List (Int×Int)
def mJ(s:bd):Prop:=∀x∈s.2.1,x.2.length<=4000000/\∀y∈x.2,y.2.length<=4000000
abbrev oY(s:bd):D:=.e (.agg [.c (.sl af 2 s.1.length (cP.fn s.1)),.c (.sl af 2 s.2.1.length (eX.fn s.2.1)),.c (.sl af 2 s.2.2.length (cH.fn s.2.2))])
def gj(k:Int)(s:bd)(no:Int):Option (List bw):=match s.2.1.find? (λx=>x.1==no)with
 |none=>ae
 |some x=>cd k x s.1
def uI:dJ:=FV aI (FZ cL) (aL cP) (λk s ps=>PX ((cd k s ps).getD []) (cd k s ps).isSome) λ_ s _=>[s.2.length<=4000000,∀x∈s.2,x.2.length<=4000000]
def zU:eh (Cx.beside ag) 45 uI:=.LU λk s ps h=>Dy k s ps h.1 h.2
def BG(k:Int)(s:bd)(no:Int)(h:mJ s):
  Ev (Cx.beside ag) 13 [dI k,oY s,dI no] [] (PX ((gj k s no).getD []) (gj k s no).isSome) []:=by
 refine Ev.bQ Tryz.func13 rfl λl=>?_;have b:bH (Cx.beside ag) [(43,ZS),(45,uI)]:=.cons t43 (.cons zU .nil);have f:eX.list s.2.1.length (eX.fn s.2.1)=s.2.1:=eX.list_fn _;refine aU b [(1000001,ab)] rfl ak ?_;refine AK.freeze 5 1 rfl rfl rfl ?_;rcases Du s.2.1 no with⟨c,a⟩|⟨i,hi,c,a⟩
 .refine aU b [(14,ab)] rfl ?_ (AK.bC rfl ?_)
  .simp only[au,f,c];exact⟨rfl,eX.aK _⟩
  .simp[gj,a]
 .have g:s.2.1.getD i (0,[])∈s.2.1:=by grind
  obtain⟨j,q2⟩:=h _ g;have e:gj k s no=cd k (s.2.1.getD i (0,[])) s.1:=by simp only[gj,a]
  have d:s.2.1.getD (rL (eX.list s.2.1.length (eX.fn s.2.1)) no).toNat eX.b8=s.2.1.getD i (0,[]):=by grind
  refine aU b [(14,af)] rfl ?_ (AK.bC rfl ?_)
  .simp only[au,d,cL.list_fn,f,c];exact⟨cL.aK _,cP.aK _,j,q2,by omega,by omega,iM (by omega),eX.aK _⟩
  .simp only[d,cL.list_fn,cP.list_fn,e];exact au.cat.2 ⟨⟨ak,cE.same⟩,au.cat.2 ⟨ak,ak⟩⟩
def RM:Arg bd:=⟨oY,λd=>match d with
 |.e (.agg [.c a,.c b,.c c])=>match kH 2 (.e (.one (.c a)))with
  |some (l,g)=>match kH 2 (.e (.one (.c b)))with
   |some (m,j)=>match kH 2 (.e (.one (.c c)))with
    |some (i,n)=>aa ((cP.list l g,eX.list m j,cH.list i n),[cP.fits l g,eX.fits m j,cH.fits i n])
    |none=>ae
   |none=>ae
  |none=>ae
 |_=>ae,λ{d a o} h k σ s v r=>by
 split at h
 .split at h
  .rename_i l g u;split at h
   .rename_i m j p;split at h
    .rename_i i n t;cases h;obtain⟨vs,w,f⟩:=r
     match vs,f with
     |[],f=>exact f.elim
     |[_],f=>exact f.2.elim
     |[_,_],f=>exact f.2.2.elim
     |_::_::_::_::_,f=>exact f.2.2.2.elim
     |[x,y,q],f =>
      exact⟨_,w,cP.jS (σ:=[]) (s:=s) (v:=x) u k.1 f.1,eX.jS (σ:=[]) (s:=s) (v:=y) p k.2.1 f.2.1,cH.jS (σ:=[]) (s:=s) (v:=q) t k.2.2 f.2.2.1,ak⟩
    grind
   grind
  grind
 grind⟩
def ss:dJ:=FV aI RM aI (λk s n=>PX ((gj k s n).getD []) (gj k s n).isSome) λ_ s _=>[mJ s]
def yf:eh (Cx.beside ag) 13 ss:=.LU λk s n h=>BG k s n h
abbrev ij(p:bG)(i:Nat):br:=p.2.getD i (0,[])
def jg(k:Int)(p:bG)(i:Nat):Bool:=right k (ij p i)&&(i==0||decide ((ij p (i-1)).1<(ij p i).1))
theorem uJ(k:Int)(p:bG):gB k p=((bc p.2.length).all (jg k p)&&(b5 k&&decide (1<=p.1)&&decide (p.1<=99)&&decide (1<=p.2.length)&&decide (p.2.length<=4))):=by
 have e:(p.2.all (right k)&&BH (p.2.map (·.1)))=(bc p.2.length).all (jg k p):=by
  rw[qL,bM,bz,bz];unfold BH;rw[bz];have c:∀i,i<p.2.length->(p.2.map (·.1)).getD i 0=(ij p i).1:=λi hi=>by grind
  constructor
  .rintro⟨d,a⟩ i hi;have hi:=mW.1 hi;have q:=a i (by grind);rw[c i hi]at q;unfold jg;rw[d (ij p i) (by grind),fP];rcases ny i with rfl|f
   .rfl
   grind
  .intro h;refine⟨λx b=>?_,λi hi=>?_⟩
   .obtain⟨i,hi,rfl⟩:=oy.1 b;have:=h i (mW.2 hi);simp only[jg,bM]at this;grind
   .have hi:i<p.2.length:=by grind
    have:=h i (mW.2 hi);simp only[jg,bM]at this;grind
 rw[<-e];unfold gB;cases b5 k<;>cases decide (1<=p.1)<;>cases decide (p.1<=99)<;>cases decide (1<=p.2.length)<;>cases decide (p.2.length<=4)<;>simp
def zV{p:bG}(hi:i<p.2.length)(h:jg k p i=af):gB k p=af:=by grind[uJ]
theorem su{x:br}(hk:b5 k=ab):(chunk k x).isSome=right k x:=by unfold chunk right;grind
def I7(k:Int)(p:bG)(hk:b5 k=ab)(v:p.2.length<=4000000):Ev X 94 [dI k,LY p] [] (dB (gB k p)) []:=by
 refine Ev.bQ Tryz.func94 rfl λw=>?_;have a:bH X [(32,kD aI (λk=>dB (b5 k)) λ_=>[]),(145,pv U7 aI (λx k=>BD (chunk k x)) λ_ k=>[b5 k=ab])]:=.cons t32 (.cons (LW PK) .nil);refine ck a rfl ak ?_;refine AK.cJ 1 (λi=>i<=p.2.length/\∀j,j<i->jg k p j=ab) (λi:Nat=>[(0,dI k),(3,.e (.one (.ptr 0 0))),(10,ei.sl p.2),(11,dI p.2.length),(12,dI i)]) (λ_=>[.cells 46 [.c (.int .i64 p.1),.c (sP p)]]) (λi=>p.2.length-i) 0 rfl ?_ rfl ?_ rfl ⟨by omega,by omega⟩ ?_
 .simp
 .simp
 rintro i ⟨hi,g⟩;by_cases h:i<p.2.length
 .cases l:right k (ij p i)with
  |false =>
   have o:(chunk k (ij p i)).isSome=af:=by grind[su]
   refine aU a [(13,ab),(24,ab),(40,ab)] rfl ?_ (AK.fR (cz.zero rfl ?_))
   .refine⟨rfl,?_,hk,by omega,by omega,de (by omega)⟩;grind
   .rw[zV h (by simp only[jg,l,sT])];simp
  |true =>
   have o:(!(chunk k (ij p i)).isSome)=af:=by grind[su]
   by_cases u:i=0
   .subst u;refine aU a [(13,ab),(24,af),(27,af),(40,af)] rfl ?_ (AK.aQ 1 rfl ?_ ?_ ⟨by omega,λj f=>?_⟩ (by omega))
    .simp only[au,bE];grind
    .simp
    .simp
    .have:j=0:=by omega
     subst this;simp only[jg,l,fP];rfl
   .have r:((i:Int)-1).toNat=i-1:=by omega
    cases q:decide ((ij p (i-1)).1<(ij p i).1)with
    |false =>
     refine aU a [(13,ab),(24,af),(27,ab),(38,ab),(40,ab)] rfl ?_ (AK.fR (cz.zero rfl ?_))
     .have m:(p.2.getD ((i:Int)-1).toNat ei.b8).1=(ij p (i-1)).1:=by rw[r];rfl
      refine⟨rfl,de ?_,by omega,by omega,by simp only[bE];omega,de (by omega),o,hk,by omega,by omega,de (by omega)⟩;rw[m];show(ij p i).1<=_;grind
     .rw[zV h (by simp only[jg,l,q,fP,Bool.or_false];grind)];simp
    |true =>
     refine aU a [(13,ab),(24,af),(27,ab),(38,af),(40,af)] rfl ?_ (AK.aQ (i+1) rfl ?_ ?_ ⟨by omega,λj f=>?_⟩ (by omega))
     .have m:(p.2.getD ((i:Int)-1).toNat ei.b8).1=(ij p (i-1)).1:=by rw[r];rfl
      refine⟨by simp only[bE];omega,rfl,iM ?_,by omega,by omega,by simp only[bE];omega,de (by omega),o,hk,by omega,by omega,de (by omega)⟩;rw[m];show¬(ij p i).1<=_;grind
     .simp
     .simp
     .rcases wa.1 f with f|rfl
      .grind
      .simp only[jg,l,q,fP,Bool.or_true]
 .have e:i=p.2.length:=by omega
  subst e;refine aU a [(13,af)] rfl (by simp) (AK.leaveD rfl rfl ?_);have t:(bc p.2.length).all (jg k p)=ab:=bz.2 λj f=>g j (mW.1 f);rw[uJ,t,hk];by_cases b:1<=p.1
  .by_cases d:p.1<=99
   .by_cases n:1<=p.2.length
    .by_cases s:p.2.length<=4
     .refine aU a [(43,ab),(47,ab),(52,ab),(58,ab),(64,ab)] rfl ?_ (AK.bC rfl ?_)
      .exact⟨de (by omega),de (by omega),de d,de b,hk⟩
      .simp[b,d,n,s]
     .refine aU a [(43,ab),(47,ab),(52,ab),(58,ab),(64,af)] rfl ?_ (AK.bC rfl ?_)
      .exact⟨iM (by omega),de (by omega),de d,de b,hk⟩
      .simp[b,d,n,s]
    .refine aU a [(43,ab),(47,ab),(52,ab),(58,af)] rfl ?_ (AK.bC rfl ?_)
     .exact⟨iM (by omega),de d,de b,hk⟩
     .simp[b,d,n]
   .refine aU a [(43,ab),(47,ab),(52,af)] rfl ?_ (AK.bC rfl ?_)
    .exact⟨iM d,de b,hk⟩
    .simp[b,d]
  .refine aU a [(43,ab),(47,af)] rfl ?_ (AK.bC rfl ?_)
   .exact⟨iM b,hk⟩
   .simp[b]
def BI:dJ:=pv aI (FZ ei) (λk p=>dB (gB k p)) λk p=>[b5 k=ab,p.2.length<=4000000]
def HL:eh X 94 BI:=.sI λk p h=>I7 k p h.1 h.2
def zW(l:List (Int×Int))(f:l.length<=4000000):Ev X 83 [cH.sl l] [] (.e (.one (.bp 0 (.sl l.length 2 0 l.length)))) [.buf 52 2 l.length (cH.fn l)]:=by
 refine Ev.bQ Tryz.func83 rfl λd=>?_;refine bu rfl ak ?_;refine AK.Ht tok rfl rfl rfl rfl rfl rfl λb c=>?_;cases b with
 |true =>
  obtain rfl:=jF (c rfl);refine bu rfl ak ?_;refine AK.Wo 2 52 2 (cH.fn []) rfl ?_;refine AK.cX [0] rfl ?_ rfl rfl rfl (λj a=>absurd a (by simp));simp
 |false =>
  refine qi [] 7 rfl ak ?_;refine AK.Hs 5 52 2 (cH.fn []) rfl ?_;refine bu rfl ⟨rfl,rfl,show(0+l.length)*16<=_ by omega⟩ ?_;refine AK.norm [.buf 52 2 l.length (cH.fn l)] rfl ?_ ?_
  .simp[cE,cM]
  refine AK.cX [0] rfl ?_ rfl rfl rfl (λj a=>absurd a (by simp));simp;rfl
def F8(l:List (Int×Int))(d:l.length<=4000000):Ev X 83 [cH.sl l] [] (cH.sl l) []:=by
 refine Ev.bQ Tryz.func83 rfl λc=>?_;refine bu rfl ak ?_;refine AK.Ht tok rfl rfl rfl rfl rfl rfl λb a=>?_;cases b with
 |true =>
  obtain rfl:=jF (a rfl);refine bu rfl ak ?_;refine AK.bC rfl ?_;simp[cE]
 |false =>
  refine bu rfl ⟨show(0+l.length)*16<=_ by omega,.inl rfl⟩ ?_;refine AK.bC rfl ?_;simp[cE,cM]
def F9(l:List br)(d:l.length<=4000000):Ev X 132 [ei.sl l] [] (ei.sl l) []:=by
 refine Ev.bQ Tryz.func132 rfl λc=>?_;refine bu rfl ak ?_;refine AK.Ht tok rfl rfl rfl rfl rfl rfl λb a=>?_;cases b with
 |true =>
  obtain rfl:=jF (a rfl);refine bu rfl ak ?_;refine AK.bC rfl ?_;simp[cE]
 |false =>
  refine bu rfl ⟨show(0+l.length)*24<=_ by omega,.inl rfl⟩ ?_;refine AK.bC rfl ?_;simp[cE,cM]
def Ga(l:List Int)(d:l.length<=4000000):Ev X 133 [cI.sl l] [] (cI.sl l) []:=by
 refine Ev.bQ Tryz.func133 rfl λc=>?_;refine bu rfl ak ?_;refine AK.Ht tok rfl rfl rfl rfl rfl rfl λb a=>?_;cases b with
 |true =>
  obtain rfl:=jF (a rfl);refine bu rfl ak ?_;refine AK.bC rfl ?_;simp[cE]
 |false =>
  refine bu rfl ⟨show(0+l.length)*8<=_ by omega,.inl rfl⟩ ?_;refine AK.bC rfl ?_;simp[cE,cM]
def _root_.Go.AM.mS.ld(c:mS α)(l:List α)(h:i<l.length)(d:α):cE (i+1) (cM i (c.fn (l.take i)) (λq=>[c.enc (l.getD i d)].getD q [])) (c.fn (l.take (i+1))):=by
 have e:l.take (i+1)=l.take i++[l.getD i d]:=by grind[List.take_add_one]
 have:=c.cD (l.take i) (l.getD i d);grind
abbrev WR:dJ:=kD (aL ei) (λl=>ei.sl l) λl=>[l.length<=4000000]
def Z6:eh X 132 WR:=.pF λl h=>F9 l h
abbrev WT:dJ:=kD (aL cI) (λl=>cI.sl l) λl=>[l.length<=4000000]
def Z7:eh X 133 WT:=.pF λl h=>Ga l h
def BM(p:bG)(a:p.2.length<=4000000):Ev X 81 [LY p] [] (LY p) []:=by
 refine Ev.rK tok Tryz.func81 rfl rfl rfl λd=>?_;have c:bH X [(132,WR)]:=.cons Z6 .nil;refine ck c rfl ?_ ?_
 .simp only[au,ei.list_fn];exact⟨ei.aK _,a⟩
 refine AK.nc () [] rfl rfl rfl rfl rfl rfl rfl rfl ?_ rfl rfl rfl rfl (λj b=>absurd b (by simp));simp[ei.list_fn]
abbrev Mj:dJ:=kD (FZ ei) (λp=>LY p) λp=>[p.2.length<=4000000]
def RR:eh X 81 Mj:=.pF λp h=>BM p h
def BN(x:ff)(l:x.2.length<=4000000)(d:∀y∈x.2,y.2.length<=4000000):Ev X 82 [Ox x] [] (Ox x) []:=by
 refine Ev.rK tok Tryz.func82 rfl rfl rfl λk=>?_;have a:bH X [(133,WT)]:=.cons Z7 .nil;refine aU a [(1000002,ab)] rfl ak ?_;refine AK.iq 2 1 141 2 (cL.fn []) rfl rfl ?_;refine ck a rfl ak ?_;refine AK.cJ 4 (λi=>i<=x.2.length) (λi:Nat=>[(2,.e (.one (.ptr 1 0))),(3,.e (.one (.ptr 2 0))),(10,cL.sl x.2),(11,dI x.2.length),(12,dI i)])
  (λi=>[.cells 73 [.c (.int .i64 x.1),.c (.sl af 2 x.2.length (cL.fn x.2))],.cells 73 [.c (.int .i64 0),.c (.sl ab 0 0 λ_=>[])],.cells 73 [.c (.int .i64 x.1),.vec 3 2 i (cL.fn (x.2.take i))],.vec 141 2 i (cL.fn (x.2.take i))]) (λi=>x.2.length-i) 0 rfl ?_ rfl ?_ rfl (by omega) ?_
 .simp
 .simp[cE]
 intro i hi;by_cases h:i<x.2.length
 .have f:x.2.getD i ([],[])∈x.2:=by grind
  refine aU a [(13,ab)] rfl ?_ (AK.aQ (i+1) rfl ?_ ?_ ?_ ?_)
  .have q:=d _ f;have b:x.2.getD (i:Int).toNat cL.b8=x.2.getD i ([],[]):=by grind
   simp only[au,b,cI.list_fn,bE];exact⟨by omega,ak,ak,show(i+1)*40<=_ by omega,cI.aK _,q,by omega,by omega,de (by omega)⟩
  .simp
  .have b:x.2.getD (i:Int).toNat cL.b8=x.2.getD i ([],[]):=by grind
   have e:=cL.ld x.2 h ([],[]);simp only[au.cat,au,b,cI.list_fn,aD,aF];exact⟨cE.same,cE.same,e,e⟩
  .grind
  .omega
 .obtain rfl:i=x.2.length:=by omega
  refine aU a [(13,af)] rfl (by simp) (AK.leaveD rfl rfl ?_);refine ck a rfl ak ?_;refine AK.nc () [] rfl rfl rfl rfl rfl rfl rfl rfl ?_ rfl rfl rfl rfl (λj g=>absurd g (by simp));simp[cE]
abbrev Mk:dJ:=kD (FZ cL) (λx=>Ox x) λx=>[x.2.length<=4000000,∀y∈x.2,y.2.length<=4000000]
def RS:eh X 82 Mk:=.pF λx h=>BN x h.1 h.2
abbrev g8:A:=.c (.sl ab 0 0 λ_=>[])
def yj(s:bd)(o:s.1.length<=4000000)(g:∀p∈s.1,p.2.length<=4000000)(n:s.2.1.length<=4000000)(f:mJ s)(k:s.2.2.length<=4000000):
  Ev X 28 [oY s] [] (.e (.agg [.bp 0 (.sl s.1.length 2 0 s.1.length),.bp 1 (.sl s.2.1.length 2 0 s.2.1.length),.c (.sl af 2 s.2.2.length (cH.fn s.2.2))])) [.buf 46 2 s.1.length (cP.fn s.1),.buf 73 2 s.2.1.length (eX.fn s.2.1)]:=by
 refine Ev.rK tok Tryz.func28 rfl rfl rfl λm=>?_;have a:bH X [(81,Mj),(82,Mk)]:=.cons RR (.cons RS .nil);refine aU a [(1000002,ab)] rfl ak ?_;refine AK.tE 2 0 46 2 (cP.fn []) rfl rfl ?_;refine AK.tE 2 1 73 2 (eX.fn []) rfl rfl ?_;refine ck a rfl ak ?_;refine AK.cJ 5 (λi=>i<=s.1.length) (λi:Nat=>[(1,.e (.one (.ptr 0 0))),(2,.e (.one (.ptr 1 0))),(3,.e (.one (.ptr 2 0))),(9,cP.sl s.1),(10,dI s.1.length),(11,dI i)])
  (λi=>[.cells 27 [.c (.sl af 2 s.1.length (cP.fn s.1)),.c (.sl af 2 s.2.1.length (eX.fn s.2.1)),.c (.sl af 2 s.2.2.length (cH.fn s.2.2))],.cells 27 [g8,g8,g8],.cells 27 [.bp 3 (.sl i 2 0 i),.bp 4 (.sl 0 2 0 0),g8],.buf 46 2 i (cP.fn (s.1.take i)),.buf 73 2 0 (eX.fn [])]) (λi=>s.1.length-i) 0 rfl ?_ rfl ?_ rfl (by omega) ?_
 .simp
 .simp[cE]
 intro i hi;by_cases h:i<s.1.length
 .have d:s.1.getD i (0,[])∈s.1:=by grind
  have b:s.1.getD (i:Int).toNat cP.b8=s.1.getD i (0,[]):=by grind
  refine aU a [(12,ab)] rfl ?_ (AK.aQ (i+1) rfl ?_ ?_ ?_ ?_)
  .have q:=g _ d;simp only[au,b,ei.list_fn,bE];exact⟨by omega,ak,ak,show(i+1)*32<=_ by omega,ei.aK _,q,by omega,by omega,de (by omega)⟩
  .simp
  .have e:=cP.ld s.1 h (0,[]);simp only[au.cat,au,b,ei.list_fn,aD,aF];exact⟨⟨cE.same,cE.same,cE.same⟩,⟨cE.same,cE.same,cE.same⟩,⟨rfl,cE.same⟩,e,cE.same⟩
  .grind
  .omega
 obtain rfl:i=s.1.length:=by omega
 rw[dt];refine aU a [(12,af)] rfl (by simp) (AK.leaveD rfl rfl ?_);refine ck a rfl ak ?_;refine AK.cJ 5 (λi=>i<=s.2.1.length) (λi:Nat=>[(1,.e (.one (.ptr 0 0))),(2,.e (.one (.ptr 1 0))),(3,.e (.one (.ptr 2 0))),(24,eX.sl s.2.1),(25,dI s.2.1.length),(26,dI i)])
  (λi=>[.cells 27 [.c (.sl af 2 s.1.length (cP.fn s.1)),.c (.sl af 2 s.2.1.length (eX.fn s.2.1)),.c (.sl af 2 s.2.2.length (cH.fn s.2.2))],.cells 27 [g8,g8,g8],.cells 27 [.bp 3 (.sl s.1.length 2 0 s.1.length),.bp 4 (.sl i 2 0 i),g8],.buf 46 2 s.1.length (cP.fn s.1),.buf 73 2 i (eX.fn (s.2.1.take i))]) (λi=>s.2.1.length-i) 0 rfl ?_ rfl ?_ rfl (by omega) ?_
 .simp
 .simp[cE]
 intro i hi;by_cases h:i<s.2.1.length
 .have d:s.2.1.getD i (0,[])∈s.2.1:=by grind
  have b:s.2.1.getD (i:Int).toNat eX.b8=s.2.1.getD i (0,[]):=by grind
  refine aU a [(27,ab)] rfl ?_ (AK.aQ (i+1) rfl ?_ ?_ ?_ ?_)
  .have q:=f _ d;simp only[au,b,cL.list_fn,bE];exact⟨by omega,ak,ak,show(i+1)*32<=_ by omega,cL.aK _,q.1,q.2,by omega,by omega,de (by omega)⟩
  .simp
  .have e:=eX.ld s.2.1 h (0,[]);simp only[au.cat,au,b,cL.list_fn,aD,aF];exact⟨⟨cE.same,cE.same,cE.same⟩,⟨cE.same,cE.same,cE.same⟩,⟨rfl,cE.same⟩,cE.same,e⟩
  .grind
  .omega
 obtain rfl:i=s.2.1.length:=by omega
 rw[dt];refine aU a [(27,af)] rfl (by simp) (AK.leaveD rfl rfl ?_);refine ck a rfl ak ?_;refine AK.cQ (F8 s.2.2 k) [] rfl ?_;refine ck a rfl ak ?_;refine AK.nc () [3,4] rfl rfl rfl rfl rfl rfl rfl rfl ?_ rfl rfl rfl rfl (λj l=>absurd l (by simp))
 .simp
def yk(s:bd)(o:s.1.length<=4000000)(g:∀p∈s.1,p.2.length<=4000000)(n:s.2.1.length<=4000000)(f:mJ s)(k:s.2.2.length<=4000000):
  Ev X 28 [oY s] [] (.e (.agg [.bp 0 (.sl s.1.length 2 0 s.1.length),.bp 1 (.sl s.2.1.length 2 0 s.2.1.length),.bp 2 (.sl s.2.2.length 2 0 s.2.2.length)])) [.buf 46 2 s.1.length (cP.fn s.1),.buf 73 2 s.2.1.length (eX.fn s.2.1),.buf 52 2 s.2.2.length (cH.fn s.2.2)]:=by
 refine Ev.rK tok Tryz.func28 rfl rfl rfl λm=>?_;have a:bH X [(81,Mj),(82,Mk)]:=.cons RR (.cons RS .nil);refine aU a [(1000002,ab)] rfl ak ?_;refine AK.tE 2 0 46 2 (cP.fn []) rfl rfl ?_;refine AK.tE 2 1 73 2 (eX.fn []) rfl rfl ?_;refine ck a rfl ak ?_;refine AK.cJ 5 (λi=>i<=s.1.length) (λi:Nat=>[(1,.e (.one (.ptr 0 0))),(2,.e (.one (.ptr 1 0))),(3,.e (.one (.ptr 2 0))),(9,cP.sl s.1),(10,dI s.1.length),(11,dI i)])
  (λi=>[.cells 27 [.c (.sl af 2 s.1.length (cP.fn s.1)),.c (.sl af 2 s.2.1.length (eX.fn s.2.1)),.c (.sl af 2 s.2.2.length (cH.fn s.2.2))],.cells 27 [g8,g8,g8],.cells 27 [.bp 3 (.sl i 2 0 i),.bp 4 (.sl 0 2 0 0),g8],.buf 46 2 i (cP.fn (s.1.take i)),.buf 73 2 0 (eX.fn [])]) (λi=>s.1.length-i) 0 rfl ?_ rfl ?_ rfl (by omega) ?_
 .simp
 .simp[cE]
 intro i hi;by_cases h:i<s.1.length
 .have d:s.1.getD i (0,[])∈s.1:=by grind
  have b:s.1.getD (i:Int).toNat cP.b8=s.1.getD i (0,[]):=by grind
  refine aU a [(12,ab)] rfl ?_ (AK.aQ (i+1) rfl ?_ ?_ ?_ ?_)
  .have q:=g _ d;simp only[au,b,ei.list_fn,bE];exact⟨by omega,ak,ak,show(i+1)*32<=_ by omega,ei.aK _,q,by omega,by omega,de (by omega)⟩
  .simp
  .have e:=cP.ld s.1 h (0,[]);simp only[au.cat,au,b,ei.list_fn,aD,aF];exact⟨⟨cE.same,cE.same,cE.same⟩,⟨cE.same,cE.same,cE.same⟩,⟨rfl,cE.same⟩,e,cE.same⟩
  .grind
  .omega
 obtain rfl:i=s.1.length:=by omega
 rw[dt];refine aU a [(12,af)] rfl (by simp) (AK.leaveD rfl rfl ?_);refine ck a rfl ak ?_;refine AK.cJ 5 (λi=>i<=s.2.1.length) (λi:Nat=>[(1,.e (.one (.ptr 0 0))),(2,.e (.one (.ptr 1 0))),(3,.e (.one (.ptr 2 0))),(24,eX.sl s.2.1),(25,dI s.2.1.length),(26,dI i)])
  (λi=>[.cells 27 [.c (.sl af 2 s.1.length (cP.fn s.1)),.c (.sl af 2 s.2.1.length (eX.fn s.2.1)),.c (.sl af 2 s.2.2.length (cH.fn s.2.2))],.cells 27 [g8,g8,g8],.cells 27 [.bp 3 (.sl s.1.length 2 0 s.1.length),.bp 4 (.sl i 2 0 i),g8],.buf 46 2 s.1.length (cP.fn s.1),.buf 73 2 i (eX.fn (s.2.1.take i))]) (λi=>s.2.1.length-i) 0 rfl ?_ rfl ?_ rfl (by omega) ?_
 .simp
 .simp[cE]
 intro i hi;by_cases h:i<s.2.1.length
 .have d:s.2.1.getD i (0,[])∈s.2.1:=by grind
  have b:s.2.1.getD (i:Int).toNat eX.b8=s.2.1.getD i (0,[]):=by grind
  refine aU a [(27,ab)] rfl ?_ (AK.aQ (i+1) rfl ?_ ?_ ?_ ?_)
  .have q:=f _ d;simp only[au,b,cL.list_fn,bE];exact⟨by omega,ak,ak,show(i+1)*32<=_ by omega,cL.aK _,q.1,q.2,by omega,by omega,de (by omega)⟩
  .simp
  .have e:=eX.ld s.2.1 h (0,[]);simp only[au.cat,au,b,cL.list_fn,aD,aF];exact⟨⟨cE.same,cE.same,cE.same⟩,⟨cE.same,cE.same,cE.same⟩,⟨rfl,cE.same⟩,cE.same,e⟩
  .grind
  .omega
 obtain rfl:i=s.2.1.length:=by omega
 rw[dt];refine aU a [(27,af)] rfl (by simp) (AK.leaveD rfl rfl ?_);refine ck a rfl ak ?_;refine AK.cQ (zW s.2.2 k) [] rfl ?_;refine ck a rfl ak ?_;refine AK.nc () [3,4,5] rfl rfl rfl rfl rfl rfl rfl rfl ?_ rfl rfl rfl rfl (λj l=>absurd l (by simp))
 .simp
def W6(h:o.op=.call {callee:=.builtin .append,args:=#[x,y],argTypes:=#[44,44]}):lW ag o x y 82 i82 :=
 ⟨⟨44,44,i44,i44,h,(tok _ _ rfl),rfl,(tok _ _ rfl),rfl⟩,(tok _ _ rfl),by decide,by decide⟩
def HX(l:List br)(n:Nat):∀i,i<n->∀c∈ei.fn l i,vP c=ab:=by
 intro i _ c a;have:ei.fn l i=[.int .i64 (l.getD i ei.b8).1,.str (l.getD i ei.b8).2]:=rfl;rw[this]at a;rcases eb.1 a with rfl|a
 .rfl
 .rcases eb.1 a with rfl|a
  .rfl
  grind
abbrev Own(l:List br):Type:={q:nL×List ai // gE 2 l.length (ei.fn l) q.2}
abbrev Ji(l:List br)(q:Own l):bg:=.cj (gk 82 2 q.1.1 l.length q.1.2)
abbrev BU(l:List br)(q:Own l):C:=.val (lK q.1.1 l.length)
abbrev S3:Type:=Nat×nL×Nat×List ai
abbrev u3(x:S3):ai:=lK x.2.1 x.2.2.1
def BO(q:α->Bool)(l:List α):Int:=match l.findIdx? q with|some i=>i|none=>-1
def P4{q:α->Bool}{t:List α}{d:α}(hi:i<t.length)(h:q (t.getD i d)=ab)(a:∀j,j<i->q (t.getD j d)=af):BO q t=i:=by
 have:t.findIdx? q=aa i:=by grind[List.findIdx?_eq_some_iff_getElem]
 rw[BO,this]
def Jb{q:α->Bool}{t:List α}{d:α}(a:∀j,j<t.length->q (t.getD j d)=af):BO q t=-1:=by
 have:t.findIdx? q=ae:=by grind[List.getElem_of_mem]
 rw[BO,this]
def Gb{lo hi:Nat}{z:List C}(h:¬(lo<=j/\j<hi)):uo lo hi z es j=es j:=aY h
theorem bU{l:List α}(h:i<l.length)(d:α):l.take (i+1)=l.take i++[l.getD i d]:=by grind[List.take_add_one]
def _root_.Go.AM.mS.TY(c:mS α)(l:List α)(i:Nat)(x:α)(n:Nat)(a:n<=l.length):cE n (pW i (c.enc x) (c.fn l)) (c.fn (l.set i x)):=by intro q b;simp only[pW,mS.fn,BQ];grind
abbrev Z8:=Int×Int×Int×Bs
abbrev Va(cs:List C):D:=.e (.one (.c (.rp cs)))
abbrev HP(ps:List bG):C:=.sl af 2 ps.length (cP.fn ps)
abbrev Gc(a:List ff):C:=.sl af 2 a.length (eX.fn a)
abbrev DH(a:List (Int×Int)):C:=.sl af 2 a.length (cH.fn a)
def Oq(s:bd)(l:Z8)(n:Nat)(a:l.2.1=n)(h:n<=s.2.2.length):au (gb s.2.2.length (aa l.2.1) ae):=by show 0<=l.2.1/\l.2.1<=(s.2.2.length:Int);omega
def TZ(n lo hi:Int):Ev X 22 [dI n,dI lo,dI hi] [] (dB (decide (lo<=n/\n<=hi))) []:=by
 refine Ev.bQ Tryz.func22 rfl λc=>?_;by_cases b:lo<=n
 .by_cases a:n<=hi
  .refine aW [(10,ab),(14,ab)] rfl (by simp;omega) (AK.bC rfl ?_);simp[b,a]
  .refine aW [(10,ab),(14,af)] rfl (by simp;omega) (AK.bC rfl ?_);simp;omega
 .refine aW [(10,af),(14,af)] rfl (by simp;omega) (AK.bC rfl ?_);simp;omega
abbrev DI:dJ:=FV aI aI aI (λn lo hi=>dB (decide (lo<=n/\n<=hi))) λ_ _ _=>[]
def Gd:eh X 22 DI:=.LU λn lo hi _=>TZ n lo hi
def Jc(n:Nat)(e:n<=4000000):Ev X 154 [dI n] [] (dI (cR n)) []:=by
 refine Ev.bQ Tryz.func154 rfl λf=>?_;by_cases d:n<1
 .refine aW [(6,ab),(9,ab)] rfl (by simp;omega) (AK.bC rfl ?_);have:cR n=0:=by simp[cR,d]
  simp[this]
 by_cases c:8<n
 .refine aW [(6,af),(9,ab)] rfl (by simp;omega) (AK.bC rfl ?_);have:cR n=0:=by simp[cR,c]
  simp[this]
 by_cases a:n<=2
 .refine aW [(6,af),(9,af),(10,ab)] rfl (by simp;omega) (AK.bC rfl ?_);have:cR n=2:=by simp only[cR,aY (show¬(n<1∨8<n) by omega),bo a]
  simp[this]
 by_cases b:n<=4
 .refine aW [(6,af),(9,af),(10,af),(13,ab)] rfl (by simp;omega) (AK.bC rfl ?_);have:cR n=4:=by simp only[cR,aY (show¬(n<1∨8<n) by omega),aY a,bo b]
  simp[this]
 .refine aW [(6,af),(9,af),(10,af),(13,af)] rfl (by simp;omega) (AK.bC rfl ?_);have:cR n=8:=by simp only[cR,aY (show¬(n<1∨8<n) by omega),aY a,aY b]
  simp[this]
def P5(l:List Bs)(p:Bs)(f:l.length<=4000000):Ev X 113 [cS.sl l,dS p] [] (dB (l.contains p)) []:=by
 refine Ev.bQ Tryz.func113 rfl λc=>?_;refine bu rfl ak ?_;refine AK.cJ 0 (λi=>i<=l.length/\∀j,j<i->l.getD j []≠p) (λi:Nat=>[(0,cS.sl l),(1,dS p),(5,dI i)]) (λ_=>[]) (λi=>l.length-i) 0 rfl ?_ rfl ?_ rfl ⟨by omega,by omega⟩ ?_
 .simp
 .simp
 rintro i ⟨hi,b⟩;by_cases h:i<l.length
 .have a:l.getD (i:Int).toNat cS.b8=l.getD i []:=by grind
  by_cases e:l.getD i []=p
  .refine aW [(9,ab),(17,ab)] rfl ?_ (AK.fR (cz.zero rfl ?_))
   .simp only[au,a];grind
   .have:p∈l:=by grind
    simp[this]
  .refine aW [(9,ab),(17,af)] rfl ?_ (AK.aQ (i+1) rfl ?_ ?_ ?_ ?_)
   .simp only[au,a,bE];grind
   .simp
   .simp
   .grind
   .omega
 .refine aW [(9,af)] rfl (by simp;omega) (AK.leaveD rfl rfl ?_);refine bu rfl ak (AK.bC rfl ?_);have:¬p∈l:=λd=>by grind[List.getElem_of_mem]
  simp[this]
def Ml(p:Bs)(b:bA p=ab):Ev X 153 [dS p] [] (dI (codeOf p)) []:=by
 refine Ev.bQ Tryz.func153 rfl λg=>?_;have a:=b;simp only[bA,bM,a9]at a;refine bu rfl ak ?_;refine AK.cJ 0 (λi=>i<=p.length) (λi:Nat=>[(0,dS p),(3,dI (codeOf (p.take i))),(4,dI i)]) (λ_=>[]) (λi=>p.length-i) 0 rfl (by simp[codeOf]) rfl (by simp) rfl (by omega) ?_;intro i hi;by_cases h:i<p.length
 .have f:=kt b hi;have k:=kt b (i:=i+1) (by omega);have e:=vp h;have j:=hU a.2 (p.getD i 0) (x6 h);have d:97<=cU p i/\cU p i<=122:=by unfold cU;omega
  refine aW [(8,ab)] rfl ?_ (AK.aQ (i+1) rfl ?_ ?_ ?_ ?_)
  .simp only[au,cY,bE];grind
  .have c:(cU p i-97) % 256=cU p i-97:=Int.emod_eq_of_lt (by omega) (by omega);rw[c]at e;simp[-aj,cY,e]
  .simp
  .grind
  grind
 .obtain rfl:i=p.length:=by omega
  refine aW [(8,af)] rfl (by simp) (AK.leaveD rfl rfl ?_);exact bu rfl ak (AK.bC rfl)
def T1:eh X 153 (kD aS (λp=>dI (codeOf p)) λp=>[bA p=ab]):=.pF λp h=>Ml p h
def Mm(k:Int)(p:Bs)(hk:b5 k=ab)(e:bA p=ab):Ev X 112 [dI k,dS p] [] (dI (dC k p)) []:=by
 refine Ev.bQ Tryz.func112 rfl λg=>?_;have b:bH X [(153,kD aS (λp=>dI (codeOf p)) λp=>[bA p=ab])]:=.cons T1 .nil;have a:=hk;simp only[b5,bM,a9]at a;have c:=rj e;refine ck b rfl ?_ (AK.bC rfl ?_)
 .have f:0<=codeOf p*(2*k+1):=Int.mul_nonneg c.1 (by omega);have d:codeOf p*(2*k+1)<=282429536481*199:=Int.mul_le_mul (by omega) (by omega) (by omega) (by omega);generalize codeOf p*(2*k+1)=m at f d;simp only[au,bE];grind
 .show (_:Int)=_;rfl
def yl:eh X 112 (pv aI aS (λk p=>dI (dC k p)) λk p=>[b5 k=ab,bA p=ab]):=.sI λk p h=>Mm k p h.1 h.2
def Mn(l:List cm)(n:Int)(e:l.length<=4000000):Ev X 111 [pG.sl l,dI n] [] (dI (ku l n)) []:=by
 refine Ev.bQ Tryz.func111 rfl λc=>?_;refine bu rfl ak ?_;refine AK.cJ 0 (λi=>i<=l.length/\∀j,j<i->(l.getD j (0,0)).1≠n) (λi:Nat=>[(0,pG.sl l),(1,dI n),(5,dI i)]) (λ_=>[]) (λi=>l.length-i) 0 rfl ?_ rfl ?_ rfl ⟨by omega,by omega⟩ ?_
 .simp
 .simp
 rintro i ⟨hi,b⟩;by_cases h:i<l.length
 .have a:l.getD (i:Int).toNat pG.b8=l.getD i (0,0):=by grind
  by_cases d:(l.getD i (0,0)).1=n
  .refine aW [(9,ab),(18,ab)] rfl ?_ (AK.fR (cz.zero rfl ?_))
   .simp only[au,a];grind
   .have:ku l n=(l.getD i (0,0)).2:=by
     have:l.find? (λs=>s.1==n)=aa (l.getD i (0,0)):=by grind[List.find?_eq_some_iff_getElem]
     rw[ku,this]
    simp only[au,a];grind
  .refine aW [(9,ab),(18,af)] rfl ?_ (AK.aQ (i+1) rfl ?_ ?_ ?_ ?_)
   .simp only[au,a,bE];grind
   .simp
   .simp
   .grind
   .omega
 .refine aW [(9,af)] rfl (by simp;omega) (AK.leaveD rfl rfl ?_);refine bu rfl ak (AK.bC rfl ?_);have:ku l n=0:=by
   have:l.find? (λs=>s.1==n)=ae:=by grind[List.getElem_of_mem]
   rw[ku,this]
  simp[this]
theorem ym(a:1<=n)(b:n<=8):n<=cR n/\cR n<=8:=by unfold cR;grind
abbrev HQ:dJ:=kD aI (λn=>dI (cR n.toNat)) λn=>[0<=n/\n<=4000000]
def P6:eh X 154 HQ:=.pF λn h=>by
 obtain⟨m,rfl⟩:∃m:Nat,n=m:=⟨n.toNat,by have:=h.1;omega⟩
 exact Jc m (by have:=h.2;omega)
def P7(p:Bs)(c:bA p=ab):Ev X 117 [dS p] [] (dS (eZ p)) []:=by
 refine Ev.bQ Tryz.func117 rfl λf=>?_;have b:bH X [(154,HQ)]:=.cons P6 .nil;have a:=c;simp only[bA,bM,a9]at a;have d:=ym a.1.1 a.1.2;refine ck b rfl ?_ ?_
 .simp only[au];omega
 refine AK.cJ 0 (λj=>p.length+j<=cR p.length) (λj:Nat=>[(0,dS (p++List.replicate j 46)),(3,dI (cR p.length))]) (λ_=>[]) (λj=>cR p.length-j) 0 rfl (by simp) rfl (by simp) rfl (by omega) ?_;intro j g;by_cases h:p.length+j<cR p.length
 .refine aU b [(10,ab)] rfl ?_ (AK.aQ (j+1) rfl ?_ ?_ ?_ ?_)
  .simp;omega
  .simp[List.replicate_succ']
  .simp
  .grind
  grind
 .have e:cR p.length-p.length=j:=by omega
  refine aU b [(10,af)] rfl (by simp;omega) (AK.leaveD rfl rfl ?_);refine ck b rfl ak (AK.bC rfl ?_);simp[eZ,c,e]
def Mo(s:cm):Ev X 114 [.e (.agg [.c (.int .i64 s.1),.c (.int .i64 s.2)])] [] (dB (eB s)) []:=by
 refine Ev.bQ Tryz.func114 rfl λf=>?_;have d:bH X [(22,DI)]:=.cons Gd .nil;by_cases a:0<=s.1/\s.1<=999999999988
 .by_cases b:1<=s.2/\s.2<=99
  .refine aU d [(6,ab),(10,ab)] rfl (by simp[a,b]) (AK.bC rfl ?_);have:eB s=ab:=by simp[eB,a,b];omega
   simp[this]
  .refine aU d [(6,ab),(10,af)] rfl (by simp[a,b]<;>omega) (AK.bC rfl ?_);have:eB s=af:=by simp[eB,a];omega
   simp[this]
 .refine aU d [(6,af),(10,af)] rfl (by simp;omega) (AK.bC rfl ?_);have:eB s=af:=by simp[eB];omega
  simp[this]
abbrev Mp:dJ:=kD U8 (λs=>dB (eB s)) λ_=>[]
def T2:eh X 114 Mp:=.pF λs _=>Mo s
def MM{q:α->Bool}{l:List α}(h:l.any q=ab):0<=BO q l:=by unfold BO;grind
theorem MN{q:α->Bool}{l:List α}(h:l.any q=af):BO q l=-1:=by unfold BO;grind
def MO(l:List (Int×Int))(b:Nat)(q:Int×Int->Bool)(f:∀x,x∈l->Ev X b [.e (.agg [.c (.int .i64 x.1),.c (.int .i64 x.2)])] [] (dB (q x)) []):
  Ev X 148 [cH.sl l,.e (.one (.c (.fn (.func b) [] [])))] [] (dI (BO q l)) []:=by
 refine Ev.bQ Tryz.func148 rfl λk=>?_;have d:=k.sl 0 rfl;refine bu rfl ak ?_;refine AK.kq (λi=>i<=l.length/\∀j,j<i->q (l.getD j (0,0))=af) (λi:Nat=>[(0,cH.sl l),(1,.e (.one (.c (.fn (.func b) [] [])))),(7,dI l.length),(8,dI i)]) (λ_=>[]) (λi=>l.length-i) 0 rfl ?_ rfl ak ⟨by omega,by omega⟩ ?_
 .simp
 rintro i ⟨hi,a⟩;by_cases h:i<l.length
 .have g:l.getD i (0,0)∈l:=by grind
  have m:l.getD (i:Int).toNat cH.b8=l.getD i (0,0):=by grind
  refine aW [(9,ab)] rfl ?_ ?_
  .simp only[au];grind
  rw[m];refine AK.cQ (f _ g) [] rfl ?_;cases n:q (l.getD i (0,0))with
  |true =>
   refine aW [(16,ab)] rfl ?_ (AK.iC (cz.zero rfl ?_))
   .simp
   .simp[P4 h n a]
  |false =>
   refine aW [(16,af)] rfl ?_ (AK.gg (i+1) rfl ?_ rfl ak ?_ ?_)
   .simp[bE];omega
   .simp
   .grind
   .omega
 .refine aW [(9,af)] rfl (by simp;omega) (AK.leave rfl rfl ?_);refine bu rfl ak (AK.bC rfl ?_);simp[Jb (λj o=>a j (by omega))]
def MP(l:List (Int×Int))(a:Nat)(q:Int×Int->Bool)(b:∀x,x∈l->Ev X a [.e (.agg [.c (.int .i64 x.1),.c (.int .i64 x.2)])] [] (dB (q x)) []):
  Ev X 97 [cH.sl l,.e (.one (.c (.fn (.func a) [] [])))] [] (dB (l.any q)) []:=by
 refine Ev.bQ Tryz.func97 rfl λd=>?_;refine bu rfl ak ?_;refine AK.cQ (MO l a q b) [] rfl ?_;cases h:l.any q with
 |true =>
  exact aW [(8,ab)] rfl (de (MM h)) (AK.bC rfl)
 |false =>
  exact aW [(8,af)] rfl (iM (by grind[MN])) (AK.bC rfl)
end
abbrev B6(l:List bw):Prop:=l.Pairwise λa b=>bq a.1 b.1=ab
def yI{t:List bw}(h:cA t=ab):B6 t:=by simp only[cA,bM]at h;have a:=dy.1 h.1;rw[B6,jG];intro i j hi hj hij;rw[fileAt hi,fileAt hj];refine W9 (t:=t) (i:=j) (λk hk hkj=>?_) i hij;have:=a k (by omega);simp only[g6,bM,j3,gw]at this;grind
theorem lH{t:List bw}:cA t=ab↔(∀f∈t,dO f.1=ab/\ez f.2=ab)/\B6 t/\t.Pairwise (λa b=>clash a.1 b.1=af)/\t.length<=6:=by
 constructor
 .intro h;have k:=yI h;simp only[cA,bM,a9]at h;have c:=dy.1 h.1;refine⟨λf e=>?_,k,?_,h.2⟩
  .obtain⟨i,hi,rfl⟩:=dD e;have:=c i hi;simp only[g6,bM]at this;grind[fileAt]
  .rw[jG];intro i j hi hj hij;have:=c j hj;simp only[g6,bM]at this;grind[fileAt]
 .rintro⟨l,m,n,d⟩;simp only[cA,bM,a9];refine⟨dy.2 λi hi=>?_,d⟩;have g:=l _ (oC hi);rw[fileAt hi]at g;simp only[g6,bM,j3,gw];grind[List.pairwise_iff_getElem,fileAt]
def yJ{t:List bw}(q:bw->Bool)(h:cA t=ab):cA (t.filter q)=ab:=by grind[lH]
theorem M4{t:List bw}(p:Bs)(h:cA t=ab):cA (mN t p)=ab:=yJ _ h
def Gs{t:List bw}{p x:Bs}(h:(eD t p x).2=ab):cA (eD t p x).1=ab:=by unfold eD at h⊢;grind
end R1
def ek.le{X:Cx P}{f:aH}{args:List D}{a:ι->D}(h:ek X f args σ res σ1){ps:ι->List Prop}(b:∀i,ET (res i) (a i)=aa (ps i))(c:∀i,au (ps i)):ek X f args σ a σ1 :=
 ⟨h.1,λs vs hr hh S cs hS=>h.2 s vs hr hh S cs λi fr v s' hl mT jP st=>hS i fr v s' hl (oQ (b i) (c i) mT) jP st⟩
namespace R1
variable {X:Cx ag}
structure kI(s:bd):Prop where
 p:s.1.length<=4000000
 p2:∀p∈s.1,p.2.length<=4000000
 sn:s.2.1.length<=4000000
 s2:mJ s
 h:s.2.2.length<=4000000
end R1
def Tr.sz:Tr->Nat
 |.nil=>0
 |.nd l _ _ r=>l.sz+r.sz+1
namespace R1
variable {X:Cx ag}
def QO(t:Tr)(n:Int):Ev X 36 [.e (.one (.c (tC t))),dI n] [] (dI (t.find n)) []:=by
 refine Ev.bQ Tryz.func36 rfl λg=>?_;refine bu rfl ak ?_;refine AK.loop (λu:Tr=>u.find n=t.find n) (λu=>[(0,.e (.one (.c (tC u)))),(1,dI n)]) (λ_=>[]) (λu=>u.sz) t rfl (.cons rfl (db rfl (by simp))) rfl ?_;intro u d;cases u with
 |nil =>
  refine bu rfl ak ?_;refine AK.law (uF rfl Tryz.underlying76 rfl rfl rfl) rfl rfl ?_;refine aW [(7,af),(15,af)] rfl (by simp) (AK.leave rfl rfl ?_);refine bu rfl ak ?_;refine AK.law (uF rfl Tryz.underlying76 rfl rfl rfl) rfl rfl ?_;refine bu rfl ak (AK.bC rfl ?_);rw[<-d];simp[Tr.find]
 |nd l a b r =>
  have e:(Tr.nd l a b r).find n=if n=a then b else if n<a then l.find n else r.find n:=rfl;rw[e]at d;refine bu rfl ak ?_;refine AK.law (HJ rfl Tryz.underlying76 rfl rfl rfl) rfl rfl ?_;by_cases h:n=a
  .subst h;rw[bo rfl]at d;refine aW [(7,ab),(15,af)] rfl (by simp) (AK.leave rfl rfl ?_);refine bu rfl ak ?_;refine AK.law (HJ rfl Tryz.underlying76 rfl rfl rfl) rfl rfl ?_;refine bu rfl ak (AK.bC rfl ?_);rw[<-d];simp
  rw[aY h]at d;by_cases f:n<a
  .rw[bo f]at d;cases l<;>exact aW [(7,ab),(15,ab),(22,ab)] rfl (by simp only[au,l8,a9,aF,aD];and_intros<;>first|rfl|grind|exact f) ⟨_,d,by simp only[Tr.sz];omega,.cons rfl (db rfl (by simp)),rfl⟩
  .rw[aY f]at d;cases r<;>exact aW [(7,ab),(15,ab),(22,af)] rfl (by simp only[au,l8,bR,aF,aD];and_intros<;>first|rfl|grind|exact f) ⟨_,d,by simp only[Tr.sz];omega,.cons rfl (db rfl (by simp)),rfl⟩
end R1
namespace R1
section
open Go.Sort (pdq bitsLen ltInt Below)
variable {X:Cx ag}
def px(l:List Int):List Int:=l.mergeSort λx y=>decide (x<=y)
def mc(l:List Int):(px l).length=l.length:=List.length_mergeSort _
def Nv(l:List Int):pdq ltInt l.toArray 0 l.length (bitsLen l.length) ab ab=(px l).toArray:=by have h:=Go.Sort.sortInt l;unfold Go.Sort.sort at h;rw[List.size_toArray]at h;exact Array.ext' (by rw[h];rfl)
theorem Xt(l:List Int):eI l.toArray=cI.fn l:=by funext j;simp only[eI,mS.fn,BQ,cI,aj];simp
abbrev J9(n:Nat)(l:List Int):bg:=.buf 3 1 n (cI.fn l)
def M3(l:List Int)(a:l.length<=4000000):Ev X 95 [lf l.length] [J9 l.length l] (.fD []) [J9 l.length (px l)]:=by
 refine Ev.bQ Tryz.func95 rfl λb=>?_;refine dk rfl (by simp only[au,bE];and_intros<;>omega) ?_;refine AK.cQ (Nw l.length a) [] rfl ?_;refine dk rfl ak ?_;have c:=k7 (x:=l.length) (k:=22) (by grind);have key:Ev X 146 [lf l.length,dI 0,dI l.length,dI (bitsLen l.length)] [J9 l.length l] (.fD []) [J9 l.length (px l)]:=by have:=UA (X:=X) l.length a l.length l.toArray 0 l.length (bitsLen l.length) (by omega) (by simp) (by omega) (bh _) (by omega) (.inl rfl) (x:=0) rfl rfl rfl (Nv l).symm;grind[Xt]
 refine AK.cQ key [0] rfl ?_;refine dk rfl ak ?_;exact cz.qb [0] rfl ak rfl rfl rfl iI
def lS(l:List Int):Nat->List Int
 |0=>[]
 |j+1=>if j≠0/\l.getD j 0=l.getD (j-1) 0 then lS l j else lS l j++[l.getD j 0]
def eN(l:List Int):List Int:=lS l l.length
def tR(l:List Int):∀j,(lS l j).length<=j
 |0=>bh _
 |j+1=>by have:=tR l j;simp only[lS];grind
def om{l:List Int}:∀{k:Nat},k<=l.length->(∀i,1<=i->i<k->l.getD i 0≠l.getD (i-1) 0)->lS l k=l.take k
 |0,_,_=>by simp[lS]
 |k+1,hk,h=>by rw[lS,aY,om (by omega) λi a b=>h i a (by omega),bU (by omega) 0];grind
structure CoP(l:List Int)(k0:Nat)(k2:Nat)(ys:List Int):Prop where
 h1:1<=k2
 hj:k0+k2<=l.length
 len:ys.length=l.length
 lt:(lS l (k0+k2)).length<k0+k2
 done:ys.take (lS l (k0+k2)).length=lS l (k0+k2)
 rest:∀i,k0+k2<=i+1->ys.getD i 0=l.getD i 0
abbrev Xu(a:List Int):Type:={es:Nat->List C // ∀i,i<a.length->es i=cI.fn a i}
def Gp(l:List Int)(I:l.length<=4000000):ek (ι:=Xu (eN l)) X 96 [lf l.length] [J9 l.length l] (λ_=>.e (.one (.bp 0 (.sl l.length 1 0 (eN l).length)))) (λes=>[.buf 3 1 l.length es.1]):=by
 refine ek.rN Tryz.func96 rfl rfl rfl λH=>?_;by_cases A:l.length<2
 .have f:eN l=l:=by unfold eN;rw[om (bh _) λi _ _=>by omega,dt]
  refine bO [(8,ab)] rfl (by simp only[au,a9];omega) (AK.oe ⟨cI.fn l,λi _=>by rw[f]⟩ (AK.cX [0] rfl ?_ rfl rfl rfl iI));simp[f]
 refine bO [(8,af)] rfl (by simp only[au,bR];omega) ?_;refine AK.lB (S2:=Unit) 0 rfl rfl (λ_=>eN l=l) (λ_=>[(0,lf l.length)]) (λ_=>[J9 l.length l]) 1 (λk:Nat=>1<=k/\k<=l.length/\∀i,1<=i->i<k->l.getD i 0≠l.getD (i-1) 0) (λk=>[(0,lf l.length),(3,dI k)]) (λ_=>[J9 l.length l]) (λk=>l.length-k) 1 rfl ?_ rfl ?_ rfl ⟨bh _,by omega,λi J A=>by omega⟩ ?_ ?_
 .simp
 .simp
 .rintro out k ⟨z,hk,d⟩;by_cases D:k<l.length
  .have x:((k:Int)-1).toNat=k-1:=by omega
   have t:∀j,l.getD j cI.b8=l.getD j 0:=λ_=>rfl;by_cases g:l.getD k 0=l.getD (k-1) 0
   .refine bO [(13,ab),(25,ab)] rfl ?_ ?_
    .simp only[au,bF,b9,x,t,g,bE,a9,j1,aF,aD];and_intros<;>omega
    have hT:=om (l:=l) (by omega) d;have F:lS l (k+1)=l.take k:=by rw[lS,bo ⟨by omega,g⟩,hT]
    refine AK.lB (S2:=List Int) 2 rfl rfl (λc=>c.length=l.length/\c.take (eN l).length=eN l) (λ_=>[(0,lf l.length),(3,dI (eN l).length)]) (λc=>[J9 l.length c]) 1 (λs:Nat×List Int=>CoP l k s.1 s.2) (λs=>[(0,lf l.length),(3,dI (lS l (k+s.1)).length),(4,.e (.one (.bp 0 (.sl l.length 1 k (l.length-k))))),(5,dI s.1)]) (λs=>[J9 l.length s.2]) (λs=>l.length-s.1) (1,l) rfl ?_ rfl ?_ rfl ?_ ?_ ?_
    .simp only[au.cat,au,F,List.length_take,dm,bF,b9,aF,aD];exact⟨by omega,rfl,rfl⟩
    .simp
    .exact⟨bh _,by omega,rfl,by grind,by grind,λ_ _=>rfl⟩
    .rintro h ⟨b,c⟩ ⟨c1,c2,c3,c4,m,p⟩;simp only at c1 c2 c3 c4 m p;by_cases E:k+b<l.length
     .have u:((b:Int)-1).toNat=b-1:=by omega
      have q:∀j,c.getD j cI.b8=c.getD j 0:=λ_=>rfl;have r:c.getD (k+b) 0=l.getD (k+b) 0:=p _ (by omega);have v:c.getD (k+(b-1)) 0=l.getD (k+(b-1)) 0:=p _ (by omega);by_cases o:l.getD (k+b) 0=l.getD (k+(b-1)) 0
      .have n:lS l (k+(b+1))=lS l (k+b):=by rw[show k+(b+1)=k+b+1 by omega,lS,bo ⟨by omega,by rw[o,show k+b-1=k+(b-1) by omega]⟩]
       refine bO [(32,ab),(44,af)] rfl ?_ (AK.aQ (b+1,c) rfl ?_ ?_ ?_ ?_)
       .simp only[au,bF,b9,u,q,r,v,o,bE,a9,oA,kM,j1,aF,aD];and_intros<;>first|trivial|omega
       .simp only[au.cat,au,n,aF,aD];omega
       .simp
       .exact⟨by grind,by grind,c3,by grind,by grind,λi hi=>p i (by grind)⟩
       .simp only;omega
      .have n:lS l (k+(b+1))=lS l (k+b)++[l.getD (k+b) 0]:=by rw[show k+(b+1)=k+b+1 by omega,lS,aY];rintro⟨_,g⟩;exact o (by rw[g,show k+b-1=k+(b-1) by omega])
       refine bO [(32,ab),(44,ab)] rfl ?_ (AK.aQ (b+1,c.set (lS l (k+b)).length (l.getD (k+b) 0)) rfl ?_ ?_ ?_ ?_)
       .simp only[au,bF,b9,u,q,r,v,bE,a9,j0,eF,l8,dz,aF,aD];and_intros<;>first|exact o|omega
       .simp only[au.cat,au,n,cW,fb,gO,aF,aD];and_intros<;>omega
       .have e:=cI.TY c (lS l (k+b)).length (l.getD (k+b) 0) l.length (by omega);simp only[au.cat,au,bF,b9,q,r,aD,aF];exact e
       .refine⟨by grind,by grind,by grind,by grind,?_,λi hi=>?_⟩
        .simp only;rw[n,cW,show ∀a:Int,[a].length=1 fromλ_=>rfl,lN,List.take_set,List.set_eq_of_length_le (by grind),m,gu (by omega)];rfl
        .simp only at hi⊢;rw[aj,kL (by omega),<-aj];grind
       .simp only;omega
     .have y:k+b=l.length:=by omega
      have w:lS l (k+b)=eN l:=by rw[y];rfl
      refine bO [(32,af)] rfl ?_ (AK.leaveD rfl rfl ?_)
      .simp only[au,bR];omega
      rw[w]at m;exact h c ⟨c3,m⟩ rfl (by simp[w]) rfl (by simp)
    rintro c ⟨B,G⟩;have C:(eN l).length<=l.length:=tR l _;refine dk rfl ?_ ?_
    .simp only[au];grind
    refine AK.law (bL.SC tok rfl rfl rfl rfl rfl rfl ?_) rfl rfl ?_
    .simp only[dm,b9];omega
    refine bu rfl ?_ (AK.fR ⟨⟨uo (0+dm 0 (aa ((eN l).length:Int))) (0+dm 0 (aa ((eN l).length:Int))+(dm l.length ae-dm 0 (aa ((eN l).length:Int)))) i3.zero (cI.fn c),λi hi=>?_⟩,cz.mk [0] rfl ?_ rfl rfl rfl iI⟩)
    .simp only[au];grind
    .have e:c[i]?=(eN l)[i]?:=by grind
     refine(Gb (by simp only[dm,b9];omega)).trans ?_;simp only[mS.fn,BQ,aj,e]
    .simp[dm];rfl
   .refine bO [(13,ab),(25,af)] rfl ?_ (AK.aQ (k+1) rfl ?_ ?_ ?_ ?_)
    .simp only[au,bF,b9,x,t,bE,a9,eF,dz,aF,aD];and_intros<;>first|exact g|omega
    .simp
    .simp
    .grind
    .omega
  .obtain rfl:k=l.length:=by omega
   refine bO [(13,af)] rfl (by simp) (AK.leaveD rfl rfl ?_);exact out () (by unfold eN;rw[om (bh _) d,dt]) rfl (by simp) rfl (by simp)
 rintro⟨⟩ f;refine dk rfl ak (AK.oe ⟨cI.fn l,λi _=>by rw[f]⟩ (AK.cX [0] rfl ?_ rfl rfl rfl iI));simp[f]
end
section
variable {X:Cx ag}
def wO(l:List jD):List Int:=l.flatMap (·.2)
def _root_.Go.AM.mS.Ug(c:mS α)(a b:List α)(n:Nat)(d:n=(a++b).length):cE n (cM a.length (c.fn a) (c.fn b)) (c.fn (a++b)):=by intro i hi;simp only[cM,mS.fn,BQ,aj];grind
def B5(l:List Int):(eN l).length<=l.length:=tR l _
def Ms(s:Bs)(i:Nat)(a:cf s=ab)(f:3<=i)(hi:i<=s.length)(k:s.length<=4000000):Ev X 220 [dS s,dI i] [] (dB (jX s i)) []:=by
 refine Ev.bQ Tryz.func220 rfl λe=>?_;have g:=I2 a (i-1) (by omega);have h:=I2 a (i-2) (by omega);have j:=I2 a (i-3) (by omega);have b:((jl s ((i:Int)-1)).toNat:Int)=cU s (i-1):=by grind[cY]
 have c:((jl s ((i:Int)-2)).toNat:Int)=cU s (i-2):=by grind[cY]
 have d:((jl s ((i:Int)-3)).toNat:Int)=cU s (i-3):=by grind[cY]
 refine bu rfl ?_ (AK.bC rfl ?_)
 .simp only[au,bE,b,c,d];omega
 .simp only[au,au.cat,b,c,d,jX,dl,aD];grind
abbrev Mt:dJ:=pv aS aI (λs i=>dB (jX s i.toNat)) λs i=>[cf s=ab,3<=i,i<=s.length,s.length<=4000000]
def T3:eh X 220 Mt:=.sI λs i h=>by
 obtain⟨a,c,d,b⟩:=h;obtain⟨m,rfl⟩:∃m:Nat,i=m:=⟨i.toNat,by omega⟩
 exact Ms s m a (by omega) (by omega) b
def T4(t:Bs)(f:Nat)(i:cf t=ab)(m:f<=t.length)(p:t.length<=4000000):Ev X 199 [dS t,dI f] [] (dI (cutAt t f)) []:=by
 refine Ev.bQ Tryz.func199 rfl λn=>?_;have b:bH X [(220,Mt)]:=.cons T3 .nil;refine ck b rfl ak ?_;refine AK.kq (λj=>j<=5/\uH t f (5-j)=cutAt t f) (λj:Nat=>[(0,dS t),(1,dI f),(5,dI (3+j))]) (λ_=>[]) (λj=>5-j) 0 rfl ?_ rfl ak ⟨by omega,rfl⟩ ?_
 .simp
 rintro j ⟨o,a⟩;by_cases h:j<5
 .obtain⟨k,hk⟩:∃k,5-j=k+1:=⟨4-j,by omega⟩
  have d:f+(7-k)=f+3+j:=by omega
  rw[hk]at a;simp only[uH,d]at a;by_cases g:t.length<=f+3+j
  .rw[bo g]at a;refine aU b [(7,ab),(15,ab)] rfl ?_ (AK.iC (cz.zero rfl ?_))
   .simp only[au,bE,a9,aF,aD];omega
   .simp[<-a]
  rw[aY g]at a;have e:((f:Int)+(3+(j:Int))).toNat=f+3+j:=by omega
  cases c:jX t (f+3+j)with
  |true =>
   rw[c,bo rfl]at a;refine aU b [(7,ab),(15,af),(22,ab)] rfl ?_ (AK.iC (cz.zero rfl ?_))
   .simp only[au,bE,e,c,i,a9,bR,aF,aD];omega
   .simp[<-a];omega
  |false =>
   rw[c,aY (by simp)]at a;refine aU b [(7,ab),(15,af),(22,af)] rfl ?_ (AK.gg (j+1) rfl ?_ rfl ak ⟨by omega,by grind⟩ (by omega))
   .simp only[au,bE,e,c,i,a9,bR,aF,aD];omega
   .simp;omega
 .have e:cutAt t f=min (f+8) t.length:=by rw[<-a,show 5-j=0 by omega];rfl
  have l:bE .i64 ((min (f+8) t.length:Nat):Int):=by simp only[bE];omega
  refine aU b [(7,af)] rfl ?_ (AK.leave rfl rfl ?_)
  .simp only[au,bE,a9,bR];omega
  refine ck b rfl ?_ ?_
  .simp only[au,bE];omega
  refine AK.law (yb ((min (f+8) t.length:Nat):Int) rfl rfl rfl (by omega) l) rfl rfl ?_;refine ck b rfl ak (AK.bC rfl ?_);simp[e]
abbrev WW:dJ:=pv aS aI (λs i=>dI (cutAt s i.toNat)) λs i=>[cf s=ab,0<=i,i<=s.length,s.length<=4000000]
def Z9:eh X 199 WW:=.sI λs i h=>by
 obtain⟨a,c,d,b⟩:=h;obtain⟨m,rfl⟩:∃m:Nat,i=m:=⟨i.toNat,by omega⟩
 exact T4 s m a (by omega) b
abbrev nj(t:Bs):List Int:=(BR t).map λn:Nat=>(n:Int)
def Mv(t:Bs)(j:cf t=ab)(o:t.length<=4000000):Ev X 152 [dS t] [] (cI.sl (nj t)) []:=by
 refine Ev.bQ Tryz.func152 rfl λm=>?_;have a:bH X [(199,WW)]:=.cons Z9 .nil;refine aU a [(1000003,ab)] rfl ak ?_;refine AK.iW 3 3 1 rfl rfl ?_;refine ck a rfl ak ?_;refine AK.cJ 1 (λs:Nat×List Int=>s.1<=t.length/\s.2.length<=s.1/\∃k,t.length<=s.1+k/\nj t=s.2++(nk t k s.1).map λn:Nat=>(n:Int)) (λs=>[(0,dS t),(3,.e (.one (.vec 0 1 s.2.length (cI.fn s.2)))),(4,dI s.1)]) (λs=>[.vec 3 1 s.2.length (cI.fn s.2)]) (λs=>t.length-s.1) (0,[]) rfl ?_ rfl ?_ rfl ⟨by simp,by simp,t.length,by simp,by simp[nj,BR]⟩ ?_
 .simp
 .simp
 rintro⟨f,acc⟩ ⟨c,b,k,hk,i⟩;simp only at c b hk i;by_cases h:f<t.length
 .obtain⟨k,rfl⟩:∃k',k=k'+1:=⟨k-1,by omega⟩
  have l:=mI t f h;have g:=cI.cD acc (cutAt t f:Int);have d:acc.length+1=(acc++[(cutAt t f:Int)]).length:=by simp
  refine aU a [(9,ab)] rfl ?_ (AK.aQ (cutAt t f,acc++[(cutAt t f:Int)]) rfl ?_ ?_ ?_ ?_)
  .simp only[au,j,show i3.bytes=8 from rfl,a9,aF,aD];and_intros<;>omega
  .exact au.cat.2 ⟨rfl,au.cat.2 ⟨⟨d,g⟩,au.cat.2 ⟨rfl,ak⟩⟩⟩
  .exact au.cat.2 ⟨⟨d,g⟩,ak⟩
  .refine⟨l.2.1,by grind,k,by grind,?_⟩;rw[i];simp only[nk,bo h];simp
  grind
 .have e:nj t=acc:=by
   have:nk t k f=[]:=by cases k<;>simp[nk,h]
   grind
  refine aU a [(9,af)] rfl (by simp only[au,bR];omega) (AK.leaveD rfl rfl ?_);refine ck a rfl ak (AK.bC rfl ?_);rw[e];simp
abbrev Mw:dJ:=kD aS (λt=>cI.sl (nj t)) λt=>[cf t=ab,t.length<=4000000]
def T5:eh X 152 Mw:=.pF λt h=>Mv t h.1 h.2
def drop_cons{l r:List α}{x:α}(h:l.drop i=x::r)(d:α):i<l.length/\l.getD i d=x/\l.drop (i+1)=r:=by grind[List.drop_eq_nil_of_le,List.drop_eq_getElem_cons]
def zZ(t:Bs):∀k f,(nk t k f).length<=k
 |0,_=>bh _
 |k+1,f=>by
  simp only[nk];split
  .have:=zZ t k (cutAt t f);grind
  .simp
def P9(t:Bs)(w:cf t=ab)(A:t.length<=4000000):Ev X 110 [dS t] [] (cS.sl (pieces t)) []:=by
 refine Ev.bQ Tryz.func110 rfl λy=>?_;have c:bH X [(152,Mw)]:=.cons T5 .nil;have B:(nj t).length<=t.length:=by simp only[nj,jM];exact zZ t _ _
 refine aU c [(1000002,ab)] rfl ak ?_;refine AK.iW 3 9 1 rfl rfl ?_;refine ck c rfl (by simp only[au,w];grind) ?_;refine AK.cJ 1 (λs:Nat×Nat×List Bs=>s.1<=(nj t).length/\s.2.1<=t.length/\s.2.2.length<=s.1/\∃k,t.length<=s.2.1+k/\(nj t).drop s.1=((nk t k s.2.1).map λn:Nat=>(n:Int))/\pieces t=s.2.2++eT t k s.2.1) (λs=>[(0,dS t),(3,.e (.one (.vec 0 1 s.2.2.length (cS.fn s.2.2)))),(4,dI s.2.1),(5,cI.sl (nj t)),(6,dI s.1)]) (λs=>[.vec 9 1 s.2.2.length (cS.fn s.2.2)]) (λs=>(nj t).length-s.1) (0,0,[]) rfl ?_ rfl ?_ rfl ⟨by simp,by simp,by simp,t.length,by simp,by simp[nj,BR],by simp[pieces]⟩ ?_
 .simp
 .simp
 rintro⟨i,f,acc⟩ ⟨hi,m,d,k,hk,o,l⟩;simp only at hi m d hk o l;by_cases h:i<(nj t).length
 .have g:nk t k f≠[]:=by grind[List.length_drop]
  obtain⟨k,rfl⟩:∃k',k=k'+1:=by
   cases k with
   |zero=>exact absurd rfl g
   |succ k=>grind
  have a:f<t.length:=by
   rcases cN f t.length with h|h
   .exact h
   .exact absurd (by simp only[nk,aY (show¬f<t.length by omega)]) g
  simp only[nk,bo a,qM]at o;obtain⟨_,z,v⟩:=drop_cons o 0;have u:=mI t f a;have j:(nj t).getD (i:Int).toNat cI.b8=(cutAt t f:Int):=by grind
  have b:tk t (aa (f:Int)) (aa (cutAt t f:Int))=(t.drop f).take (cutAt t f-f):=by simp[tk,List.drop_take]
  have p:=cS.cD acc ((t.drop f).take (cutAt t f-f));have r:acc.length+1=(acc++[(t.drop f).take (cutAt t f-f)]).length:=by simp
  refine aU c [(13,ab)] rfl ?_ (AK.aQ (i+1,cutAt t f,acc++[(t.drop f).take (cutAt t f-f)]) rfl ?_ ?_ ?_ ?_)
  .simp only[au,j,bE,gb,show i9.bytes=16 from rfl,a9,aF,aD];and_intros<;>omega
  .simp only[au.cat,au,j,b,aF,aD];and_intros<;>first|exact r|exact p|exactλ_ _=>rfl|omega
  .simp only[au.cat,au,j,b,aF,aD];and_intros<;>first|exact r|exact p
  .refine⟨by grind,u.2.1,by grind,k,by grind,v,?_⟩;rw[l];simp only[eT,bo a];simp
  grind
 .have e:pieces t=acc:=by
   have q:nk t k f=[]:=by grind[List.map_eq_nil_iff]
   have a:¬f<t.length:=by
    intro x;cases k with
    |zero=>omega
    |succ k=>simp only[nk,bo x]at q;cases q
   rw[l];cases k<;>simp[eT,a]
  refine aU c [(13,af)] rfl (by simp only[au,bR];omega) (AK.leaveD rfl rfl ?_);refine ck c rfl ak (AK.bC rfl ?_);rw[e];simp
abbrev HT:dJ:=kD aS (λt=>cS.sl (pieces t)) λt=>[cf t=ab,t.length<=4000000]
def Mx:eh X 110 HT:=.pF λt h=>P9 t h.1 h.2
def _root_.Go.AM.mS.qm(c:mS α)(l:List α)(x y:α):cE (l.length+1+1) (cM (l.length+1) (cM l.length (c.fn l) λq=>[c.enc x].getD q []) λq=>[c.enc y].getD q []) (c.fn (l++[x,y])):=by
 have h1:=c.cD l x;have h2:=c.cD (l++[x]) y;rw[show(l++[x]).length=l.length+1 by simp,show l++[x]++[y]=l++[x,y] by simp]at h2;intro q a;rw[<-h2 q a];simp only[cM];by_cases e:q<l.length+1
 .rw[bo e,bo e];exact h1 q e
 grind
abbrev T7(x:br):D:=.e (.agg [.c (.int .i64 x.1),.c (.str x.2)])
def jh(x:br)(acc:List br×Bool)(y:br):List br×Bool:=if acc.2=ab then(acc.1++[y],ab)else if x.1<y.1 then(acc.1++[x,y],ab)else(acc.1++[y],af)
def z8(x:br):∀(l:List br)(a:List br),(l.foldl (jh x) (a,ab))=(a++l,ab)
 |[],a=>by simp
 |y::r,a=>by rw[jN,show jh x (a,ab) y=(a++[y],ab)from rfl,z8 x r];simp
def uO(x:br):∀(l:List br)(a:List br),(if(l.foldl (jh x) (a,af)).2=ab then(l.foldl (jh x) (a,af)).1 else(l.foldl (jh x) (a,af)).1++[x])=a++gI l x
 |[],a=>by simp[gI]
 |y::r,a=>by
  rw[jN];by_cases h:x.1<y.1
  .rw[show jh x (a,af) y=(a++[x,y],ab) by simp[jh,h],z8];simp[gI,h]
  .rw[show jh x (a,af) y=(a++[y],af) by simp[jh,h],uO x r];simp[gI,h]
theorem z9(x:br):∀(l:List br)(a:List br×Bool),(l.foldl (jh x) a).1.length<=a.1.length+l.length+1-(if a.2=ab then 1 else 0)
 |[],a=>by grind
 |y::r,a=>by rw[jN];have:=z9 x r (jh x a y);unfold jh at this⊢;grind
abbrev nF(x:br)(l:List br)(i:Nat):List br×Bool:=(l.take i).foldl (jh x) ([],af)
def Aa{x:br}{l:List br}(h:i<l.length):nF x l (i+1)=jh x (nF x l i) (l.getD i (0,[])):=by grind[bU]
def tG(x:br)(l:List br)(i:Nat):(nF x l i).1.length<=l.length+1:=by grind[z9]
abbrev p3F(l:List br)(x:br)(i:Nat)(a:List br×Bool):Fr:=[(0,ei.sl l),(3,.e (.one (.ptr 0 0))),(5,.e (.one (.vec 1 2 a.1.length (ei.fn a.1)))),(6,dB a.2),(7,dI i)]
abbrev p3B(x:br)(a:List br):List bg:=[.cells 82 [.c (.int .i64 x.1),.c (.str x.2)],.vec 82 2 a.length (ei.fn a)]
def Qd(l:List br)(x:br)(q:l.length<=4000000):Ev X 116 [ei.sl l,T7 x] [] (ei.sl (gI l x)) []:=by
 refine Ev.bQ Tryz.func116 rfl λp=>?_;refine bO [(1000002,ab)] rfl ak ?_;refine AK.iW 5 82 2 rfl rfl ?_;refine dk rfl ak ?_;refine AK.cJ 2 (λi=>i<=l.length) (λi:Nat=>p3F l x i (nF x l i)) (λi=>p3B x (nF x l i).1) (λi=>l.length-i) 0 rfl ?_ rfl ?_ rfl (by omega) ?_
 .simp[nF]
 .simp[nF]
 intro i hi;by_cases h:i<l.length
 .have n:=Aa (x:=x) h;have e:=tG x l i;have f:l.getD (i:Int).toNat ei.b8=l.getD i (0,[]):=by grind
  generalize nF x l i=a at n e;obtain⟨a,b⟩:=a;simp only at e;have k:=ei.cD a (l.getD i (0,[]));have m:=ei.qm a x (l.getD i (0,[]));cases b with
  |true =>
   have c:nF x l (i+1)=(a++[l.getD i (0,[])],ab):=n;have j:a.length+1=(a++[l.getD i (0,[])]).length:=by simp
   refine bO [(12,ab)] rfl ?_ (AK.aQ (i+1) rfl ?_ ?_ ?_ ?_)
   .simp only[au,f,bE,show i82.bytes=24 from rfl,a9,aF,aD];and_intros<;>omega
   .rw[c];simp only[au.cat,au,f,aF,aD];and_intros<;>first|exact j|exact k|exactλ_ _=>rfl|rfl|omega
   .rw[c];simp only[au.cat,au,f,aF,aD];and_intros<;>first|exact j|exact k|exactλ_ _=>rfl|rfl|omega
   .grind
   .omega
  |false =>
   by_cases g:x.1<(l.getD i (0,[])).1
   .have c:nF x l (i+1)=(a++[x,l.getD i (0,[])],ab):=by rw[n];simp only[jh,bo g];rfl
    have j:a.length+1+1=(a++[x,l.getD i (0,[])]).length:=by simp
    refine bO [(12,ab),(25,ab)] rfl ?_ (AK.aQ (i+1) rfl ?_ ?_ ?_ ?_)
    .simp only[au,f,bE,show i82.bytes=24 from rfl,g,j5,a9,aF,aD];and_intros<;>omega
    .rw[c];simp only[au.cat,au,f,aF,aD];and_intros<;>first|exact j|exact m|exactλ_ _=>rfl|rfl|omega
    .rw[c];simp only[au.cat,au,f,aF,aD];and_intros<;>first|exact j|exact m|exactλ_ _=>rfl|rfl|omega
    .grind
    .omega
   .have c:nF x l (i+1)=(a++[l.getD i (0,[])],af):=by rw[n];simp only[jh,aY g];rfl
    have j:a.length+1=(a++[l.getD i (0,[])]).length:=by simp
    refine bO [(12,ab),(25,af)] rfl ?_ (AK.aQ (i+1) rfl ?_ ?_ ?_ ?_)
    .simp only[au,f,bE,show i82.bytes=24 from rfl,a9,g,k9,oz,bR,aF,aD];and_intros<;>omega
    .rw[c];simp only[au.cat,au,f,aF,aD];and_intros<;>first|exact j|exact k|exactλ_ _=>rfl|rfl|omega
    .rw[c];simp only[au.cat,au,f,aF,aD];and_intros<;>first|exact j|exact k|exactλ_ _=>rfl|rfl|omega
    .grind
    .omega
 .obtain rfl:i=l.length:=by omega
  have d:=uO x l [];have e:=tG x l l.length;refine bO [(12,af)] rfl (by simp) (AK.leaveD rfl rfl ?_);have o:nF x l l.length=l.foldl (jh x) ([],af):=by grind
  rw[o]at e⊢;generalize l.foldl (jh x) ([],af)=a at *;obtain⟨a,b⟩:=a;simp only[mV]at d e;cases b with
  |true =>
   simp only[b6]at d;subst d;exact dk rfl ak (AK.bC rfl)
  |false =>
   simp only[jZ,cg]at d;have k:=ei.cD a x;refine dk rfl ?_ (AK.bC rfl ?_)
   .simp only[au,show i82.bytes=24 from rfl,aF,aD];grind
   .rw[<-d];simp only[au.cat,au,aF,aD];and_intros<;>first|exact k|simp
abbrev R2:dJ:=pv (aL ei) U7 (λl x=>ei.sl (gI l x)) λl _=>[l.length<=4000000]
def W3:eh X 116 R2:=.sI λl x h=>Qd l x h
abbrev aag(x:cm):D:=.e (.agg [.c (.int .i64 x.1),.c (.int .i64 x.2)])
def fg(x:cm)(acc:List cm×Bool)(y:cm):List cm×Bool :=
 if acc.2=ab then(if y.1=x.1 then acc else(acc.1++[y],ab))else if x.1<=y.1 then(if y.1=x.1 then(acc.1++[x],ab)else(acc.1++[x,y],ab))else(acc.1++[y],af)
def rl(x:cm):∀(l:List cm)(a:List cm),(l.foldl (fg x) (a,ab))=(a++l.filter λz=>!(z.1==x.1),ab)
 |[],a=>by simp
 |y::r,a=>by
  rw[jN];by_cases h:y.1=x.1
  .rw[show fg x (a,ab) y=(a,ab) by simp[fg,h],rl x r];simp[h]
  .rw[show fg x (a,ab) y=(a++[y],ab) by simp[fg,h],rl x r];simp[h]
def Ab(x:cm):∀(l:List cm)(a:List cm),(if(l.foldl (fg x) (a,af)).2=ab then(l.foldl (fg x) (a,af)).1 else(l.foldl (fg x) (a,af)).1++[x])=a++fU l x
 |[],a=>by simp[fU]
 |y::r,a=>by
  rw[jN];by_cases h:x.1<=y.1
  .have c:¬y.1<x.1:=by omega
   by_cases b:y.1=x.1
   .rw[show fg x (a,af) y=(a++[x],ab) by simp[fg,b],rl];simp[fU,b]
   .rw[show fg x (a,af) y=(a++[x,y],ab) by simp[fg,h,b],rl];simp[fU,c,b]
  .have c:y.1<x.1:=by omega
   rw[show fg x (a,af) y=(a++[y],af) by simp[fg,h],Ab x r];simp[fU,c]
theorem Ac(x:cm):∀(l:List cm)(a:List cm×Bool),(l.foldl (fg x) a).1.length<=a.1.length+l.length+1-(if a.2=ab then 1 else 0)
 |[],a=>by grind
 |y::r,a=>by
  rw[jN];have d:=Ac x r (fg x a y);obtain⟨a,b⟩:=a;simp only[fb];cases b with
  |true =>
   by_cases c:y.1=x.1
   .rw[show fg x (a,ab) y=(a,ab) by simp[fg,c]]at d⊢;grind
   .rw[show fg x (a,ab) y=(a++[y],ab) by simp[fg,c]]at d⊢;grind
  |false =>
   by_cases h:x.1<=y.1
   .by_cases c:y.1=x.1
    .rw[show fg x (a,af) y=(a++[x],ab) by simp[fg,c]]at d⊢;grind
    .rw[show fg x (a,af) y=(a++[x,y],ab) by simp[fg,h,c]]at d⊢;grind
   .rw[show fg x (a,af) y=(a++[y],af) by simp[fg,h]]at d⊢;grind
abbrev tH(x:cm)(l:List cm)(i:Nat):List cm×Bool:=(l.take i).foldl (fg x) ([],af)
def Jg{x:cm}{l:List cm}(h:i<l.length):tH x l (i+1)=fg x (tH x l i) (l.getD i (0,0)):=by grind[bU]
def DK(x:cm)(l:List cm)(i:Nat):(tH x l i).1.length<=l.length+1:=by grind[Ac]
abbrev p4F(l:List cm)(x:cm)(i:Nat)(a:List cm×Bool):Fr:=[(0,pG.sl l),(3,.e (.one (.ptr 0 0))),(5,.e (.one (.vec 1 2 a.1.length (pG.fn a.1)))),(6,dB a.2),(7,dI i)]
abbrev p4B(x:cm)(a:List cm):List bg:=[.cells 84 [.c (.int .i64 x.1),.c (.int .i64 x.2)],.vec 84 2 a.length (pG.fn a)]
def Qe(l:List cm)(x:cm)(q:l.length<=4000000):Ev X 115 [pG.sl l,aag x] [] (pG.sl (fU l x)) []:=by
 refine Ev.bQ Tryz.func115 rfl λp=>?_;refine bO [(1000002,ab)] rfl ak ?_;refine AK.iW 5 84 2 rfl rfl ?_;refine dk rfl ak ?_;refine AK.cJ 2 (λi=>i<=l.length) (λi:Nat=>p4F l x i (tH x l i)) (λi=>p4B x (tH x l i).1) (λi=>l.length-i) 0 rfl ?_ rfl ?_ rfl (by omega) ?_
 .simp[tH]
 .simp[tH]
 intro i hi;by_cases h:i<l.length
 .have n:=Jg (x:=x) h;have k:=DK x l i;have f:l.getD (i:Int).toNat pG.b8=l.getD i (0,0):=by grind
  generalize tH x l i=a at n k;obtain⟨a,b⟩:=a;simp only at k;have j:=pG.cD a (l.getD i (0,0));have m:=pG.cD a x;have d:=pG.qm a x (l.getD i (0,0));cases b with
  |true =>
   by_cases heq:(l.getD i (0,0)).1=x.1
   .have c:tH x l (i+1)=(a,ab):=by rw[n];simp only[fg,b6,bo heq]
    refine bO [(12,ab),(38,af)] rfl ?_ (AK.aQ (i+1) rfl ?_ ?_ ?_ ?_)
    .simp only[au,f,bE,show i84.bytes=16 from rfl,a9,bR,j0,qG,gw,eF,l8,dz,heq,fx,oz,j1,kM,oA,j5,k9,aF,aD];and_intros<;>omega
    .rw[c];simp only[au.cat,au,f,aF,aD];and_intros<;>first|exact j|exact m|exact d|exactλ_ _=>rfl|rfl|omega|simp
    .rw[c];simp only[au.cat,au,f,aF,aD];and_intros<;>first|exact j|exact m|exact d|exactλ_ _=>rfl|rfl|omega|simp
    .grind
    .omega
   .have c:tH x l (i+1)=(a++[l.getD i (0,0)],ab):=by rw[n];simp only[fg,b6,aY heq]
    refine bO [(12,ab),(38,ab)] rfl ?_ (AK.aQ (i+1) rfl ?_ ?_ ?_ ?_)
    .simp only[au,f,bE,show i84.bytes=16 from rfl,a9,bR,j0,qG,gw,eF,l8,dz,heq,fx,oz,j1,kM,oA,j5,k9,aF,aD];and_intros<;>omega
    .rw[c];simp only[au.cat,au,f,aF,aD];and_intros<;>first|exact j|exact m|exact d|exactλ_ _=>rfl|rfl|omega|simp
    .rw[c];simp only[au.cat,au,f,aF,aD];and_intros<;>first|exact j|exact m|exact d|grind|rfl|omega|simp
    .grind
    .omega
  |false =>
   by_cases g:x.1<=(l.getD i (0,0)).1
   .by_cases heq:(l.getD i (0,0)).1=x.1
    .have c:tH x l (i+1)=(a++[x],ab):=by rw[n];simp only[fg,bo g,bo heq];rfl
     refine bO [(12,ab),(25,ab),(38,af)] rfl ?_ (AK.aQ (i+1) rfl ?_ ?_ ?_ ?_)
     .simp only[au,f,bE,show i84.bytes=16 from rfl,a9,bR,j0,qG,gw,eF,l8,dz,g,heq,fx,oz,j1,kM,oA,j5,k9,aF,aD];and_intros<;>omega
     .rw[c];simp only[au.cat,au,f,aF,aD];and_intros<;>first|exact j|exact m|exact d|exactλ_ _=>rfl|rfl|omega|simp
     .rw[c];simp only[au.cat,au,f,aF,aD];and_intros<;>first|exact j|exact m|exact d|grind|rfl|omega|simp
     .grind
     .omega
    .have c:tH x l (i+1)=(a++[x,l.getD i (0,0)],ab):=by rw[n];simp only[fg,bo g,aY heq];rfl
     refine bO [(12,ab),(25,ab),(38,ab)] rfl ?_ (AK.aQ (i+1) rfl ?_ ?_ ?_ ?_)
     .simp only[au,f,bE,show i84.bytes=16 from rfl,a9,bR,j0,qG,gw,eF,l8,dz,g,heq,fx,oz,j1,kM,oA,j5,k9,aF,aD];and_intros<;>omega
     .rw[c];simp only[au.cat,au,f,aF,aD];and_intros<;>first|exact j|exact m|exact d|exactλ_ _=>rfl|rfl|omega|simp
     .rw[c];simp only[au.cat,au,f,aF,aD];and_intros<;>first|exact j|exact m|exact d|grind|rfl|omega|simp
     .grind
     .omega
   .have heq:¬(l.getD i (0,0)).1=x.1:=by omega
    have c:tH x l (i+1)=(a++[l.getD i (0,0)],af):=by rw[n];simp only[fg,aY g];rfl
    refine bO [(12,ab),(25,af),(38,ab)] rfl ?_ (AK.aQ (i+1) rfl ?_ ?_ ?_ ?_)
    .simp only[au,f,bE,show i84.bytes=16 from rfl,a9,bR,j0,qG,gw,eF,l8,dz,g,heq,fx,oz,j1,kM,oA,j5,k9,aF,aD];and_intros<;>omega
    .rw[c];simp only[au.cat,au,f,aF,aD];and_intros<;>first|exact j|exact m|exact d|exactλ_ _=>rfl|rfl|omega|simp
    .rw[c];simp only[au.cat,au,f,aF,aD];and_intros<;>first|exact j|exact m|exact d|grind|rfl|omega|simp
    .grind
    .omega
 .obtain rfl:i=l.length:=by omega
  have e:=Ab x l [];have k:=DK x l l.length;refine bO [(12,af)] rfl (by simp) (AK.leaveD rfl rfl ?_);have o:tH x l l.length=l.foldl (fg x) ([],af):=by grind
  rw[o]at k⊢;generalize l.foldl (fg x) ([],af)=a at *;obtain⟨a,b⟩:=a;simp only[mV]at e k;cases b with
  |true =>
   simp only[b6]at e;subst e;exact dk rfl ak (AK.bC rfl)
  |false =>
   simp only[jZ,cg]at e;have j:=pG.cD a x;refine dk rfl ?_ (AK.bC rfl ?_)
   .simp only[au,show i84.bytes=16 from rfl,aF,aD];grind
   .rw[<-e];simp only[au.cat,au,aF,aD];and_intros<;>first|exact j|simp
abbrev R3:dJ:=pv (aL pG) U8 (λl x=>pG.sl (fU l x)) λl _=>[l.length<=4000000]
def W4:eh X 115 R3:=.sI λl x h=>Qe l x h
abbrev BS(p:bG):List cm:=p.2.map λx=>(x.1,p.1)
def kX(l:List bG)(i j:Nat):List cm:=cZ (l.take i)++(BS (l.getD i (0,[]))).take j
def sx{l:List bG}(h:i<l.length):cZ (l.take (i+1))=cZ (l.take i)++BS (l.getD i (0,[])):=by rw[bU h (0,[])];simp[cZ]
theorem DL(l:List bG)(i:Nat):(cZ (l.take i)).length<=(cZ l).length:=by
 have h:cZ l=cZ (l.take i)++cZ (l.drop i):=by unfold cZ;grind[List.take_append_drop]
 grind
def tI{l:List bG}(h:i<l.length):∃r,cZ l=kX l i j++r:=by
 have a:cZ l=cZ (l.take (i+1))++cZ (l.drop (i+1)):=by unfold cZ;grind[List.take_append_drop]
 refine⟨(BS (l.getD i (0,[]))).drop j++cZ (l.drop (i+1)),?_⟩;rw[a,sx h,kX,mm,mm];grind[List.take_append_drop]
theorem MD(l:List cm)(x:cm):(fU l x).length<=l.length+1:=by
 induction l with
 |nil=>simp[fU]
 |cons y r a =>
  simp only[fU];grind
theorem uN(l:List cm):∀a:List cm,(l.foldl fU a).length<=a.length+l.length:=by
 induction l with
 |nil=>grind
 |cons y r b=>grind[MD]
def Ge(l:List bG)(y:l.length<=4000000)(x:(cZ l).length<=100000):Ev X 64 [cP.sl l] [] (pG.sl (indexOf l)) []:=by
 refine Ev.bQ Tryz.func64 rfl λu=>?_;have a:bH X [(114,Mp),(115,R3)]:=.cons T2 (.cons W4 .nil);refine cG a rfl ak ?_;refine AK.cJ 0 (λi=>i<=l.length/\(cZ (l.take i)).all eB=ab) (λi:Nat=>[(0,cP.sl l),(3,pG.sl ((cZ (l.take i)).foldl fU [])),(4,dI i)]) (λ_=>[]) (λi=>l.length-i) 0 rfl ?_ rfl ?_ rfl ⟨by omega,rfl⟩ ?_
 .simp[cZ]
 .simp
 rintro i ⟨hi,b⟩;by_cases h:i<l.length
 .have e:l.getD (i:Int).toNat cP.b8=l.getD i (0,[]):=by grind
  have n:=sx h;refine bm a [(11,ab)] rfl (by simp only[au,a9];omega) ?_;refine AK.cJ 0 (λj=>j<=(l.getD i (0,[])).2.length/\(kX l i j).all eB=ab) (λj:Nat=>[(0,cP.sl l),(3,pG.sl ((kX l i j).foldl fU [])),(4,dI i),(5,dI j)]) (λ_=>[]) (λj=>(l.getD i (0,[])).2.length-j) 0 rfl ?_ rfl ?_ rfl ⟨by omega,by simpa[kX]using b⟩ ?_
  .simp[kX]
  .simp
  rintro j ⟨w,o⟩;obtain⟨r,t⟩:=tI (l:=l) (j:=j) h;have m:(kX l i j).length<=100000:=by grind
  have g:=uN (kX l i j) [];simp only[gO]at g;have p:(l.getD i (0,[])).2.length<=100000:=by grind[DL]
  by_cases v:j<(l.getD i (0,[])).2.length
  .have c:(l.getD i (0,[])).2.getD (j:Int).toNat ei.b8=(l.getD i (0,[])).2.getD j (0,[]):=by grind
   have f:kX l i (j+1)=kX l i j++[(((l.getD i (0,[])).2.getD j (0,[])).1,(l.getD i (0,[])).1)]:=by unfold kX;rw[mm];congr 1;rw[bU (by grind) (0,0)];grind
   cases d:eB (((l.getD i (0,[])).2.getD j (0,[])).1,(l.getD i (0,[])).1)with
   |false =>
    have s:indexOf l=[]:=by obtain⟨r,t⟩:=tI (l:=l) (j:=j+1) h;unfold indexOf;rw[aY];grind
    refine bm a [(21,ab),(40,af)] rfl ?_ (AK.fR (cz.zero rfl ?_))
    .simp only[au,e,c,d,a9,aF,aD];and_intros<;>omega
    .rw[s];simp
   |true =>
    refine bm a [(21,ab),(40,ab)] rfl ?_ (AK.aQ (j+1) rfl ?_ ?_ ?_ ?_)
    .simp only[au,e,c,d,bE,pG.list_fn,a9,aF,aD];and_intros<;>first|exact pG.aK _|omega
    .rw[f];simp only[List.foldl_append,jN,List.foldl_nil,au.cat,au,e,c,pG.list_fn,aF,aD];and_intros<;>first|exactλ_ _=>rfl|rfl|omega
    .simp
    .grind
    .omega
  .have q:j=(l.getD i (0,[])).2.length:=by omega
   have k:kX l i j=cZ (l.take (i+1)):=by rw[n,kX];grind[List.length_map]
   refine bm a [(21,af)] rfl ?_ (AK.leaveD rfl rfl ?_)
   .simp only[au,e,bR];and_intros<;>omega
   refine cG a rfl ?_ (AK.aQ (i+1) rfl ?_ ?_ ?_ ?_)
   .simp only[au,bE];omega
   .rw[k];simp
   .simp
   .grind
   .omega
 .obtain rfl:i=l.length:=by omega
  rw[dt]at b⊢;refine bm a [(11,af)] rfl (by simp) (AK.leaveD rfl rfl ?_);refine cG a rfl ak (AK.bC rfl ?_);simp[indexOf,b]
abbrev ME:dJ:=kD (aL cP) (λl=>pG.sl (indexOf l)) λl=>[l.length<=4000000,(cZ l).length<=100000]
def T8:eh X 64 ME:=.pF λl h=>Ge l h.1 h.2
abbrev yo:dJ:=pv aI aS (λk p=>dI (dC k p)) λk p=>[b5 k=ab,bA p=ab]
abbrev HV:dJ:=kD aS (λp=>dS (eZ p)) λp=>[bA p=ab]
def MF:eh X 117 HV:=.pF λp h=>P7 p h
theorem MG(l:List br)(x:br):(gI l x).length=l.length+1:=by
 induction l with
 |nil=>simp[gI]
 |cons y r a=>simp only[gI];split<;>simp[a]
def o7(k:Int)(ps:List Bs):List br:=ps.foldl (λl p=>gI l (dC k p,eZ p)) []
theorem rm(k:Int)(ps:List Bs):(o7 k ps).length=ps.length:=by
 have h:∀(ps:List Bs) (a:List br),(ps.foldl (λl p=>gI l (dC k p,eZ p)) a).length=a.length+ps.length:=by
  intro ps;induction ps with
  |nil=>grind
  |cons p r b=>grind[MG]
 have:=h ps [];rw[gO,bF]at this;exact this
def MH{ps:List Bs}(h:i<ps.length):o7 k (ps.take (i+1))=gI (o7 k (ps.take i)) (dC k (ps.getD i []),eZ (ps.getD i [])):=by unfold o7;grind[bU]
abbrev pkB(no:Int)(l:List br):bg:=.cells 46 [.c (.int .i64 no),.c (.sl af 2 l.length (ei.fn l))]
theorem DM{s r:Bs}(h:cf s=ab)(a:∀b∈r,b∈s):cf r=ab:=by unfold cf at h⊢;grind
def yp{t:Bs}(b:cf t=ab):∀k f,∀p∈eT t k f,bA p=ab
 |0,_,p,a=>by simp[eT]at a
 |k+1,f,p,a=>by
  simp only[eT]at a;split at a
  .rename_i h;have c:=mI t f h;rcases eb.1 a with rfl|a
   .have d:((t.drop f).take (cutAt t f-f)).length=cutAt t f-f:=by grind
    simp only[bA,bM,a9];grind[DM]
   .exact yp b k _ p a
  grind
def od{t:Bs}(a:cf t=ab):∀p∈pieces t,bA p=ab:=yp a _ _
def vr(t:Bs):∀k f,(eT t k f).length<=k
 |0,_=>bh _
 |k+1,f=>by
  simp only[eT];split
  .have:=vr t k (cutAt t f);grind
  .simp
def kY(t:Bs):(pieces t).length<=t.length:=vr t _ _
def g9(t:List bw):List Bs:=t.flatMap λf=>pieces f.2
def Ad{t:List bw}(h:i<t.length):g9 (t.take (i+1))=g9 (t.take i)++pieces (t.getD i ([],[])).2:=by rw[bU h ([],[])];simp[g9]
def HW(t:List bw)(i:Nat):(g9 (t.take i)).length<=(g9 t).length:=by
 have h:g9 t=g9 (t.take i)++g9 (t.drop i):=by unfold g9;grind[List.take_append_drop]
 grind
def uM(k:Int)(l:List cm)(ps:List Bs):∀a:List Bs,(ps.foldl (iz k l) a).length<=a.length+ps.length:=by
 induction ps with
 |nil=>grind
 |cons p r b =>
  intro a;have d:=b (iz k l a p);have c:(iz k l a p).length<=a.length+1:=by unfold iz;split<;>simp
  grind
abbrev MI:dJ:=pv (aL pG) aI (λl n=>dI (ku l n)) λl _=>[l.length<=4000000]
def T9:eh X 111 MI:=.sI λl n h=>Mn l n h
abbrev R4:dJ:=pv (aL cS) aS (λl p=>dB (l.contains p)) λl _=>[l.length<=4000000]
def W5:eh X 113 R4:=.sI λl p h=>P5 l p h
abbrev dV0(a:List Bs):D:=.e (.one (.vec 0 1 a.length (cS.fn a)))
structure tF(t:List bw):Prop where
 len:t.length<=4000000
 uc:∀f∈t,cf f.2=ab/\f.2.length<=4000000
 all:(g9 t).length<=100000
def MA(k:Int)(t:List bw)(l:List cm)(hk:b5 k=ab)(o:tF t)(D:l.length<=4000000):Ev X 63 [dI k,cF.sl t,pG.sl l] [] (cS.sl (c7 k t l)) []:=by
 refine Ev.bQ Tryz.func63 rfl λA=>?_;have c:bH X [(110,HT),(112,yo),(111,MI),(113,R4)]:=.cons Mx (.cons yl (.cons T9 (.cons W5 .nil)));refine bm c [(1000002,ab)] rfl ak ?_;refine AK.iW 7 9 1 rfl rfl ?_;refine cG c rfl ak ?_;refine AK.cJ 1 (λi=>i<=t.length) (λi:Nat=>[(0,dI k),(1,cF.sl t),(2,pG.sl l),(7,dV0 ((g9 (t.take i)).foldl (iz k l) [])),(8,dI i)]) (λi=>[.vec 9 1 ((g9 (t.take i)).foldl (iz k l) []).length (cS.fn ((g9 (t.take i)).foldl (iz k l) []))]) (λi=>t.length-i) 0 rfl ?_ rfl ?_ rfl (by omega) ?_
 .simp[g9]
 .simp[g9]
 intro i hi;by_cases h:i<t.length
 .have w:t.getD (i:Int).toNat cF.b8=t.getD i ([],[]):=by grind
  have m:t.getD i ([],[])∈t:=by grind
  obtain⟨x,q2⟩:=o.uc _ m;have d:=Ad h;have r:=HW t (i+1);have y:=o.all;have z:=o.len;have s:=od x;generalize t.getD i ([],[])=f at *;rw[d,cW]at r;refine bm c [(15,ab)] rfl ?_ ?_
  .simp only[au,w,x,a9,aF,aD];and_intros<;>omega
  rw[w];refine AK.cJ 1 (λj=>j<=(pieces f.2).length) (λj:Nat=>[(0,dI k),(1,cF.sl t),(2,pG.sl l),(7,dV0 ((g9 (t.take i)++(pieces f.2).take j).foldl (iz k l) [])),(8,dI i),(9,cS.sl (pieces f.2)),(10,dI j)]) (λj=>[.vec 9 1 ((g9 (t.take i)++(pieces f.2).take j).foldl (iz k l) []).length (cS.fn ((g9 (t.take i)++(pieces f.2).take j).foldl (iz k l) []))]) (λj=>(pieces f.2).length-j) 0 rfl ?_ rfl ?_ rfl (by omega) ?_
  .simp
  .simp
  intro j C;have q:=uM k l (g9 (t.take i)++(pieces f.2).take j) [];simp only[gO,cW,List.length_take]at q;by_cases B:j<(pieces f.2).length
  .have b:(pieces f.2).getD (j:Int).toNat cS.b8=(pieces f.2).getD j []:=by grind
   have g:bA ((pieces f.2).getD j [])=ab:=s _ (by grind);have a:(g9 (t.take i)++(pieces f.2).take (j+1)).foldl (iz k l) []=iz k l ((g9 (t.take i)++(pieces f.2).take j).foldl (iz k l) []) ((pieces f.2).getD j []):=by grind[bU]
   generalize(g9 (t.take i)++(pieces f.2).take j).foldl (iz k l) []=out at *;generalize(pieces f.2).getD j []=p at *;have v:=cS.cD out p;by_cases e:ku l (dC k p)=0
   .cases u:out.contains p with
    |true =>
     rw[iz,aY (by grind)]at a;refine bm c [(27,ab),(38,ab),(45,ab)] rfl ?_ (AK.aQ (j+1) rfl ?_ ?_ ?_ ?_)
     .simp only[au,b,hk,g,e,u,bE,cS.list_fn,pG.list_fn,j1,a9,aF,aD];and_intros<;>first|exact cS.aK _|exact pG.aK _|omega
     .rw[a];simp
     .rw[a];simp
     .grind
     .omega
    |false =>
     rw[iz,bo (by grind)]at a;refine bm c [(27,ab),(38,ab),(45,af)] rfl ?_ (AK.aQ (j+1) rfl ?_ ?_ ?_ ?_)
     .simp only[au,b,hk,g,e,u,bE,show i9.bytes=16 from rfl,cS.list_fn,pG.list_fn,j1,a9,aF,aD];and_intros<;>first|exact cS.aK _|exact pG.aK _|omega
     .rw[a];simp only[au.cat,au,b,cW,fb,gO,aF,aD];and_intros<;>first|exactλ_ _=>rfl|exact v|rfl|omega
     .rw[a];simp only[au.cat,au,b,cW,fb,gO,aF,aD];and_intros<;>first|exact v|rfl|omega
     .grind
     .omega
   .rw[iz,aY (by grind)]at a;refine bm c [(27,ab),(38,af)] rfl ?_ (AK.aQ (j+1) rfl ?_ ?_ ?_ ?_)
    .simp only[au,b,hk,g,bE,pG.list_fn,eF,dz,e,oz,a9,aF,aD];and_intros<;>first|exact pG.aK _|omega
    .rw[a];simp
    .rw[a];simp
    .grind
    .omega
  .have n:j=(pieces f.2).length:=by omega
   refine bm c [(27,af)] rfl (by simp only[au,bR];omega) (AK.leaveD rfl rfl ?_);refine cG c rfl ?_ (AK.aQ (i+1) rfl ?_ ?_ ?_ ?_)
   .simp only[au,bE];omega
   .rw[d,n,dt];simp
   .rw[d,n,dt];simp
   .grind
   .omega
 .obtain rfl:i=t.length:=by omega
  rw[dt];refine bm c [(15,af)] rfl (by simp) (AK.leaveD rfl rfl ?_);refine cG c rfl ak (AK.bC rfl ?_);simp[c7,g9]
abbrev l3(k:Int)(ps:List Bs):List Int:=ps.map (dC k)
abbrev nG(k:Int)(t:List bw):List jD:=t.map (lG k)
abbrev R5(no:Int)(ls:List jD):List bg:=[.cells 73 [.c (.int .i64 0),.c (.sl ab 0 0 λ_=>[])],.cells 73 [.c (.int .i64 no),.vec 2 2 ls.length (cL.fn ls)],.vec 141 2 ls.length (cL.fn ls)]
def Qa(no k:Int)(t:List bw)(hk:b5 k=ab)(q:tF t):Ev X 66 [dI no,dI k,cF.sl t] [] (Ox (ey no k t)) []:=by
 refine Ev.rK tok Tryz.func66 rfl rfl rfl λy=>?_;have a:bH X [(110,HT),(112,yo)]:=.cons Mx (.cons yl .nil);refine bm a [(1000002,ab)] rfl ak ?_;refine AK.iq 1 1 141 2 (cL.fn []) rfl rfl ?_;refine cG a rfl ak ?_;refine AK.cJ 3 (λi=>i<=t.length) (λi:Nat=>[(1,dI k),(2,cF.sl t),(6,.e (.one (.ptr 0 0))),(7,.e (.one (.ptr 1 0))),(8,dI i)]) (λi=>R5 no (nG k (t.take i))) (λi=>t.length-i) 0 rfl ?_ rfl ?_ rfl (by omega) ?_
 .simp
 .simp
 intro i hi;by_cases h:i<t.length
 .have l:t.getD (i:Int).toNat cF.b8=t.getD i ([],[]):=by grind
  have d:t.getD i ([],[])∈t:=by grind
  obtain⟨r,q2⟩:=q.uc _ d;have u:=q.len;have o:=od r;have v:=kY (t.getD i ([],[])).2;have g:nG k (t.take (i+1))=nG k (t.take i)++[lG k (t.getD i ([],[]))]:=by grind[bU]
  have w:(nG k (t.take i)).length=i:=by grind
  generalize t.getD i ([],[])=f at *;generalize nG k (t.take i)=ls at *;refine bm a [(18,ab),(1000007,ab)] rfl ?_ ?_
  .simp only[au,l,r,a9,aF,aD];and_intros<;>omega
  rw[l];refine AK.iW 10 3 1 rfl rfl ?_;refine cG a rfl ak ?_;refine AK.cJ 4 (λj=>j<=(pieces f.2).length) (λj:Nat=>[(1,dI k),(2,cF.sl t),(6,.e (.one (.ptr 0 0))),(7,.e (.one (.ptr 1 0))),(8,dI i),(9,cS.sl (pieces f.2)),(10,.e (.one (.vec 3 1 j (cI.fn (l3 k ((pieces f.2).take j)))))),(11,dI j)]) (λj=>R5 no ls++[.vec 3 1 j (cI.fn (l3 k ((pieces f.2).take j)))]) (λj=>(pieces f.2).length-j) 0 rfl ?_ rfl ?_ rfl (by omega) ?_
  .simp
  .simp
  intro j p;by_cases z:j<(pieces f.2).length
  .have b:(pieces f.2).getD (j:Int).toNat cS.b8=(pieces f.2).getD j []:=by grind
   have m:bA ((pieces f.2).getD j [])=ab:=o _ (by grind);have c:=cI.cD (l3 k ((pieces f.2).take j)) (dC k ((pieces f.2).getD j []));rw[show(l3 k ((pieces f.2).take j)).length=j by grind,show l3 k ((pieces f.2).take j)++[dC k ((pieces f.2).getD j [])]=l3 k ((pieces f.2).take (j+1)) by grind[bU]]at c;refine bm a [(31,ab)] rfl ?_ (AK.aQ (j+1) rfl ?_ ?_ ?_ ?_)
   .simp only[au,b,hk,m,bE,show i3.bytes=8 from rfl,a9,aF,aD];and_intros<;>omega
   .simp only[au.cat,au,b,aF,aD];and_intros<;>first|exactλ_ _=>rfl|exact c|rfl|omega
   .simp only[au.cat,au,b,aF,aD];and_intros<;>first|exactλ_ _=>rfl|exact c|rfl|omega
   .grind
   .omega
  .have n:j=(pieces f.2).length:=by omega
   rw[n,dt];have c:=cL.cD ls (lG k f);have s:ls.length+1=(ls++[lG k f]).length:=by simp
   have x:cL.enc (lG k f)=[C.str f.1,C.sl af 1 (pieces f.2).length (cI.fn (l3 k (pieces f.2)))]:=by show[C.str f.1,C.sl af 1 (l3 k (pieces f.2)).length (cI.fn (l3 k (pieces f.2)))]=_;grind
   rw[x,<-g]at c;rw[<-g]at s;refine bm a [(31,af)] rfl (by simp only[au,bR];omega) (AK.leaveD rfl rfl ?_);refine cG a rfl ?_ (AK.aQ (i+1) rfl ?_ ?_ ?_ ?_)
   .simp only[au,bE,show i141.bytes=40 from rfl,aF,aD];and_intros<;>omega
   .simp
   .simp only[au.cat,au,l,aF,aD];and_intros<;>first|exact cE.same|exact c|exact s|rfl
   .grind
   .omega
 .obtain rfl:i=t.length:=by omega
  rw[dt];refine bm a [(18,af)] rfl (by simp) (AK.leaveD rfl rfl ?_);refine cG a rfl ak ?_;refine AK.nc () [] rfl rfl rfl rfl rfl rfl rfl rfl ?_ rfl rfl rfl rfl (λj p=>absurd p (by simp));simp[ey]
def og(f g:Nat->List C):cM 0 f g=g:=by funext i;simp[cM]
abbrev wM(s:bd):bg:=.cells 27 [.c (.sl af 2 s.1.length (cP.fn s.1)),.c (.sl af 2 s.2.1.length (eX.fn s.2.1)),.c (.sl af 2 s.2.2.length (cH.fn s.2.2))]
def EW(ps:List bG)(q:Nat->ai)(j:Nat):List C:=[.int .i64 (ps.getD j (0,[])).1,.val (q j)]
def Cz(ps:List bG)(q:Nat->ai)(i:Nat):Mem->Prop:=λM=>∀j,j<i->Rd M (q j) (.sl af 2 (ps.getD j (0,[])).2.length (ei.fn (ps.getD j (0,[])).2))
def Kd(q:Nat->ai)(i:Nat)(v:ai)(j:Nat):ai:=if j=i then v else q j
def N1{ps:List bG}{q:Nat->ai}:cE (i+1) (cM i (EW ps q) (λj=>([[.int .i64 (ps.getD i (0,[])).1,.val v]]:List (List C)).getD j [])) (EW ps (Kd q i v)):=by
 intro j a;by_cases h:j<i
 .simp[cM,h,EW,Kd,show j≠i by omega]
 .obtain rfl:j=i:=by omega
  simp[cM,EW,Kd]
def Cz.up{ps:List bG}{q:Nat->ai}{bf:nL}{xs:List ai}(o:0<(ps.getD i (0,[])).2.length)(g:gE 2 (ps.getD i (0,[])).2.length (ei.fn (ps.getD i (0,[])).2) xs)(n:∃b cap,bf=.row b cap/\(ps.getD i (0,[])).2.length<=cap/\cap<=9223372036854775807):
  ∀M M',xU M M'->Cz ps q i M->(∀b cap,bf=.row b cap->∀j v,xs[j]?=aa v->M' b j=aa v)->Cz ps (Kd q i (lK bf (ps.getD i (0,[])).2.length)) (i+1) M':=by
 intro M M' hle hK hx j hj;by_cases h:j<i
 .have:=(hK j h).mono hle;simpa[Kd,show j≠i by omega]using this
 .obtain rfl:j=i:=by omega
  obtain⟨b,cap,rfl,k,f⟩:=n;rw[Kd,bo rfl];have hx:=hx b cap rfl;refine .sl b 0 (λd e=>xs.getD (d*2+e) ah) k f (λh=>by cases h) (λd a=>g.wid d a) (λ_=>rfl) (λd a e c l=>?_) λd a e c l=>?_
  .obtain⟨v,v1,m⟩:=g.at' d a e c l;grind
  .obtain⟨v,v1,m⟩:=g.at' d a e c l;grind
abbrev Q4(s:bd)(i:Nat)(es:Nat->List C)(j:Nat)(l:List ff)(K:Mem->Prop):List bg:=[wM s,.cells 27 [g8,g8,g8],.buf 46 2 i es,.buf 73 2 j (eX.fn l),.buf 52 2 s.2.2.length (cH.fn s.2.2),.cells 27 [.bp 2 (.sl i 2 0 i),.bp 3 (.sl j 2 0 j),.bp 4 (.sl s.2.2.length 2 0 s.2.2.length)],.cj (PM K)]
def GO(s:bd)(z:∀p∈s.1,0<p.2.length)(F:s.1.length<=4000000)(t:∀p∈s.1,p.2.length<=4000000)(G:s.2.1.length<=4000000)(o:mJ s)(B:s.2.2.length<=4000000):
  ek (ι:=Nat->ai) X 61 [oY s] [] (λ_=>.e (.agg [.bp 0 (.sl s.1.length 2 0 s.1.length),.bp 1 (.sl s.2.1.length 2 0 s.2.1.length),.bp 2 (.sl s.2.2.length 2 0 s.2.2.length)]))
   (λq=>[.buf 46 2 s.1.length (EW s.1 q),.buf 73 2 s.2.1.length (eX.fn s.2.1),.buf 52 2 s.2.2.length (cH.fn s.2.2),.cj (PM (Cz s.1 q s.1.length))]):=by
 refine ek.tc tok Tryz.func61 rfl rfl rfl λC=>?_;refine bO [(1000001,ab)] rfl ak ?_;refine AK.region ?_;refine qi [] 5 rfl ak ?_;refine AK.Hs 9 46 2 (cP.fn []) rfl ?_;refine AK.Hs 10 73 2 (eX.fn []) rfl ?_;refine AK.Hs 11 52 2 (cH.fn []) rfl ?_;refine bO [(1000002,ab)] rfl ?_ ?_
 .simp only[au,show i52.bytes=16 from rfl,aF,aD];grind
 refine AK.spare 82 2 ?_;refine AK.OS (ι:=Unit) 6 (λ_=>PM (Cz s.1 (λ_=>ah) 0)) rfl (λv A h=>⟨(),PM.start (λ_ _ h=>absurd h (fy _)) v A h⟩) λ_=>?_;refine dk rfl ak ?_;refine AK.cJ 7 (λx:Nat×(Nat->ai)=>x.1<=s.1.length) (λx=>[(1,.e (.one (.ptr 0 0))),(2,.e (.one (.ptr 1 0))),(3,.e (.one (.ptr 5 0))),(4,dI x.1)]) (λx=>Q4 s x.1 (EW s.1 x.2) 0 [] (Cz s.1 x.2 x.1)) (λx=>s.1.length-x.1) (0,λ_=>ah) rfl ?_ rfl ?_ rfl (jc _) ?_
 .simp
 .simp[cE,og];rfl
 rintro⟨i,b⟩ hi;simp only at hi;by_cases h:i<s.1.length
 .have g:s.1.getD i (0,[])∈s.1:=by grind
  have a:s.1.getD (i:Int).toNat cP.b8=s.1.getD i (0,[]):=by grind
  have q:=t _ g;have d:=z _ g;rw[<-a]at d q;refine aW [(20,ab),(1000005,ab)] rfl ?_ ?_
  .simp only[au,bE,a9,aF,aD];omega
  refine AK.Lm (ι:=Own (s.1.getD (i:Int).toNat cP.b8).2) ju 15 18 8 (λk=>bD k 14)
   (λk=>[.e (.one (.ptr 5 0)),.e (.one (.bp 2 (.sl i 2 0 i))),.e (.one (.ptr 0 0)),cP.sl s.1,dI i,Va [.int .i64 (s.1.getD (i:Int).toNat cP.b8).1,sP (s.1.getD (i:Int).toNat cP.b8)],Va [.int .i64 (s.1.getD (i:Int).toNat cP.b8).1,sP (s.1.getD (i:Int).toNat cP.b8)],dI (s.1.getD (i:Int).toNat cP.b8).1,
    .e (.one (.c (.sl ab 2 0 (λj=>[].getD j [])))),.e (.one (.ptr 0 0)),cP.sl s.1,dI i,Va [.int .i64 (s.1.getD (i:Int).toNat cP.b8).1,sP (s.1.getD (i:Int).toNat cP.b8)],Va [sP (s.1.getD (i:Int).toNat cP.b8)],.e (.one (.c (sP (s.1.getD (i:Int).toNat cP.b8))))].getD k .any)
   (λq k=>[.e (.one (.c (BU _ q))),.e (.agg [.c (.int .i64 (s.1.getD (i:Int).toNat cP.b8).1),.c (BU _ q)]),.e (.one (.c (.sl ab 2 1 (λj=>[[.int .i64 (s.1.getD (i:Int).toNat cP.b8).1,BU _ q]].getD j []))))].getD (k-15) .any)
   (λq=>Q4 s i (EW s.1 b) 0 [] (Cz s.1 b i)++[Ji _ q])
   rfl rfl rfl rfl rfl rfl rfl (λk h=>by have:=dr h;omega) rfl
   ⟨OA.c8 tok bH.nil rfl,OA.c8 tok bH.nil rfl,OA.c8 tok bH.nil rfl,OA.c8 tok bH.nil rfl,OA.c8 tok bH.nil rfl,OA.eval (ds:=[]) tok bH.nil rfl ?_,OA.c8 tok bH.nil rfl,OA.c8 tok bH.nil rfl,OA.c8 tok bH.nil rfl,OA.c8 tok bH.nil rfl,OA.c8 tok bH.nil rfl,OA.c8 tok bH.nil rfl,OA.eval (ds:=[]) tok bH.nil rfl ?_,OA.c8 tok bH.nil rfl,OA.c8 tok bH.nil rfl,ak,ak,ak,ak,ak,ak,ak⟩
   (λq=>⟨OA.c8 tok bH.nil rfl,OA.c8 tok bH.nil rfl,OA.c8 tok bH.nil rfl,OA.c8 tok bH.nil rfl,OA.c8 tok bH.nil rfl,OA.eval (ds:=[]) tok bH.nil rfl ?_,OA.c8 tok bH.nil rfl,OA.c8 tok bH.nil rfl,OA.c8 tok bH.nil rfl,OA.c8 tok bH.nil rfl,OA.c8 tok bH.nil rfl,OA.c8 tok bH.nil rfl,OA.eval (ds:=[]) tok bH.nil rfl ?_,OA.c8 tok bH.nil rfl,OA.c8 tok bH.nil rfl,ak,OA.c8 tok bH.nil rfl,OA.c8 tok bH.nil rfl,ak⟩)
   (m9.xG rfl (eg.fresh (W6 rfl) rfl rfl rfl d (by show _*24<=_;omega) (HX _ _))) ?_
  .simp only[au,aD];omega
  .simp only[au,aD];omega
  .simp only[au,aD];omega
  .simp only[au,aD];omega
  rw[a];rw[a]at d q;generalize m:s.1.getD i (0,[])=p at *;intro r;refine aW [(1000004,ab)] rfl ?_ ?_
  .simp only[au,show i46.bytes=32 from rfl,aF,aD];grind
  refine AK.fact (gk.Wd (l:=7) (n:=p.2.length) (bf:=r.1.1) (xs:=r.1.2) rfl d) λE=>?_;refine AK.merge 6 7 (by decide) rfl rfl (λ_ _ h=>h.1) (PM.add (Cz.up (by grind) (by grind) (by grind))) ?_;have e:=N1 (ps:=s.1) (q:=b) (i:=i) (v:=lK r.1.1 (s.1.getD i (0,[])).2.length);rw[m]at *;refine bu rfl ?_ (AK.aQ (i+1,Kd b i (lK r.1.1 p.2.length)) rfl ?_ ?_ ?_ ?_)
  .simp only[au,bE,aD];omega
  .simp
  .simp only[au.cat,au,aD,aF];and_intros<;>first|exactλ_ _=>rfl|exact e|rfl
  .grind
  grind
 obtain rfl:i=s.1.length:=by omega
 refine bO [(20,af)] rfl (by simp) (AK.leaveD rfl rfl ?_);refine dk rfl ak ?_;refine AK.cJ 7 (λi=>i<=s.2.1.length) (λi:Nat=>[(1,.e (.one (.ptr 0 0))),(2,.e (.one (.ptr 1 0))),(3,.e (.one (.ptr 5 0))),(5,dI i)]) (λi=>Q4 s s.1.length (EW s.1 b) i (s.2.1.take i) (Cz s.1 b s.1.length)) (λi=>s.2.1.length-i) 0 rfl ?_ rfl ?_ rfl (by omega) ?_
 .simp
 .simp[cE]
 intro i hi;by_cases h:i<s.2.1.length
 .have g:s.2.1.getD i (0,[])∈s.2.1:=by grind
  have a:s.2.1.getD (i:Int).toNat eX.b8=s.2.1.getD i (0,[]):=by grind
  have q:=o _ g;have e:=eX.ld s.2.1 h (0,[]);generalize s.2.1.getD i (0,[])=x at *;refine bO [(47,ab),(1000010,ab)] rfl ?_ ?_
  .simp only[au,a,a9,true_or,aF,aD];and_intros<;>omega
  rw[a];refine AK.iq 7 1 141 2 (cL.fn []) rfl rfl ?_;refine dk rfl ak ?_;refine AK.cJ 9 (λj=>j<=x.2.length) (λj:Nat=>[(1,.e (.one (.ptr 0 0))),(2,.e (.one (.ptr 1 0))),(3,.e (.one (.ptr 5 0))),(5,dI i),(6,.e (.one (.ptr 7 0))),(7,dI j)]) (λj=>Q4 s s.1.length (EW s.1 b) i (s.2.1.take i) (Cz s.1 b s.1.length)++[.cells 73 [.c (.int .i64 x.1),.vec 8 2 j (cL.fn (x.2.take j))],.vec 141 2 j (cL.fn (x.2.take j))]) (λj=>x.2.length-j) 0 rfl ?_ rfl ?_ rfl (by omega) ?_
  .simp
  .simp[cE]
  intro j u;by_cases w:j<x.2.length
  .have f:x.2.getD (j:Int).toNat cL.b8=x.2.getD j ([],[]):=by grind
   have D:=q.2 (x.2.getD j ([],[])) (by grind);have y:=cL.ld x.2 w ([],[]);refine bO [(66,ab),(2000085,ab)] rfl ?_ (AK.aQ (j+1) rfl ?_ ?_ ?_ ?_)
   .simp only[au,a,f,bE,show i141.bytes=40 from rfl,show i3.bytes=8 from rfl,a9,true_or,aF,aD];and_intros<;>omega
   .simp
   .simp only[au.cat,au,a,f,og,bF,aD,aF];and_intros<;>first|exactλ_ _=>rfl|exact y|rfl
   .grind
   .omega
  obtain rfl:j=x.2.length:=by omega
  rw[dt];refine bO [(66,af)] rfl ?_ (AK.leaveD rfl rfl ?_)
  .simp only[au,a,bR];and_intros<;>omega
  refine dk rfl ?_ (AK.aQ (i+1) rfl ?_ ?_ ?_ ?_)
  .simp only[au,a,bE,show i73.bytes=32 from rfl,aF,aD];and_intros<;>omega
  .simp
  .simp only[au.cat,au,aD,aF];and_intros<;>first|exactλ_ _=>rfl|exact e|rfl
  .grind
  .omega
 obtain rfl:i=s.2.1.length:=by omega
 rw[dt];refine bO [(47,af)] rfl (by simp) (AK.leaveD rfl rfl ?_);refine dk rfl ak ?_;refine AK.nc b [2,3,4,6] rfl rfl rfl rfl rfl rfl rfl rfl ?_ rfl rfl rfl rfl (λj u=>absurd u (by simp))
 .simp
def N2(l:List br)(x:br)(s:l.length<=4000000):Ev X 116 [ei.sl l,T7 x] [] (.e (.one (.vec 0 2 (gI l x).length (ei.fn (gI l x))))) [.vec 82 2 (gI l x).length (ei.fn (gI l x))]:=by
 refine Ev.bQ Tryz.func116 rfl λr=>?_;refine bO [(1000002,ab)] rfl ak ?_;refine AK.iW 5 82 2 rfl rfl ?_;refine dk rfl ak ?_;refine AK.cJ 2 (λi=>i<=l.length) (λi:Nat=>p3F l x i (nF x l i)) (λi=>p3B x (nF x l i).1) (λi=>l.length-i) 0 rfl ?_ rfl ?_ rfl (by omega) ?_
 .simp[nF]
 .simp[nF]
 intro i hi;by_cases h:i<l.length
 .have p:=Aa (x:=x) h;have f:=tG x l i;have g:l.getD (i:Int).toNat ei.b8=l.getD i (0,[]):=by grind
  generalize nF x l i=a at p f;obtain⟨a,b⟩:=a;simp only at f;have m:=ei.cD a (l.getD i (0,[]));have n:=ei.qm a x (l.getD i (0,[]));cases b with
  |true =>
   have c:nF x l (i+1)=(a++[l.getD i (0,[])],ab):=p;have k:a.length+1=(a++[l.getD i (0,[])]).length:=by simp
   refine bO [(12,ab)] rfl ?_ (AK.aQ (i+1) rfl ?_ ?_ ?_ ?_)
   .simp only[au,g,bE,show i82.bytes=24 from rfl,a9,aF,aD];and_intros<;>omega
   .rw[c];simp only[au.cat,au,g,aF,aD];and_intros<;>first|exact k|exact m|exactλ_ _=>rfl|rfl|omega
   .rw[c];simp only[au.cat,au,g,aF,aD];and_intros<;>first|exact k|exact m|exactλ_ _=>rfl|rfl|omega
   .grind
   .omega
  |false =>
   by_cases j:x.1<(l.getD i (0,[])).1
   .have c:nF x l (i+1)=(a++[x,l.getD i (0,[])],ab):=by rw[p];simp only[jh,bo j];rfl
    have k:a.length+1+1=(a++[x,l.getD i (0,[])]).length:=by simp
    refine bO [(12,ab),(25,ab)] rfl ?_ (AK.aQ (i+1) rfl ?_ ?_ ?_ ?_)
    .simp only[au,g,bE,show i82.bytes=24 from rfl,j,j5,a9,aF,aD];and_intros<;>omega
    .rw[c];simp only[au.cat,au,g,aF,aD];and_intros<;>first|exact k|exact n|exactλ_ _=>rfl|rfl|omega
    .rw[c];simp only[au.cat,au,g,aF,aD];and_intros<;>first|exact k|exact n|exactλ_ _=>rfl|rfl|omega
    .grind
    .omega
   .have c:nF x l (i+1)=(a++[l.getD i (0,[])],af):=by rw[p];simp only[jh,aY j];rfl
    have k:a.length+1=(a++[l.getD i (0,[])]).length:=by simp
    refine bO [(12,ab),(25,af)] rfl ?_ (AK.aQ (i+1) rfl ?_ ?_ ?_ ?_)
    .simp only[au,g,bE,show i82.bytes=24 from rfl,a9,j,k9,oz,bR,aF,aD];and_intros<;>omega
    .rw[c];simp only[au.cat,au,g,aF,aD];and_intros<;>first|exact k|exact m|exactλ_ _=>rfl|rfl|omega
    .rw[c];simp only[au.cat,au,g,aF,aD];and_intros<;>first|exact k|exact m|exactλ_ _=>rfl|rfl|omega
    .grind
    .omega
 .obtain rfl:i=l.length:=by omega
  have d:=uO x l [];have f:=tG x l l.length;refine bO [(12,af)] rfl (by simp) (AK.leaveD rfl rfl ?_);have q:nF x l l.length=l.foldl (jh x) ([],af):=by grind
  rw[q]at f⊢;generalize l.foldl (jh x) ([],af)=a at *;obtain⟨a,b⟩:=a;simp only[mV]at d f;cases b with
  |true =>
   simp only[b6]at d;subst d;refine dk rfl ak (AK.cX [1] rfl ?_ ?_ rfl rfl x8)
   .simp
   .rfl
  |false =>
   simp only[jZ,cg]at d;have m:=ei.cD a x;refine bO [(1000012,ab)] rfl ?_ ?_
   .simp only[au,show i82.bytes=24 from rfl,aF,aD];grind
   have o:(a++[x]).length=a.length+1:=by simp
   refine AK.Bn (φ':=[(5,.e (.one (.vec 1 2 (a++[x]).length (ei.fn (a++[x])))))]) (σ':=p3B x (a++[x])) ?_ rfl ?_ rfl ?_
   .rw[<-d];refine dk rfl ak (AK.cX [1] rfl ?_ ?_ rfl rfl x8)
    .simp
    .rfl
   .simp only[au.cat,au,o,aF,aD];and_intros<;>first|exact m|rfl
   .simp only[au.cat,au,o,aF,aD];and_intros<;>first|exact m|rfl
def N3[X.ik](l:List br)(x:br)(a:l.length<=4000000):ek (ι:=Own (gI l x)) X 116 [ei.sl l,T7 x] [] (λq=>.e (.one (.c (BU (gI l x) q)))) (λq=>[Ji (gI l x) q]) :=
 Ev.thaw (N2 l x a) Tryz.func116 rfl (by simp[wH,ri,nh]) λi hi=>⟨rfl,HX _ _ i hi⟩
def mkB(no:Int)(L:List br):Option (Own L)->List br->List bg
 |none,l=>[.cells 46 [.c (.int .i64 0),.c (.sl ab 0 0 λ_=>[])],pkB no l,.cj (gk 82 2 (.nil ae) 0 [])]
 |some q,_=>[.cells 46 [.c (.int .i64 0),.c (.sl ab 0 0 λ_=>[])],.cells 46 [.c (.int .i64 no),.c (BU L q)],Ji L q]
def JL[X.ik](no k:Int)(ps:List Bs)(hk:b5 k=ab)(w:∀p∈ps,bA p=ab)(B:ps.length<=4000000)(A:0<ps.length):
  ek (ι:=Own (o7 k ps)) X 65 [dI no,dI k,cS.sl ps] [] (λq=>.e (.agg [.c (.int .i64 no),.c (BU (o7 k ps) q)])) (λq=>[Ji (o7 k ps) q]):=by
 refine ek.tc tok Tryz.func65 rfl rfl rfl λz=>?_;have f:bH X [(112,yo),(117,HV),(116,R2)]:=.cons yl (.cons MF (.cons W3 .nil));refine bm f [(1000002,ab)] rfl ak ?_;refine AK.spare 82 2 ?_;refine cG f rfl ak ?_;refine AK.cJ 3 (λx:Option (Own (o7 k ps))×Nat=>x.2<=ps.length/\(x.1.isSome=ab↔x.2=ps.length)) (λx=>[(1,dI k),(2,cS.sl ps),(6,.e (.one (.ptr 0 0))),(7,.e (.one (.ptr 1 0))),(8,dI x.2)]) (λx=>mkB no (o7 k ps) x.1 (o7 k (ps.take x.2))) (λx=>ps.length-x.2) (ae,0) rfl ?_ rfl ?_ rfl ⟨jc _,by grind⟩ ?_
 .simp
 .simp[o7]
 rintro⟨q,i⟩ ⟨hi,s⟩;simp only at hi s;cases q with
 |some q =>
  obtain rfl:i=ps.length:=s.1 rfl;refine bm f [(15,af)] rfl (by simp) (AK.leaveD rfl rfl ?_);refine cG f rfl ak ?_;refine AK.nc q [2] rfl rfl rfl rfl rfl rfl rfl rfl ?_ rfl rfl rfl rfl (λj u=>absurd u (by simp));simp
 |none =>
  have h:i<ps.length:=by grind
  have m:ps.getD (i:Int).toNat cS.b8=ps.getD i []:=by grind
  have d:bA (ps.getD i [])=ab:=w _ (by grind);have t:=MH (k:=k) h;have o:=rm k (ps.take i);rw[List.length_take]at o;by_cases y:i+1<ps.length
  .refine bm f [(15,ab)] rfl ?_ (AK.aQ (ae,i+1) rfl ?_ ?_ ?_ ?_)
   .simp only[au,m,hk,d,bE,ei.list_fn,a9,aF,aD];and_intros<;>first|exact ei.aK _|omega
   .simp
   .show au _;rw[t];simp only[au.cat,au,m,ei.list_fn,aF,aD];and_intros<;>first|exactλ_ _=>rfl|rfl|omega
   .grind
   grind
  .have v:i+1=ps.length:=by omega
   have b:o7 k ps=gI (o7 k (ps.take i)) (dC k (ps.getD i []),eZ (ps.getD i [])):=by grind
   refine bm f [(15,ab),(1000005,ab)] rfl ?_ ?_
   .simp only[au,a9];omega
   have g:=N3 (X:=X) (o7 k (ps.take i)) (dC k (ps.getD i []),eZ (ps.getD i [])) (by omega);rw[<-b]at g;have a:bH X [(112,yo),(117,HV)]:=.cons yl (.cons MF .nil);generalize n:ps.getD i []=p at *;generalize o7 k (ps.take i)=l at *;refine AK.Lm (ι:=Own (o7 k ps)) ju 14 15 16 (λj=>bD j 13)
    (λj=>([.e (.one (.ptr 1 1)),ei.sl l,dI k,cS.sl ps,dI i,Va [.str (ps.getD (i:Int).toNat cS.b8)],dS (ps.getD (i:Int).toNat cS.b8),dI (dC k (ps.getD (i:Int).toNat cS.b8)),cS.sl ps,dI i,Va [.str (ps.getD (i:Int).toNat cS.b8)],dS (ps.getD (i:Int).toNat cS.b8),dS (eZ (ps.getD (i:Int).toNat cS.b8)),.e (.agg [.c (.int .i64 (dC k (ps.getD (i:Int).toNat cS.b8))),.c (.str (eZ (ps.getD (i:Int).toNat cS.b8)))])]:List D).getD j .any)
    (λq _=>.e (.one (.c (BU (o7 k ps) q)))) (λq=>mkB no (o7 k ps) ae l++[Ji (o7 k ps) q])
    rfl rfl rfl rfl rfl rfl rfl (λj h=>by have:=dr h;omega) rfl
    ⟨OA.c8 tok a rfl,OA.c8 tok a rfl,OA.c8 tok a rfl,OA.c8 tok a rfl,OA.c8 tok a rfl,OA.eval (ds:=[]) tok a rfl ?_,OA.c8 tok a rfl,OA.eval (ds:=[]) tok a rfl ?_,OA.c8 tok a rfl,OA.c8 tok a rfl,OA.eval (ds:=[]) tok a rfl ?_,OA.c8 tok a rfl,OA.eval (ds:=[]) tok a rfl ?_,OA.c8 tok a rfl,ak,ak,ak,ak⟩
    (λq=>⟨OA.c8 tok a rfl,OA.c8 tok a rfl,OA.c8 tok a rfl,OA.c8 tok a rfl,OA.c8 tok a rfl,OA.eval (ds:=[]) tok a rfl ?_,OA.c8 tok a rfl,OA.eval (ds:=[]) tok a rfl ?_,OA.c8 tok a rfl,OA.c8 tok a rfl,OA.eval (ds:=[]) tok a rfl ?_,OA.c8 tok a rfl,OA.eval (ds:=[]) tok a rfl ?_,OA.c8 tok a rfl,ak,ak⟩)
    (m9.qS (n▸g) [] rfl rfl rfl rfl rfl rfl rfl (λ_=>rfl) rfl (λ_=>rfl)) ?_
   all_goals first|(simp only[au,m,hk,d,aD,aF];omega)|(simp only[au.cat,au,m,hk,d,and_self];done)|skip
   intro r;refine bm a [(1000004,ab)] rfl ak ?_;refine AK.swap 2 3 (by decide) rfl rfl (λ_ _ h=>h.1) (λ_ _ h=>h.1) ?_;refine cG a rfl ?_ (AK.aQ (aa r,i+1) rfl ?_ ?_ ?_ ?_)
   .simp only[au,bE];omega
   .simp
   .simp
   .grind
   grind
def BT{a b:Int}(m:Int)(h:o.op=.call {callee:=.builtin .max,args:=#[x,y],argTypes:=jU})(k:η x=dI a)(l:η y=dI b)(q:max a b=m)(n:bE .i64 m):bL ag o η σ (dI m) σ:=by
 refine .quiet λs j p d=>?_;have g:=d x;have c:=d y;rw[k]at g;rw[l]at c;replace g:=fe g;replace c:=fe c;generalize f:j x=vx at g;generalize i:j y=vy at c;cases g;cases c;have e:(if a<b then b else a)=m:=by grind
 exact⟨.int .i64 m,by simp[aq,h,resolve,invoke,builtin,f,i,Builtin.max_,Builtin.max2,e],.int n,by simp[aq,h,resolve,invoke,builtin,f,i,Builtin.max_,Builtin.max2]⟩
def cy(s:bd):Int:=if s.1.length=0 then 1 else(s.1.getD (s.1.length-1) (0,[])).1+1
def pw(l:List (Int×Int)):Int:=l.foldl (λm h=>max m (h.2+1)) 1
def cq(s:bd):Int:=if s.2.1.length=0 then pw s.2.2 else max (pw s.2.2) ((s.2.1.getD (s.2.1.length-1) (0,[])).1+1)
structure rE(st:bd):Prop where
 p:∀x∈st.1,-4000000<=x.1/\x.1<=4000000
 s:∀x∈st.2.1,-4000000<=x.1/\x.1<=4000000
 h:∀x∈st.2.2,-4000000<=x.2/\x.2<=4000000
def oh(l:List (Int×Int))(h:∀x∈l,-4000000<=x.2/\x.2<=4000000):1<=pw l/\pw l<=4000001:=by
 have:∀(l:List (Int×Int)) (m:Int),(∀x∈l,-4000000<=x.2/\x.2<=4000000)->1<=m->m<=4000001->1<=l.foldl (λm h=>max m (h.2+1)) m/\l.foldl (λm h=>max m (h.2+1)) m<=4000001:=by
  intro l;induction l with
  |nil=>grind
  |cons x r a =>
   grind
 exact this l 1 h (by omega) (by omega)
def Gg{l:List (Int×Int)}(h:i<l.length):pw (l.take (i+1))=max (pw (l.take i)) ((l.getD i (0,0)).2+1):=by unfold pw;grind[bU]
def fM{l:List α}(h:i<l.length)(d:α):l.getD i d∈l:=by grind
def Jh(s:bd)(d:kI s)(b:rE s):Ev X 62 [oY s] [] (.fD [.one (.c (.int .i64 (cy s))),.one (.c (.int .i64 (cq s)))]) []:=by
 refine Ev.bQ Tryz.func62 rfl λo=>?_;have k:=d.p;have m:=d.sn;have g:=d.h;apply AK.join [(1,.e (.one (.ptr 0 0))),(4,dI (cy s)),(5,dI 1)] [wM s]
 .intro out;by_cases h:s.1.length=0
  .refine bO [(10,af),(1000005,ab)] rfl (by simp only[au,bR];omega) ?_;exact out _ _ rfl (by simp[cy,h])
  .have f:=b.p _ (fM (show s.1.length-1<s.1.length by omega) (0,[]));have a:s.1.getD ((s.1.length:Int)-1).toNat cP.b8=s.1.getD (s.1.length-1) (0,[]):=by rw[show((s.1.length:Int)-1).toNat=s.1.length-1 by omega];rfl
   refine bO [(10,ab),(1000005,ab)] rfl ?_ ?_
   .simp only[au,a,bE,a9,aF,aD];and_intros<;>omega
   exact out _ _ rfl (by simp only[au.cat,au,cy,aY h,a,aF,aD])
 refine dk rfl ak ?_;refine AK.cJ 1 (λi=>i<=s.2.2.length) (λi:Nat=>[(1,.e (.one (.ptr 0 0))),(4,dI (cy s)),(5,dI (pw (s.2.2.take i))),(6,dI i)]) (λi=>[wM s]) (λi=>s.2.2.length-i) 0 rfl ?_ rfl ?_ rfl (by omega) ?_
 .simp[pw]
 .simp
 intro i hi;by_cases h:i<s.2.2.length
 .have f:=b.h _ (fM h (0,0));have l:=oh (s.2.2.take i) λx j=>b.h x (fN j);have a:s.2.2.getD (i:Int).toNat cH.b8=s.2.2.getD i (0,0):=by grind
  have n:=Gg h;refine bO [(25,ab)] rfl ?_ ?_
  .simp only[au,a,bE,a9,aF,aD];and_intros<;>omega
  rw[a];refine AK.law (BT (pw (s.2.2.take (i+1))) rfl rfl rfl n.symm (by simp only[bE];omega)) rfl rfl ?_;refine dk rfl ?_ (AK.aQ (i+1) rfl ?_ ?_ ?_ ?_)
  .simp only[au,bE];omega
  .simp
  .simp
  .grind
  .omega
 obtain rfl:i=s.2.2.length:=by omega
 rw[dt];refine bO [(25,af)] rfl (by simp) (AK.leaveD rfl rfl ?_);have l:=oh s.2.2 b.h;by_cases h:s.2.1.length=0
 .refine bO [(40,af)] rfl (by simp only[au,bR];omega) (AK.bC rfl ?_);simp[cq,h]
 .have f:=b.s _ (fM (show s.2.1.length-1<s.2.1.length by omega) (0,[]));have a:s.2.1.getD ((s.2.1.length:Int)-1).toNat eX.b8=s.2.1.getD (s.2.1.length-1) (0,[]):=by rw[show((s.2.1.length:Int)-1).toNat=s.2.1.length-1 by omega];rfl
  refine bO [(40,ab)] rfl ?_ ?_
  .simp only[au,a,bE,a9,aF,aD];and_intros<;>omega
  rw[a];refine AK.law (BT (cq s) rfl rfl rfl (by rw[cq,aY h]) (by rw[cq,aY h];simp only[bE];omega)) rfl rfl ?_;exact dk rfl ak (AK.bC rfl)
abbrev Ua(s:bd)(i:Nat)(p:List bG)(j:Nat)(q:List ff):List bg:=[wM s,.cells 27 [g8,g8,g8],.vec 52 2 s.2.2.length (cH.fn s.2.2),.cells 27 [.vec 4 2 i (cP.fn p),.vec 5 2 j (eX.fn q),.vec 2 2 s.2.2.length (cH.fn s.2.2)],.vec 46 2 i (cP.fn p),.vec 73 2 j (eX.fn q)]
def Gf(s:bd)(u:s.1.length<=4000000)(g:∀p∈s.1,p.2.length<=4000000)(r:s.2.1.length<=4000000)(f:mJ s)(n:s.2.2.length<=4000000):
  Ev X 61 [oY s] [] (.e (.agg [.vec 0 2 s.1.length (cP.fn s.1),.vec 1 2 s.2.1.length (eX.fn s.2.1),.vec 2 2 s.2.2.length (cH.fn s.2.2)])) [.vec 46 2 s.1.length (cP.fn s.1),.vec 73 2 s.2.1.length (eX.fn s.2.1),.vec 52 2 s.2.2.length (cH.fn s.2.2)]:=by
 refine Ev.rK tok Tryz.func61 rfl rfl rfl λo=>?_;refine bO [(1000002,ab)] rfl ?_ ?_
 .simp only[au,show i52.bytes=16 from rfl,aF,aD,true_or];grind
 refine AK.iq 3 0 46 2 (cP.fn []) rfl rfl ?_;refine AK.iq 3 1 73 2 (eX.fn []) rfl rfl ?_;refine dk rfl ak ?_;refine AK.cJ 6 (λi=>i<=s.1.length) (λi:Nat=>[(1,.e (.one (.ptr 0 0))),(2,.e (.one (.ptr 1 0))),(3,.e (.one (.ptr 3 0))),(4,dI i)]) (λi=>Ua s i (s.1.take i) 0 []) (λi=>s.1.length-i) 0 rfl ?_ rfl ?_ rfl (by omega) ?_
 .simp
 .simp[cE,og]
 intro i hi;by_cases h:i<s.1.length
 .have d:s.1.getD i (0,[])∈s.1:=by grind
  have a:s.1.getD (i:Int).toNat cP.b8=s.1.getD i (0,[]):=by grind
  have q:=g _ d;refine bO [(20,ab),(2000038,ab)] rfl ?_ (AK.aQ (i+1) rfl ?_ ?_ ?_ ?_)
  .simp only[au,a,bE,show i46.bytes=32 from rfl,show i82.bytes=24 from rfl,a9,true_or,aF,aD];and_intros<;>omega
  .simp
  .have e:=cP.ld s.1 h (0,[]);simp only[au.cat,au,a,og,bF,aD,aF];and_intros<;>first|exactλ_ _=>rfl|exact e|rfl|omega
  .grind
  .omega
 obtain rfl:i=s.1.length:=by omega
 rw[dt];refine bO [(20,af)] rfl (by simp) (AK.leaveD rfl rfl ?_);refine dk rfl ak ?_;refine AK.cJ 6 (λi=>i<=s.2.1.length) (λi:Nat=>[(1,.e (.one (.ptr 0 0))),(2,.e (.one (.ptr 1 0))),(3,.e (.one (.ptr 3 0))),(5,dI i)]) (λi=>Ua s s.1.length s.1 i (s.2.1.take i)) (λi=>s.2.1.length-i) 0 rfl ?_ rfl ?_ rfl (by omega) ?_
 .simp
 .simp[cE]
 intro i hi;by_cases h:i<s.2.1.length
 .have d:s.2.1.getD i (0,[])∈s.2.1:=by grind
  have a:s.2.1.getD (i:Int).toNat eX.b8=s.2.1.getD i (0,[]):=by grind
  have q:=f _ d;have e:=eX.ld s.2.1 h (0,[]);generalize s.2.1.getD i (0,[])=x at *;refine bO [(47,ab),(1000010,ab)] rfl ?_ ?_
  .simp only[au,a,a9,true_or,aF,aD];and_intros<;>omega
  rw[a];refine AK.iq 6 1 141 2 (cL.fn []) rfl rfl ?_;refine dk rfl ak ?_;refine AK.cJ 8 (λj=>j<=x.2.length) (λj:Nat=>[(1,.e (.one (.ptr 0 0))),(2,.e (.one (.ptr 1 0))),(3,.e (.one (.ptr 3 0))),(5,dI i),(6,.e (.one (.ptr 6 0))),(7,dI j)]) (λj=>Ua s s.1.length s.1 i (s.2.1.take i)++[.cells 73 [.c (.int .i64 x.1),.vec 7 2 j (cL.fn (x.2.take j))],.vec 141 2 j (cL.fn (x.2.take j))]) (λj=>x.2.length-j) 0 rfl ?_ rfl ?_ rfl (by omega) ?_
  .simp
  .simp[cE]
  intro j k;by_cases m:j<x.2.length
  .have b:x.2.getD (j:Int).toNat cL.b8=x.2.getD j ([],[]):=by grind
   have t:=q.2 (x.2.getD j ([],[])) (by grind);have l:=cL.ld x.2 m ([],[]);refine bO [(66,ab),(2000085,ab)] rfl ?_ (AK.aQ (j+1) rfl ?_ ?_ ?_ ?_)
   .simp only[au,a,b,bE,show i141.bytes=40 from rfl,show i3.bytes=8 from rfl,a9,true_or,aF,aD];and_intros<;>omega
   .simp
   .simp only[au.cat,au,a,b,og,bF,aD,aF];and_intros<;>first|exactλ_ _=>rfl|exact l|rfl
   .grind
   .omega
  obtain rfl:j=x.2.length:=by omega
  rw[dt];refine bO [(66,af)] rfl ?_ (AK.leaveD rfl rfl ?_)
  .simp only[au,a,bR];and_intros<;>omega
  refine dk rfl ?_ (AK.aQ (i+1) rfl ?_ ?_ ?_ ?_)
  .simp only[au,a,bE,show i73.bytes=32 from rfl,aF,aD];and_intros<;>omega
  .simp
  .simp only[au.cat,au,aD,aF];and_intros<;>first|exactλ_ _=>rfl|exact e|rfl|omega
  .grind
  .omega
 obtain rfl:i=s.2.1.length:=by omega
 rw[dt];refine bO [(47,af)] rfl (by simp) (AK.leaveD rfl rfl ?_);refine dk rfl ak ?_;refine AK.nc () [4,5,2] rfl rfl rfl rfl rfl rfl rfl rfl ?_ rfl rfl rfl rfl (λj k=>absurd k (by simp))
 .simp
def My(a b:Nat):min (a:Int) (b:Int)=((min a b:Nat):Int):=by grind
def dA(k:Int):Nat->Int->List Bs->List bG
 |0,_,_=>[]
 |f+1,no,ps=>if 0<ps.length then fT no k (ps.take 4)::dA k f (no+1) (ps.drop 4)else[]
def iY(k:Int)(s:bd)(t:List bw):List bG:=dA k (c7 k t (indexOf s.1)).length (cy s) (c7 k t (indexOf s.1))
def ga(k:Int)(s:bd)(t:List bw):Bool:=decide (20<s.1.length+(iY k s t).length)||(decide (99<cy s+(iY k s t).length-1)||(decide (20<cq s)||decide (9<=s.2.2.length)))
def cn(k:Int)(s:bd)(by_:Int)(t:List bw):bd:=(s.1++iY k s t,s.2.1++[ey (cq s) k t],s.2.2++[(by_,cq s)])
theorem yn(k:Int):∀f no ps,(dA k f no ps).length<=f
 |0,_,_=>bh _
 |f+1,no,ps=>by
  simp only[dA];split
  .have:=yn k f (no+1) (ps.drop 4);grind
  .simp
abbrev RZ:dJ:=FV aI aI (aL cF) (λno k t=>Ox (ey no k t)) λ_ k t=>[b5 k=ab,tF t]
def WX:eh X 66 RZ:=.LU λno k t h=>Qa no k t h.1 h.2
abbrev Mz:dJ:=FV aI (aL cF) (aL pG) (λk t l=>cS.sl (c7 k t l)) λk t l=>[b5 k=ab,tF t,l.length<=4000000]
def T6:eh X 63 Mz:=.LU λk t l h=>MA k t l h.1 h.2.1 h.2.2
def gC{t:List bw}{l:List cm}(c:tF t):(∀p∈c7 k t l,bA p=ab)/\(c7 k t l).length<=100000:=by
 constructor
 .have:∀(ps a:List Bs),(∀p∈ps,bA p=ab)->(∀p∈a,bA p=ab)->∀p∈ps.foldl (iz k l) a,bA p=ab:=by
   intro ps;induction ps with
   |nil=>grind
   |cons q r h =>
    intro a g d;refine h _ (λp b=>g p (pH _ b)) λp b=>?_;unfold iz at b;grind
  refine this _ [] (λp b=>?_) (by simp);obtain⟨f,e,b⟩:=qJ.1 b;exact od (c.uc f e).1 p b
 .have:=uM k l (g9 t) [];have d:=c.all;unfold c7;simp only[gO]at this;exact iN this (by omega)
theorem ql{l:List bG}(h:(cZ l).length<=100000):(indexOf l).length<=100000:=by unfold indexOf;grind[uN]
abbrev tSt(s:bd)(b:Bool):D:=.fD [.agg [.c (.sl af 2 s.1.length (cP.fn s.1)),.c (.sl af 2 s.2.1.length (eX.fn s.2.1)),.c (.sl af 2 s.2.2.length (cH.fn s.2.2))],.one (.c (.bool b))]
def Cz.snoc{ps:List bG}{x:bG}{q:Nat->ai}{bf:nL}{xs:List ai}(d:0<x.2.length)(a:gE 2 x.2.length (ei.fn x.2) xs)(c:∃b cap,bf=.row b cap/\x.2.length<=cap/\cap<=9223372036854775807):
  ∀M M',xU M M'->Cz ps q ps.length M->(∀b cap,bf=.row b cap->∀j v,xs[j]?=aa v->M' b j=aa v)->Cz (ps++[x]) (Kd q ps.length (lK bf x.2.length)) (ps++[x]).length M':=by
 intro M M' hle hK hx;have e:(ps++[x]).getD ps.length (0,[])=x:=by simp
 have h:=Cz.up (ps:=ps++[x]) (q:=q) (i:=ps.length) (bf:=bf) (xs:=xs) (by grind) (by grind) (by grind) M M' hle (λj hj=>by
  have e2:(ps++[x]).getD j (0,[])=ps.getD j (0,[]):=by grind
  rw[e2];exact hK j hj) hx
 grind
def N4{ps:List bG}{x:bG}{q:Nat->ai}:cE (ps.length+1) (cM ps.length (EW ps q) (λj=>([[.int .i64 x.1,.val v]]:List (List C)).getD j [])) (EW (ps++[x]) (Kd q ps.length v)):=by
 intro j b;by_cases h:j<ps.length
 .have a:(ps++[x]).getD j (0,[])=ps.getD j (0,[]):=by grind
  simp only[cM,h,b6,EW,Kd,a,aY (show j≠ps.length by omega)]
 .obtain rfl:j=ps.length:=by omega
  have e:(ps++[x]).getD ps.length (0,[])=x:=by simp
  simp only[cM,EW,Kd,e,b6];simp
abbrev aaO(k by_ no:Int)(s:bd)(t:List bw)(rest:List Bs):Fr:=[(0,dI k),(2,dI by_),(3,cF.sl t),(5,.e (.one (.ptr 0 0))),(8,.e (.one (.ptr 1 0))),(10,.e (.one (.ptr 6 0))),(11,dI no),(12,dI (cq s)),(13,cS.sl rest)]
abbrev Q5(s:bd)(ps:List bG)(q:Nat->ai):List bg:=[wM s,.cells 27 [g8,g8,g8],.buf 46 2 ps.length (EW ps q),.buf 73 2 s.2.1.length (eX.fn s.2.1),.buf 52 2 s.2.2.length (cH.fn s.2.2),.cj (PM (Cz ps q ps.length)),.cells 27 [.bp 2 (.sl ps.length 2 0 ps.length),.bp 3 (.sl s.2.1.length 2 0 s.2.1.length),.bp 4 (.sl s.2.2.length 2 0 s.2.2.length)]]
def sE[X.ik](k:Int)(s:bd)(by_:Int)(t:List bw)(hk:b5 k=ab)(b:kI s)(y:rE s)(z:tF t)(M:(cZ s.1).length<=100000)(h0:∀p∈s.1,0<p.2.length){A:Bool}(K:ga k s t=A):
  ek (ι:=Nat->ai) X 24 [dI k,oY s,dI by_,cF.sl t] [] (λ_=>cond A (tSt s af) (.fD [.agg [.bp 0 (.sl (cn k s by_ t).1.length 2 0 (cn k s by_ t).1.length),.c (Gc (cn k s by_ t).2.1),.c (DH (cn k s by_ t).2.2)],.one (.c (.bool ab))]))
   (λq=>cond A [] [.buf 46 2 (cn k s by_ t).1.length (EW (cn k s by_ t).1 q),.cj (PM (Cz (cn k s by_ t).1 q (cn k s by_ t).1.length))]):=by
 refine ek.tc tok Tryz.func24 rfl rfl rfl λhf=>?_;have a:bH X [(64,ME),(63,Mz),(66,RZ)]:=.cons T8 (.cons T6 (.cons WX .nil));have h1:=b.p;have h2:=b.sn;have h3:=b.h;have V:=ql M;refine cG a rfl ak ?_;refine AK.cP (GO s h0 b.p b.p2 b.sn b.s2 b.h) [] rfl (λ_=>rfl) λR=>?_;refine cG a rfl ak ?_;refine AK.cQ (Jh s b y) [] rfl ?_;refine cG a rfl ?_ ?_
 .simp only[au,cP.list_fn,pG.list_fn,cF.list_fn,hk,z];and_intros<;>first|exact cP.aK _|exact pG.aK _|exact cF.aK _|trivial|exact z|omega
 simp only[cP.list_fn,pG.list_fn,cF.list_fn];obtain⟨B,hpl⟩:=gC (k:=k) (l:=indexOf s.1) z;have hN:iY k s t=dA k (c7 k t (indexOf s.1)).length (cy s) (c7 k t (indexOf s.1)):=rfl;generalize c7 k t (indexOf s.1)=pc at *;generalize O:iY k s t=np at *;have hpn:-4000000<=cy s/\cy s<=4000001:=by
  unfold cy;split
  .omega
  .rename_i h;have:=y.p _ (fM (show s.1.length-1<s.1.length by omega) (0,[]));omega
 have UU:np.length<=100000:=by grind[yn]
 refine AK.lB (S2:=Nat->ai) 0 rfl rfl (λ_=>True) (λ_=>[(0,dI k),(2,dI by_),(3,cF.sl t),(5,.e (.one (.ptr 0 0))),(8,.e (.one (.ptr 1 0))),(10,.e (.one (.ptr 6 0))),(11,dI (cy s+np.length)),(12,dI (cq s))]) (λq=>Q5 s (s.1++np) q) 7
  (λx:List Bs×List bG×(Nat->ai)=>(∀p∈x.1,bA p=ab)/\x.2.1.length+x.1.length<=5000000/\s.1.length<=x.2.1.length/\∃f,x.1.length<=f/\s.1++np=x.2.1++dA k f (cy s+(x.2.1.length-s.1.length:Nat)) x.1) (λx=>aaO k by_ (cy s+(x.2.1.length-s.1.length:Nat)) s t x.1) (λx=>Q5 s x.2.1 x.2.2) (λx=>x.1.length) (pc,s.1,R) rfl ?_ rfl ?_ rfl ⟨B,by grind,bh _,pc.length,bh _,by grind⟩ ?_ ?_
 .simp
 .simp
 .rintro out ⟨rest,ps,q⟩ ⟨H,g2,S,f,g4,G⟩;simp only at H g2 S g4 G;by_cases h:0<rest.length
  .obtain⟨f,rfl⟩:∃T,f=T+1:=⟨f-1,by omega⟩
   simp only[dA,bo h]at G;have Y:bE .i64 ((min rest.length 4:Nat):Int):=by simp only[bE];omega
   refine bm a [(30,ab)] rfl (by simp only[au,a9];omega) ?_;refine AK.law (yb ((min rest.length 4:Nat):Int) rfl rfl rfl (My rest.length 4) Y) rfl rfl ?_;have I:dm rest.length (aa ((min rest.length 4:Nat):Int))-dm 0 ae=min rest.length 4:=by simp[dm]
   have hD:cE (rest.length-min rest.length 4) (my (min rest.length 4) (cS.fn rest)) (cS.fn (rest.drop 4)):=by
    intro i hi;have h4:min rest.length 4=4:=by omega
    rw[h4];simp only[my,mS.fn,BQ,aj,pK]
   have hT:cE (dm rest.length (aa ((min rest.length 4:Nat):Int))-dm 0 ae) (my (dm 0 ae) (cS.fn rest)) (cS.fn (rest.take 4)):=by intro i hi;rw[I]at hi;simp only[my,dm,mS.fn,BQ,aj,bF];grind
   have hTl:(rest.take 4).length=min rest.length 4:=by grind
   have J:∀p∈rest.take 4,bA p=ab:=λp F=>H p (fN F);have E:=JL (X:=X) (cy s+(ps.length-s.1.length:Nat)) k (rest.take 4) hk J (by omega) (by omega);have hx0:fT (cy s+(ps.length-s.1.length:Nat)) k (rest.take 4)=(cy s+(ps.length-s.1.length:Nat),o7 k (rest.take 4)):=rfl;have m:0<(o7 k (rest.take 4)).length:=by grind[rm]
   generalize U:cy s+(ps.length-s.1.length:Nat)=no at *;have N:-5000000<=no/\no<=10000000:=by omega
   generalize Z:o7 k (rest.take 4)=N5 at *;refine bm a [(1000006,ab)] rfl ak ?_;refine AK.Lm (ι:=Own N5) ju 7 9 12 (λj=>bD j 6)
    (λj=>([.e (.one (.ptr 6 0)),.e (.one (.bp 2 (.sl ps.length 2 0 ps.length))),dI no,dI k,cS.sl rest,dI (min rest.length 4:Nat),.e (.one (.c (.sl af 1 (dm rest.length (aa ((min rest.length 4:Nat):Int))-dm 0 ae) (my (dm 0 ae) (cS.fn rest)))))]:List D).getD j .any)
    (λr j=>match j with|7=>.e (.agg [.c (.int .i64 no),.c (BU N5 r)])|_=>.e (.one (.c (.sl ab 2 1 (λj=>([[.int .i64 no,BU N5 r]]:List (List C)).getD j []))))) (λr=>Q5 s ps q++[Ji N5 r])
    rfl rfl rfl rfl rfl rfl rfl (λj h=>by have:=dr h;omega) rfl
    ⟨OA.c8 tok a rfl,OA.c8 tok a rfl,OA.c8 tok a rfl,OA.c8 tok a rfl,OA.c8 tok a rfl,OA.c8 tok a rfl,OA.eval (ds:=[]) tok a rfl ?_,ak,ak,ak,ak,ak,ak⟩
    (λr=>⟨OA.c8 tok a rfl,OA.c8 tok a rfl,OA.c8 tok a rfl,OA.c8 tok a rfl,OA.c8 tok a rfl,OA.c8 tok a rfl,OA.eval (ds:=[]) tok a rfl ?_,ak,OA.c8 tok a rfl,ak⟩)
    (m9.jB E [] rfl rfl rfl rfl ?_ rfl rfl rfl (λ_=>rfl) rfl (λ_=>rfl)) ?_
   .simp only[gb,au];omega
   .simp only[gb,au];omega
   .simp only[au.cat,au,aF,aD];grind
   intro r;refine bm a [(1000007,ab)] rfl ?_ ?_
   .simp only[au,show i46.bytes=32 from rfl,aF];omega
   refine AK.fact (gk.Wd (l:=7) (n:=N5.length) (bf:=r.1.1) (xs:=r.1.2) rfl m) λP=>?_;refine AK.merge 5 7 (by decide) rfl rfl (λ_ _ h=>h.1) (PM.add (Cz.snoc (x:=(no,N5)) m r.2 P)) ?_;have e:=N4 (ps:=ps) (x:=(no,N5)) (q:=q) (v:=lK r.1.1 N5.length);have o:(ps++[(no,N5)]).length=ps.length+1:=by simp
   refine cG a rfl ?_ (AK.aQ (rest.drop 4,ps++[(no,N5)],Kd q ps.length (lK r.1.1 N5.length)) rfl ?_ ?_ ?_ ?_)
   .simp only[au,bE,gb];omega
   .simp only[au.cat,au,o,sQ,dm,b9,aF,aD];and_intros<;>first|rfl|omega|exactλ_ _=>rfl|exact hD
   .simp only[au.cat,au,o,aF,aD];and_intros<;>first|rfl|exactλ_ _=>rfl|exact e|omega
   .refine⟨λp F=>H p (oE F),by grind,by grind,f,by grind,?_⟩;grind
   grind
  .have e:ps=s.1++np:=by rw[G];cases f<;>simp[dA,h]
   refine bm a [(30,af)] rfl (by simp only[au,bR];omega) (AK.leaveD rfl rfl ?_);refine out q ak rfl ?_ rfl ?_
   .simp only[au.cat,au,e,cW,aF,aD];and_intros<;>first|rfl|omega|exactλ_ _=>rfl
   .simp[e]
 rintro q -;have d:ga k s t=(decide (20<s.1.length+np.length)||(decide (99<cy s+np.length-1)||(decide (20<cq s)||decide (9<=s.2.2.length)))):=by unfold ga;rw[O]
 rw[K]at d;have g:(s.1++np).length=s.1.length+np.length:=cW;have hs2:-4000000<=cq s/\cq s<=4000001:=by
  have:=oh s.2.2 y.h;unfold cq;split
  .omega
  .have:=y.s _ (fM (show s.2.1.length-1<s.2.1.length by omega) (0,[]));omega
 cases A with
 |true =>
  apply AK.join [(5,.e (.one (.ptr 0 0))),(8,.e (.one (.ptr 1 0)))] (Q5 s (s.1++np) q)
  .intro out;by_cases c1:20<s.1.length+np.length
   .refine bm a [(53,ab),(1000010,ab)] rfl ?_ (out _ _ rfl (by simp));simp[g];omega
   by_cases c2:99<cy s+np.length-1
   .refine bm a [(53,af),(57,ab),(1000010,ab)] rfl ?_ (out _ _ rfl (by simp));simp[g,bE];omega
   by_cases c3:20<cq s
   .refine bm a [(53,af),(57,af),(61,ab),(1000010,ab)] rfl ?_ (out _ _ rfl (by simp));simp[g,bE];omega
   refine bm a [(53,af),(57,af),(61,af),(67,ab),(1000010,ab)] rfl ?_ (out _ _ rfl (by simp));simp[g,bE];grind
  refine cG a rfl ak ?_;refine AK.cQ (Gf s b.p b.p2 b.sn b.s2 b.h) [] rfl ?_;refine cG a rfl ak ?_;refine AK.lZ q [] rfl rfl rfl rfl rfl rfl rfl rfl rfl ?_ rfl rfl rfl rfl x8;simp
 |false =>
 have d:=d.symm;simp only[qB,bR]at d;obtain⟨c1,c2,c3,c4⟩:=d;have I:=eX.cD s.2.1 (ey (cq s) k t);have W:=cH.cD s.2.2 (by_,cq s);have L:cn k s by_ t=(s.1++np,s.2.1++[ey (cq s) k t],s.2.2++[(by_,cq s)]):=by unfold cn;rw[O]
 rw[L];refine bm a [(53,af),(57,af),(61,af),(67,af),(1000013,ab)] rfl ?_ ?_
 .simp only[au,hk,cF.list_fn,g,bE,show i73.bytes=32 from rfl,show i52.bytes=16 from rfl,a9,bR,aF,aD];and_intros<;>first|exact z|exact cF.aK _|rfl|omega
 generalize s.1++np=ps at *;generalize hsw:s.2.1++[ey (cq s) k t]=sw at *;generalize hhw:s.2.2++[(by_,cq s)]=hw at *;have u:sw.length=s.2.1.length+1:=by grind
 have w:hw.length=s.2.2.length+1:=by grind
 refine AK.Bn (φ':=[(8,.e (.one (.ptr 1 0))),(10,.e (.one (.ptr 6 0)))]) (σ':=[wM s,.cells 27 [g8,g8,g8],.buf 46 2 ps.length (EW ps q),.buf 73 2 sw.length (eX.fn sw),.buf 52 2 hw.length (cH.fn hw),.cj (PM (Cz ps q ps.length)),.cells 27 [.bp 2 (.sl ps.length 2 0 ps.length),.bp 3 (.sl sw.length 2 0 sw.length),.bp 4 (.sl hw.length 2 0 hw.length)]]) ?_ rfl ?_ rfl ?_
 .refine AK.pq 3 rfl rfl rfl (by simp) (by simp) ?_;refine AK.pq 4 rfl rfl rfl (by simp) (by simp) ?_;refine bu rfl ak ?_;refine AK.lZ q [2,5] rfl rfl rfl rfl rfl rfl rfl rfl rfl ?_ rfl rfl rfl rfl (λj Q=>absurd Q (by simp));simp[r6]
 .simp
 .simp only[au.cat,au,u,w,cF.list_fn,aF,aD];and_intros<;>first|exact cE.same|exact I|exact W|rfl
abbrev UQ(v:ai)(ps:List bG):Mem->Prop:=λM=>Rd M v (.sl af 2 ps.length (cP.fn ps))
def y4[X.ik](k:Int)(s:bd)(by_:Int)(t:List bw)(hk:b5 k=ab)(l:kI s)(g:rE s)(n:tF t)(d:(cZ s.1).length<=100000)(m:∀p∈s.1,0<p.2.length)(b:ga k s t=af):
  ek (ι:=ai) X 24 [dI k,oY s,dI by_,cF.sl t] [.cj (gk 46 2 (.nil ae) 0 [])] (λv=>.fD [.agg [.c (.val v),.c (Gc (cn k s by_ t).2.1),.c (DH (cn k s by_ t).2.2)],.one (.c (.bool ab))])
   (λv=>[.cj (PM (UQ v (cn k s by_ t).1))]):=by
 refine ek.We (ek.Cu (cP.fn (cn k s by_ t).1) (sE k s by_ t hk l g n d m b) (λq M M' hle hK j f=>(hK j f).mono hle) λq M hK j f=>?_) (λ_ _ _ h=>h.1) (λ_=>rfl) (λ_=>rfl) rfl rfl;have hK:=hK j f;generalize(cn k s by_ t).1=ps at *;have e:cP.fn ps j=[.int .i64 (ps.getD j (0,[])).1,sP (ps.getD j (0,[]))]:=rfl;rw[e];refine⟨rfl,λp c a=>?_⟩
 match p,a with
 |0,a=>cases a;exact⟨_,rfl,λv i h=>by cases h with|int h=>exact .int h⟩
 |1,a=>cases a;exact⟨_,rfl,λv i h=>by grind[Rd.eu]⟩
def Jk(p:Bs):Ev X 219 [dS p] [] (dB (bA p)) []:=by
 refine Ev.bQ Tryz.func219 rfl λb=>?_;have a:bH X [(22,DI),(109,Qh)]:=.cons Gd (.cons t109 .nil);by_cases h:1<=p.length/\p.length<=8
 .refine aU a [(6,ab)] rfl ?_ (AK.bC rfl ?_)
  .simp;omega
  .simp[bA,h.1,h.2]
 .refine aU a [(6,af)] rfl ?_ (AK.bC rfl ?_)
  .simp;omega
  .have:bA p=af:=by simp only[bA,<-Bool.decide_and,iM h,sT]
   simp[this]
abbrev HY:dJ:=kD aS (λp=>dB (bA p)) λ_=>[]
def Qi:eh X 219 HY:=.pF λp _=>Jk p
def Jl(p:Bs):Ev X 196 [dS p] [] (dS (eZ p)) []:=by
 refine Ev.bQ Tryz.func196 rfl λb=>?_;have a:bH X [(219,HY),(117,HV)]:=.cons Qi (.cons MF .nil);cases h:bA p with
 |true=>exact aU a [(5,af)] rfl (by simp[h]) (AK.bC rfl)
 |false=>exact aU a [(5,ab)] rfl (by simp[h]) (AK.bC rfl (by simp[eZ,h]))
abbrev HZ:dJ:=kD aS (λp=>dS (eZ p)) λ_=>[]
def Qj:eh X 196 HZ:=.pF λp _=>Jl p
def Jm(p:Bs):(eZ p).length<=8:=by
 unfold eZ;split
 .rename_i h;simp only[bA,bM,a9]at h;grind[ym]
 .simp
def D4(b:Bs):Ev X 149 [dS b] [] (BD (eK b)) []:=by
 refine Ev.bQ Tryz.func149 rfl λr=>?_;have q:=r.str 0 rfl;have i:bH X [(196,HZ)]:=.cons Qj .nil;refine bu rfl ak ?_;have fin:∀n,n<=b.length->strip (b.take n)=strip b->(n=0∨strip (b.take n)=b.take n)->b.take n=strip b:=λn a h f=>by
  rcases f with rfl|f
  .simpa[strip]using h
  grind
 have rest:∀n,n<=b.length->b.take n=strip b->eK b=if b.length<=8/\eZ (strip b)=b/\n≠0 then aa (b.take n)else ae:=λn a h=>by
  have t:=Jm (strip b);have m:n=0↔strip b=[]:=by grind[List.take_eq_nil_iff]
  unfold eK;rw[h];by_cases d:eZ (strip b)=b
  .by_cases l:bA (strip b)=ab
   .have:n≠0:=λp=>by rw[m.1 p]at l;cases l
    grind
   .have p:n=0:=m.2 (by rw[eZ,aY l]at d;grind);grind
  grind
 refine AK.lB (S2:=Nat) 0 rfl rfl (λn=>n<=b.length/\b.take n=strip b) (λn=>[(0,dS b),(4,dI n)]) (λ_=>[]) 0 (λn=>n<=b.length/\strip (b.take n)=strip b) (λn:Nat=>[(0,dS b),(4,dI n)]) (λ_=>[]) (λn=>n) b.length rfl (by simp) rfl ak rfl ⟨by omega,by simp⟩ ?_ ?_
 .rintro out n ⟨a,c⟩;rcases n with _|n
  .refine aW [(9,af),(15,af)] rfl (by simp) (AK.leaveD rfl rfl ?_);exact out 0 ⟨a,fin 0 a c (.inl rfl)⟩ rfl (by simp) rfl ak
  have m:=x4 (s:=b) (n:=n) (by omega);have g:((n:Int)+1-1).toNat=n:=by omega
  by_cases f:b.getD n 0=46
  .refine aW [(9,ab),(15,ab)] rfl ?_ (AK.aQ n rfl ?_ ak ⟨by omega,?_⟩ (by omega))
   .have d:cU b n=46:=by unfold cU;rw[f];rfl
    simp[-aj,cY,g,d,bE];omega
   .simp
   grind
  .refine aW [(9,ab),(15,af)] rfl ?_ (AK.leaveD rfl rfl ?_)
   .have d:cU b n≠46:=by unfold cU;intro e;exact f (oH.1 (by grind))
    simp[-aj,cY,g,d,bE];omega
   .exact out (n+1) ⟨a,fin _ a c (.inr (by grind))⟩ rfl (by simp) rfl ak
 rintro n ⟨a,o⟩;have j:=rest n a o;have k:tk b ae (aa (n:Int))=strip b:=o▸rfl;have hi:((b.length:Int)<=8)↔b.length<=8:=by omega
 by_cases c1:b.length<=8
 .by_cases c2:eZ (strip b)=b
  .by_cases c3:n=0
   .refine aU i [(21,af),(29,af),(32,ab)] rfl ?_ (AK.bC rfl ?_)
    .subst c3;simp only[au,k,c2];grind
    .simp[j,c3]
   .refine aU i [(21,af),(29,af),(32,af)] rfl ?_ (AK.bC rfl ?_)
    .simp[k,hi,c1,c2,c3,a]
    .simp[j,k,o,c1,c2,c3]
  .refine aU i [(21,af),(29,ab),(32,ab)] rfl ?_ (AK.bC rfl ?_)
   .simp[k,hi,c1,c2,a]
   .simp[j,c2]
 .refine aU i [(21,ab),(29,ab),(32,ab)] rfl ?_ (AK.bC rfl ?_)
  .simp;omega
  .simp[j,c1]
abbrev uR:dJ:=kD aS (λb=>BD (eK b)) λ_=>[]
def Af:eh X 149 uR:=.pF λb _=>D4 b
def Jn(k:Int)(x:br)(hk:b5 k=ab):Ev X 105 [dI k,ZU x] [] (dB (right k x)) []:=by
 refine Ev.bQ Tryz.func105 rfl λc=>?_;have b:bH X [(149,uR),(112,yo)]:=.cons Af (.cons yl .nil);cases a:eK x.2 with
 |none=>exact aU b [(14,af)] rfl (by simp[a]) (AK.bC rfl (by simp[right,a]))
 |some p=>exact aU b [(14,ab)] rfl (by simp[a,hk,x7 a]) (AK.bC rfl (by simp[right,a]))
abbrev BV:dJ:=pv aI U7 (λk x=>dB (right k x)) λk _=>[b5 k=ab]
def H0:eh X 105 BV:=.sI λk x h=>Jn k x h
def Qk(k:Int):Ev X 56 [dI k] [] (dB (b5 k)) []:=by refine Ev.bQ Tryz.func56 rfl λb=>?_;have a:bH X [(22,DI)]:=.cons Gd .nil;exact ck a rfl ak (AK.bC rfl (by simp[b5]))
abbrev D5:dJ:=kD aI (λk=>dB (b5 k)) λ_=>[]
def H3:eh X 56 D5:=.pF λk _=>Qk k
abbrev Uc(p:bG):bg:=.cells 46 [.c (.int .i64 p.1),.c (sP p)]
def D6(k:Int)(p:bG)(n:Int):Ev X 197 [dI k,LY p,dI n] [] (BD (ee k p n)) []:=by
 refine Ev.bQ Tryz.func197 rfl λm=>?_;have a:bH X [(56,D5),(105,BV),(149,uR)]:=.cons H3 (.cons H0 (.cons Af .nil));cases hk:b5 k with
 |false =>
  refine aU a [(11,ab)] rfl (by simp[hk]) (AK.bC rfl ?_);have:ee k p n=ae:=by unfold ee chunk;grind
  simp[this]
 |true =>
 have l:=m.R6 1 rfl 1 rfl;refine aU a [(11,af)] rfl (by simp[hk]) ?_;refine AK.cJ 1 (λi=>i<=p.2.length/\p.2.find? (λx=>x.1==n)=(p.2.drop i).find? (λx=>x.1==n)) (λi:Nat=>[(0,dI k),(4,.e (.one (.ptr 0 0))),(2,dI n),(8,dI i)]) (λ_=>[Uc p]) (λi=>p.2.length-i) 0 rfl (by simp) rfl (by simp) rfl ⟨by omega,rfl⟩ ?_;rintro i ⟨hi,c⟩;by_cases h:i<p.2.length
 .have g:p.2.getD i ei.b8=ij p i:=rfl;have j:p.2.drop i=ij p i::p.2.drop (i+1):=by grind[List.drop_eq_getElem_cons]
  rw[j,List.find?_cons]at c;by_cases d:(ij p i).1=n
  .rw[show((ij p i).1==n)=ab by grind]at c;cases f:right k (ij p i)with
   |false =>
    have b:right k (n,(ij p i).2)=af:=d▸f;refine aU a [(16,ab),(26,ab),(34,ab)] rfl ?_ (AK.fR (cz.zero rfl ?_))
    .simp[-aj,g,d,b,hk,h]
    .have e:ee k p n=ae:=by have:=su (k:=k) (x:=ij p i) hk;rw[f]at this;simp only[ee,c];simpa using this
     simp[e]
   |true =>
    have b:right k (n,(ij p i).2)=ab:=d▸f;refine aU a [(16,ab),(26,ab),(34,af)] rfl ?_ (AK.fR (cz.zero rfl ?_))
    .simp[-aj,g,d,b,hk,h]
    .have e:ee k p n=eK (ij p i).2:=by simp only[ee,c,chunk];unfold right at f;grind
     simp[-aj,e,g]
  .rw[show((ij p i).1==n)=af by grind]at c;refine aU a [(16,ab),(26,af)] rfl ?_ (AK.aQ (i+1) rfl (by simp) (by simp) ⟨h,c⟩ (by omega));simp[-aj,g,d,bE,h];omega
 .obtain rfl:i=p.2.length:=by omega
  refine aU a [(16,af)] rfl (by simp) (AK.leaveD rfl rfl ?_);refine ck a rfl ak (AK.bC rfl ?_);simp[ee,c]
abbrev H4:dJ:=FV aI (FZ ei) aI (λk p n=>BD (ee k p n)) λ_ _ _=>[]
def Ql:eh X 197 H4:=.LU λk p n _=>D6 k p n
theorem qp(k:Int)(p:bG):gB k p=(decide (1<=p.1/\p.1<=99)&&b5 k&&decide (1<=p.2.length/\p.2.length<=4)&&(bc p.2.length).all (jg k p)):=by grind[uJ]
def Jo{p:bG}(a:i≠0):jg k p i=(right k (ij p i)&&decide ((ij p (i-1)).1<(ij p i).1)):=by unfold jg;grind
def Gh(k:Int)(p:bG):Ev X 53 [dI k,LY p] [] (dB (gB k p)) []:=by
 refine Ev.bQ Tryz.func53 rfl λn=>?_;have b:bH X [(22,DI),(56,D5),(105,BV)]:=.cons Gd (.cons H3 (.cons H0 .nil));have g:=n.R6 1 rfl 1 rfl;rw[qp];by_cases c1:1<=p.1/\p.1<=99
 rotate_left
 .exact aU b [(10,ab),(14,ab),(21,ab)] rfl (by simp;omega) (AK.bC rfl (by simp[iM c1]))
 cases hk:b5 k
 .exact aU b [(10,af),(14,ab),(21,ab)] rfl (by simp[hk,c1]) (AK.bC rfl)
 by_cases c3:1<=p.2.length/\p.2.length<=4
 rotate_left
 .exact aU b [(10,af),(14,af),(21,ab)] rfl (by simp[hk,c1];omega) (AK.bC rfl (by simp[iM c3]))
 refine aU b [(10,af),(14,af),(21,af)] rfl (by simp[hk,c1];omega) ?_;rw[de c1,de c3,fP,fP,fP];refine AK.cJ 1 (λi=>i<=p.2.length/\∀j,j<i->jg k p j=ab) (λi:Nat=>[(0,dI k),(3,.e (.one (.ptr 0 0))),(5,dI i)]) (λ_=>[Uc p]) (λi=>p.2.length-i) 0 rfl (by simp) rfl (by simp) rfl ⟨by omega,by omega⟩ ?_;rintro i ⟨hi,a⟩;by_cases h:i<p.2.length
 .have f:p.2.getD i ei.b8=ij p i:=rfl;cases c:right k (ij p i)with
  |false =>
   refine aU b [(26,ab),(37,ab),(56,ab)] rfl ?_ (AK.fR (cz.zero rfl ?_))
   .simp[-aj,f,c,hk,h]
   .rw[ja h (by simp only[jg,c,sT])];simp
  |true =>
   by_cases l:i=0
   .subst l;refine aU b [(26,ab),(37,af),(40,af),(56,af)] rfl ?_ (AK.aQ 1 rfl (by simp) (by simp) ⟨h,ky a (by simp only[jg,c,fP];rfl)⟩ (by omega));simp[-aj,f,c,hk,h,bE]
   have d:p.2.getD (i-1) ei.b8=ij p (i-1):=rfl;have o:=Jo (k:=k) (p:=p) l;by_cases m:(ij p (i-1)).1<(ij p i).1
   .refine aU b [(26,ab),(37,af),(40,ab),(54,af),(56,af)] rfl ?_ (AK.aQ (i+1) rfl (by simp) (by simp) ⟨h,ky a (by grind)⟩ (by omega));simp[-aj,f,d,c,hk,h,m,bE];omega
   .refine aU b [(26,ab),(37,af),(40,ab),(54,ab),(56,ab)] rfl ?_ (AK.fR (cz.zero rfl ?_))
    .simp[-aj,f,d,c,hk,h,bE];omega
    .rw[ja h (by grind)];simp
 .obtain rfl:i=p.2.length:=by omega
  refine aU b [(26,af)] rfl (by simp) (AK.leaveD rfl rfl ?_);exact ck b rfl ak (AK.bC rfl (by simp[dy.2 a]))
abbrev D8:dJ:=pv aI (FZ ei) (λk p=>dB (gB k p)) λ_ _=>[]
def MQ:eh X 53 D8:=.sI λk p _=>Gh k p
def ml{l:List α}{d:α}(h:i<l.length):l.getD i d∈l:=by grind
def Qm{l:List Int}{n:Int}:l.contains n=!(bc l.length).all λi=>!(l.getD i 0==n):=by rw[qL,j0,<-oG,dy,List.contains_iff_mem];grind[List.mem_iff_getElem]
def Qn(l:List Int)(n:Int):Ev X 54 [cI.sl l,dI n] [] (dB (l.contains n)) []:=by
 refine Ev.bQ Tryz.func54 rfl λe=>?_;have c:=e.sl 0 rfl;refine bu rfl ak ?_;rw[Qm];refine AK.kq (λi=>i<=l.length/\∀j,j<i->(!(l.getD j 0==n))=ab) (λi:Nat=>[(0,cI.sl l),(1,dI n),(5,dI i)]) (λ_=>[]) (λi=>l.length-i) 0 rfl (by simp) rfl ak ⟨by omega,by omega⟩ ?_;rintro i ⟨hi,a⟩;by_cases h:i<l.length
 .have b:l.getD i cI.b8=l.getD i 0:=rfl;by_cases d:l.getD i 0=n
  .refine aW [(9,ab),(17,ab)] rfl ?_ (AK.iC (cz.zero rfl ?_))
   .simp[-aj,b,d,h]
   .rw[ja h (by grind)];simp
  .refine aW [(9,ab),(17,af)] rfl ?_ (AK.gg (i+1) rfl (by simp) rfl ak ⟨h,ky a (by grind)⟩ (by omega));simp[-aj,b,d,h,bE];omega
 .obtain rfl:i=l.length:=by omega
  refine aW [(9,af)] rfl (by simp) (AK.leave rfl rfl ?_);exact bu rfl ak (AK.bC rfl (by rw[dy.2 a];simp))
abbrev R7:dJ:=pv (aL cI) aI (λl n=>dB (l.contains n)) λ_ _=>[]
def Xa:eh X 54 R7:=.sI λl n _=>Qn l n
def Gi(k:Int)(ps:List bG)(n:Int):Ev X 150 [dI k,cP.sl ps,dI n] [] (BD (dg k ps n)) []:=by
 refine Ev.bQ Tryz.func150 rfl λg=>?_;have f:=g.sl 1 rfl;have c:bH X [(197,H4)]:=.cons Ql .nil;refine ck c rfl ak ?_;refine AK.kq (λi=>i<=ps.length/\dg k ps n=dg k (ps.drop i) n) (λi:Nat=>[(0,dI k),(1,cP.sl ps),(2,dI n),(8,dI i)]) (λ_=>[]) (λi=>ps.length-i) 0 rfl (by simp) rfl ak ⟨by omega,rfl⟩ ?_;rintro i ⟨hi,a⟩;by_cases h:i<ps.length
 .have d:ps.drop i=ps.getD i (0,[])::ps.drop (i+1):=by grind[List.drop_eq_getElem_cons]
  have e:((ps.getD i cP.b8).1,ei.list (ps.getD i cP.b8).2.length (ei.fn (ps.getD i cP.b8).2))=ps.getD i (0,[]):=by rw[ei.list_fn];rfl
  rw[d,show dg k (ps.getD i (0,[])::ps.drop (i+1)) n=_ from List.findSome?_cons]at a;cases b:ee k (ps.getD i (0,[])) n with
  |some q =>
   rw[b]at a;refine aU c [(14,ab),(27,ab)] rfl ?_ (AK.iC (cz.zero rfl ?_))
   .simp[-aj,e,b,h,ei.aK]
   .simp[-aj,e,b,a]
  |none =>
   rw[b]at a;refine aU c [(14,ab),(27,af)] rfl ?_ (AK.gg (i+1) rfl (by simp) rfl ak ⟨h,a⟩ (by omega));simp[-aj,e,b,h,bE,ei.aK];omega
 .obtain rfl:i=ps.length:=by omega
  refine aW [(14,af)] rfl (by simp) (AK.leave rfl rfl ?_);exact bu rfl ak (AK.bC rfl (by rw[a,wm];simp[dg]))
abbrev D9:dJ:=FV aI (aL cP) aI (λk ps n=>BD (dg k ps n)) λ_ _ _=>[]
def MR:eh X 150 D9:=.LU λk ps n _=>Gi k ps n
def MS(a b:List Bs):Ev X 198 [cS.sl a,cS.sl b] [] (dB (a==b)) []:=by
 refine Ev.bQ Tryz.func198 rfl λg=>?_;have e:=g.sl 0 rfl;by_cases k:a.length=b.length
 rotate_left
 .have:(a==b)=af:=eF.2 (by grind);exact aW [(10,ab)] rfl (by simp;omega) (AK.bC rfl (by simp[this]))
 refine aW [(10,af)] rfl (by simp;omega) ?_;refine AK.kq (λi=>i<=a.length/\∀j,j<i->a.getD j []=b.getD j []) (λi:Nat=>[(0,cS.sl a),(1,cS.sl b),(5,dI i)]) (λ_=>[]) (λi=>a.length-i) 0 rfl (by simp) rfl ak ⟨by omega,by omega⟩ ?_;rintro i ⟨hi,f⟩;by_cases h:i<a.length
 .have d:∀l:List Bs,l.getD i cS.b8=l.getD i []:=λ_=>rfl;by_cases c:a.getD i []=b.getD i []
  .refine aW [(14,ab),(25,af)] rfl ?_ (AK.gg (i+1) rfl (by simp) rfl ak ⟨h,λj n=>?_⟩ (by omega))
   .simp[-aj,d,c,bE];omega
   grind
  .refine aW [(14,ab),(25,ab)] rfl ?_ (AK.iC (cz.zero rfl ?_))
   .simp[-aj,d,c];omega
   .have:(a==b)=af:=eF.2 (by grind);simp[this]
 .obtain rfl:i=a.length:=by omega
  have:a=b:=sR k λj c m=>by grind
  refine aW [(14,af)] rfl (by simp) (AK.leave rfl rfl ?_);exact bu rfl ak (AK.bC rfl (by simp[this]))
def Ud:eh X 198 PW:=.sI λa b _=>MS a b
def vB(t:Bs):∀k f p,p∈eT t k f->p.length<=8
 |0,_,p,h=>by simp[eT]at h
 |k+1,f,p,h=>by
  simp only[eT]at h;split at h
  .rename_i a;rcases eb.1 h with rfl|h
   .grind [mI]
   .exact vB t k _ p h
  grind
def BW{l:List Bs}{p:Bs}(h:p∈l)(b:8<p.length):fW l=ae:=by unfold fW;rw[aY];intro a;simp only[bM,gw]at a;have:=vB l.flatten l.flatten.length 0 p (by rw[show eT l.flatten l.flatten.length 0=l from a.2];exact h);omega
def vW(l:List Bs)(i:Nat):(l.take i).flatten.length<=l.flatten.length:=by grind[List.take_append_drop]
def Gj{l:List Bs}(h:40<(l.take i).flatten.length):fW l=ae:=by have:=vW l i;unfold fW;rw[aY];intro a;simp only[bM,ez,a9]at a;omega
def MT(l:List Bs):Ev X 151 [cS.sl l] [] (BD (fW l)) []:=by
 refine Ev.bQ Tryz.func151 rfl λk=>?_;have g:=k.sl 0 rfl;have a:bH X [(59,Ym),(110,HT),(198,PW)]:=.cons t59 (.cons Mx (.cons Ud .nil));refine ck a rfl ak ?_;refine AK.kq (λi=>i<=l.length/\(l.take i).flatten.length<=48) (λi:Nat=>[(0,cS.sl l),(4,dS (l.take i).flatten),(5,dI i)]) (λ_=>[]) (λi=>l.length-i) 0 rfl (by simp) rfl ak ⟨by omega,by simp⟩ ?_;rintro i ⟨hi,e⟩;by_cases h:i<l.length
 .have f:l.getD i cS.b8=l.getD i []:=rfl;have m:(l.take (i+1)).flatten=(l.take i).flatten++l.getD i []:=by grind[bU]
  by_cases b:(l.getD i []).length<=8
  .by_cases c:(l.take i).flatten.length<=40
   .refine aU a [(9,ab),(18,af),(22,af)] rfl ?_ (AK.gg (i+1) rfl ?_ rfl ak ⟨h,by grind⟩ (by omega))
    .simp[-aj,-List.length_flatten,f,bE];omega
    .simp only[au.cat,au,m,aF,aD];grind[cE.same]
   .refine aU a [(9,ab),(18,af),(22,ab)] rfl ?_ (AK.iC (cz.zero rfl ?_))
    .simp[-aj,-List.length_flatten,f];omega
    .simp[Gj (l:=l) (i:=i) (by omega)]
  .refine aU a [(9,ab),(18,ab),(22,ab)] rfl ?_ (AK.iC (cz.zero rfl ?_))
   .simp[-aj,f];omega
   .simp[au,au.cat,BW (ml (d:=[]) h) (by omega)]
 .obtain rfl:i=l.length:=by omega
  rw[dt]at e⊢;refine aU a [(9,af)] rfl (by simp) (AK.leave rfl rfl ?_);have el:=cS.list_fn l;cases b:ez l.flatten with
  |false=>exact aU a [(32,ab),(38,ab)] rfl (by simp[b]) (AK.bC rfl (by simp[fW,b]))
  |true =>
   have j:cf l.flatten=ab:=by simp only[ez,bM]at b;exact b.2
   cases c:(pieces l.flatten==l)with
   |false =>
    refine aU a [(32,af),(38,ab)] rfl ?_ (AK.bC rfl (by simp[fW,c]));simp[-List.length_flatten,b,j,el,cS.list_fn,cS.aK,by simpa using c];omega
   |true =>
    refine aU a [(32,af),(38,af)] rfl ?_ (AK.bC rfl (by simp[fW,b,c]));simp[-List.length_flatten,b,j,el,cS.list_fn,cS.aK,by simpa using c];omega
abbrev MU:dJ:=kD (aL cS) (λl=>BD (fW l)) λ_=>[]
def Ue:eh X 151 MU:=.pF λl _=>MT l
abbrev snB(s:ff):bg:=.cells 73 [.c (.int .i64 s.1),.c (.sl af 2 s.2.length (cL.fn s.2))]
abbrev MV(k:Int)(ps:List bG)(ns:List Int):List Bs:=ns.map λn=>(dg k ps n).getD []
def Qo{ps:List bG}{ns:List Int}(h:j<ns.length):MV k ps (ns.take (j+1))=MV k ps (ns.take j)++[(dg k ps (ns.getD j 0)).getD []]:=by grind[bU]
def Ea{ps:List bG}{ns:List Int}(h:j<ns.length)(a:dg k ps (ns.getD j 0)=ae):dN k ps ns=ae:=by unfold dN;rw[aY];grind
def BX{ps:List bG}{ns:List Int}(h:∀j,j<ns.length->(dg k ps (ns.getD j 0)).isSome=ab):dN k ps ns=aa (MV k ps ns):=by unfold dN;rw[bo];grind[List.mem_iff_getElem]
def BY(k:Int)(s:ff)(ps:List bG)(J:s.2.length<=4000000)(D:∀x∈s.2,x.2.length<=4000000):
  Ev X 106 [dI k,Ox s,cP.sl ps] [] (PX ((cd k s ps).getD []) (cd k s ps).isSome) []:=by
 refine Ev.bQ Tryz.func106 rfl λH=>?_;have a:bH X [(56,D5),(150,D9),(151,MU),(23,Xb)]:=.cons H3 (.cons MR (.cons Ue (.cons t23 .nil)));cases hk:b5 k with
 |false =>
  refine aU a [(19,ab)] rfl ?_ (AK.bC rfl ?_)
  .simp[hk]
  .simp[cd,hk]
 |true =>
 refine aU a [(19,af),(1000004,ab)] rfl (by simp[hk]) ?_;refine AK.iW 8 50 2 rfl rfl ?_;refine ck a rfl ak ?_;refine AK.cJ 2 (λi=>i<=s.2.length/\∀j,j<i->(fileOf k ps (s.2.getD j ([],[]))).isSome=ab) (λi:Nat=>[(0,dI k),(2,cP.sl ps),(4,.e (.one (.ptr 0 0))),(8,.e (.one (.vec 1 2 (dc k ps (s.2.take i)).length (cF.fn (dc k ps (s.2.take i)))))),(9,dI i)]) (λi=>[snB s,.vec 50 2 (dc k ps (s.2.take i)).length (cF.fn (dc k ps (s.2.take i)))]) (λi=>s.2.length-i) 0 rfl (by simp[dc]) rfl (by simp[dc]) rfl ⟨by omega,by omega⟩ ?_;rintro i ⟨hi,C⟩;by_cases h:i<s.2.length
 .have B:=D _ (ml (d:=([],[])) h);have b:=qj (k:=k) (ps:=ps) h;have z:(dc k ps (s.2.take i)).length=i:=by simp[dc];omega
  have c:s.2.getD (i:Int).toNat cL.b8=s.2.getD i ([],[]):=by grind
  have g:=qk (k:=k) (ps:=ps) h;generalize E:s.2.getD i ([],[])=x at B b c g;generalize dc k ps (s.2.take i)=fs at *;refine aU a [(25,ab),(1000008,ab)] rfl (by simp;omega) ?_;refine AK.iW 10 9 1 rfl rfl ?_;refine ck a rfl ak ?_;refine AK.cJ 3 (λj=>j<=x.2.length/\∀q,q<j->(dg k ps (x.2.getD q 0)).isSome=ab) (λj:Nat=>[(0,dI k),(2,cP.sl ps),(4,.e (.one (.ptr 0 0))),(8,.e (.one (.vec 1 2 fs.length (cF.fn fs)))),(9,dI i),(10,.e (.one (.vec 2 1 (MV k ps (x.2.take j)).length (cS.fn (MV k ps (x.2.take j)))))),(11,dI j)]) (λj=>[snB s,.vec 50 2 fs.length (cF.fn fs),.vec 9 1 (MV k ps (x.2.take j)).length (cS.fn (MV k ps (x.2.take j)))]) (λj=>x.2.length-j) 0 rfl (by simp) rfl (by simp) rfl ⟨by omega,by omega⟩ ?_;rintro j ⟨I,y⟩;by_cases w:j<x.2.length
  .have f:x.2.getD (j:Int).toNat cI.b8=x.2.getD j 0:=by grind
   cases n:dg k ps (x.2.getD j 0)with
   |none =>
    have e:fileOf k ps x=ae:=by simp[fileOf,Ea w n]
    refine aU a [(37,ab),(56,ab)] rfl ?_ (AK.fR (AK.tw (cz.zero rfl ?_)))
    .simp only[au,c,f,n,cP.list_fn,cP.aK];grind
    .rw[g e];simp
   |some q =>
    have l:=Qo (k:=k) (ps:=ps) w;rw[n]at l;have u:(MV k ps (x.2.take j)).length=j:=by grind
    have p:=cS.cD (MV k ps (x.2.take j)) q;refine aU a [(37,ab),(56,af)] rfl ?_ (AK.aQ (j+1) rfl ?_ ?_ ⟨w,λr G=>?_⟩ (by omega))
    .simp only[au,c,f,n,cP.list_fn,cP.aK,u,bE,show i9.bytes=16 from rfl];grind
    .rw[l];simp only[au.cat,au,c,f,n,cP.list_fn,cW,iK,aF,aD];and_intros<;>first|exact cE.same|exact p|rfl|omega
    .rw[l];simp only[au.cat,au,c,f,n,cP.list_fn,cW,iK,aF,aD];and_intros<;>first|exact cE.same|exact p|rfl|omega
    grind
  .obtain rfl:j=x.2.length:=by omega
   have o:=BX y;rw[dt];have u:(MV k ps x.2).length=x.2.length:=by simp
   refine aU a [(37,af)] rfl (by simp only[au,c];simp[h]) (AK.leaveD rfl rfl ?_);cases m:fW (MV k ps x.2)with
   |none =>
    have e:fileOf k ps x=ae:=by simp[fileOf,o,m]
    refine aU a [(68,ab)] rfl ?_ (AK.fR (cz.zero rfl ?_))
    .simp only[au,cS.list_fn,cS.aK,m];simp
    .rw[g e];simp
   |some t =>
    have e:fileOf k ps x=aa (x.1,t):=by simp[fileOf,o,m]
    rw[e]at b;have A:=cF.cD fs (x.1,t);refine aU a [(68,af)] rfl ?_ (AK.aQ (i+1) rfl ?_ ?_ ⟨h,λr G=>?_⟩ (by omega))
    .simp only[au,c,cS.list_fn,cS.aK,m,z,bE,show i50.bytes=32 from rfl];grind
    .rw[b];simp only[au.cat,au,c,cS.list_fn,m,gv,cW,iK,aF,aD];and_intros<;>first|exact cE.same|exact A|rfl|omega
    .rw[b];simp only[au.cat,au,c,cS.list_fn,m,gv,cW,iK,aF,aD];and_intros<;>first|exact cE.same|exact A|rfl|omega
    grind
 .obtain rfl:i=s.2.length:=by omega
  rw[dt];have F:s.2.all (λx=>(fileOf k ps x).isSome)=ab:=bz.2 λx B=>by grind[List.mem_iff_getElem]
  refine aU a [(25,af)] rfl (by simp) (AK.leaveD rfl rfl ?_);cases v:cA (dc k ps s.2)with
  |false =>
   refine aU a [(83,ab)] rfl ?_ (AK.bC rfl ?_)
   .simp[cF.list_fn,cF.aK,v]
   .simp[cd,v]
  |true =>
   refine aU a [(83,af)] rfl ?_ (AK.bC rfl ?_)
   .simp[cF.list_fn,cF.aK,v]
   .simp[cd,v,hk,F]
abbrev yE:dJ:=FV aI (FZ cL) (aL cP) (λk s ps=>PX ((cd k s ps).getD []) (cd k s ps).isSome) λ_ s _=>[s.2.length<=4000000,∀x∈s.2,x.2.length<=4000000]
def Gk:eh X 106 yE:=.LU λk s ps h=>BY k s ps h.1 h.2
end
end R1
end Go.AM
