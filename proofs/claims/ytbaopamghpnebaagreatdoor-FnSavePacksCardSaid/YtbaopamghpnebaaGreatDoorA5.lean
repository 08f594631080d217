/- Part 5. No condition. -/
import Derived.Test.YtbaopamghpnebaaGreatDoorA4
import Derived.Sort.Walk13a
import Derived.RowKit
set_option linter.all false
set_option maxHeartbeats 8000000
open Go.Proofs
open Go renaming Value → ah, Program → ar, TypeId → aj, Oper → au, Operand → ak, undef → ai, execOp → aw, World → aA, Goroutine → av, stepG → aH, FuncId → aJ
open Option renaming some → aa, none → ae
open Bool renaming true → ab, false → af
open Go.World renaming cell? → aV
open List renaming getD_eq_getElem?_getD → aq, range → bg
open Go.Sem renaming events_bind → aM
open Go.Result renaming evThen_ok → aO
open Nat renaming beq → aB, ble → bu
open Go.Op renaming equalIn → aY, bytesLess → bk
open Go.Proofs.Tryz renaming prog → ag
namespace Go.AM.R1
section
open Go.Sort (swp scanUp scanDown partLoop partEqLoop partition partitionEqual ltInt)
variable {X:Cx ag}
theorem mQ{p:Int->Bool}{d:Array Int}{j i:Nat}(h:i<=j)(a:p d[i]! = ab):scanUp p d j i=scanUp p d j (i+1):=by rw[scanUp.eq_1 p d j i,bl (by grind)]
theorem gR{p:Int->Bool}{d:Array Int}{j i:Nat}(h:i<=j->p d[i]! = af):scanUp p d j i=i:=by rw[scanUp,aZ];grind
theorem kI{p:Int->Bool}{d:Array Int}{j i:Nat}(b:1<=j)(h:i<=j)(c:p d[j]! = ab):scanDown p d i j=scanDown p d i (j-1):=by
 obtain⟨j,rfl⟩:∃a,j=a+1:=⟨j-1,by omega⟩
 rw[scanDown,bl (by grind),pQ]
theorem fy{p:Int->Bool}{d:Array Int}{j i:Nat}(h:i<=j->p d[j]! = af):scanDown p d i j=j:=by
 cases j with
 |zero=>rfl
 |succ j =>
  rw[scanDown,aZ];grind
def nT{p:Int->Bool}{d:Array Int}{j:Nat}:∀(m i:Nat),j+1-i<=m->i<=scanUp p d j i/\(scanUp p d j i<=j+1∨scanUp p d j i=i):=by
 intro m;induction m with
 |zero=>intro i h;rw[gR (λa=>by omega)];omega
 |succ m c =>
  intro i h;by_cases b:i<=j
  .cases a:p d[i]! with
   |true=>grind[mQ]
   |false=>grind[gR]
  grind
def k7{p:Int->Bool}{d:Array Int}{i:Nat}:∀j:Nat,scanDown p d i j<=j/\(i<=scanDown p d i j+1∨scanDown p d i j=j):=by
 intro j;induction j with
 |zero=>rw[show scanDown p d i 0=0 from rfl];omega
 |succ j b =>
  by_cases c:i<=j+1
  .cases a:p d[j+1]! with
   |true=>grind[kI]
   |false=>grind[fy]
  grind[fy]
def partLoop_eq{a i j:Nat}{d:Array Int}{i2 j2:Nat}(f:1<=i)(hi:i2=scanUp (λx=>ltInt x d[a]!) d j i)(b:j2=scanDown (λx=>!ltInt x d[a]!) d i2 j):
  partLoop ltInt a i j d=if i2>j2 then(j2,d)else partLoop ltInt a (i2+1) (j2-1) (swp d i2 j2):=by have e:=nT (p:=λx=>ltInt x d[a]!) (d:=d) (j:=j) (j+1-i) i (bh _);have c:=k7 (p:=λx=>!ltInt x d[a]!) (d:=d) (i:=i2) j;rw[<-hi]at e;rw[<-b]at c;rw[partLoop.eq_1,<-hi,<-b];grind
def Da{d c:Array Int}{a b v i j:Nat}(f:c=swp d a v)(hi:i=scanUp (λx=>ltInt x c[a]!) c (b-1) (a+1))(e:j=scanDown (λx=>!ltInt x c[a]!) c i (b-1))(h:i>j):partition ltInt d a b v=(j,ab,swp c j a):=by unfold partition;grind
def Db{d c:Array Int}{a b v i j:Nat}(g:c=swp d a v)(hi:i=scanUp (λx=>ltInt x c[a]!) c (b-1) (a+1))(f:j=scanDown (λx=>!ltInt x c[a]!) c i (b-1))(h:¬i>j){r:Nat×Array Int}(e:partLoop ltInt a (i+1) (j-1) (swp c i j)=r):partition ltInt d a b v=(r.1,af,swp r.2 r.1 a):=by subst e;unfold partition;grind
def Pg(n:Nat)(d:Array Int)(a b v:Nat)(Q:d.size=n)(S:a<b)(Y:b<=n)(W:v<n)(V:n<=4000000):
  Ev X 163 [kF n,dI a,dI b,dI v] [bI n d] (.eX [.one (.c (.int .i64 (partition ltInt d a b v).1)),.one (.c (.bool (partition ltInt d a b v).2.1))]) [bI n (partition ltInt d a b v).2.2]:=by
 have h:bE X [(161,uz)]:=.cons xN .nil;refine Ev.bQ Tryz.func163 rfl λZ=>?_;refine bq h [(1000002,ab)] rfl ?_ ?_
 .simp only[az,bC,b9,bA,aG,aE];and_intros<;>omega
 refine AK.norm [bI n (swp d a v)] rfl ?_ ?_
 .simp only[az.cat,az,bC,b9,aE,aG];exact hU Q (by omega) (by omega) (λ_ _=>rfl)
 have w:(swp d a v).size=n:=by grind[size_swp]
 obtain⟨f,J⟩:∃f,f=swp d a v:=⟨_,rfl⟩;rw[<-J]at w⊢;refine cx h rfl ?_ ?_
 .simp only[az,bA];and_intros<;>omega
 refine AK.kU (S2:=Unit) 0 rfl rfl (λ_=>True) (λ_=>[(0,kF n),(1,dI a),(10,dI ((scanUp (λx=>ltInt x f[a]!) f (b-1) (a+1)):Nat)),(11,dI (b-1:Nat))]) (λ_=>[bI n f]) 1 (λk:Nat=>a+1<=k/\k<=n+1/\scanUp (λx=>ltInt x f[a]!) f (b-1) k=scanUp (λx=>ltInt x f[a]!) f (b-1) (a+1)) (λk=>[(0,kF n),(1,dI a),(10,dI (k:Nat)),(11,dI (b-1:Nat))]) (λ_=>[bI n f]) (λk=>b-1+1-k) (a+1) rfl ?_ rfl ?_ rfl ⟨bh _,by omega,rfl⟩ ?_ ?_
 .simp[cv]<;>omega
 .simp[cv]
 .rintro out k ⟨u,y,o⟩;by_cases t:k<=b-1
  .by_cases N:(λx=>ltInt x f[a]!) f[k]! = ab
   .have g:ltInt f[k]! f[a]! = ab:=by grind
    refine bq h [(32,ab),(42,ab)] rfl ?_ (AK.aQ (k+1) rfl ?_ ?_ ?_ ?_)
    .simp only[az,bC,b9,g,bA,ba,aG,aE];and_intros<;>omega
    .simp only[az.cat,az,aG,aE];omega
    .simp[cv]
    .grind [mQ]
    .omega
   .have g:ltInt f[k]! f[a]! = af:=by grind
    refine bq h [(32,ab),(42,af)] rfl ?_ (AK.leaveD rfl rfl ?_)
    .simp only[az,bC,b9,g,bA,ba,aG,aE];and_intros<;>omega
    have e:scanUp (λx=>ltInt x f[a]!) f (b-1) (a+1)=k:=by grind[gR]
    exact out () ay rfl (by simp only[az.cat,az,e,aG,aE]) rfl (by simp[cv])
  .refine bq h [(32,af)] rfl ?_ (AK.leaveD rfl rfl ?_)
   .simp only[az,bA,bO,aG,aE];omega
   have e:scanUp (λx=>ltInt x f[a]!) f (b-1) (a+1)=k:=by grind[gR]
   exact out () ay rfl (by simp only[az.cat,az,e,aG,aE]) rfl (by simp[cv])
 rintro⟨⟩ -;have T:=nT (p:=λx=>ltInt x f[a]!) (d:=f) (j:=b-1) (b-1+1-(a+1)) (a+1) (bh _);obtain⟨i,hi⟩:∃i,i=scanUp (λx=>ltInt x f[a]!) f (b-1) (a+1):=⟨_,rfl⟩
 rw[<-hi]at T⊢;refine cx h rfl ay ?_;refine AK.kU (S2:=Unit) 2 rfl rfl (λ_=>True) (λ_=>[(0,kF n),(1,dI a),(10,dI (i:Nat)),(11,dI ((scanDown (λx=>!ltInt x f[a]!) f (i) (b-1)):Nat))]) (λ_=>[bI n f]) 1 (λk:Nat=>k<=b-1/\k<=n/\scanDown (λx=>!ltInt x f[a]!) f (i) k=scanDown (λx=>!ltInt x f[a]!) f (i) (b-1)) (λk=>[(0,kF n),(1,dI a),(10,dI (i:Nat)),(11,dI (k:Nat))]) (λ_=>[bI n f]) (λk=>k) (b-1) rfl ?_ rfl ?_ rfl ⟨bh _,by omega,rfl⟩ ?_ ?_
 .simp[cv]<;>omega
 .simp[cv]
 .rintro out k ⟨u,y,o⟩;by_cases t:i<=k
  .by_cases N:(λx=>!ltInt x f[a]!) f[k]! = ab
   .have g:ltInt f[k]! f[a]! = af:=by grind
    refine bq h [(48,ab),(58,af)] rfl ?_ (AK.aQ (k-1) rfl ?_ ?_ ?_ ?_)
    .simp only[az,bC,b9,g,bA,ba,aG,aE];and_intros<;>omega
    .simp only[az.cat,az,aG,aE];omega
    .simp[cv]
    .exact⟨by omega,by omega,by grind[kI]⟩
    .omega
   .have g:ltInt f[k]! f[a]! = ab:=by grind
    refine bq h [(48,ab),(58,ab)] rfl ?_ (AK.leaveD rfl rfl ?_)
    .simp only[az,bC,b9,g,bA,ba,aG,aE];and_intros<;>omega
    have e:scanDown (λx=>!ltInt x f[a]!) f (i) (b-1)=k:=by grind[fy]
    exact out () ay rfl (by simp only[az.cat,az,e,aG,aE]) rfl (by simp[cv])
  .refine bq h [(48,af)] rfl ?_ (AK.leaveD rfl rfl ?_)
   .simp only[az,bA,bO,aG,aE];omega
   have e:scanDown (λx=>!ltInt x f[a]!) f (i) (b-1)=k:=by grind[fy]
   exact out () ay rfl (by simp only[az.cat,az,e,aG,aE]) rfl (by simp[cv])
 rintro⟨⟩ -;have U:=k7 (p:=λx=>!ltInt x f[a]!) (d:=f) (i:=i) (b-1);obtain⟨j,H⟩:∃j,j=scanDown (λx=>!ltInt x f[a]!) f i (b-1):=⟨_,rfl⟩
 rw[<-H]at U⊢;by_cases I:j<i
 .rw[Da J hi H I];refine bq h [(65,ab),(1000009,ab)] rfl ?_ ?_
  .simp only[az,bC,b9,bA,ba,aG,aE];and_intros<;>omega
  refine AK.norm [bI n (swp f j a)] rfl ?_ ?_
  .simp only[az.cat,az,bC,b9,aE,aG];exact hU w (by omega) (by omega) (λ_ _=>rfl)
  refine cx h rfl ay (AK.de [0] rfl ?_ rfl rfl rfl ig);simp
 refine bq h [(65,af),(1000011,ab)] rfl ?_ ?_
 .simp only[az,bC,b9,bA,bO,aG,aE];and_intros<;>omega
 refine AK.norm [bI n (swp f i j)] rfl ?_ ?_
 .simp only[az.cat,az,bC,b9,aE,aG];exact hU w (by omega) (by omega) (λ_ _=>rfl)
 refine cx h rfl ?_ ?_
 .simp only[az,bA];and_intros<;>omega
 have B:(swp f i j).size=n:=by grind[size_swp]
 obtain⟨r,K⟩:∃r,partLoop ltInt a (i+1) (j-1) (swp f i j)=r:=⟨_,rfl⟩;rw[Db J hi H (by omega) K]
 obtain⟨d1,P⟩:∃d1,d1=swp f i j:=⟨_,rfl⟩;rw[<-P]at B K⊢;refine AK.kU (S2:=Unit) 4 rfl rfl (λ_=>r.1<n/\r.2.size=n) (λ_=>[(0,kF n),(1,dI a),(11,dI r.1)]) (λ_=>[bI n r.2]) 1 (λs:Nat×Nat×Array Int=>s.2.2.size=n/\a+1<=s.1/\s.1<=n+1/\s.2.1<n/\partLoop ltInt a s.1 s.2.1 s.2.2=r) (λs=>[(0,kF n),(1,dI a),(10,dI s.1),(11,dI s.2.1)]) (λs=>[bI n s.2.2]) (λs=>s.2.1+1-s.1) (i+1,j-1,d1) rfl ?_ rfl ?_ rfl ⟨B,by grind,by grind,by grind,K⟩ ?_ ?_
 .simp only[az.cat,az,aG,aE];and_intros<;>omega
 .simp[cv]
 .rintro C ⟨i3,l,d2⟩ ⟨G,M,A,L,m⟩;simp only at G M A L m;refine cx h rfl ay ?_;refine AK.kU (S2:=Unit) 6 rfl rfl (λ_=>True) (λ_=>[(0,kF n),(1,dI a),(10,dI ((scanUp (λx=>ltInt x d2[a]!) d2 (l) (i3)):Nat)),(11,dI (l:Nat))]) (λ_=>[bI n d2]) 1 (λk:Nat=>i3<=k/\k<=n+1/\scanUp (λx=>ltInt x d2[a]!) d2 (l) k=scanUp (λx=>ltInt x d2[a]!) d2 (l) (i3)) (λk=>[(0,kF n),(1,dI a),(10,dI (k:Nat)),(11,dI (l:Nat))]) (λ_=>[bI n d2]) (λk=>l+1-k) (i3) rfl ?_ rfl ?_ rfl ⟨bh _,by omega,rfl⟩ ?_ ?_
  .simp[cv]<;>omega
  .simp[cv]
  .rintro out k ⟨u,y,o⟩;by_cases t:k<=l
   .by_cases N:(λx=>ltInt x d2[a]!) d2[k]! = ab
    .have g:ltInt d2[k]! d2[a]! = ab:=by grind
     refine bq h [(101,ab),(111,ab)] rfl ?_ (AK.aQ (k+1) rfl ?_ ?_ ?_ ?_)
     .simp only[az,bC,b9,g,bA,ba,aG,aE];and_intros<;>omega
     .simp only[az.cat,az,aG,aE];omega
     .simp[cv]
     .grind [mQ]
     .omega
    .have g:ltInt d2[k]! d2[a]! = af:=by grind
     refine bq h [(101,ab),(111,af)] rfl ?_ (AK.leaveD rfl rfl ?_)
     .simp only[az,bC,b9,g,bA,ba,aG,aE];and_intros<;>omega
     have e:scanUp (λx=>ltInt x d2[a]!) d2 (l) (i3)=k:=by grind[gR]
     exact out () ay rfl (by simp only[az.cat,az,e,aG,aE]) rfl (by simp[cv])
   .refine bq h [(101,af)] rfl ?_ (AK.leaveD rfl rfl ?_)
    .simp only[az,bA,bO,aG,aE];omega
    have e:scanUp (λx=>ltInt x d2[a]!) d2 (l) (i3)=k:=by grind[gR]
    exact out () ay rfl (by simp only[az.cat,az,e,aG,aE]) rfl (by simp[cv])
  rintro⟨⟩ -;have c1:=nT (p:=λx=>ltInt x d2[a]!) (d:=d2) (j:=l) (l+1-i3) i3 (bh _);obtain⟨i4,E⟩:∃i4,i4=scanUp (λx=>ltInt x d2[a]!) d2 l i3:=⟨_,rfl⟩
  rw[<-E]at c1⊢;refine cx h rfl ay ?_;refine AK.kU (S2:=Unit) 8 rfl rfl (λ_=>True) (λ_=>[(0,kF n),(1,dI a),(10,dI (i4:Nat)),(11,dI ((scanDown (λx=>!ltInt x d2[a]!) d2 (i4) (l)):Nat))]) (λ_=>[bI n d2]) 1 (λk:Nat=>k<=l/\k<=n/\scanDown (λx=>!ltInt x d2[a]!) d2 (i4) k=scanDown (λx=>!ltInt x d2[a]!) d2 (i4) (l)) (λk=>[(0,kF n),(1,dI a),(10,dI (i4:Nat)),(11,dI (k:Nat))]) (λ_=>[bI n d2]) (λk=>k) (l) rfl ?_ rfl ?_ rfl ⟨bh _,by omega,rfl⟩ ?_ ?_
  .simp[cv]<;>omega
  .simp[cv]
  .rintro out k ⟨u,y,o⟩;by_cases t:i4<=k
   .by_cases N:(λx=>!ltInt x d2[a]!) d2[k]! = ab
    .have g:ltInt d2[k]! d2[a]! = af:=by grind
     refine bq h [(117,ab),(127,af)] rfl ?_ (AK.aQ (k-1) rfl ?_ ?_ ?_ ?_)
     .simp only[az,bC,b9,g,bA,ba,aG,aE];and_intros<;>omega
     .simp only[az.cat,az,aG,aE];omega
     .simp[cv]
     .exact⟨by omega,by omega,by grind[kI]⟩
     .omega
    .have g:ltInt d2[k]! d2[a]! = ab:=by grind
     refine bq h [(117,ab),(127,ab)] rfl ?_ (AK.leaveD rfl rfl ?_)
     .simp only[az,bC,b9,g,bA,ba,aG,aE];and_intros<;>omega
     have e:scanDown (λx=>!ltInt x d2[a]!) d2 (i4) (l)=k:=by grind[fy]
     exact out () ay rfl (by simp only[az.cat,az,e,aG,aE]) rfl (by simp[cv])
   .refine bq h [(117,af)] rfl ?_ (AK.leaveD rfl rfl ?_)
    .simp only[az,bA,bO,aG,aE];omega
    have e:scanDown (λx=>!ltInt x d2[a]!) d2 (i4) (l)=k:=by grind[fy]
    exact out () ay rfl (by simp only[az.cat,az,e,aG,aE]) rfl (by simp[cv])
  rintro⟨⟩ -;have c2:=k7 (p:=λx=>!ltInt x d2[a]!) (d:=d2) (i:=i4) l;obtain⟨z,F⟩:∃z,z=scanDown (λx=>!ltInt x d2[a]!) d2 i4 l:=⟨_,rfl⟩
  rw[<-F]at c2⊢;have q:=partLoop_eq (by omega) E F;by_cases D:z<i4
  .have e:=q;rw[m,bl D]at e;refine bq h [(134,ab)] rfl ?_ (AK.leaveD rfl rfl ?_)
   .simp only[az,bA,ba];omega
   exact C () (by grind) rfl (by simp only[az.cat,az,e,aG,aE]) rfl (by simp[cv,e])
  .have e:=q;rw[m,aZ (by omega)]at e;refine bq h [(134,af),(1000019,ab)] rfl ?_ ?_
   .simp only[az,bC,b9,bA,bO,aG,aE];and_intros<;>omega
   refine AK.norm [bI n (swp d2 i4 z)] rfl ?_ ?_
   .simp only[az.cat,az,bC,b9,aE,aG];exact hU G (by omega) (by omega) (λ_ _=>rfl)
   refine cx h rfl ?_ (AK.aQ (i4+1,z-1,swp d2 i4 z) rfl ?_ ?_ ?_ ?_)
   .simp only[az,bA];and_intros<;>omega
   .simp only[az.cat,az,aG,aE];and_intros<;>omega
   .simp[cv]
   .grind [size_swp]
   grind
 rintro⟨⟩ ⟨R,O⟩;refine bq h [(1000022,ab)] rfl ?_ ?_
 .simp only[az,bC,b9,bA,aG,aE];and_intros<;>omega
 refine AK.norm [bI n (swp r.2 r.1 a)] rfl ?_ ?_
 .simp only[az.cat,az,bC,b9,aE,aG];exact hU O (by omega) (by omega) (λ_ _=>rfl)
 refine cx h rfl ay (AK.de [0] rfl ?_ rfl rfl rfl ig);simp
def partEqLoop_eq{a i j:Nat}{d:Array Int}{i2 j2:Nat}(f:1<=i)(hi:i2=scanUp (λx=>!ltInt d[a]! x) d j i)(b:j2=scanDown (λx=>ltInt d[a]! x) d i2 j):
  partEqLoop ltInt a i j d=if i2>j2 then(i2,d)else partEqLoop ltInt a (i2+1) (j2-1) (swp d i2 j2):=by have e:=nT (p:=λx=>!ltInt d[a]! x) (d:=d) (j:=j) (j+1-i) i (bh _);have c:=k7 (p:=λx=>ltInt d[a]! x) (d:=d) (i:=i2) j;rw[<-hi]at e;rw[<-b]at c;rw[partEqLoop.eq_1,<-hi,<-b];grind
def Iw(n:Nat)(d:Array Int)(a b v:Nat)(H:d.size=n)(J:a<b)(O:b<=n)(N:v<n)(M:n<=4000000):
  Ev X 162 [kF n,dI a,dI b,dI v] [bI n d] (dI (partitionEqual ltInt d a b v).1) [bI n (partitionEqual ltInt d a b v).2]:=by
 have g:bE X [(161,uz)]:=.cons xN .nil;refine Ev.bQ Tryz.func162 rfl λP=>?_;refine bq g [(1000002,ab)] rfl ?_ ?_
 .simp only[az,bC,b9,bA,aG,aE];and_intros<;>omega
 refine AK.norm [bI n (swp d a v)] rfl ?_ ?_
 .simp only[az.cat,az,bC,b9,aE,aG];exact hU H (by omega) (by omega) (λ_ _=>rfl)
 have B:(swp d a v).size=n:=by grind[size_swp]
 unfold partitionEqual;generalize swp d a v=d1 at *;obtain⟨r,G⟩:∃r,partEqLoop ltInt a (a+1) (b-1) d1=r:=⟨_,rfl⟩;rw[G];refine cx g rfl ?_ ?_
 .simp only[az,bA];and_intros<;>omega
 refine AK.kU (S2:=Unit) 0 rfl rfl (λ_=>r.1<=n+1/\r.2.size=n) (λ_=>[(0,kF n),(1,dI a),(9,dI r.1)]) (λ_=>[bI n r.2]) 1 (λs:Nat×Nat×Array Int=>s.2.2.size=n/\a+1<=s.1/\s.1<=n+1/\s.2.1<n/\partEqLoop ltInt a s.1 s.2.1 s.2.2=r) (λs=>[(0,kF n),(1,dI a),(9,dI s.1),(10,dI s.2.1)]) (λs=>[bI n s.2.2]) (λs=>s.2.1+1-s.1) (a+1,b-1,d1) rfl ?_ rfl ?_ rfl ⟨B,by grind,by grind,by grind,G⟩ ?_ ?_
 .simp only[az.cat,az,aG,aE];and_intros<;>omega
 .simp[cv]
 .rintro o ⟨i3,c,d2⟩ ⟨y,E,m,D,h⟩;simp only at y E m D h;refine cx g rfl ay ?_;refine AK.kU (S2:=Unit) 2 rfl rfl (λ_=>True) (λ_=>[(0,kF n),(1,dI a),(9,dI ((scanUp (λx=>!ltInt d2[a]! x) d2 (c) (i3)):Nat)),(10,dI (c:Nat))]) (λ_=>[bI n d2]) 1 (λk:Nat=>i3<=k/\k<=n+1/\scanUp (λx=>!ltInt d2[a]! x) d2 (c) k=scanUp (λx=>!ltInt d2[a]! x) d2 (c) (i3)) (λk=>[(0,kF n),(1,dI a),(9,dI (k:Nat)),(10,dI (c:Nat))]) (λ_=>[bI n d2]) (λk=>c+1-k) (i3) rfl ?_ rfl ?_ rfl ⟨bh _,by omega,rfl⟩ ?_ ?_
  .simp[cv]<;>omega
  .simp[cv]
  .rintro out k ⟨C,F,z⟩;by_cases A:k<=c
   .by_cases K:(λx=>!ltInt d2[a]! x) d2[k]! = ab
    .have f:ltInt d2[a]! d2[k]! = af:=by grind
     refine bq g [(31,ab),(41,af)] rfl ?_ (AK.aQ (k+1) rfl ?_ ?_ ?_ ?_)
     .simp only[az,bC,b9,f,bA,ba,aG,aE];and_intros<;>omega
     .simp only[az.cat,az,aG,aE];omega
     .simp[cv]
     .grind [mQ]
     .omega
    .have f:ltInt d2[a]! d2[k]! = ab:=by grind
     refine bq g [(31,ab),(41,ab)] rfl ?_ (AK.leaveD rfl rfl ?_)
     .simp only[az,bC,b9,f,bA,ba,aG,aE];and_intros<;>omega
     have e:scanUp (λx=>!ltInt d2[a]! x) d2 (c) (i3)=k:=by grind[gR]
     exact out () ay rfl (by simp only[az.cat,az,e,aG,aE]) rfl (by simp[cv])
   .refine bq g [(31,af)] rfl ?_ (AK.leaveD rfl rfl ?_)
    .simp only[az,bA,bO,aG,aE];omega
    have e:scanUp (λx=>!ltInt d2[a]! x) d2 (c) (i3)=k:=by grind[gR]
    exact out () ay rfl (by simp only[az.cat,az,e,aG,aE]) rfl (by simp[cv])
  rintro⟨⟩ -;have c1:=nT (p:=λx=>!ltInt d2[a]! x) (d:=d2) (j:=c) (c+1-i3) i3 (bh _);obtain⟨i4,u⟩:∃i4,i4=scanUp (λx=>!ltInt d2[a]! x) d2 c i3:=⟨_,rfl⟩
  rw[<-u]at c1⊢;refine cx g rfl ay ?_;refine AK.kU (S2:=Unit) 4 rfl rfl (λ_=>True) (λ_=>[(0,kF n),(1,dI a),(9,dI (i4:Nat)),(10,dI ((scanDown (λx=>ltInt d2[a]! x) d2 (i4) (c)):Nat))]) (λ_=>[bI n d2]) 1 (λk:Nat=>k<=c/\k<=n/\scanDown (λx=>ltInt d2[a]! x) d2 (i4) k=scanDown (λx=>ltInt d2[a]! x) d2 (i4) (c)) (λk=>[(0,kF n),(1,dI a),(9,dI (i4:Nat)),(10,dI (k:Nat))]) (λ_=>[bI n d2]) (λk=>k) (c) rfl ?_ rfl ?_ rfl ⟨bh _,by omega,rfl⟩ ?_ ?_
  .simp[cv]<;>omega
  .simp[cv]
  .rintro out k ⟨C,F,z⟩;by_cases A:i4<=k
   .by_cases K:(λx=>ltInt d2[a]! x) d2[k]! = ab
    .have f:ltInt d2[a]! d2[k]! = ab:=by grind
     refine bq g [(48,ab),(58,ab)] rfl ?_ (AK.aQ (k-1) rfl ?_ ?_ ?_ ?_)
     .simp only[az,bC,b9,f,bA,ba,aG,aE];and_intros<;>omega
     .simp only[az.cat,az,aG,aE];omega
     .simp[cv]
     .exact⟨by omega,by omega,by grind[kI]⟩
     .omega
    .have f:ltInt d2[a]! d2[k]! = af:=by grind
     refine bq g [(48,ab),(58,af)] rfl ?_ (AK.leaveD rfl rfl ?_)
     .simp only[az,bC,b9,f,bA,ba,aG,aE];and_intros<;>omega
     have e:scanDown (λx=>ltInt d2[a]! x) d2 (i4) (c)=k:=by grind[fy]
     exact out () ay rfl (by simp only[az.cat,az,e,aG,aE]) rfl (by simp[cv])
   .refine bq g [(48,af)] rfl ?_ (AK.leaveD rfl rfl ?_)
    .simp only[az,bA,bO,aG,aE];omega
    have e:scanDown (λx=>ltInt d2[a]! x) d2 (i4) (c)=k:=by grind[fy]
    exact out () ay rfl (by simp only[az.cat,az,e,aG,aE]) rfl (by simp[cv])
  rintro⟨⟩ -;have c2:=k7 (p:=λx=>ltInt d2[a]! x) (d:=d2) (i:=i4) c;obtain⟨l,w⟩:∃l,l=scanDown (λx=>ltInt d2[a]! x) d2 i4 c:=⟨_,rfl⟩
  rw[<-w]at c2⊢;have q:=partEqLoop_eq (by omega) u w;by_cases t:l<i4
  .have e:=q;rw[h,bl t]at e;refine bq g [(64,ab)] rfl ?_ (AK.leaveD rfl rfl ?_)
   .simp only[az,bA,ba];omega
   exact o () (by grind) rfl (by simp only[az.cat,az,e,aG,aE]) rfl (by simp[cv,e])
  .have e:=q;rw[h,aZ (by omega)]at e;refine bq g [(64,af),(1000009,ab)] rfl ?_ ?_
   .simp only[az,bC,b9,bA,bO,aG,aE];and_intros<;>omega
   refine AK.norm [bI n (swp d2 i4 l)] rfl ?_ ?_
   .simp only[az.cat,az,bC,b9,aE,aG];exact hU y (by omega) (by omega) (λ_ _=>rfl)
   refine cx g rfl ?_ (AK.aQ (i4+1,l-1,swp d2 i4 l) rfl ?_ ?_ ?_ ?_)
   .simp only[az,bA];and_intros<;>omega
   .simp only[az.cat,az,aG,aE];and_intros<;>omega
   .simp[cv]
   .grind [size_swp]
   grind
 rintro⟨⟩ ⟨I,L⟩;refine cx g rfl ay (AK.de [0] rfl ?_ rfl rfl rfl ig);simp
end
section
open Go.Sort (swp scanSorted shiftDown shiftUp partialIns partialInsertionSort ltInt)
variable {X:Cx ag}
theorem xO{d:Array Int}{b i:Nat}(h:i<b)(a:ltInt d[i]! d[i-1]! = af):scanSorted ltInt d b i=scanSorted ltInt d b (i+1):=by rw[scanSorted.eq_1 ltInt d b i,bl (by grind)]
theorem oB{d:Array Int}{b i:Nat}(h:i<b->ltInt d[i]! d[i-1]! = ab):scanSorted ltInt d b i=i:=by rw[scanSorted,aZ];grind
def Mb{d:Array Int}{b:Nat}:∀(m i:Nat),b-i<=m->i<=b->i<=scanSorted ltInt d b i/\scanSorted ltInt d b i<=b:=by
 intro m;induction m with
 |zero=>grind[oB]
 |succ m e =>
  intro i h f;by_cases a:i<b
  .cases c:ltInt d[i]! d[i-1]! with
   |false=>grind[xO]
   |true=>grind[oB]
  grind
theorem Mc{d:Array Int}{j:Nat}(b:1<=j)(h:ltInt d[j]! d[j-1]! = ab):shiftDown ltInt j d=shiftDown ltInt (j-1) (swp d j (j-1)):=by
 obtain⟨j,rfl⟩:∃a,j=a+1:=⟨j-1,by omega⟩
 simp only[pQ]at h⊢;rw[shiftDown,aZ (by simp[h])]
theorem C6{d:Array Int}{j:Nat}(h:1<=j->ltInt d[j]! d[j-1]! = af):shiftDown ltInt j d=d:=by
 cases j with
 |zero=>rfl
 |succ j =>
  have:=h (by omega);simp only[pQ]at this;rw[shiftDown,bl (by grind)]
theorem Md{d:Array Int}{b j:Nat}(a:j<b)(h:ltInt d[j]! d[j-1]! = ab):shiftUp ltInt b j d=shiftUp ltInt b (j+1) (swp d j (j-1)):=by rw[shiftUp.eq_1 ltInt b j d,bl a,aZ (by simp[h])]
theorem C7{d:Array Int}{b j:Nat}(h:j<b->ltInt d[j]! d[j-1]! = af):shiftUp ltInt b j d=d:=by rw[shiftUp];grind
abbrev QM(n a b i s:Nat):Fr:=[(0,kF n),(1,dI a),(2,dI b),(7,dI i),(8,dI (5-(s:Int)))]
def Pd{a b s i:Nat}{d:Array Int}:partialIns ltInt a b (s+1) i d=(if scanSorted ltInt d b i=b then(d,ab)else if b-a<50 then(d,af)else
  partialIns ltInt a b s (scanSorted ltInt d b i) (if b-scanSorted ltInt d b i≥2 then shiftUp ltInt b (scanSorted ltInt d b i+1) (if scanSorted ltInt d b i-a≥2 then shiftDown ltInt (scanSorted ltInt d b i-1) (swp d (scanSorted ltInt d b i) (scanSorted ltInt d b i-1))else swp d (scanSorted ltInt d b i) (scanSorted ltInt d b i-1))else(if scanSorted ltInt d b i-a≥2 then shiftDown ltInt (scanSorted ltInt d b i-1) (swp d (scanSorted ltInt d b i) (scanSorted ltInt d b i-1))else swp d (scanSorted ltInt d b i) (scanSorted ltInt d b i-1)))):=rfl
def xP(n:Nat)(d:Array Int)(a b:Nat)(N:d.size=n)(Q:a<b)(W:b<=n)(T:n<=4000000):
  Ev X 160 [kF n,dI a,dI b] [bI n d] (dB (partialInsertionSort ltInt d a b).2) [bI n (partialInsertionSort ltInt d a b).1]:=by
 have g:bE X [(161,uz)]:=.cons xN .nil;refine Ev.bQ Tryz.func160 rfl λY=>?_;obtain⟨r,L⟩:∃r,partialIns ltInt a b 5 (a+1) d=r:=⟨_,rfl⟩;have F:partialInsertionSort ltInt d a b=r:=L;rw[F];refine cx g rfl (by simp only[az,bA];omega) ?_
 refine AK.kU (S2:=Unit) 0 rfl rfl (λ_=>r.2=af) (λ_=>[(0,kF n)]) (λ_=>[bI n r.1]) 1 (λs:Nat×Nat×Array Int=>s.2.2.size=n/\s.1<=5/\a+1<=s.2.1/\s.2.1<=b/\partialIns ltInt a b s.1 s.2.1 s.2.2=r) (λs=>QM n a b s.2.1 s.1) (λs=>[bI n s.2.2]) (λs=>s.1) (5,a+1,d) rfl ?_ rfl ?_ rfl ⟨N,by grind,by grind,by grind,L⟩ ?_ ?_
 .simp
 .simp[cv]
 .rintro x ⟨s,i,d1⟩ ⟨K,v,hi,q,f⟩;simp only at K v hi q f;cases s with
  |zero =>
   rw[partialIns]at f;refine bq g [(14,af)] rfl ?_ (AK.leaveD rfl rfl ?_)
   .simp
   exact x () (by grind) rfl (by simp) rfl (by simp[cv,<-f])
  |succ s =>
   rw[Pd]at f;refine bq g [(14,ab)] rfl (by simp only[az,ba];omega) ?_;refine AK.kU (S2:=Unit) 2 rfl rfl (λ_=>True) (λ_=>QM n a b (scanSorted ltInt d1 b i) (s+1)) (λ_=>[bI n d1]) 1 (λk:Nat=>i<=k/\k<=b/\scanSorted ltInt d1 b k=scanSorted ltInt d1 b i) (λk=>QM n a b k (s+1)) (λ_=>[bI n d1]) (λk=>b-k) i rfl ?_ rfl ?_ rfl ⟨bh _,q,rfl⟩ ?_ ?_
   .simp
   .simp[cv]
   .rintro out k ⟨P,R,M⟩;by_cases O:k<b
    .have A:((k:Int)-1).toNat=k-1:=by omega
     cases p:ltInt d1[k]! d1[k-1]! with
     |false =>
      refine bq g [(19,ab),(30,af)] rfl ?_ (AK.aQ (k+1) rfl ?_ ?_ ?_ ?_)
      .simp only[az,bC,b9,A,p,bA,ba,aG,aE];and_intros<;>omega
      .simp only[az.cat,az,aG,aE];omega
      .simp[cv]
      .grind [xO]
      .omega
     |true =>
      refine bq g [(19,ab),(30,ab)] rfl ?_ (AK.leaveD rfl rfl ?_)
      .simp only[az,bC,b9,A,p,bA,ba,aG,aE];and_intros<;>omega
      have e:scanSorted ltInt d1 b i=k:=by grind[oB]
      exact out () ay rfl (by simp only[az.cat,az,e,aG,aE]) rfl (by simp[cv])
    .refine bq g [(19,af)] rfl ?_ (AK.leaveD rfl rfl ?_)
     .simp only[az,bA,bO,aG,aE];omega
     have e:scanSorted ltInt d1 b i=k:=by grind[oB]
     exact out () ay rfl (by simp only[az.cat,az,e,aG,aE]) rfl (by simp[cv])
   rintro⟨⟩ -;have c:=Mb (d:=d1) (b:=b) (b-i) i (bh _) q;obtain⟨i2,E⟩:∃i2,i2=scanSorted ltInt d1 b i:=⟨_,rfl⟩;rw[<-E]at c f⊢
   by_cases u:i2=b
   .rw[bl u]at f;rw[<-f];refine bq g [(37,ab)] rfl ?_ (AK.fE (cp.mk [0] rfl ?_ rfl rfl rfl ig))
    .simp[u]
    .simp
   rw[aZ u]at f;by_cases z:b-a<50
   .rw[bl z]at f;rw[<-f];refine bq g [(37,af),(41,ab)] rfl ?_ (AK.fE (cp.mk [0] rfl ?_ rfl rfl rfl ig))
    .simp[bA];omega
    .simp
   rw[aZ z]at f;have A:((i2:Int)-1).toNat=i2-1:=by omega
   refine bq g [(37,af),(41,af),(1000012,ab)] rfl ?_ ?_
   .simp only[az,bC,b9,A,bA,bO,eD,dr,aG,aE];and_intros<;>omega
   refine AK.norm [bI n (swp d1 i2 (i2-1))] rfl ?_ ?_
   .simp only[az.cat,az,bC,b9,A,aE,aG];exact hU K (by omega) (by omega) (λ_ _=>rfl)
   have w:(swp d1 i2 (i2-1)).size=n:=by grind[size_swp]
   obtain⟨d2,C⟩:∃d2,d2=swp d1 i2 (i2-1):=⟨_,rfl⟩;rw[<-C]at w f⊢;obtain⟨d3,o⟩:∃d3,d3=if i2-a≥2 then shiftDown ltInt (i2-1) d2 else d2:=⟨_,rfl⟩
   rw[<-o]at f;have U:∀(j:Nat) (d:Array Int),(shiftDown ltInt j d).size=d.size:=by
    intro j;induction j with
    |zero=>intro d;rfl
    |succ j V =>
     intro d;rw[shiftDown];grind[size_swp]
   have H:d3.size=n:=by grind
   apply AK.join (QM n a b i2 (s+1)) [bI n d3]
   .intro out;by_cases J:i2-a≥2
    .rw[bl J]at o;refine bq g [(61,ab)] rfl ?_ ?_
     .simp only[az,bA,ba,aG,aE];and_intros<;>omega
     refine AK.kU (S2:=Unit) 4 rfl rfl (λ_=>True) (λ_=>QM n a b i2 (s+1)) (λ_=>[bI n d3]) 1 (λs:Nat×Array Int=>s.2.size=n/\s.1<b/\shiftDown ltInt s.1 s.2=d3) (λs2=>QM n a b i2 (s+1)++[(9,dI s2.1)]) (λs=>[bI n s.2]) (λs=>s.1) (i2-1,d2) rfl ?_ rfl ?_ rfl ⟨w,by grind,o.symm⟩ ?_ ?_
     .simp only[az.cat,az,aG,aE];omega
     .simp[cv]
     .rintro h ⟨j,d4⟩ ⟨m,D,l⟩;simp only at m D l;by_cases y:1<=j
      .have t:((j:Int)-1).toNat=j-1:=by omega
       cases p:ltInt d4[j]! d4[j-1]! with
       |true =>
        refine bq g [(65,ab),(77,ab)] rfl ?_ (AK.aQ (j-1,swp d4 j (j-1)) rfl ?_ ?_ ?_ ?_)
        .simp only[az,bC,b9,t,p,bA,ba,aG,aE];and_intros<;>omega
        .simp only[az.cat,az,aG,aE];omega
        .simp only[az.cat,az,bC,b9,t,aE,aG];exact hU m (by omega) (by omega) (λ_ _=>rfl)
        .grind [Mc]
        grind
       |false =>
        refine bq g [(65,ab),(77,af)] rfl ?_ (AK.leaveD rfl rfl ?_)
        .simp only[az,bC,b9,t,p,bA,ba,aG,aE];and_intros<;>omega
        have e:d3=d4:=by grind[C6]
        exact h () ay rfl (by simp) rfl (by simp[cv,e])
      .refine bq g [(65,af)] rfl ?_ (AK.leaveD rfl rfl ?_)
       .simp only[az,bO];omega
       have e:d3=d4:=by grind[C6]
       exact h () ay rfl (by simp) rfl (by simp[cv,e])
     rintro⟨⟩ -;refine bq g [(1000018,ab)] rfl ay ?_;exact out _ _ rfl (by simp)
    .rw[aZ J]at o;rw[<-o];refine bq g [(61,af),(1000018,ab)] rfl ?_ ?_
     .simp only[az,bA,bO,aG,aE];and_intros<;>omega
     exact out _ _ rfl (by simp)
   by_cases I:b-i2≥2
   .rw[bl I]at f;obtain⟨d5,B⟩:∃d5,shiftUp ltInt b (i2+1) d3=d5:=⟨_,rfl⟩;rw[B]at f;refine bq g [(98,ab)] rfl ?_ ?_
    .simp only[az,bA,ba,aG,aE];and_intros<;>omega
    refine AK.kU (S2:=Unit) 6 rfl rfl (λ_=>d5.size=n) (λ_=>QM n a b i2 (s+1)) (λ_=>[bI n d5]) 1 (λs:Nat×Array Int=>s.2.size=n/\1<=s.1/\s.1<=b/\shiftUp ltInt b s.1 s.2=d5) (λs2=>QM n a b i2 (s+1)++[(10,dI s2.1)]) (λs=>[bI n s.2]) (λs=>b-s.1) (i2+1,d3) rfl ?_ rfl ?_ rfl ⟨H,by grind,by grind,B⟩ ?_ ?_
    .simp only[az.cat,az,aG,aE];omega
    .simp[cv]
    .rintro h ⟨j,d4⟩ ⟨m,y,D,l⟩;simp only at m y D l;by_cases S:j<b
     .have t:((j:Int)-1).toNat=j-1:=by omega
      cases p:ltInt d4[j]! d4[j-1]! with
      |true =>
       refine bq g [(103,ab),(115,ab)] rfl ?_ (AK.aQ (j+1,swp d4 j (j-1)) rfl ?_ ?_ ?_ ?_)
       .simp only[az,bC,b9,t,p,bA,ba,aG,aE];and_intros<;>omega
       .simp only[az.cat,az,aG,aE];omega
       .simp only[az.cat,az,bC,b9,t,aE,aG];exact hU m (by omega) (by omega) (λ_ _=>rfl)
       .grind [size_swp,Md]
       grind
      |false =>
       refine bq g [(103,ab),(115,af)] rfl ?_ (AK.leaveD rfl rfl ?_)
       .simp only[az,bC,b9,t,p,bA,ba,aG,aE];and_intros<;>omega
       have e:d5=d4:=by grind[C7]
       exact h () (by grind) rfl (by simp) rfl (by simp[cv,e])
     .refine bq g [(103,af)] rfl ?_ (AK.leaveD rfl rfl ?_)
      .simp only[az,bO];omega
      have e:d5=d4:=by grind[C7]
      exact h () (by grind) rfl (by simp) rfl (by simp[cv,e])
    rintro⟨⟩ v;refine cx g rfl ?_ (AK.aQ (s,i2,d5) rfl ?_ ?_ ?_ ?_)
    .simp only[az,bA];omega
    .simp only[az.cat,az,aG,aE];omega
    .simp[cv]
    .grind
    grind
   .rw[aZ I]at f;refine bq g [(98,af)] rfl ?_ (AK.aQ (s,i2,d3) rfl ?_ ?_ ?_ ?_)
    .simp only[az,bA,bO,aG,aE];and_intros<;>omega
    .simp only[az.cat,az,aG,aE];omega
    .simp[cv]
    .grind
    grind
 rintro⟨⟩ G;refine cx g rfl ay (AK.de [0] rfl ?_ rfl rfl rfl ig);simp[G]
end
section
open Go.Sort (swp pdq rd Rd Below SWO insertionSort heapSort breakPatterns choosePivot reverseRange partialInsertionSort partition partitionEqual Hint ltInt PermIn SortedIn)
variable {X:Cx ag}
abbrev Wn(n a b c:Nat)(wb wp:Bool):Fr:=[(0,kF n),(1,dI a),(2,dI b),(3,dI c),(8,dB wb),(9,dB wp)]
def zd{h:Hint}:nR h=2↔h=.decreasing:=by cases h<;>simp[nR]
def tU{h:Hint}:nR h=1↔h=.increasing:=by cases h<;>simp[nR]
structure PqS where
 a:Nat
 b:Nat
 lim:Nat
 wb:Bool
 wp:Bool
 d:Array Int
def Pe(n:Nat)(d:Array Int){a b:Nat}(e:d.size=n)(c:b<=n)(h:a<=n)(f:n<=4000000){r:Array Int}(g:r=insertionSort ltInt d a b):Ev X 155 [kF n,dI a,dI b] [bI n d] (.eX []) [bI n r]:=by grind[Tg]
def Me(n:Nat)(d:Array Int){a b:Nat}(f:d.size=n)(c:a<=b)(i:1<=b-a)(e:b<=n)(g:n<=4000000){r:Array Int}(h:r=heapSort ltInt d a b):Ev X 156 [kF n,dI a,dI b] [bI n d] (.eX []) [bI n r]:=by grind[Pf]
def Th(n:Nat)(G:n<=4000000):∀(m:Nat)(d:Array Int)(a b lim:Nat),b-a<=m->d.size=n->a<=b->b<=n->lim<=100->Below ltInt a b d ->
  ∀{x y z:Int},x=a->y=b->z=lim->∀{R:Array Int},R=pdq ltInt d a b lim ab ab->Ev X 138 [kF n,dI x,dI y,dI z] [bI n d] (.eX []) [bI n R]:=by
 have i:bE X [(161,uz)]:=.cons xN .nil;have C:SWO ltInt:=Go.Sort.swo_ltInt;have Y:=Go.Sort.partialInsertionSort_holds (lt:=ltInt);have hpt:=Go.Sort.partition_holds ltInt;have hpe:=Go.Sort.partitionEqual_holds ltInt;have T:=Go.Sort.reverseRange_holds (α:=Int);have U:=Go.Sort.pdq_sorts ltInt;intro m;induction m using Nat.strongRecOn with
 |_ m ih =>
 intro d a b lim hm hd hab hb hl hB x y z hx hy hz R hR;subst hx hy hz;refine Ev.bQ Tryz.func138 rfl λhf=>?_;refine cx i rfl ay ?_;refine AK.cz 1 (λs:PqS=>s.d.size=n/\s.a<=s.b/\s.b<=n/\s.lim<=100/\s.b-s.a<=b-a/\Below ltInt s.a s.b s.d/\pdq ltInt s.d s.a s.b s.lim s.wb s.wp=R) (λs=>Wn n s.a s.b s.lim s.wb s.wp) (λs=>[bI n s.d]) (λs=>s.b-s.a) ⟨a,b,lim,ab,ab,d⟩ rfl ?_ rfl ?_ rfl ⟨hd,hab,hb,hl,bh _,hB,hR.symm⟩ ?_
 .simp
 .simp[cv]
 clear hf hB hd hR;rintro⟨f,h,q,wb,wp,d1⟩ ⟨N,v,j,Z,hm1,hB,k⟩;simp only at N v j Z hm1 hB k;by_cases B:h-f<=12
 .rw[Go.Sort.pdq_small B]at k;refine bq i [(23,ab)] rfl ?_ ?_
  .simp only[az,bA,ba];and_intros<;>omega
  refine AK.cQ (Pe n d1 (a:=f) (b:=h) N j (by omega) G k.symm) [0] rfl ?_;refine cx i rfl ay (AK.fE (cp.mk [0] rfl ay rfl rfl rfl ig))
 by_cases Q:q=0
 .rw[Go.Sort.pdq_heap B Q]at k;refine bq i [(23,af),(29,ab)] rfl ?_ ?_
  .simp only[az,bA,bO,hI];and_intros<;>omega
  refine AK.cQ (Me n d1 (a:=f) (b:=h) N v (by omega) j G k.symm) [0] rfl ?_;refine cx i rfl ay (AK.fE (cp.mk [0] rfl ay rfl rfl rfl ig))
 have o:f<h:=by omega
 obtain⟨f1,f2,f3,f4,f5,V,W,f8⟩:=Go.Sort.rd_facts (limit:=q) (wb:=wb) (wp:=wp) C Y T o (by grind) hB;have fl:=Go.Sort.rd_lim_le (lt:=ltInt) (d:=d1) (a:=f) (b:=h) (limit:=q) (wb:=wb) (wp:=wp);have S:=Go.Sort.rd_dec (lt:=ltInt) (d:=d1) (a:=f) (b:=h) (limit:=q) (wb:=wb) (wp:=wp);have M:=Go.Sort.rd_not (lt:=ltInt) (d:=d1) (a:=f) (b:=h) (limit:=q) (wb:=wb) (wp:=wp);have H:=Go.Sort.rd_pi_yes (lt:=ltInt) (d:=d1) (a:=f) (b:=h) (limit:=q) (wb:=wb) (wp:=wp);have fno:=Go.Sort.rd_pi_no (lt:=ltInt) (d:=d1) (a:=f) (b:=h) (limit:=q) (wb:=wb) (wp:=wp);have fc:=Go.Sort.rd_c (lt:=ltInt) (d:=d1) (a:=f) (b:=h) (limit:=q) (wb:=wb) (wp:=wp);have fd1:wb=af->(rd ltInt d1 f h q wb wp).d1=breakPatterns d1 f h/\(rd ltInt d1 f h q wb wp).lim=q-1:=by grind[Go.Sort.rd_false]
 have fd2:wb=ab->(rd ltInt d1 f h q wb wp).d1=d1/\(rd ltInt d1 f h q wb wp).lim=q:=by grind[Go.Sort.rd_true]
 have F:=Go.Sort.pdq_done (lt:=ltInt) (d:=d1) (wb:=wb) (wp:=wp) B Q;have geq:=Go.Sort.pdq_eq (lt:=ltInt) (d:=d1) (wb:=wb) (wp:=wp) B Q;have D:=Go.Sort.pdq_left (lt:=ltInt) (d:=d1) (wb:=wb) (wp:=wp) B Q;have w:=Go.Sort.pdq_right (lt:=ltInt) (d:=d1) (wb:=wb) (wp:=wp) B Q;rw[N]at f1 f4 W;rw[k]at F geq D w;generalize rd ltInt d1 f h q wb wp=r at *;apply AK.join (Wn n f h r.lim wb wp++[(10,dI ((h-f:Nat):Int))]) [bI n r.d1]
 .intro out;cases wb with
  |false =>
   obtain⟨I,J⟩:=fd1 rfl;refine bq i [(23,af),(29,af)] rfl ?_ ?_
   .simp only[az,bA,bO,eD,dr];and_intros<;>omega
   refine AK.cQ (Mf n d1 f h N v j G) [0] rfl ?_;rw[<-I];refine bq i [(1000010,ab)] rfl ?_ ?_
   .simp only[az,bA];and_intros<;>omega
   exact out _ _ rfl (by simp only[az.cat,az,J,aG,aE];and_intros<;>omega)
  |true =>
   obtain⟨I,J⟩:=fd2 rfl;subst I;refine bq i [(23,af),(29,af),(1000010,ab)] rfl ?_ ?_
   .simp only[az,bA,bO,eD,dr];and_intros<;>omega
   exact out _ _ rfl (by simp only[az.cat,az,J,aG,aE];and_intros<;>omega)
 refine cx i rfl ay ?_;refine AK.cQ (Iv n r.d1 f h v j (by omega) G) [0] rfl ?_;rw[<-fc];apply AK.join (Wn n f h r.lim wb wp++[(10,dI ((h-f:Nat):Int)),(11,dI r.pivot),(12,dI (nR r.hint))]) [bI n r.d2]
 .intro out;by_cases u:r.c.2=.decreasing
  .obtain⟨I,J,e3⟩:=S u;refine bq i [(50,ab)] rfl ?_ ?_
   .simp only[az,hI,zd];exact u
   refine AK.cQ (Ti n r.d1 f h f1 (by omega) (by omega) j G) [0] rfl ?_;rw[<-I];refine bq i [(1000015,ab)] rfl ?_ ?_
   .simp only[az,bA];and_intros<;>omega
   exact out _ _ rfl (by simp only[az.cat,az,J,e3,nR,aG,aE];and_intros<;>omega)
  .obtain⟨I,J,e3⟩:=M u;rw[<-I];refine bq i [(50,af),(1000015,ab)] rfl ?_ ?_
   .simp only[az,eD,dr,zd];exact u
   exact out _ _ rfl (by simp only[az.cat,az,J,e3,aG,aE])
 by_cases t:r.pi.2=ab
 ·
  have p:(wb&&wp&&decide (r.hint=.increasing))=ab:=by grind
  have e:=H p;simp only[bR,ba]at p;obtain⟨⟨rfl,rfl⟩,E⟩:=p;refine bq i [(67,ab)] rfl ?_ ?_
  .simp only[az,hI,tU];exact E
  refine AK.cQ (xP n r.d2 f h f4 o j G) [0] rfl ?_;rw[<-e,t,<-F t];refine cx i rfl ay (AK.fE (cp.mk [0] rfl ay rfl rfl rfl ig))
 rw[n8]at t;apply AK.join (Wn n f h r.lim wb wp++[(10,dI ((h-f:Nat):Int)),(11,dI r.pivot)]) [bI n r.pi.1]
 .intro out;cases l:(wb&&wp&&decide (r.hint=.increasing))with
  |true =>
   have e:=H l;simp only[bR,ba]at l;obtain⟨⟨rfl,rfl⟩,E⟩:=l;refine bq i [(67,ab)] rfl ?_ ?_
   .simp only[az,hI,tU];exact E
   refine AK.cQ (xP n r.d2 f h f4 o j G) [0] rfl ?_;rw[<-e,t];refine bq i [(1000017,ab)] rfl ay ?_;exact out _ _ rfl (by simp)
  |false =>
   have e:r.d2=r.pi.1:=by grind
   rw[e];cases wb with
   |false =>
    refine bq i [(1000017,ab)] rfl ay ?_;exact out _ _ rfl (by simp)
   |true =>
    cases wp with
    |false =>
     refine bq i [(1000017,ab)] rfl ay ?_;exact out _ _ rfl (by simp)
    |true =>
     refine bq i [(67,af),(1000017,ab)] rfl ?_ ?_
     .simp only[az,eD,dr,tU];grind
     exact out _ _ rfl (by simp)
 have ep:((f:Int)-1).toNat=f-1:=by omega
 cases l:(decide (f>0)&&!ltInt r.pi.1[f-1]! r.pi.1[r.pivot]!)with
 |true =>
  have A:=l;simp only[bR,ba,j8]at A;obtain⟨L,q2,K,q4,_⟩:=Go.Sort.round_eq (mid:=(partitionEqual ltInt r.pi.1 f h r.pivot).1) (d4:=(partitionEqual ltInt r.pi.1 f h r.pivot).2) C hpe A.1 V.1 V.2 (by grind) f8 A.2 rfl;have g:=geq t l ⟨L,q2⟩;refine bq i [(74,ab),(85,af)] rfl ?_ ?_
  .simp only[az,bC,b9,ep,A.2,bA,ba,aG,aE];and_intros<;>omega
  refine AK.cQ (Iw n r.pi.1 f h r.pivot W o j (by omega) G) [0] rfl ?_;refine cx i rfl ay (AK.aQ ⟨(partitionEqual ltInt r.pi.1 f h r.pivot).1,h,r.lim,wb,wp,(partitionEqual ltInt r.pi.1 f h r.pivot).2⟩ rfl ?_ ?_ ?_ ?_)
  .simp
  .simp[cv]
  .grind
  grind
 |false =>
  obtain⟨L,q2,K,q4,q5,q6,q7⟩:=Go.Sort.round_part (mid:=(partition ltInt r.pi.1 f h r.pivot).1) (ap:=(partition ltInt r.pi.1 f h r.pivot).2.1) (d4:=(partition ltInt r.pi.1 f h r.pivot).2.2) C hpt V.1 V.2 (by grind) f8 rfl;apply AK.join (Wn n f h r.lim wb wp++[(10,dI ((h-f:Nat):Int)),(11,dI r.pivot)]) [bI n r.pi.1]
  .intro out;by_cases ha0:0<f
   .have ta:ltInt r.pi.1[f-1]! r.pi.1[r.pivot]! = ab:=by grind
    refine bq i [(74,ab),(85,ab),(1000020,ab)] rfl ?_ ?_
    .simp only[az,bC,b9,ep,ta,bA,ba,aG,aE];and_intros<;>omega
    exact out _ _ rfl (by simp)
   .refine bq i [(74,af),(1000020,ab)] rfl ?_ ?_
    .simp only[az,bO];omega
    exact out _ _ rfl (by simp)
  refine cx i rfl ay ?_;refine AK.cQ (Pg n r.pi.1 f h r.pivot W o j (by omega) G) [0] rfl ?_;have gl:=D t l ⟨L,q2⟩;have gr:=w t l ⟨L,q2⟩;generalize partition ltInt r.pi.1 f h r.pivot=P at *;rw[W]at K;by_cases O:P.1-f<h-P.1
  .have g:=gl O;obtain⟨w1,w2⟩:=U C P.2.2 f P.1 r.lim ab ab L (by grind) q4;obtain⟨w3,_⟩:=q6 _ w1 w2;refine bq i [(113,ab)] rfl ?_ ?_
   .simp only[az,bA,ba,aG,aE];and_intros<;>omega
   refine AK.cQ (ih (P.1-f) (by omega) P.2.2 f P.1 r.lim (bh _) K L (by omega) (by omega) q4 rfl rfl rfl rfl) [0] rfl ?_;refine cx i rfl ?_ (AK.aQ ⟨P.1+1,h,r.lim,decide (P.1-f≥(h-f) / 8),P.2.1,pdq ltInt P.2.2 f P.1 r.lim ab ab⟩ rfl ?_ ?_ ?_ ?_)
   .simp only[az,bA,aG,aE];and_intros<;>omega
   .simp only[az.cat,az,aG,aE];grind
   .simp[cv]
   .exact⟨by simp only;rw[w1.1,K],by grind,j,by grind,by grind,w3,g.symm⟩
   grind
  .have g:=gr O;obtain⟨w1,w2⟩:=U C P.2.2 (P.1+1) h r.lim ab ab (by omega) (by grind) q5;obtain⟨w3,_⟩:=q7 _ w1 w2;refine bq i [(113,af)] rfl ?_ ?_
   .simp only[az,bA,bO,aG,aE];and_intros<;>omega
   refine AK.cQ (ih (h-(P.1+1)) (by omega) P.2.2 (P.1+1) h r.lim (bh _) K (by omega) j (by omega) q5 (x:=(P.1:Int)+1) (by omega) rfl rfl rfl) [0] rfl ?_;refine cx i rfl ?_ (AK.aQ ⟨f,P.1,r.lim,decide (h-P.1≥(h-f) / 8),P.2.1,pdq ltInt P.2.2 (P.1+1) h r.lim ab ab⟩ rfl ?_ ?_ ?_ ?_)
   .trivial
   .simp only[az.cat,az,aG,aE];grind
   .simp[cv]
   .exact⟨by simp only;rw[w1.1,K],by grind,by grind,by grind,by grind,w3,g.symm⟩
   grind
end
section
variable {X:Cx ag}[X.gZ]
def S6(t:List bx):∀i,i<t.length->(cF.fn t i).length=2/\∀c∈cF.fn t i,uK c=ab:=by intro i _;refine⟨rfl,λc a=>?_⟩;simp only[mh.fn,AF,cF,eE,n7,mq]at a;rcases a with rfl|rfl<;>rfl
abbrev LR(t:List bx)(xs:List ah):Prop:=gi 2 t.length (cF.fn t) xs
abbrev bK(bf:m9)(n:Nat)(xs:List ah):aP:=.b8 (fQ 76 2 bf n xs)
abbrev tKB(bf:m9)(n:Nat)(b:Bool):D:=.eX [.one (.v (k9 bf n)),.one (.c (.bool b))]
def C0(t:List bx)(p x:Bs):eb (ι:={q:m9×List ah // LR (ek t p x).1 q.2}) X 42 [cF.sl t,dS p,dS x] [] (λq=>tKB q.1.1 (ek t p x).1.length (ek t p x).2) (λq=>[bK q.1.1 (ek t p x).1.length q.1.2]) :=
 (uy t p x).thaw Tryz.func42 rfl (by simp[vr,py,qp,mI,vN,uK]) (S6 _)
def gi.nil{k:Nat}{es:Nat->List C}:gi k 0 es []:=⟨by simp,λi hi=>by omega,λi hi=>by omega⟩
def Iq{t:List bx}{p x:Bs}(h:(ek t p x).2=ab):(ek t p x).1.length<=6:=by
 unfold ek at h⊢;split at h
 .rename_i b;rw[bl b];split at h
  .rename_i a;rw[bl a];exact mc a
  grind
 grind
def Wa{o:au}{x y:ak}(h:o.op=.call {callee:=.builtin .append,args:=#[x,y],argTypes:=#[28,28]}):lz ag o x y 76 i76 :=
 ⟨⟨28,28,i28,i28,h,(tok _ _ rfl),rfl,(tok _ _ rfl),rfl⟩,(tok _ _ rfl),by decide,by decide⟩
def LS{M:Mem}{p:Bs}(h:p.length<=9223372036854775807):Rd M (Bj p) (.str p):=Rd.str rfl h
def LR.snoc{t:List bx}{xs:List ah}(h:LR t xs)(p x:Bs)(b:p.length<=9223372036854775807)(d:x.length<=9223372036854775807):LR (t++[(p,x)]) (xs++[Bj p,Bj x]):=by
 unfold LR;rw[cX];refine gi.snoc h (λi hi=>?_) rfl rfl λq c a=>?_
 .simp[mh.fn,AF,aq,jz hi]
 .have e:cF.fn (t++[(p,x)]) t.length=[.str p,.str x]:=by simp[mh.fn,AF,cF]
  rw[e]at a;rcases q with _|_|q
  .simp at a;subst a;exact⟨Bj p,rfl,λM=>LS b⟩
  .simp at a;subst a;exact⟨Bj x,rfl,λM=>LS d⟩
  grind
def LR.O5{t:List bx}{xs vs:List ah}(h:LR t xs)(i:Nat)(hi:i<t.length)(x:Bs)(d:mX vs [.c (.str x)]):LR (t.set i ((t.getD i cF.b5).1,x)) (xs.take (i*2+1)++vs++xs.drop (i*2+1+vs.length)):=by
 unfold LR;rw[List.length_set];refine gi.fi h i 1 hi d (bh _) (λg f a=>?_) rfl λq c b=>?_
 .simp[mh.fn,AF,aq,Ne.symm a]
 .have e:cF.fn (t.set i ((t.getD i cF.b5).1,x)) i=[.str (t.getD i cF.b5).1,.str x]:=by simp[mh.fn,AF,cF,aq,hi]
  rw[e]at b;rcases q with _|_|q
  .right;simp at b;subst b;exact⟨by omega,rfl⟩
  .grind
  grind
structure C1(k c:Nat) where
 t:List bx
 bf:m9
 xs:List ah
 k1:Nat
 fl:LR t xs
 hl:t.length<=7
 h1:k<=k1
 h2:k1<=k+c
set_option maxRecDepth 20000 in
def Gv(m:Nat)(b:Nat->Int)(o:Bytes b)(k:Nat)(hk:k<=50000)(r:m<=1048576):
  eb (ι:=C1 k 400) X 18 [.e (.one (.ptr 0 0))] [kZ m b k] (λq=>.e (.one (.v (k9 q.bf q.t.length)))) (λq=>[kZ m b q.k1,bK q.bf q.t.length q.xs]):=by
 refine eb.qM Tryz.func18 rfl rfl rfl λI=>?_;refine qE [] 9 rfl ay ?_;refine AK.Nw 3 76 2 rfl λA=>?_;refine bt rfl ay ?_;refine AK.cP (gw m b o k 6 (by omega) r (by omega)) [0] rfl (λ_=>rfl) ?_;rintro⟨v,v0,v1⟩;refine bt rfl ay ?_;refine AK.cz 2 (λs:Nat×List bx×m9×List ah×Nat=>s.1<=5/\LR s.2.1 s.2.2.2.1/\s.2.1.length<=6/\k<=s.2.2.2.2/\s.2.2.2.2+70*s.1<=k+351) (λs=>[(0,.e (.one (.ptr 0 0))),(4,dI s.1),(3,.e (.one (.v (k9 s.2.2.1 s.2.1.length))))]) (λs=>[kZ m b s.2.2.2.2,bK s.2.2.1 s.2.1.length s.2.2.2.1]) (λs=>s.1) (v.toNat,[],A,[],k+1) rfl ?_ rfl ?_ rfl ⟨by omega,gi.nil,by simp,by simp,by grind⟩ ?_
 .simp;omega
 .simp
 rintro⟨n,t,bf,xs,k1⟩ ⟨O,f,H,N,K⟩;simp only at O f H N K;by_cases L:0<n
 .refine aX [(11,ab)] rfl (by simp[L]) ?_;refine AK.cP (vF m b o k1 (by omega) r) [0] rfl (λ_=>rfl) ?_;rintro⟨p,Q⟩;refine bt rfl ay ?_;refine AK.cP (GN m b o (k1+1+1) (by omega) r) [0] rfl (λ_=>rfl) ?_;rintro⟨⟨x,E⟩,J,D,w⟩;simp only at J D w;refine bt rfl ay ?_;refine AK.J5 (C0 t p x) 1 0 rfl rfl rfl rfl (fQ.Bx rfl (cF.fn t) f.rd) rfl ?_ rfl (λ_=>rfl) (λ_=>rfl) rfl ?_
  .simp
  rintro⟨⟨a,xs'⟩,g⟩;simp only at g⊢;cases B:(ek t p x).2 with
  |true =>
   have z:=Iq B;generalize(ek t p x).1=t' at g z⊢;refine qE [] 6 rfl ay ?_;refine AK.swap 1 2 (by decide) rfl rfl (λv G h=>h.1) (λv G h=>h.1) ?_;refine aX [(23,ab)] rfl ?_ (AK.aQ (n-1,t',a,xs',E) rfl ?_ ?_ ?_ ?_)
   .simp[bA];omega
   .simp;omega
   .simp
   .grind
   grind
  |false =>
   refine aX [(23,af)] rfl ?_ (AK.aQ (n-1,t,bf,xs,E) rfl ?_ ?_ ?_ ?_)
   .simp[bA];omega
   .simp;omega
   .simp
   .grind
   grind
 .obtain rfl:n=0:=by omega
  refine aX [(11,af)] rfl (by simp) (AK.leaveD rfl rfl ?_);refine bt rfl ay ?_;refine AK.cP (gw m b o k1 40 (by omega) r (by omega)) [0] rfl (λ_=>rfl) ?_;rintro⟨u,U,S⟩;by_cases F:u=0
  .refine aX [(27,ab)] rfl (by simp[F]) ?_;refine AK.cP (vF m b o (k1+1) (by omega) r) [0] rfl (λ_=>rfl) ?_;rintro⟨p,Q⟩;refine bt rfl ay ?_;refine AK.oh (l:=1) (bf:=bf) (xs:=xs) (n:=t.length) (xv:=[Bj p,Bj [97]]) (Wa rfl) rfl rfl rfl rfl rfl rfl rfl rfl (λM v j c R T=>?_) (by show _*32<=_;omega) λa=>?_
   .grind [str_val]
   refine bt rfl ay (AK.nL ⟨t++[(p,[97])],a,xs++[Bj p,Bj [97]],k1+1+1+1,f.snoc p [97] (by omega) (by decide),by grind,by omega,by omega⟩ (AK.de [0,1] rfl ?_ ?_ rfl rfl ?_))
   .simp
   .simp;rfl
   grind
  by_cases d:u=1
  .by_cases y:0<t.length
   .refine AK.Jg (fQ.len (l:=1) rfl) λC=>?_;obtain⟨P,cap,rfl⟩:=C.2.2.1 y;refine aX [(27,af),(35,ab),(39,ab)] rfl ?_ ?_
    .simp[y,d];omega
    refine AK.zC tok 1 rfl rfl rfl rfl rfl rfl rfl ?_ rfl rfl λvs TD=>?_
    .grind
    have i:=f.O5 0 y [65] TD;refine bt rfl ay (AK.nL ⟨t.set 0 ((t.getD 0 cF.b5).1,[65]),.row P cap,_,k1+1,i,by grind,by omega,by omega⟩ (AK.de [0,1] rfl ?_ ?_ rfl rfl ?_))
    .simp
    .simp;rfl
    grind
   .cases bf;all_goals
     refine aX [(27,af),(35,ab),(39,af)] rfl ?_ (AK.nL ⟨t,_,xs,k1+1,f,by omega,by omega,by omega⟩ (AK.de [0,1] rfl ?_ rfl rfl rfl ?_))
     .simp[y,d]<;>omega
     .simp
     grind
  .refine aX [(27,af),(35,af)] rfl (by simp[F,d]) (AK.nL ⟨t,bf,xs,k1+1,f,by omega,by omega,by omega⟩ (AK.de [0,1] rfl ?_ rfl rfl rfl ?_))
   .simp
   grind
def MU(m:Nat)(b:Nat->Int)(a:Bytes b)(k:Nat)(hk:k<=50000)(c:m<=1048576):
  eb (ι:=C1 k 400) X 18 [.e (.one (.ptr 0 0))] [kZ m b k] (λq=>cF.sl q.t) (λq=>[kZ m b q.k1]) :=
 eb.BE (σ1:=λq:C1 k 400=>[kZ m b q.k1]) (k:=2) (n:=λq:C1 k 400=>q.t.length) (es:=λq:C1 k 400=>cF.fn q.t) (Gv m b a k hk c) (λq=>q.fl) (λ_=>rfl) (λ_=>bh _)
end
section
open Go.Proofs Go.Extern
abbrev rE:aj:=62
abbrev ly:aj:=60
abbrev Ps:aj:=174
abbrev hT(t:aj):ah:=.pointer (aa ⟨6,t,ae⟩)
abbrev rT(t:aj):ah:=.iface Ps (.agg #[hT t])
abbrev vV(t:aj)(g:Nat)(a:Int):ah:=.agg #[hT t,.pointer (aa ⟨g,0,ae⟩),.int .u64 a]
def De:kR ag 72 λargs=>ReflectliteValue.unpack (args.getD 0 (.tuple #[])):=⟨_,Tryz.func72,by kernel_rfl,by kernel_rfl,by kernel_rfl,by kernel_rfl⟩
def Fe(p:Addr)(w:aA):(ReflectliteValue.unpack (.iface rE (.pointer (aa p)))).run ag w=.ok (vV rE w.heap.size 150) (w.alloc (.cells #[.pointer (aa p)] rE)):=by kernel_rfl
def Ff(p:Addr)(w:aA)(es:Array Event):(ReflectliteValue.unpack (.iface rE (.pointer (aa p)))).events ag w es=es:=by kernel_rfl
def Fg(p:Addr)(w:aA):(ReflectliteValue.unpack (.iface ly (.pointer (aa p)))).run ag w=.ok (vV ly w.heap.size 150) (w.alloc (.cells #[.pointer (aa p)] ly)):=by kernel_rfl
def Fh(p:Addr)(w:aA)(es:Array Event):(ReflectliteValue.unpack (.iface ly (.pointer (aa p)))).events ag w es=es:=by kernel_rfl
def Wv:kR ag 73 (ReflectliteValue.methodAny (ReflectliteValue.valueError "reflectlite.Value.Type" 0) λt _ _ _=>ReflectliteType.toType t):=⟨_,Tryz.func73,by kernel_rfl,by kernel_rfl,by kernel_rfl,by kernel_rfl⟩
def Ww(g:Nat)(w:aA):(ReflectliteValue.methodAny (ReflectliteValue.valueError "reflectlite.Value.Type" 0) (λt _ _ _=>ReflectliteType.toType t) #[vV rE g 150]).run ag w=.ok (rT rE) w:=by kernel_rfl
def Wx(g:Nat)(w:aA)(es:Array Event):(ReflectliteValue.methodAny (ReflectliteValue.valueError "reflectlite.Value.Type" 0) (λt _ _ _=>ReflectliteType.toType t) #[vV rE g 150]).events ag w es=es:=by kernel_rfl
def QP(h:ah)(w:aA):(Go.method (Tryz.prog.types.size+Made.depth) Ps (.agg #[h]) "Kind").run ag w=.ok (254,h) w/\∀es,(Go.method (Tryz.prog.types.size+Made.depth) Ps (.agg #[h]) "Kind").events ag w es=es:=⟨by kernel_rfl,λes=>by kernel_rfl⟩
def QQ:kR ag 254 (ReflectliteType.abiMethod λt=>do pure (.int .u8 (<-Rtype.kind t))):=⟨_,Tryz.func254,by kernel_rfl,by kernel_rfl,by kernel_rfl,by kernel_rfl⟩
def Pt(w:aA):((ReflectliteType.abiMethod λt=>do pure (.int .u8 (<-Rtype.kind t))) #[hT rE]).run ag w=.ok (.int .u8 22) w:=by kernel_rfl
def Pu(w:aA)(es:Array Event):((ReflectliteType.abiMethod λt=>do pure (.int .u8 (<-Rtype.kind t))) #[hT rE]).events ag w es=es:=by kernel_rfl
def Pv(w:aA):((ReflectliteType.abiMethod λt=>do pure (.int .u8 (<-Rtype.kind t))) #[hT ly]).run ag w=.ok (.int .u8 22) w:=by kernel_rfl
def Pw(w:aA)(es:Array Event):((ReflectliteType.abiMethod λt=>do pure (.int .u8 (<-Rtype.kind t))) #[hT ly]).events ag w es=es:=by kernel_rfl
def Tq:kR ag 74 (ReflectliteValue.method (ReflectliteValue.valueError "reflectlite.Value.IsNil" 0) ReflectliteValue.isNil):=⟨_,Tryz.func74,by kernel_rfl,by kernel_rfl,by kernel_rfl,by kernel_rfl⟩
def rlm(z:Sem ah)(f:aj->Addr->Nat->Nat->Sem ah)(v:ah):ReflectliteValue.method z f #[v]=(do match<-ReflectliteValue.parts v with|none=>z|some (t,a,b)=>f t a b (b % 32)):=rfl
def uc(g:Nat)(w:aA):(ReflectliteValue.parts (vV rE g 150)).run ag w=.ok (aa (rE,⟨g,0,ae⟩,150)) w/\∀es,(ReflectliteValue.parts (vV rE g 150)).events ag w es=es:=⟨by kernel_rfl,λes=>by kernel_rfl⟩
def Ts(g:Nat)(p:Addr)(w:aA)(c:w.cell? ⟨g,0,ae⟩=aa (.pointer (aa p))):(ReflectliteValue.method (ReflectliteValue.valueError "reflectlite.Value.IsNil" 0) ReflectliteValue.isNil #[vV rE g 150]).run ag w=.ok (.bool af) w /\
  ∀es,∀b∈(ReflectliteValue.method (ReflectliteValue.valueError "reflectlite.Value.IsNil" 0) ReflectliteValue.isNil #[vV rE g 150]).events ag w es,b∈es∨b=⟨.cell ⟨g,0,ae⟩,af,af⟩:=by
 have d:=Tryz.underlying62;rw[rlm];constructor
 .simp only[bL,(uc g w).1,bU];simp[ReflectliteValue.isNil,loadVar,isAgg,underlying,d,c]
 .intro es b a;simp only[aM,bL,(uc g w).1,(uc g w).2,bU,aO]at a;simpa[ReflectliteValue.isNil,loadVar,isAgg,underlying,d,c,show(Mode.plain==Mode.atomic)=af from rfl]using a
def Wy(h:ah)(w:aA):(Go.method (Tryz.prog.types.size+Made.depth) Ps (.agg #[h]) "Elem").run ag w=.ok (270,.agg #[h]) w/\∀es,(Go.method (Tryz.prog.types.size+Made.depth) Ps (.agg #[h]) "Elem").events ag w es=es:=⟨by kernel_rfl,λes=>by kernel_rfl⟩
def Tt:kR ag 270 (ReflectliteType.method ReflectliteType.elem):=⟨_,Tryz.func270,by kernel_rfl,by kernel_rfl,by kernel_rfl,by kernel_rfl⟩
def Tu(w:aA):(ReflectliteType.method ReflectliteType.elem #[.agg #[hT rE]]).run ag w=.ok (rT ly) w:=by kernel_rfl
def Tv(w:aA)(es:Array Event):(ReflectliteType.method ReflectliteType.elem #[.agg #[hT rE]]).events ag w es=es:=by kernel_rfl
def Wz(h:ah)(w:aA):(Go.method (Tryz.prog.types.size+Made.depth) Ps (.agg #[h]) "Implements").run ag w=.ok (271,.agg #[h]) w/\∀es,(Go.method (Tryz.prog.types.size+Made.depth) Ps (.agg #[h]) "Implements").events ag w es=es:=⟨by kernel_rfl,λes=>by kernel_rfl⟩
def WA:kR ag 271 (ReflectliteType.relation "Implements" ReflectliteType.implements_):=⟨_,Tryz.func271,by kernel_rfl,by kernel_rfl,by kernel_rfl,by kernel_rfl⟩
def WB(w:aA):(ReflectliteType.relation "Implements" ReflectliteType.implements_ #[.agg #[hT ly],rT 57]).run ag w=.ok (.bool ab) w:=by kernel_rfl
def WC(w:aA)(es:Array Event):(ReflectliteType.relation "Implements" ReflectliteType.implements_ #[.agg #[hT ly],rT 57]).events ag w es=es:=by kernel_rfl
def ZH(h:ah)(w:aA):(Go.method (Tryz.prog.types.size+Made.depth) Ps (.agg #[h]) "AssignableTo").run ag w=.ok (268,.agg #[h]) w/\∀es,(Go.method (Tryz.prog.types.size+Made.depth) Ps (.agg #[h]) "AssignableTo").events ag w es=es:=⟨by kernel_rfl,λes=>by kernel_rfl⟩
def ZI:kR ag 268 (ReflectliteType.relation "AssignableTo" ReflectliteType.assignableTo):=⟨_,Tryz.func268,by kernel_rfl,by kernel_rfl,by kernel_rfl,by kernel_rfl⟩
def ZJ(w:aA):(ReflectliteType.relation "AssignableTo" ReflectliteType.assignableTo #[.agg #[hT ly],rT ly]).run ag w=.ok (.bool ab) w:=by kernel_rfl
def ZK(w:aA)(es:Array Event):(ReflectliteType.relation "AssignableTo" ReflectliteType.assignableTo #[.agg #[hT ly],rT ly]).events ag w es=es:=by kernel_rfl
def Px:kR ag 122 ReflectliteType.typeOf:=⟨_,Tryz.func122,by kernel_rfl,by kernel_rfl,by kernel_rfl,by kernel_rfl⟩
def Py(v:ah)(w:aA):(ReflectliteType.typeOf #[.iface ly v]).run ag w=.ok (rT ly) w:=by kernel_rfl
def Pz(v:ah)(w:aA)(es:Array Event):(ReflectliteType.typeOf #[.iface ly v]).events ag w es=es:=by kernel_rfl
def Tw:kR ag 123 (ReflectliteValue.method (ReflectliteValue.valueError "reflectlite.Value.Elem" 0) ReflectliteValue.elem):=⟨_,Tryz.func123,by kernel_rfl,by kernel_rfl,by kernel_rfl,by kernel_rfl⟩
def GY(w:aA):(Rtype.elem? rE).run ag w=.ok (aa ly) w/\∀es,(Rtype.elem? rE).events ag w es=es:=⟨by kernel_rfl,λes=>by kernel_rfl⟩
def rMk(p:Addr)(w:aA):(ReflectliteValue.mk ly p ReflectliteValue.flagAddr).run ag w=.ok (.agg #[hT ly,.pointer (aa p),.int .u64 406]) w/\∀es,(ReflectliteValue.mk ly p ReflectliteValue.flagAddr).events ag w es=es:=⟨by kernel_rfl,λes=>by kernel_rfl⟩
def Tx(g:Nat)(p:Addr)(w:aA)(c:w.cell? ⟨g,0,ae⟩=aa (.pointer (aa p))):(ReflectliteValue.method (ReflectliteValue.valueError "reflectlite.Value.Elem" 0) ReflectliteValue.elem #[vV rE g 150]).run ag w=.ok (.agg #[hT ly,.pointer (aa p),.int .u64 406]) w /\
  ∀es,∀b∈(ReflectliteValue.method (ReflectliteValue.valueError "reflectlite.Value.Elem" 0) ReflectliteValue.elem #[vV rE g 150]).events ag w es,b∈es∨b=⟨.cell ⟨g,0,ae⟩,af,af⟩:=by
 have d:=Tryz.underlying62;rw[rlm];constructor
 .simp only[bL,(uc g w).1,bU];simp[ReflectliteValue.elem,loadVar,isAgg,underlying,d,c,GY,rMk]
 .intro es b a;simp only[aM,bL,(uc g w).1,(uc g w).2,bU,aO]at a;simpa[ReflectliteValue.elem,loadVar,isAgg,underlying,d,c,GY,rMk,show(Mode.plain==Mode.atomic)=af from rfl]using a
def ZL:kR ag 124 ReflectliteValue.set:=⟨_,Tryz.func124,by kernel_rfl,by kernel_rfl,by kernel_rfl,by kernel_rfl⟩
def rls(v x:ah):ReflectliteValue.set #[v,x]=(do
  let (aa (c,a,e),aa (d,b,_)):=(<-ReflectliteValue.parts v,<-ReflectliteValue.parts x)
   |unsupported (.noEntry "extern/(internal/reflectlite.Value).Set.zeroValue")
  if e / ReflectliteValue.flagAddr % 2==0 then unsupported (.noEntry "extern/(internal/reflectlite.Value).Set.unaddressable")
  let val<-loadVar d b
  if<-Rtype.directlyAssignable c d then storeVar c a val
  else if<-Rtype.implements c d then
   if(<-Rtype.kind d)==20 then
    match val with
    |.nilIface=>unsupported (.noEntry "extern/reflectlite: a nil value of one interface type handed on as a value of another")
    |_=>storeVar c a val
   else storeVar c a (.iface d val)
  else panicString ("reflectlite.Set: value of type "++(<-Rtype.spelt d)++ " is not assignable to type "++(<-Rtype.spelt c))
  pure (.tuple #[])):=rfl
def Bb(p:Addr)(w:aA):(ReflectliteValue.parts (.agg #[hT ly,.pointer (aa p),.int .u64 406])).run ag w=.ok (aa (ly,p,406)) w/\∀es,(ReflectliteValue.parts (.agg #[hT ly,.pointer (aa p),.int .u64 406])).events ag w es=es:=⟨by kernel_rfl,λes=>by kernel_rfl⟩
def Bc(g:Nat)(w:aA):(ReflectliteValue.parts (vV ly g 150)).run ag w=.ok (aa (ly,⟨g,0,ae⟩,150)) w/\∀es,(ReflectliteValue.parts (vV ly g 150)).events ag w es=es:=⟨by kernel_rfl,λes=>by kernel_rfl⟩
def GZ(w:aA):(Rtype.directlyAssignable ly ly).run ag w=.ok ab w/\∀es,(Rtype.directlyAssignable ly ly).events ag w es=es:=⟨by kernel_rfl,λes=>by kernel_rfl⟩
def QR(w:aA):(sizeOf ly).run ag w=.ok 1 w/\∀es,(sizeOf ly).events ag w es=es:=⟨by kernel_rfl,λes=>by kernel_rfl⟩
def ZM(g b:Nat)(E:aj)(w0:ah)(e:Addr)(w:aA)(l:w.heap[g]?=aa (.cells #[w0] E (0,0)))(m:w.cell? ⟨b,0,ae⟩=aa (.pointer (aa e))):
  (ReflectliteValue.set #[.agg #[hT ly,.pointer (aa ⟨g,0,ae⟩),.int .u64 406],vV ly b 150]).run ag w=.ok (.tuple #[]) (w.setRow g #[.pointer (aa e)]) /\
  ∀es,∀c∈(ReflectliteValue.set #[.agg #[hT ly,.pointer (aa ⟨g,0,ae⟩),.int .u64 406],vV ly b 150]).events ag w es,c∈es∨c=⟨.cell ⟨b,0,ae⟩,af,af⟩∨c=⟨.cell ⟨g,0,ae⟩,ab,af⟩:=by
 have n:=Tryz.underlying60;have d:∀w∈[Value.pointer (aa e)],w.oneCell'=ab:=λw o=>by simp at o;subst o;rfl
 have k:=run_storeCells_at ag g 0 E [.pointer (aa e)] 0 #[w0] w l (by simp) d;have a:(storeCells ⟨g,0,ae⟩ [.pointer (aa e)] 0).run ag w=.ok () (w.setRow g #[.pointer (aa e)]):=k;rw[rls];constructor
 .simp only[bL,(Bb ⟨g,0,ae⟩ w).1,(Bc b w).1,bU];simp[ReflectliteValue.flagAddr,loadVar,isAgg,underlying,n,m,GZ,storeVar,Value.cells,QR,a]
 .intro es c f;simp only[aM,bL,(Bb ⟨g,0,ae⟩ w).1,(Bb ⟨g,0,ae⟩ w).2,(Bc b w).1,(Bc b w).2,bU,aO]at f;have i:c∈(storeCells ⟨g,0,ae⟩ [.pointer (aa e)] 0).events ag w (es.push ⟨.cell ⟨b,0,ae⟩,af,af⟩):=by simpa[ReflectliteValue.flagAddr,loadVar,isAgg,underlying,n,m,GZ,storeVar,Value.cells,QR,a,show(Mode.plain==Mode.atomic)=af from rfl]using f
  rcases dE [.pointer (aa e)] 0 #[w0] w _ l (by simp) d c i with h|⟨j,p,q,rfl⟩
  .grind
  .obtain rfl:j=0:=by grind
   exact .inr (.inr rfl)
end
section
open Go.Proofs Go.Extern
variable {X:Cx ag}
abbrev ZN:aP:=.b8 (dJ 0 126 (rT 57))
abbrev Nf(v:ah):D:=.e (.one (.c (.val v)))
abbrev PC(t:aj)(g:Nat)(a:Int):D:=.e (.agg [.c (.val (hT t)),.c (.val (.pointer (aa ⟨g,0,ae⟩))),.c (.val (.int .u64 a))])
abbrev asB(p:Addr)(g a:Nat):List aP:=[.b8 (dJ a rE (.pointer (aa ⟨g,0,ae⟩))),.b8 (dJ g ly (.pointer ae))]
def QS:∀j,j<2->([0,1]:List Nat)[j]?=aa j:=by decide
def MD(p:Addr)(g b:Nat):Ev X 75 [Nf (.iface ly (.pointer (aa p))),Nf (.iface rE (.pointer (aa ⟨g,0,ae⟩))),PC rE b 150,Nf (rT ly)] (asB p g b) (dB ab) [.b8 (dJ b rE (.pointer (aa ⟨g,0,ae⟩))),.b8 (dJ g ly (.pointer (aa p)))]:=by
 refine Ev.bQ Tryz.func75 rfl λh=>?_;refine bt rfl ay ?_;refine AK.sq 3 [0,1,3,6] (λ_:Unit=>True) (λ_=>[]) (λ_=>asB p g b++[.cells 123 [.c (.val (hT rE)),.c (.val (.pointer (aa ⟨b,0,ae⟩))),.c (.val (.int .u64 150))]]) (λ_=>0) () rfl ?_ rfl ?_ rfl ay λ_ _=>?_
 .simp
 .simp
 refine bt rfl ay ?_;refine AK.oH rfl rfl (dN.DV (gd.direct rfl rfl) Px (Py _) (Pz _) (x:=Nf (rT ly)) λ_=>Rd.val rfl) λ_=>?_;refine bt rfl ay ?_;refine AK.oH rfl rfl (dN.DV (gd.invoke rfl rfl rfl (ZH _)) ZI ZJ ZK (x:=dB ab) λ_=>Rd.bool) λ_=>?_;refine aX [(19,ab)] rfl (by simp) ?_;refine AK.oH rfl rfl (dN.PZ 0 (u:=.pointer (aa ⟨g,0,ae⟩)) rfl (gd.direct rfl rfl) Tw (λw e=>Tx b ⟨g,0,ae⟩ w e) (x:=PC ly g 406) λ_=>⟨_,rfl,Rd.val rfl,Rd.val rfl,Rd.val rfl,ay⟩) λ_=>?_;refine bt rfl ay ?_;refine AK.oH rfl rfl (dN.JI (E:=ly) (u:=.pointer (aa p)) (v:=λa=>vV ly a 150) (x:=λa=>PC ly a 150) (gd.direct rfl rfl) De (Fg p) (Fh p) λa _ _=>⟨_,rfl,Rd.val rfl,Rd.val rfl,Rd.val rfl,ay⟩) λa=>?_;refine bt rfl ay ?_;refine AK.oH rfl rfl (dN.Rt 1 3 (w0:=.pointer ae) (u:=.pointer (aa p)) rfl rfl (gd.direct rfl rfl) ZL (λw d f=>ZM g a ly _ p w d f) (x:=.eX []) λ_ _=>⟨[],rfl,ay⟩) λ_=>?_;refine bt rfl ay (AK.fE (cp.mk [0,1] rfl ?_ rfl rfl rfl QS));simp
def G0{P:ar}{o:au}{m:ak->D}{σ:List aP}{op:BinOp}{t ty T:aj}{v:ah}{x y:ak}(h:o.op=.binOp op t x y ty){c:Bool}{u:Array (String×aj)}(p:P.underlying t=aa (.interface u))(z:m x=.e (.one (.c (.val (.iface T v)))))(r:m y=.e (.one (.c .iy)))(b:∀w,(eqGuard op t x y (.iface T v) .nilIface).run P w=.ok () w)(j:∀w es,(eqGuard op t x y (.iface T v) .nilIface).events P w es=es)(l:jb op af=aa c):bF P o m σ (.e (.one (.c (.bool c)))) σ:=by
 refine .quiet λs n A q=>?_;have g:=q x;have i:=q y;rw[z]at g;rw[r]at i;replace g:=eT g;replace i:=eT i;generalize a:n x=vx at g;generalize d:n y=vy at i;cases g;cases i;have k:(Op.equal t (.iface T v) .nilIface).run P s.w=.ok af s.w:=by show(aY (9999+1) t _ _).run P s.w=_;unfold aY;simp[underlying,p]
 have f:∀es,(Op.equal t (.iface T v) .nilIface).events P s.w es=es:=λes=>by show(aY (9999+1) t _ _).events P s.w es=es;unfold aY;simp[underlying,p]
 cases op<;>simp only[jb,reduceCtorEq,dn]at l
 .subst l;exact⟨.bool af,by simp[aw,h,a,d,b,binOp,k],Rd.bool,by simp[aw,h,a,d,b,j,binOp,k,f]⟩
 .subst l;exact⟨.bool ab,by simp[aw,h,a,d,b,binOp,k],Rd.bool,by simp[aw,h,a,d,b,j,binOp,k,f]⟩
def ME(p:Addr)(g:Nat):Ev X 26 [Nf (.iface ly (.pointer (aa p))),Nf (.iface rE (.pointer (aa ⟨g,0,ae⟩)))] [ZN,.b8 (dJ g ly (.pointer ae))] (dB ab) [ZN,.b8 (dJ g ly (.pointer (aa p)))]:=by refine Ev.bQ Tryz.func26 rfl λf=>?_;refine bt rfl ay ?_;refine AK.law (G0 rfl Tryz.underlying57 rfl rfl (λ_=>rfl) (λ_ _=>rfl) rfl) rfl rfl ?_;refine aX [(9,af)] rfl (by simp) ?_;refine AK.law (G0 rfl Tryz.underlying20 rfl rfl (λ_=>rfl) (λ_ _=>rfl) rfl) rfl rfl ?_;refine aX [(11,af)] rfl (by simp) ?_;refine AK.oH rfl rfl (dN.JI (E:=rE) (u:=.pointer (aa ⟨g,0,ae⟩)) (v:=λb=>vV rE b 150) (x:=λb=>PC rE b 150) (gd.direct rfl rfl) De (Fe _) (Ff _) λb _ _=>⟨_,rfl,Rd.val rfl,Rd.val rfl,Rd.val rfl,ay⟩) λa=>?_;refine bt rfl ay ?_;refine AK.oH rfl rfl (dN.DV (gd.direct rfl rfl) Wv (Ww a) (Wx a) (x:=Nf (rT rE)) λ_=>Rd.val rfl) λ_=>?_;refine bt rfl ay ?_;refine AK.oH rfl rfl (dN.DV (gd.invoke rfl rfl rfl (QP _)) QQ Pt Pu (x:=.e (.one (.c (.int .u8 22)))) λ_=>Rd.int (by simp[bA])) λ_=>?_;refine aX [(20,af)] rfl (by simp) ?_;refine AK.oH rfl rfl (dN.PZ 2 (u:=.pointer (aa ⟨g,0,ae⟩)) rfl (gd.direct rfl rfl) Tq (λw d=>Ts a ⟨g,0,ae⟩ w d) (x:=dB af) λ_=>Rd.bool) λ_=>?_;refine aX [(23,af)] rfl (by simp) ?_;refine AK.oH rfl rfl (dN.DV (gd.invoke rfl rfl rfl (Wy _)) Tt Tu Tv (x:=Nf (rT ly)) λ_=>Rd.val rfl) λ_=>?_;refine bt rfl ay ?_;refine AK.oH rfl rfl (dN.DV (gd.invoke rfl rfl rfl (QP _)) QQ Pv Pw (x:=.e (.one (.c (.int .u8 22)))) λ_=>Rd.int (by simp[bA])) λ_=>?_;refine aX [(30,ab)] rfl (by simp) ?_;refine AK.one (OA.JY tok 0 rfl rfl rfl rfl rfl rfl) rfl ?_;refine AK.oH rfl rfl (dN.DV (gd.invoke rfl rfl rfl (Wz _)) WA WB WC (x:=dB ab) λ_=>Rd.bool) λ_=>?_;refine aX [(35,af)] rfl (by simp) ?_;refine AK.cQ (MD p g a) [2,1] rfl ?_;refine bt rfl ay (AK.de [0,1] rfl ?_ rfl rfl rfl QS);simp
end
end Go.AM.R1
namespace Go.AM
abbrev O8(a b:Bs)(c:Bool):D:=.eX [.one (.c (.str a)),.one (.c (.str b)),.one (.c (.bool c))]
namespace R1
variable {X:Cx ag}
def yj(s:Bs)(c:Int)(h:0<=c/\c<=255):Ev X 207 [dS s,dU c] [] (dI (Lib.indexByte s (UInt8.ofNat (Int.toNat c)))) []:=by
 have e:c=((UInt8.ofNat c.toNat).toNat:Int):=by grind[UInt8.toNat_ofNat']
 grind[A0]
def S7:dt:=λargs σ=>match args,σ with
 |[.e (.one (.c (.str a))),.e (.one (.c (.int .u8 b)))],[]=>aa (dI (Lib.indexByte a (UInt8.ofNat (Int.toNat b))),[],[0<=b/\b<=255])
 |_,_=>ae
def t207:ef X 207 S7:=by
 intro args σ res σ' obs h a;unfold S7 at h;split at h
 .cases h;exact(yj _ _ (a)).args (λ_ _ r=>r)
 .cases h
def Wb:List (Nat×dt):=(207,S7)::ct7
def LV:bE X Wb:=bE.cons t207 (Zv)
def iG(s:Bs):Int:=Lib.indexByte s 47
theorem LW(s:Bs):Ev X 173 [dS s,dS [47]] [] (dI (iG s)) []:=by
 refine Ev.bQ Tryz.func173 rfl λa=>?_;by_cases h:s=[47]
 .subst h;refine aW LV [(18,af),(22,ab)] rfl ?_ (AK.bw rfl ?_)
  .simp
  .simp[iG,Lib.indexByte.eq_def]
 .refine aW LV [(18,af),(22,af),(26,ab)] rfl ?_ (AK.bw rfl ?_)
  .simp[cN,cK];grind
  .simp[iG,iS]
def S8:dt:=λargs σ=>match args,σ with
 |[.e (.one (.c (.str a))),.e (.one (.c (.str [47])))],[]=>aa (dI (iG a),[],[])
 |_,_=>ae
def t173:ef X 173 S8:=by intro args σ res σ' obs h a;unfold S8 at h;grind[LW]
def Wc:List (Nat×dt):=(173,S8)::Wb
def LX:bE X Wc:=bE.cons t173 (LV)
def jv(s:Bs):Bs:=if 0<=iG s then s.take (iG s).toNat else s
def mN(s:Bs):Bs:=if 0<=iG s then s.drop ((iG s).toNat+1)else[]
def j4(s:Bs):Bool:=decide (0<=iG s)
theorem LY(s:Bs):Ev X 143 [dS s,dS [47]] [] (O8 (jv s) (mN s) (j4 s)) []:=by
 refine Ev.bQ Tryz.func143 rfl λb=>?_;have d:=b.str 0 rfl;have a:=lN s 47;change iG s<s.length∨iG s=-1 at a;by_cases h:0<=iG s
 .have c:(iG s+1).toNat=(iG s).toNat+1:=by omega
  refine aW LX [(12,ab)] rfl ?_ (AK.bw rfl ?_)
  .simp[h,bA];omega
  .simp[jv,mN,j4,h,sd,c]
 .refine aW LX [(12,af)] rfl ?_ (AK.bw rfl ?_)
  .simp;omega
  .simp[jv,mN,j4,h]
def S9:dt:=λargs σ=>match args,σ with
 |[.e (.one (.c (.str a))),.e (.one (.c (.str [47])))],[]=>aa (O8 (jv a) (mN a) (j4 a),[],[])
 |_,_=>ae
def t143:ef X 143 S9:=by intro args σ res σ' obs h a;unfold S9 at h;grind[LY]
def Wd:List (Nat×dt):=(143,S9)::Wc
def QI:bE X Wd:=bE.cons t143 (LX)
theorem Ta(s:Bs):Ev X 111 [dS s,dS [47]] [] (O8 (jv s) (mN s) (j4 s)) []:=by refine Ev.bQ Tryz.func111 rfl λa=>?_;exact cf QI rfl ay (AK.bw rfl)
def Tb:dt:=λargs σ=>match args,σ with
 |[.e (.one (.c (.str a))),.e (.one (.c (.str [47])))],[]=>aa (O8 (jv a) (mN a) (j4 a),[],[])
 |_,_=>ae
def t111:ef X 111 Tb:=by intro args σ res σ' obs h a;unfold Tb at h;grind[Ta]
def cy(s:Bs):Bool:=decide (s.length=1)&&decide (97<=cK s 0)&&decide (cK s 0<=101)
theorem uU(s:Bs):Ev X 112 [dS s] [] (dB (cy s)) []:=by
 refine Ev.bQ Tryz.func112 rfl λc=>?_;by_cases b:s.length=1
 .by_cases a:97<=cK s 0
  .refine aX [(5,ab),(9,ab)] rfl ?_ (AK.bw rfl ?_)
   .simp only[az,ba];grind[cN]
   .show decide (cK s 0<=101)=cy s;simp[cy,b,a]
  .refine aX [(5,ab),(9,af)] rfl ?_ (AK.bw rfl ?_)
   .simp only[az,bO];grind[cN]
   .simp[cy,a]
 .refine aX [(5,af)] rfl ?_ (AK.bw rfl ?_)
  .simp;omega
  .simp[cy,b]
def Tc:dt:=λargs σ=>match args,σ with
 |[.e (.one (.c (.str a)))],[]=>aa (dB (cy a),[],[])
 |_,_=>ae
def t112:ef X 112 Tc:=by intro args σ res σ' obs h a;unfold Tc at h;grind[uU]
def We:List (Nat×dt):=(111,Tb)::(112,Tc)::Wd
def GP:bE X We:=bE.cons t111 (bE.cons t112 (QI))
def e9(s:Bs):Bool:=cy (jv s)&&(!j4 s||cy (mN s))
theorem E6(s:Bs):Ev X 62 [dS s] [] (dB (e9 s)) []:=by
 refine Ev.bQ Tryz.func62 rfl λc=>?_;cases a:cy (jv s)with
 |false =>
  refine aW GP [(13,af)] rfl ?_ (AK.bw rfl ?_)
  .simp[a]
  .simp[e9,a]
 |true =>
  cases b:j4 s with
  |false =>
   refine aW GP [(13,ab),(15,af)] rfl ?_ (AK.bw rfl ?_)
   .simp[a,b]
   .simp[e9,a,b]
  |true =>
   refine aW GP [(13,ab),(15,ab)] rfl ?_ (AK.bw rfl ?_)
   .simp[a,b]
   .simp[e9,a,b]
def Zw:dt:=λargs σ=>match args,σ with
 |[.e (.one (.c (.str a)))],[]=>aa (dB (e9 a),[],[])
 |_,_=>ae
def t62:ef X 62 Zw:=by intro args σ res σ' obs h a;unfold Zw at h;grind[E6]
theorem C4(s:Bs):Ev X 113 [dS s] [] (dB (b6 s)) []:=by
 refine Ev.bQ Tryz.func113 rfl λe=>?_;have k:=e.str 0 rfl;refine bt rfl ay ?_;refine AK.j3 (λi=>i<=s.length/\∀j,j<i->eP (s.getD j 0)=ab) (λi:Nat=>[(0,dS s),(5,dI s.length),(6,dI i)]) (λ_=>[]) (λi=>s.length-i) 0 rfl ?_ rfl ay ⟨by omega,by omega⟩ ?_
 .simp
 rintro i ⟨hi,c⟩;by_cases h:i<s.length
 .generalize a:s.getD i 0=b;by_cases f:b.toNat<97
  .refine aX [(7,ab),(12,ab)] rfl ?_ (AK.iD (cp.zero rfl ?_))
   .simp only[az,ky,ba,a];omega
   .rw[az,kG h (by rw[a];simp only[eP,pO,bO];omega)]
  .by_cases g:b.toNat>122
   .refine aX [(7,ab),(12,af),(17,ab)] rfl ?_ (AK.iD (cp.zero rfl ?_))
    .simp only[az,ky,ba,bO,a];omega
    .rw[az,kG h (by rw[a];simp only[eP,pO,bO];omega)]
   .refine aX [(7,ab),(12,af),(17,af)] rfl ?_ (AK.gf (i+1) rfl ?_ rfl ay ?_ ?_)
    .simp only[az,ky,ba,bO,a,bA];omega
    .simp
    .refine⟨by omega,λj d=>?_⟩;rcases zo.1 d with d|rfl
     .grind
     .rw[a];simp only[eP,bR,ba];omega
    .omega
 .refine aX [(7,af)] rfl (by simp;omega) (AK.leave rfl rfl ?_);refine bt rfl ay (AK.bw rfl ?_);rw[az,sQ (λj d=>c j (by omega))]
def Td:dt:=λargs σ=>match args,σ with
 |[.e (.one (.c (.str a)))],[]=>aa (dB (b6 a),[],[])
 |_,_=>ae
def t113:ef X 113 Td:=by intro args σ res σ' obs h a;unfold Td at h;grind[C4]
def Wf:List (Nat×dt):=(62,Zw)::(113,Td)::We
def LZ:bE X Wf:=bE.cons t62 (bE.cons t113 (GP))
theorem xk(s:Bs):Ev X 63 [dS s] [] (dB (eg s)) []:=by
 refine Ev.bQ Tryz.func63 rfl λb=>?_;by_cases a:s.length<=40
 .refine aW LZ [(5,ab)] rfl ?_ (AK.bw rfl ?_)
  .simp;omega
  .simp[eg,a]
 .refine aW LZ [(5,af)] rfl ?_ (AK.bw rfl ?_)
  .simp;omega
  .simp[eg,a]
def Zx:dt:=λargs σ=>match args,σ with
 |[.e (.one (.c (.str a)))],[]=>aa (dB (eg a),[],[])
 |_,_=>ae
def t63:ef X 63 Zx:=by intro args σ res σ' obs h a;unfold Zx at h;grind[xk]
def lp(s p:Bs):Bool:=decide (p.length<=s.length)&&(s.take p.length==p)
theorem C5(s p:Bs):Ev X 115 [dS s,dS p] [] (dB (lp s p)) []:=by
 refine Ev.bQ Tryz.func115 rfl λb=>?_;by_cases a:p.length<=s.length
 .refine aX [(9,ab)] rfl ?_ (AK.bw rfl ?_)
  .simp[a]
  .simp[lp,a,sd]
 .refine aX [(9,af)] rfl ?_ (AK.bw rfl ?_)
  .simp;omega
  .simp[lp,a]
def Te:dt:=λargs σ=>match args,σ with
 |[.e (.one (.c (.str a))),.e (.one (.c (.str b)))],[]=>aa (dB (lp a b),[],[])
 |_,_=>ae
def t115:ef X 115 Te:=by intro args σ res σ' obs h a;unfold Te at h;grind[C5]
def Wh:List (Nat×dt):=(63,Zx)::(115,Te)::Wf
def QJ:bE X Wh:=bE.cons t63 (bE.cons t115 (LZ))
theorem Iu(s p:Bs):Ev X 66 [dS s,dS p] [] (dB (lp s p)) []:=by refine Ev.bQ Tryz.func66 rfl λa=>?_;exact cf QJ rfl ay (AK.bw rfl)
def Zy:dt:=λargs σ=>match args,σ with
 |[.e (.one (.c (.str a))),.e (.one (.c (.str b)))],[]=>aa (dB (lp a b),[],[])
 |_,_=>ae
def t66:ef X 66 Zy:=by intro args σ res σ' obs h a;unfold Zy at h;grind[Iu]
def Wi:List (Nat×dt):=(66,Zy)::Wh
def QK:bE X Wi:=bE.cons t66 (QJ)
end R1
def mh.L5{α:Type}(c:mh α)(l:List α)(k n:Nat)(h:k+n<=l.length):c.list n (lZ k (c.fn l))=(l.drop k).take n:=by
 apply rL
 .simp[mh.list];omega
 .intro i h1 h2;have hi:i<n:=by grind
  simp[mh.list,lZ,mh.fn,AF,aq,br (by omega:k+i<l.length),c.inv]
def mh.L6{α:Type}(c:mh α)(l:List α){k n:Nat}:c.fits n (lZ k (c.fn l)):=λi _=>by simp[lZ,mh.fn,AF,c.inv]
abbrev dR(p x:Bs):D:=.e (.one (.c (.rp [.str p,.str x])))
namespace R1
variable {X:Cx ag}
def under(p q:Bs):Bool:=lp p (q++[47])
def L8(a:bx)(p x:Bs)(h:a.1.length<=4000000):Ev X 65 [dP a,dR p x] [] (dB (under p a.1)) []:=by
 refine Ev.bQ Tryz.func65 rfl λb=>?_;refine cf QK rfl ?_ (AK.bw rfl ?_)
 .simp;omega
 .simp[under]
def Zz:dt:=λargs σ=>match args,σ with
 |[.e (.agg [.c (.str a0),.c (.str a1)]),.e (.one (.c (.rp [.str p,.str x])))],[]=>aa (dB (under p a0),[],[a0.length<=4000000/\a1=a1/\x=x])
 |_,_=>ae
def t65:ef X 65 Zz:=by
 intro args σ res σ' obs h c;unfold Zz at h;split at h
 .rename_i b a p x;cases h;exact L8 (b,a) p x c.1
 grind
def Wj:List (Nat×dt):=(65,Zz)::Wi
def zb:bE X Wj:=bE.cons t65 (QK)
abbrev L9(p x:Bs):D:=.e (.one (.c (.fn (.func 65) [] [.rp [.str p,.str x]])))
def uV(t:List bx)(p:Bs):Int:=match t.findIdx? (λf=>under p f.1)with|some i=>i|none=>-1
def O9{t:List bx}{p:Bs}{i:Nat}(hi:i<t.length)(h:under p (fg t i)=ab)(a:∀j,j<i->under p (fg t j)=af):uV t p=i:=by
 have:t.findIdx? (λf=>under p f.1)=aa i:=by grind[List.findIdx?_eq_some_iff_getElem,fileAt]
 rw[uV,this]
theorem zc{t:List bx}{p:Bs}(a:∀j,j<t.length->under p (fg t j)=af):uV t p=-1:=by
 have:t.findIdx? (λf=>under p f.1)=ae:=by grind[List.getElem_of_mem,fileAt]
 rw[uV,this]
def Pa(t:List bx)(p x:Bs)(d:∀j,j<t.length->(fg t j).length<=4000000):Ev X 114 [cF.sl t,L9 p x] [] (dI (uV t p)) []:=by
 refine Ev.bQ Tryz.func114 rfl λe=>?_;have c:=e.sl 0 rfl;refine cf zb rfl ay ?_;refine AK.j3 (λi=>i<=t.length/\∀j,j<i->under p (fg t j)=af) (λi:Nat=>[(0,cF.sl t),(1,L9 p x),(7,dI t.length),(8,dI i)]) (λ_=>[]) (λi=>t.length-i) 0 rfl ?_ rfl ay ⟨by omega,by omega⟩ ?_
 .simp
 rintro i ⟨hi,a⟩;by_cases h:i<t.length
 .have f:=d i h;cases b:under p (fg t i)with
  |true =>
   refine aW zb [(9,ab),(16,ab)] rfl ?_ (AK.iD (cp.zero rfl ?_))
   .simp[-aq,h,gJ,b];omega
   .simp[O9 h b a]
  |false =>
   refine aW zb [(9,ab),(16,af)] rfl ?_ (AK.gf (i+1) rfl ?_ rfl ay ?_ ?_)
   .simp[-aq,h,gJ,b,bA];omega
   .simp
   .grind
   .omega
 .refine aW zb [(9,af)] rfl (by simp;omega) (AK.leave rfl rfl ?_);refine cf zb rfl ay (AK.bw rfl ?_);simp[zc (λj g=>a j (by omega))]
def A1(t:List bx):Prop:=∀j,j<t.length->(fg t j).length<=4000000
def Tf:dt:=λargs σ=>match args,σ with
 |[d,.e (.one (.c (.fn (.func 65) [] [.rp [.str p,.str x]])))],[]=>match kX 2 d with
  |none=>ae
  |some (n,es)=>aa (dI (uV (cF.list n es) p),[],[cF.fits n es,A1 (cF.list n es),x=x])
 |_,_=>ae
def t114:ef X 114 Tf:=by
 intro args σ res σ' obs h a;unfold Tf at h;split at h
 .rename_i d p x;split at h
  .cases h
  rename_i n es hd;cases h;exact(Pa _ p x a.2.1).args (λ_ vs=>cg.imp (λ_=>cF.jT hd a.1) (cg.imp (λ_ r=>r) (λ_ r=>r)) vs)
 grind
def Wk:List (Nat×dt):=(114,Tf)::Wj
def QL:bE X Wk:=bE.cons t114 (zb)
def Pb(t:List bx)(p x:Bs)(a:A1 t):Ev X 64 [cF.sl t,L9 p x] [] (dB (decide (0<=uV t p))) []:=by
 refine Ev.bQ Tryz.func64 rfl λb=>?_;refine cf QL rfl ?_ (AK.bw rfl ?_)
 .simp[cF.aU,cF.list_fn,a]
 .simp[cF.list_fn]
def ZA:dt:=λargs σ=>match args,σ with
 |[d,.e (.one (.c (.fn (.func 65) [] [.rp [.str p,.str x]])))],[]=>match kX 2 d with
  |none=>ae
  |some (n,es)=>aa (dB (decide (0<=uV (cF.list n es) p)),[],[cF.fits n es,A1 (cF.list n es),x=x])
 |_,_=>ae
def t64:ef X 64 ZA:=by
 intro args σ res σ' obs h a;unfold ZA at h;split at h
 .rename_i d p x;split at h
  .cases h
  rename_i n es hd;cases h;exact(Pb _ p x a.2.1).args (λ_ vs=>cg.imp (λ_=>cF.jT hd a.1) (cg.imp (λ_ r=>r) (λ_ r=>r)) vs)
 grind
def ZB:List (Nat×dt):=(64,ZA)::Wk
def qN:bE X ZB:=bE.cons t64 (QL)
def jf(t:List bx)(i:Nat):Bool :=
 e9 (fg t i)&&eg (sZ t i)&&(i==0||!(bk (fg t i) (fg t (i-1))||fg t i==fg t (i-1)))&&(bg i).all λj=>!under (fg t i) (fg t j)
def mO(t:List bx):Bool:=(bg t.length).all (jf t)&&decide (t.length<=6)
def kH{t:List bx}{i:Nat}(hi:i<t.length)(h:jf t i=af):mO t=af:=by
 cases a:mO t with
 |false=>rfl
 |true =>
  simp only[mO,bR]at a;grind
theorem uu{s:Bs}(h:e9 s=ab):s.length<=3:=by
 simp only[e9,cy,bR,jC,ba,j8]at h;obtain⟨⟨⟨d,_⟩,_⟩,a⟩:=h;have c:=lN s 47;change iG s<s.length∨iG s=-1 at c;by_cases b:0<=iG s
 .simp only[jv,b,cj,List.length_take]at d;rcases a with a|a
  .simp[j4,b]at a
  .have:=a.1.1;simp only[mN,b,cj,rJ]at this;omega
 .simp only[jv,b,b7]at d;omega
def E7{t:List bx}{p:Bs}{i:Nat}(hi:i<=t.length):decide (0<=uV (t.take i) p)=!(bg i).all λj=>!under p (fg t j):=by
 have e:∀j,j<i->fg (t.take i) j=fg t j:=by intro j d;simp[fg,aq,d]
 cases g:(bg i).all λj=>!under p (fg t j)with
 |true =>
  grind[zc]
 |false =>
  have a:∃j,j<i/\under p (fg t j)=ab:=by grind
  have:∃k:Nat,uV (t.take i) p=k:=by
   unfold uV;cases c:(t.take i).findIdx? (λf=>under p f.1)with
   |some k=>grind
   |none =>
    obtain⟨j,d,h⟩:=a;rw[List.findIdx?_eq_none_iff]at c;have b:j<(t.take i).length:=by grind
    have:=c _ (rK b);grind[fileAt]
  grind
def xm(t:List bx):Ev X 24 [cF.sl t] [] (dB (mO t)) []:=by
 refine Ev.bQ Tryz.func24 rfl λx=>?_;have r:=x.sl 0 rfl;refine cf qN rfl ay ?_;refine AK.cz 0 (λi=>i<=t.length/\∀j,j<i->jf t j=ab) (λi:Nat=>[(0,cF.sl t),(5,cF.sl t),(6,dI t.length),(7,dI i)]) (λ_=>[]) (λi=>t.length-i) 0 rfl ?_ rfl ay rfl ⟨by omega,by omega⟩ ?_
 .simp
 rintro i ⟨hi,g⟩;by_cases h:i<t.length
 .cases d:e9 (fg t i)with
  |false =>
   refine bq qN [(8,ab),(14,af)] rfl ?_ (AK.fE (cp.zero rfl ?_))
   .simp[-aq,h,gJ,d]
   .simp[az,kH h (by simp[jf,d])]
  |true =>
   cases f:eg (sZ t i)with
   |false =>
    refine bq qN [(8,ab),(14,ab),(19,af)] rfl ?_ (AK.fE (cp.zero rfl ?_))
    .simp[-aq,h,gJ,pJ,d,f]
    .simp[az,kH h (by simp[jf,f])]
   |true =>
    have v:A1 (t.take i):=by
     intro j y;simp only[List.length_take]at y;have e:fg (t.take i) j=fg t j:=by simp[fg,aq,(by omega:j<i)]
     rw[e];have:=g j (by omega);simp only[jf,bR]at this;grind[uu]
    have w:cF.list ((i:Int).toNat-0) (lZ 0 (cF.fn t))=t.take i:=by rw[cF.L5 t 0 _ (by grind)];simp
    cases q:(i==0||!(bk (fg t i) (fg t (i-1))||fg t i==fg t (i-1)))with
    |false =>
     have a:jf t i=af:=by simp only[jf,q];simp
     have n:i≠0:=by grind
     have l:(bk (fg t i) (fg t (i-1))||fg t i==fg t (i-1))=ab:=by grind
     have b:bA .i64 ((i:Int)-1):=by simp only[bA];omega
     have m:((i:Int)-1).toNat=i-1:=by omega
     refine bq qN [(8,ab),(14,ab),(19,ab),(24,ab),(34,ab)] rfl ?_ (AK.fE (cp.zero rfl ?_))
     .simp only[az,gJ,pJ,b9,m,l,d,f,ba,b];grind
     .simp[kH h a]
    |true =>
     have a:jf t i=(bg i).all λj=>!under (fg t i) (fg t j):=by simp only[jf,q,d,f];simp
     apply AK.join [(0,cF.sl t),(3,dI i),(5,cF.sl t),(6,dI t.length),(7,dI i),(4,.e (.one (.ptr 0 0)))] [.cells 76 [.c (.str (fg t i)),.c (.str (sZ t i))]]
     .intro hk;by_cases n:i=0
      .refine bq qN [(8,ab),(14,ab),(19,ab),(24,af),(1000006,ab)] rfl ?_ (hk _ _ rfl ?_)
       .simp only[az,gJ,pJ,b9,d,f,ba,bO];grind
       .simp
      .have l:(bk (fg t i) (fg t (i-1))||fg t i==fg t (i-1))=af:=by grind
       have b:bA .i64 ((i:Int)-1):=by simp only[bA];omega
       have m:((i:Int)-1).toNat=i-1:=by omega
       refine bq qN [(8,ab),(14,ab),(19,ab),(24,ab),(34,af),(1000006,ab)] rfl ?_ (hk _ _ rfl ?_)
       .simp only[az,gJ,pJ,b9,m,l,d,f,ba,b];grind
       .simp
     .refine AK.freeze 4 0 rfl rfl rfl ?_;have u:=E7 (t:=t) (p:=fg t i) (i:=i) hi;have k:cF.fits ((i:Int).toNat-0) (lZ 0 (cF.fn t)):=cF.L6 t;cases s:(bg i).all λj=>!under (fg t i) (fg t j)with
      |false =>
       rw[s]at u a;refine bq qN [(41,ab)] rfl ?_ (AK.fE (cp.zero rfl ?_))
       .simp only[az,dc];grind
       .simp[kH h a]
      |true =>
       rw[s]at u a;refine bq qN [(41,af)] rfl ?_ (AK.aQ (i+1) rfl ?_ ?_ ?_ ?_)
       .simp only[az,dc];have o:decide (0<=uV (cF.list ((i:Int).toNat-0) (lZ 0 (cF.fn t))) (fg t i))=af:=by grind
        exact⟨by simp only[bA];omega,k,by grind,ay,o,by omega,by omega⟩
       .simp
       .trivial
       .grind
       .omega
 .have:i=t.length:=by omega
  subst this;refine aW qN [(8,af)] rfl (by simp) (AK.leaveD rfl rfl ?_);refine cf qN rfl ay (AK.bw rfl ?_);simp only[az,mO];grind
def Wl:dt:=λargs σ=>match args,σ with
 |[c],[]=>match kX 2 c with
  |none=>ae
  |some (a,b)=>aa (dB (mO (cF.list a b)),[],[cF.fits a b])
 |_,_=>ae
def t24:ef X 24 Wl:=by
 intro args σ res σ' obs h b;unfold Wl at h;split at h
 .split at h
  .cases h
  rename_i c d a;cases h;exact(xm _ ).args (λ_ vs=>cg.imp (λ_=>cF.jT a b) (λ_ r=>r) vs)
 grind
end R1
def cg.bs{σ σ':List aP}{s:St}(h:∀(v:ah)(d:D),dk σ s v d->dk σ' s v d):∀{vs:List ah}{ds:List D},cg σ s vs ds->cg σ' s vs ds
 |[],[],_=>trivial
 |[],_::_,r=>r.elim
 |_::_,[],r=>r.elim
 |_::_,_::_,r=>⟨h _ _ r.1,cg.bs h r.2⟩
def Ev.more{P:ar}{X:Cx P}{f:aJ}{args CW:List D}{σ σ0 σ':List aP}{res:D}(h:Ev X f args σ res σ')(g:∀s vs,cg σ s vs CW->cg σ s vs args){ps:List Prop}(e:oS σ0 σ=aa ps)(i:az ps):Ev X f CW σ0 res σ' :=
 ⟨h.1,λs vs hr hh S cs hS=>by obtain⟨h1,h2,j⟩:=gU e i s hh;exact h.2 s vs (g s vs (hr.bs j)) h1 S cs λfr v s' a b c d=>hS fr v s' a b c ((h2.na hh).trans d)⟩
def OA.TX{P:ar}{X:Cx P}{N:Nat}{all:List au}{o:au}{φ:Fr}{σ σ':List aP}{x:D}(h:mE (ι:=Unit) X N all o φ σ (λ_=>x) (λ_=>σ')):OA X N all o φ σ x σ' :=
 λs a f hh b k cs S i rest hb hi hK=>h s a f hh b k cs S i rest hb hi λ_=>hK
namespace R1
variable {X:Cx ag}
abbrev Bl(l:List (Int×Int)):aP:=.vec 81 2 l.length (cH.fn l)
abbrev I2(l:List (Int×Int)):D:=.e (.one (.vec 0 2 l.length (cH.fn l)))
def lsS(L:List (Int×Int))(B M R:aP)(a b c _:Bool):List aP:=match c with
 |true=>[R]
 |false=>match b with
  |true=>[M]
  |false=>match a with
   |true=>[B]
   |false=>[Bl L]
def Be:∀(t:Tr)(l:List (Int×Int)),l.length+t.list.length<=4000000->Ev X 38 [.e (.one (.c (tC t))),I2 l] [Bl l] (I2 (l++t.list)) [Bl (l++t.list)]
 |.nil,l,_=>by refine Ev.bQ Tryz.func38 rfl λm=>?_;refine bt rfl ay ?_;refine AK.law (tG rfl Tryz.underlying73 rfl rfl rfl) rfl rfl ?_;refine bt rfl ay ?_;rw[show l++Tr.nil.list=l from iQ l];exact AK.de [0] rfl ⟨rfl,cv.same⟩ rfl rfl rfl jY
 |.nd lt x y rt,l,h=>by
  have k:(Tr.nd lt x y rt).list=lt.list++(x,y)::rt.list:=rfl;have g:l.length+lt.list.length+(rt.list.length+1)<=4000000:=by grind
  have j:=Be lt l (by omega);have i2:=Be rt (l++lt.list++[(x,y)]) (by grind);have d:=cH.cu (l++lt.list) (x,y);have i3:Ev X 38 [.e (.one (.c (tC rt))),.e (.one (.vec 0 2 ((l++lt.list).length+1) (cA (l++lt.list).length (cH.fn (l++lt.list)) λi=>([[.int .i64 x,.int .i64 y]]:List (List C)).getD i [])))] [.vec 81 2 ((l++lt.list).length+1) (cA (l++lt.list).length (cH.fn (l++lt.list)) λi=>([[.int .i64 x,.int .i64 y]]:List (List C)).getD i [])] (I2 (l++(Tr.nd lt x y rt).list)) [Bl (l++(Tr.nd lt x y rt).list)]:=by
   rw[k,show l++(lt.list++(x,y)::rt.list)=l++lt.list++[(x,y)]++rt.list by simp];refine i2.more (λs vs r=>?_) rfl (az.cat.2 ⟨⟨by grind,d⟩,ay⟩)
   match vs,r with
   |[_,_],⟨n,o,f⟩=>exact⟨n,oo rfl (show az [_,_]from⟨by grind,d⟩) o,f⟩
  have M4:((l++lt.list).length+1)*i81.bytes<=140737488355328:=by rw[show i81.bytes=16 from rfl,cX];omega
  clear i2 d g h;generalize l++(Tr.nd lt x y rt).list=R at *;generalize l++lt.list=B at *;have a:bE X []:=bE.nil;refine Ev.bQ Tryz.func38 rfl λm=>?_;refine bt rfl ay ?_;refine AK.law (Gi rfl Tryz.underlying73 rfl rfl rfl) rfl rfl ?_;refine aX [(1000003,ab)] rfl ay ?_;let xs:Nat->D:=λi=>([.e (.one (.c (tC (.nd lt x y rt)))),.e (.one (.c (tC (.nd lt x y rt)))),.e (.one (.c (.rp [tC rt]))),.e (.one (.c (tC rt))),.e (.one (.c (tC (.nd lt x y rt)))),.e (.one (.c (tC (.nd lt x y rt)))),.e (.one (.c (.rp [tC lt,tC rt]))),.e (.one (.c (tC lt))),I2 l,I2 B,.e (.one (.c (tC (.nd lt x y rt)))),.e (.one (.c (tC (.nd lt x y rt)))),.e (.one (.c (tC (.nd lt x y rt)))),Pn x y,.e (.one (.c (.sl ab 2 1 λi=>([[.int .i64 x,.int .i64 y]]:List (List C)).getD i []))),.e (.one (.vec 0 2 (B.length+1) (cA B.length (cH.fn B) λi=>([[.int .i64 x,.int .i64 y]]:List (List C)).getD i []))),I2 R,I2 R]:List D).getD i .any
  cases lt<;>cases rt<;>(
   refine AK.flags ja xs (po (lsS l (Bl B) (.vec 81 2 (B.length+1) (cA B.length (cH.fn B) λi=>([[.int .i64 x,.int .i64 y]]:List (List C)).getD i [])) (Bl R)) 9 15 16 17) rfl rfl rfl rfl ⟨
   .qD tok a,
   .qD tok a,
   .qD tok a,
   .qD tok a,
   .qD tok a,
   .qD tok a,
   .qD tok a,
   .qD tok a,
   .qD tok a,
   dW.c1 rfl rfl rfl rfl rfl rfl (OA.TX (mE.jL j.te [0] rfl rfl rfl rfl (by simp) rfl rfl rfl (λ_=>rfl) rfl (λ_=>rfl))),
   .qD tok a,
   .qD tok a,
   .qD tok a,
   .qD tok a,
   .qD tok a,
   dW.c2 rfl rfl rfl rfl rfl rfl (gB (ds:=[]) tok a (σ':=aa _) rfl ⟨rfl,rfl,M4⟩),
   dW.c3 rfl rfl rfl rfl rfl rfl (OA.TX (mE.jL i3.te [0] rfl rfl rfl rfl (by simp) rfl rfl rfl (λ_=>rfl) rfl (λ_=>rfl))),
   dW.c4 rfl rfl rfl rfl rfl rfl (OA.cT tok a rfl),ay⟩ ?_
   intro D b;show AK X _ _ _ _ _ (lsS l (Bl B) _ (Bl R) (D 9) (D 15) (D 16) (D 17));rw[b 9 (by decide),b 15 (by decide),b 16 (by decide),b 17 (by decide)]
   exact AK.de [0] rfl ⟨rfl,cv.same⟩ rfl rfl rfl jY)
abbrev WE:D:=.e (.one (.c (.sl ab 2 0 λ_=>[])))
def lsN(B M R:aP)(a b c _:Bool):List aP:=match c with
 |true=>[R]
 |false=>match b with
  |true=>[M]
  |false=>match a with
   |true=>[B]
   |false=>[]
def Df:∀(t:Tr),t.list.length<=4000000->Ev X 38 [.e (.one (.c (tC t))),WE] [] (I2 t.list) [Bl t.list]
 |.nil,_=>by refine Ev.bQ Tryz.func38 rfl λl=>?_;refine bt rfl ay ?_;refine AK.law (tG rfl Tryz.underlying73 rfl rfl rfl) rfl rfl ?_;refine bt rfl ay ?_;refine AK.iC 4 81 2 rfl rfl ?_;refine AK.norm [Bl []] rfl (by simp) ?_;exact AK.de [0] rfl (by simp;rfl) rfl rfl rfl (Mo _)
 |.nd lt x y rt,h=>by
  have f:(Tr.nd lt x y rt).list=lt.list++(x,y)::rt.list:=rfl;have j:lt.list.length+(rt.list.length+1)<=4000000:=by grind
  have k:=Df lt (by omega);have i2:=Be (X:=X) rt (lt.list++[(x,y)]) (by grind);have d:=cH.cu lt.list (x,y);have i3:Ev X 38 [.e (.one (.c (tC rt))),.e (.one (.vec 0 2 (lt.list.length+1) (cA lt.list.length (cH.fn lt.list) λi=>([[.int .i64 x,.int .i64 y]]:List (List C)).getD i [])))] [.vec 81 2 (lt.list.length+1) (cA lt.list.length (cH.fn lt.list) λi=>([[.int .i64 x,.int .i64 y]]:List (List C)).getD i [])] (I2 (Tr.nd lt x y rt).list) [Bl (Tr.nd lt x y rt).list]:=by
   rw[f,show lt.list++(x,y)::rt.list=lt.list++[(x,y)]++rt.list by simp];refine i2.more (λs vs r=>?_) rfl (az.cat.2 ⟨⟨by simp,d⟩,ay⟩)
   match vs,r with
   |[_,_],⟨m,n,g⟩=>exact⟨m,oo rfl (show az [_,_]from⟨by simp,d⟩) n,g⟩
  have M4:(lt.list.length+1)*i81.bytes<=140737488355328:=by rw[show i81.bytes=16 from rfl];omega
  clear i2 d j h;clear f;generalize(Tr.nd lt x y rt).list=R at *;generalize lt.list=B at *;have a:bE X []:=bE.nil;refine Ev.bQ Tryz.func38 rfl λl=>?_;refine bt rfl ay ?_;refine AK.law (Gi rfl Tryz.underlying73 rfl rfl rfl) rfl rfl ?_;refine aX [(1000003,ab)] rfl ay ?_;let xs:Nat->D:=λi=>([.e (.one (.c (tC (.nd lt x y rt)))),.e (.one (.c (tC (.nd lt x y rt)))),.e (.one (.c (.rp [tC rt]))),.e (.one (.c (tC rt))),.e (.one (.c (tC (.nd lt x y rt)))),.e (.one (.c (tC (.nd lt x y rt)))),.e (.one (.c (.rp [tC lt,tC rt]))),.e (.one (.c (tC lt))),WE,I2 B,.e (.one (.c (tC (.nd lt x y rt)))),.e (.one (.c (tC (.nd lt x y rt)))),.e (.one (.c (tC (.nd lt x y rt)))),Pn x y,.e (.one (.c (.sl ab 2 1 λi=>([[.int .i64 x,.int .i64 y]]:List (List C)).getD i []))),.e (.one (.vec 0 2 (B.length+1) (cA B.length (cH.fn B) λi=>([[.int .i64 x,.int .i64 y]]:List (List C)).getD i []))),I2 R,I2 R]:List D).getD i .any
  cases lt<;>cases rt<;>(
   refine AK.flags ja xs (po (lsN (Bl B) (.vec 81 2 (B.length+1) (cA B.length (cH.fn B) λi=>([[.int .i64 x,.int .i64 y]]:List (List C)).getD i [])) (Bl R)) 9 15 16 17) rfl rfl rfl rfl ⟨
   .qD tok a,
   .qD tok a,
   .qD tok a,
   .qD tok a,
   .qD tok a,
   .qD tok a,
   .qD tok a,
   .qD tok a,
   .qD tok a,
   dW.c1 rfl rfl rfl rfl rfl rfl (OA.TX (mE.jL k.te [] rfl rfl rfl rfl (by simp) rfl rfl rfl (λ_=>rfl) rfl (λ_=>rfl))),
   .qD tok a,
   .qD tok a,
   .qD tok a,
   .qD tok a,
   .qD tok a,
   dW.c2 rfl rfl rfl rfl rfl rfl (gB (ds:=[]) tok a (σ':=aa _) rfl ⟨rfl,rfl,M4⟩),
   dW.c3 rfl rfl rfl rfl rfl rfl (OA.TX (mE.jL i3.te [0] rfl rfl rfl rfl (by simp) rfl rfl rfl (λ_=>rfl) rfl (λ_=>rfl))),
   dW.c4 rfl rfl rfl rfl rfl rfl (OA.cT tok a rfl),ay⟩ ?_
   intro D b;show AK X _ _ _ _ _ (lsN (Bl B) _ (Bl R) (D 9) (D 15) (D 16) (D 17));rw[b 9 (by decide),b 15 (by decide),b 16 (by decide),b 17 (by decide)]
   exact AK.de [0] rfl ⟨rfl,cv.same⟩ rfl rfl rfl (Mo _))
end R1
section
open Go.Conc
def aF.Vu{σ:List aP}{s:St}(hh:aF σ s){l:Nat}{B:aP}{L:Loc}(hB:σ[l]?=aa B)(k:s.β[l]?=aa L)(hk:(∃E cs,B=.cells E cs)∨∃H,B=.b8 H):
  aF (σ.set l .dead) {s with β:=s.β.set l ⟨L.v,[]⟩}/\Step σ s (σ.set l .dead) {s with β:=s.β.set l ⟨L.v,[]⟩}:=by
 have i:l<σ.length:=(bY.1 hB).1;have g:l<s.β.length:=(bY.1 k).1;have d:∀l',(s.β.set l ⟨L.v,[]⟩)[l']?=if l=l' then aa ⟨L.v,[]⟩else s.β[l']?:=by grind
 have a:∀L'∈s.β.set l ⟨L.v,[]⟩,∀b∈L'.bs,L'∈s.β:=by grind
 have st:Step σ s (σ.set l .dead) {s with β:=s.β.set l ⟨L.v,[]⟩}:=by
  refine⟨bh _,λ_ _ _=>rfl,λ_ _ _ h=>h,λ_ _ _ _=>rfl,λL' fe b c=>.inr ⟨L',a L' fe b c,c⟩,?_,rfl,rfl,rfl,rfl⟩;intro l' B' L' j1 fe;by_cases e:l=l'
  .subst e;rw[hB]at j1;cases j1;rw[k]at fe;cases fe;refine⟨.dead,⟨L.v,[]⟩,by grind,by grind,?_⟩;rcases hk with⟨E,cs,rfl⟩|⟨H,rfl⟩<;>rfl
  .exact⟨B',L',by grind,by grind,.refl _ _⟩
 refine⟨⟨hh.mem,by simp[hh.len],?_,?_,λL' fe b c=>hh.lt L' (a L' fe b c) b c,λb c=>⟨(hh.own b c).1,λL' fe Dr=>(hh.own b c).2 L' (a L' fe b Dr) Dr⟩⟩,st⟩
 .intro l' B' L' j1 fe;by_cases e:l=l'
  .subst e;rw[fV i]at j1;cases j1;trivial
  .rw[j7 e]at j1;rw[d,aZ e]at fe;exact(hh.box l' B' L' j1 fe).carry st.ext hh.len λb c=>⟨rfl,λo=>rfl⟩
 .intro n m L1 L2 h1 h2 b f j;rw[d]at h1 h2;split at h1
  .grind
  .split at h2
   .grind
   .exact hh.eB n m L1 L2 h1 h2 b f j
def dk.closed{σ σ':List aP}{s s':St}(a:s'.M=s.M){v:ah}{d:D}(h:dk σ s v d)(c:vS 0 d=ab):dk σ' s' v d:=by have h1:=dk.drop (σ1:=[]) (rest:=σ) h c;refine dk.mono (σ:=[]) (s:=s.cut 0) ⟨λb o v e=>by rw[a];exact e,λl B L hB _=>by grind⟩ (by simp[St.cut]) h1
end
end Go.AM
namespace Go.AM.R1
section
variable {X:Cx ag}
def gV(t:Bs):List Bs:=if eg t then pieces t else[]
def Qm(t:Bs)(f:Nat)(acc:List Bs):Prop:=∃k,fj t t.length 0=acc++fj t k f/\t.length<=f+k/\acc.length<=f
def Gj:ef X 63 (kr aS (λs=>dB (eg s)) λ_=>[]):=.pz λs _=>xk s
def KP:dt:=λargs σ=>match args,σ with
 |[.e (.one (.c (.str t)))],[]=>aa (.e (.one (.c (Ql t))),[],[])
 |_,_=>ae
def Sf:ef X 80 KP:=by intro args σ res σ' obs h a;unfold KP at h;grind[Ov]
def HJ(t:Bs):Ev X 33 [dS t] [] (cS.sl (gV t)) []:=by
 refine(eb.D4 (ι:=Unit) (σ':=λ_=>[]) (res:=λ_=>cS.sl (gV t)) Tryz.func33 rfl rfl rfl λu=>?_).DJ;have l:bE X [(63,kr aS (λs=>dB (eg s)) λ_=>[])]:=.cons Gj .nil;refine kT.seq (AW.top (AK.of_code ?_));refine cf l rfl ay ?_;refine kT.seq (AW.top (AK.of_code ?_));cases g:eg t with
 |false =>
  refine aW l [(8,ab)] rfl ?_ (AK.ret ⟨(),cp.zero rfl ?_⟩)
  .simp[g]
  .simp[gV,g]
 |true =>
  have d:=g;simp only[eg,bR,ba]at d;refine aW l [(8,af)] rfl ?_ ?_
  .simp[g]
  refine kT.seq (AW.top (AK.of_code ?_));refine cf l rfl ay ?_;refine kT.seq (kT.seq (AW.top (AK.of_code (AK.g7 1 0 9 1 (cS.fn []) rfl rfl ?_))));refine cf (.cons Sf .nil) rfl ay ?_;refine kT.block ?_;refine kT.rangeFunc (capD:=fJ [.rp [.str t]]) (cm.callee rfl) (HI (T:=List Bs) t d.2 (by omega) (λ_=>.cells 9 [.c (.str t)]) (λacc=>.cells 43 [.vec 2 1 acc.length (cS.fn acc)]) (λacc=>.vec 9 1 acc.length (cS.fn acc)) (Qm t) [] ?_ (λt=>⟨by simp,by simp,by simp⟩) ?_) (λi=>⟨rfl,by simp⟩) λi=>⟨.normal,rfl,?_⟩
  .exact⟨t.length,by simp,by omega,by simp⟩
  .rintro f acc hf hR;have h:=nD t f hf;refine Yields.intro (j:=ae) rfl rfl rfl rfl (AK.of_code ?_);refine bt rfl ay ?_;refine⟨rfl,rfl,AK.of_code ?_⟩;refine bt rfl ?_ ?_
   .obtain⟨k,_,_,o⟩:=hR;have q:=h.1;have q2:=h.2.1;refine⟨rfl,rfl,?_,Int.natCast_nonneg _,Int.ofNat_le.2 (Nat.le_of_lt q),Int.ofNat_le.2 q2⟩;show(acc.length+1)*16<=_;omega
   have n:Qm t (cutAt t f) (acc++[(t.drop f).take (cutAt t f-f)]):=by
    obtain⟨k,m,r,o⟩:=hR;obtain⟨k',rfl⟩:∃k',k=k'+1:=⟨k-1,by omega⟩
    refine⟨k',?_,by omega,by grind⟩;rw[m];simp only[fj];grind
   refine⟨rfl,rfl,⟨_,n⟩,gU rfl ?_⟩;have e:sd t (aa (f:Int)) (aa (cutAt t f:Int))=(t.drop f).take (cutAt t f-f):=by simp[sd,List.drop_take]
   have p:cv (acc.length+1) (cA acc.length (cS.fn acc) λi=>[[C.str (sd t (aa (f:Int)) (aa (cutAt t f:Int)))]].getD i []) (cS.fn (acc++[(t.drop f).take (cutAt t f-f)])):=by rw[e];exact mh.cu cS acc _
   have a:acc.length+1=(acc++[(t.drop f).take (cutAt t f-f)]).length:=by simp
   refine az.cat.2 ⟨by simp,az.cat.2 ⟨az.cat.2 ⟨⟨a,p⟩,ay⟩,az.cat.2 ⟨⟨a,p⟩,az.cat.2 ⟨rfl,ay⟩⟩⟩⟩
  .obtain⟨acc,k,m,r,o⟩:=i;have b:fj t k t.length=[]:=by cases k<;>simp[fj]
   rw[b,iQ]at m;have e:gV t=acc:=by simp only[gV,g,cj,pieces,m]
   rw[e];show kT X _ _ _ _ _;refine AW.top (AK.of_code ?_);refine bt rfl ay ?_;refine AK.ret ⟨(),cp.zero rfl ?_⟩;exact⟨rfl,cv.same⟩
def Av:ef X 33 (kr aS (λs=>cS.sl (gV s)) λ_=>[]):=.pz λs _=>HJ s
def Vl:ef X 171 (oT (aL cS) aS (λl _=>dS l.flatten) λl s=>[s=[],l.flatten.length<=140737488355328]):=.sD λl s h=>by obtain⟨rfl,h⟩:=h;exact Om l h
def Ow:dt:=oT (aL cS) (aL cS) (λa b=>dB (a==b)) λ_ _=>[]
def YR:ef X 172 Ow:=.sD λa b _=>R7 a b
def Ez(l:List Bs)(h:l.flatten.length<=140737488355328):Ev X 141 [cS.sl l] [] (Ar (gv l)) []:=by
 refine Ev.bQ Tryz.func141 rfl λd=>?_;have c:bE X [(171,oT (aL cS) aS (λl _=>dS l.flatten) λl s=>[s=[],l.flatten.length<=140737488355328]),(63,kr aS (λs=>dB (eg s)) λ_=>[]),(172,Ow),(33,kr aS (λs=>cS.sl (gV s)) λ_=>[])]:=.cons Vl (.cons Gj (.cons YR (.cons Av .nil)));have el:cS.list l.length (cS.fn l)=l:=cS.list_fn l;cases a:eg l.flatten with
 |false =>
  refine aW c [(8,af),(9,ab),(16,ab)] rfl ?_ (AK.bw rfl ?_)
  .simp only[az,el,a,cS.aU,eq_self,aG,aE];grind
  .simp[gv,a]
 |true =>
  cases b:(pieces l.flatten==l)with
  |false =>
   refine aW c [(8,ab),(9,af),(14,af),(16,ab)] rfl ?_ (AK.bw rfl ?_)
   .simp only[az,el,cS.list_fn,a,cS.aU];simp[h,gV,a,b,-List.length_flatten]
   .simp[gv,b]
  |true =>
   refine aW c [(8,ab),(9,af),(14,ab),(16,af)] rfl ?_ (AK.bw rfl ?_)
   .simp only[az,el,cS.list_fn,a,cS.aU];simp[h,gV,a,b,-List.length_flatten]
   .simp[gv,a,b,el]
def G3{l:List (Int×Int)}{i:Nat}(h:i<l.length):l.getD i (0,0)∈l:=by grind
def oE(l:List (Int×Int)):Tr:=l.foldl (λt x=>t.put x.1 x.2) .nil
theorem IE(l:List (Int×Int))(x:Int×Int):oE (l++[x])=(oE l).put x.1 x.2:=by unfold oE;grind
def sW{l:List (Int×Int)}{j:Nat}(h:j<l.length):oE (l.take (j+1))=(oE (l.take j)).put (l.getD j (0,0)).1 (l.getD j (0,0)).2:=by grind[List.take_add_one,IE]
abbrev QN(l:List (Int×Int)):D:=.e (.one (.c (.sl af 1 1 λi=>([[.sl af 2 l.length (cH.fn l)]]:List (List C)).getD i [])))
abbrev ZP(x:Int×Int):aP:=.cells 81 [.c (.int .i64 x.1),.c (.int .i64 x.2)]
def frJ(l:List (Int×Int)):Nat->Fr
 |0=>[(3,.e (.one (.c .hY))),(8,QN l),(9,dI 1),(10,dI 0),(14,cH.sl l),(15,dI l.length),(16,dI 0)]
 |j+1=>[(3,.e (.one (.ref 1))),(8,QN l),(9,dI 1),(10,dI 0),(14,cH.sl l),(15,dI l.length),(16,dI (j+1:Nat))]
def stJ(l:List (Int×Int)):Nat->List aP
 |0=>[]
 |j+1=>[ZP (l.getD 0 (0,0)),.b8 (nc I1 (oE (l.take (j+1))))]
def ZQ(l:List (Int×Int)):Nat->Fr
 |0=>[(3,.e (.one (.c .hY))),(8,QN l),(9,dI 1),(10,dI 0)]
 |j+1=>match l with
  |[]=>[(3,.e (.one (.c .hY))),(8,QN l),(9,dI 1),(10,dI (j+1:Nat))]
  |_::_=>[(3,.e (.one (.ref 1))),(8,QN l),(9,dI 1),(10,dI (j+1:Nat))]
def ZR(l:List (Int×Int)):Nat->List aP
 |0=>[]
 |_+1=>match l with
  |[]=>[]
  |x::r=>[ZP x,.b8 (nc I1 (oE (x::r)))]
def zh(l:List (Int×Int))(q:l.length<=4000000)(p:∀x∈l,bA .i64 x.1/\bA .i64 x.2):Ev X 32 [QN l] [] (.e (.one (.c (tC (oE l))))) []:=by
 refine Ev.bQ Tryz.func32 rfl λs=>?_;refine bt rfl ay ?_;refine AK.Qc 0 (λx=>x<=1) (ZQ l) (ZR l) (λx=>1-x) 0 rfl (by simp) rfl ay rfl (by omega) ?_;intro x g;rcases x with _|x
 .refine aX [(11,ab)] rfl ?_ ?_
  .simp only[az,aG,aE];and_intros<;>first|rfl|omega
  refine AK.Qc 0 (λj=>j<=l.length) (frJ l) (stJ l) (λj=>l.length-j) 0 rfl (by simp) rfl ay rfl (by omega) ?_;intro j t;rcases j with _|j
  .by_cases h:0<l.length
   .have g:=p _ (G3 h);have e:=sW h;have c1:bE X [(79,yM [.e (.one (.c .hY)),Pn (l.getD 0 (0,0)).1 (l.getD 0 (0,0)).2] [] (.e (.one (.ref 0))) [.b8 (nc I1 (.nd .nil (l.getD 0 (0,0)).1 (l.getD 0 (0,0)).2 .nil))])]:=.cons (Cl (A6 _ _ g.1 g.2 .nil)) .nil;refine bq c1 [(17,ab)] rfl ?_ (AK.Ac 2 1 (by omega) rfl ?_ rfl rfl rfl ?_ rfl h (by grind))
    .simp only[az,bA,ba,aG,aE];and_intros<;>first|rfl|omega
    .simp
    .simp only[az.cat,az,aG,aE];rw[e];and_intros<;>rfl
   .obtain rfl:l=[]:=jg (by omega);refine bH [(17,af)] rfl (by simp) (AK.Ad rfl rfl ?_);refine c8 rfl (by simp[bA]) (AK.Ac 0 1 (by omega) rfl ?_ rfl rfl rfl ay rfl (by omega) (by decide));simp
  .obtain⟨n,i,k,m,e⟩:∃a b c d,oE (l.take (j+1))=.nd a b c d:=by rw[sW (by omega)];exact A5 _ _ _
   show AK X _ _ _ _ (frJ l (j+1)) [ZP (l.getD 0 (0,0)),.b8 (nc I1 (oE (l.take (j+1))))];by_cases h:j+1<l.length
   .have g:=p _ (G3 h);have o:=sW h;rw[e]at o⊢;have c1:bE X [(79,yM [.e (.one (.ref 0)),Pn (l.getD (j+1) (0,0)).1 (l.getD (j+1) (0,0)).2] [.b8 (nc I1 (.nd n i k m))] (.e (.one (.ref 0))) [.b8 (nc I1 ((Tr.nd n i k m).put (l.getD (j+1) (0,0)).1 (l.getD (j+1) (0,0)).2))])]:=.cons (Cl (A6 _ _ g.1 g.2 (.nd n i k m))) .nil;refine bq c1 [(17,ab)] rfl ?_ (AK.Ac 2 (j+2) (by omega) rfl ?_ rfl rfl rfl ?_ rfl h (by grind))
    .simp only[az,bA,ba,aG,aE];and_intros<;>first|rfl|omega
    .simp only[az.cat,az,aG,aE];and_intros<;>first|exact cv.same|rfl|omega
    .simp only[az.cat,az,aG,aE];rw[o]
   .have f:j+1=l.length:=by omega
    rw[f,di]at e
    match l,f,e with
    |x::r,f,e =>
     rw[f,di,e];refine bH [(17,af)] rfl (by simp[f]) (AK.Ad rfl rfl ?_);refine c8 rfl (by simp[bA]) (AK.Ac 2 1 (by omega) rfl ?_ rfl rfl rfl ?_ rfl (by omega) (by decide))
     .simp
     .simp only[az.cat,az,aG,aE];grind
 .cases l with
  |nil =>
   refine bH [(11,af)] rfl (by simp only[az,bO,aE];omega) (AK.Ad rfl rfl ?_);exact c8 rfl ay (AK.bw rfl (by simp;rfl))
  |cons y r =>
   refine bH [(11,af)] rfl (by simp only[az,bO,aE];omega) (AK.Ad rfl rfl ?_);refine c8 rfl ay ?_;refine AK.Ak 2 1 rfl rfl ?_;obtain⟨n,i,k,m,e⟩:∃a b c d,oE (y::r)=.nd a b c d:=by have:=sW (l:=y::r) (j:=r.length) (by simp);rw[List.take_of_length_le (by simp)]at this;rw[this];exact A5 _ _ _
   rw[e];exact AK.bw rfl
end
section
open Go.Proofs Go.Conc Go.Conc.Lib
open Go.ConcN (WgLive PayAt Has RW AtR0)
open Go.ConcR (KK WgAt stA smA rd wr mk Payload DC0)
noncomputable def Vv:Code:=xo (kY (kY (kY EB)))
noncomputable def cR3:Code:=xo Vv
noncomputable def YV:Code:=kY (kY (kY EB))
def Sn:YV=.seq (.seq cR3 (.block 0 (.loop iE))) nF:=by kernel_rfl
section
variable {σ0:List aP}{s0:St}{φ:Fr}{σ:List aP}{a:Act}{s:St}{S:av->St->Prop}
def At.goes{Wg:Nat}{j:av}:∀(m:Nat)(g:av)(s:St),At σ0 s0 φ σ a s->WgLive 238 Wg s.w->Goes ag ab (fx 238 Wg) DC0 (λg _=>g=j) m g s.w ->
  (∀c,At σ0 s0 φ σ a c->fz (Cx.beside ag) S j c)->fz (Cx.beside ag) S g s
 |0,g,s,h,_,e,K=>by obtain rfl:g=j:=e s.w (.refl _);grind
 |m+1,g,s,h,hl,e,K=>by
  rcases e with e|⟨o,e⟩
  .obtain rfl:g=j:=e s.w (.refl _);grind
  .refine .next o λc b=>?_;have h1:=h.rely b.1;obtain⟨d,l⟩:=b.2;have i:WgLive 238 Wg c.w:=by rw[l];exact hl
   have h2:=e c.w (λ_=>i);cases f:aH ag ab g c.w with
   |go g' w' es =>
    rw[f,goes_go]at h2;obtain⟨⟨rfl,rfl⟩,n⟩:=h2;exact⟨g',c,#[],f,.quiet h1.hh,At.goes m g' c h1 i n K⟩
   |_=>rw[f]at h2;exact h2.elim
def lI{σ:List aP}{s:St}(b:∀B∈σ,B=.dead){ds:List Deferred}{ls:List Nat}(h:oO σ s ds ls):ds=[]:=by
 cases ds with
 |nil=>rfl
 |cons d ds =>
  cases ls with
  |nil=>exact h.elim
  |cons l ls =>
   have:=b _ (bJ h.1.1);cases this
end
section
variable {k:Int}{ps:List bG}{ns:List Int}{C:Nat}{xs:List ah}
variable (k ps ns C)in
def OC:Fr:=[(2,cI.sl ns),(3,.e (.one (.ptr 0 0))),(4,.e (.one (.ptr 1 0))),(8,.e (.one (.ptr 3 0))),(9,.e (.one (.ptr 4 0)))]
variable (k ps ns C xs)in
def Az:List aP:=[.cells 3 [.c (.int .i64 k)],.cells 23 [.c (.sl af 2 ps.length (cP.fn ps))],.b8 (fQ 241 2 (.row C ns.length) ns.length xs),.cells 230 [.c (.val (.slice (aa ⟨C,0,ae⟩) ns.length ns.length))],.cells 238 [.c (.int .u64 0),.c (.int .u32 0)]]
variable (k ps ns)in
def Nu(x i:Nat):ah:=if i=0 then .string ⟨((dK k ps (ns.getD x 0)).getD []).toArray⟩else .bool (dK k ps (ns.getD x 0)).isSome
variable (k ps ns)in
def l8:List ah:=ns.flatMap λn=>[.string ⟨((dK k ps n).getD []).toArray⟩,.bool (dK k ps n).isSome]
variable (k ps ns C)in
def ED:List aP:=[.dead,.dead,.b8 (fQ 241 2 (.row C ns.length) ns.length (l8 k ps ns)),.dead,.dead]
def pR3{X:Cx ag}:AW X 45 cR3 (NQ ((18,cI.sl ns)::(19,dI ns.length)::(20,dI 0)::OC ns) (Az k ps ns C xs)) (OC ns) (Az k ps ns C xs):=by refine AK.of_code ?_;refine bt rfl ay ⟨rfl,cE rfl ?_,rfl⟩;simp
theorem Cr:(l8 k ps ns).length=ns.length*2:=by
 unfold l8;induction ns with
 |nil=>rfl
 |cons n r b=>grind
def AA:∀{ns:List Int}{x i:Nat},x<ns.length->i<2->(l8 k ps ns)[2*x+i]?=aa (Nu k ps ns x i)
 |[],x,i,h,_=>by grind
 |n::r,0,i,_,hi=>by
  match i,hi with
  |0,_=>rfl
  |1,_=>rfl
 |n::r,x+1,i,h,hi=>by have:=AA (ns:=r) (x:=x) (i:=i) (by grind) hi;unfold l8 at this⊢;rw[u9,fT (by grind)];rw[show 2*(x+1)+i - [Value.string ⟨((dK k ps n).getD []).toArray⟩,Value.bool (dK k ps n).isSome].length=2*x+i by grind];rw[this];simp[Nu]
def _root_.Go.AM.cm.seen{N b:Nat}{d:D}{σ:List aP}{s:St}{φ:Fr}{a:Act}(f:cm N σ s φ a)(h:dk σ s (a.tmps.getD b ai) d):cm N σ s ((b,d)::φ) a:=by
 refine⟨f.size,f.defers,λt=>?_⟩;simp only[look];cases c:aB b t with
 |false=>exact f.slot t
 |true=>grind[Nat.eq_of_beq_eq_true]
abbrev KX(n C:Nat):Fr:=[(8,.e (.one (.c (.rp [.val (.slice (aa ⟨C,0,ae⟩) n n)]))))]
variable (k ps ns C)in
abbrev Vw:Fr:=(8,.e (.one (.c (.rp [.val (.slice (aa ⟨C,0,ae⟩) ns.length ns.length)]))))::(4,.e (.one (.c (.rp [.sl af 2 ps.length (cP.fn ps)]))))::(3,.e (.one (.c (.rp [.int .i64 k]))))::(18,cI.sl ns)::(19,dI ns.length)::(20,dI 0)::[(9,.e (.one (.ptr 4 0)))]
def Vx(hfe:ef (Cx.work ag) 169 (l7 k)){Q:Post}(hn:ns.length<=4000000)(Vy:kT (Cx.beside ag) 45 qL Q (KX ns.length C) (ED k ps ns C)):kT (Cx.beside ag) 45 YV Q (OC ns) (Az k ps ns C xs):=by
 intro so ao hf hho b kk cs S hb N1 hQ;have h:At (Az k ps ns C xs) so (OC ns) (Az k ps ns C xs) ao so:=⟨hf,hho,.refl _ _⟩;refine h.ctl rfl (λw=>vA Sn) λs h=>?_
 refine h.ctl rfl (λw=>oe) λs h=>?_;refine h.code hb pR3 λa s h=>?_;obtain⟨s1,w1,f1,z,Rc⟩:=cm.freeze 3 0 (E:=3) (cs:=[.c (.int .i64 k)]) (cc:=[.int .i64 k]) rfl rfl rfl h.fr h.hh;refine .ghost (.of h.hh z w1 (Rc.na h.hh)) ?_;obtain⟨s2,w2,f2,A,mg⟩:=cm.freeze 4 1 (E:=23) (cs:=[.c (.sl af 2 ps.length (cP.fn ps))]) (cc:=[.sl af 2 ps.length (cP.fn ps)]) rfl rfl rfl f1 z;refine .ghost (.of z A w2 (mg.na z)) ?_;obtain⟨s3,w3,f3,TO,RS⟩:=cm.freeze 8 3 (E:=230) (cs:=[.c (.val (.slice (aa ⟨C,0,ae⟩) ns.length ns.length))]) (cc:=[.val (.slice (aa ⟨C,0,ae⟩) ns.length ns.length)]) rfl rfl rfl f2 A;refine .ghost (.of A TO w3 (RS.na A)) ?_;have h:At (Az k ps ns C xs) so (Vw k ps ns C)
   [.dead,.dead,.b8 (fQ 241 2 (.row C ns.length) ns.length xs),.dead,.cells 238 [.c (.int .u64 0),.c (.int .u32 0)]] a s3 :=
  ⟨f3.le (cE rfl (by simp)),TO,h.st.trans ((Rc.na h.hh).trans ((mg.na z).trans (RS.na A)))⟩
 clear Rc mg RS f1 f2 f3 z A TO;refine h.ctl rfl (λw=>rU) λs h=>?_;refine h.ctl rfl (λw=>Fx) λs h=>?_;have hlen:=h.hh.len;simp only[eU,gx]at hlen;obtain⟨D,u⟩:∃L,s.β[2]?=aa L:=⟨_,br (by omega)⟩
 obtain⟨W,J⟩:∃L,s.β[4]?=aa L:=⟨_,br (by omega)⟩
 obtain⟨ch,hH,Vz,T8,YH⟩:=h.hh.box 2 _ D rfl u;obtain⟨zs,WY,Q2,Uk⟩:=fQ.lookup hH;obtain⟨hv2,_,hxl,_,_,_⟩:=hH;have U:C∈D.bs:=(T8 C).2 (by grind);have VA:=Vz C _ Q2;obtain⟨Wg,vs,adK,F,TD,hM4⟩:=h.hh.box 4 _ W rfl J;have YW:vs=[.int .u64 0,.int .u32 0]:=by
  match vs,TD with
  |[],r=>exact r.elim
  |[_],r=>exact r.2.elim
  |_::_::_::_,r=>exact r.2.2.elim
  |[u0,u1],r =>
   have r0:Rd s.M u0 (.int .u64 0):=r.1;have r1:Rd s.M u1 (.int .u32 0):=r.2.1;cases r0;cases r1;rfl
 subst YW;have Bp:C≠Wg:=by grind
 have hv9:a.tmps.getD 9 ai=.pointer (aa ⟨Wg,0,ae⟩):=by obtain⟨_,L,bb,q1,q2,q3⟩:=h.fr.slot 9;grind
 obtain⟨g1,t1⟩:=h.hh.Vu (l:=2) rfl u (.inr ⟨_,rfl⟩);have YX:(s.β.set 2 ⟨D.v,[]⟩)[4]?=aa W:=by grind
 obtain⟨g2,t2⟩:=g1.Vu (l:=4) (B:=.cells 238 [.c (.int .u64 0),.c (.int .u32 0)]) rfl YX (.inl ⟨_,_,rfl⟩);generalize hsB:({s with β:=(s.β.set 2 ⟨D.v,[]⟩).set 4 ⟨W.v,[]⟩}:St)=sB at g2 t2;have eβ:sB.β=(s.β.set 2 ⟨D.v,[]⟩).set 4 ⟨W.v,[]⟩:=by grind
 have eM:sB.M=s.M:=by grind
 have ew:sB.w=s.w:=by grind
 have eo:sB.own=s.own:=by grind
 have hhB:aF d5 sB:=g2;have Qq:=(t1.na h.hh).trans (t2.na g1);have YY:sB.β[2]?=aa ⟨D.v,[]⟩:=by grind
 have p:∀L∈sB.β,∀x∈L.bs,∃l,l≠2/\l≠4/\s.β[l]?=aa L:=by grind[List.mem_iff_getElem?]
 have Dv:C<s.w.heap.size:=h.hh.lt D (bJ u) C U;have Bg:Wg<s.w.heap.size:=h.hh.lt W (bJ J) Wg (by grind)
 have X:Nd C sB:=⟨by rw[eo];exactλho=>(h.hh.own C ho).2 D (bJ u) U,λL d f=>by obtain⟨l,n2,n4,hl⟩:=p L d C f;exact n2 (h.hh.eB l 2 L D hl u C f U),λo=>by rw[eM];grind,by grind⟩
 have O:Nd Wg sB:=⟨by rw[eo];exactλho=>(h.hh.own Wg ho).2 W (bJ J) (by grind),λL d f=>by obtain⟨l,n2,n4,hl⟩:=p L d Wg f;exact n4 (h.hh.eB l 4 L W hl J Wg f (by grind)),λo=>by rw[eM];grind,by grind⟩
 have fB:cm 45 d5 sB (mZ k ps ns C Wg 0) a:=by have q:=h.fr.mono Qq h.hh.len;have q9:cm 45 d5 sB ((9,.e (.one (.v (.pointer (aa ⟨Wg,0,ae⟩)))))::Vw k ps ns C) a:=q.seen (by rw[hv9];exact Rd.val rfl);exact q9.le (cE rfl (by simp))
 have P:(xs++zs).toArray.size=2*ns.length:=by grind
 have NX:∀x,(s.own x∨∃L∈s.β,x∈L.bs)->x<s.w.heap.size:=λx f=>f.elim (λq=>(h.hh.own x q).1) λ⟨L,d,q⟩=>h.hh.lt L d x q;refine .x3 (T:=λg' s'=>∃Z m,At (Az k ps ns C xs) so (KX ns.length C) (ED k ps ns C) Z s'/\WgLive 238 Wg s'.w/\Goes ag ab (fx 238 Wg) DC0 (λg _=>g=G (b.aT (Z.put (aa 28) (.tuple #[])) (.inRegion yh []::.code qL::kk)) cs) m g' s'.w)
  (Ua.fork (n:=ns.length) (ty:=238) (val:=Nu k ps ns) (N:=2*ns.length) (s0:=sB) 2 (by omega) Wg C (by omega) Bp (.of h.hh hhB ew Qq) rfl ⟨D,bJ u,U⟩ ⟨W,bJ J,by grind⟩ NX ?_ F ⟨_,VA,P⟩ ?_) ?_
 .rintro x (rfl|rfl)
  .exact⟨X.own,X.β,X.M⟩
  .exact⟨O.own,O.β,O.M⟩
 .intro Y hYW hYC hYk;subst hYW hYC;refine⟨TF k ps ns Y d5 sB b kk cs,Xl k ps ns Y d5 sB b kk cs,λg s f=>anF O N1 f,?_,?_⟩
  .refine OB hfe hYk O N1 hb (by decide) hn (λi hi=>rfl) (λi hi=>rfl) ns.length (bh _) a sB ⟨by grind,hhB,.refl _ _⟩ ⟨_,_,by rw[ew];exact F⟩
  .rintro g' s' ⟨Z,⟨j,KU⟩,m,hgo⟩ hm' VB So adP FM;obtain⟨o1,o2,o3⟩:=FM Y.C (.inl rfl);obtain⟨nb,H,adQ⟩:=VB;have UN:nb=(l8 k ps ns).toArray:=by
    apply Array.ext_getElem?;intro o;have eo':(l8 k ps ns).toArray[o]?=(l8 k ps ns)[o]?:=by simp
    rw[eo'];rcases cC o (2*ns.length)with ho|ho
    .have q1:=So (o / 2) (by omega) (o % 2) (by omega);have q2:=AA (k:=k) (ps:=ps) (ns:=ns) (x:=o / 2) (i:=o % 2) (by omega) (by omega);rw[show 2*(o / 2)+o % 2=o by omega]at q1 q2;rw[q2];simpa[aV,H]using q1
    grind[Cr]
   subst UN;have Dq:s'.β.length=5:=j.hh.len;obtain⟨B2',L2',p1,p2,p3⟩:=j.st.box 2 .dead ⟨D.v,[]⟩ rfl YY;have adS:L2'.v=.nilFunc:=by cases p1;exact(show L2'.v=D.v from p3).trans hv2
   have K:∀(l:Nat) (B:aP),d5[l]?=aa B->B=.dead:=by
    intro l B hB
    match l,hB with
    |0,hB|1,hB|2,hB|3,hB|4,hB=>cases hB;rfl
   have V:∀l,(s'.β.set 2 ⟨.nilFunc,[Y.C]⟩)[l]?=if l=2 then aa ⟨.nilFunc,[Y.C]⟩else s'.β[l]?:=by grind
   have y:∀L∈s'.β.set 2 ⟨.nilFunc,[Y.C]⟩,L=⟨.nilFunc,[Y.C]⟩∨L∈s'.β:=λL d=>by grind
   have YE:aF (ED k ps ns Y.C) {s' with β:=s'.β.set 2 ⟨.nilFunc,[Y.C]⟩}:=by
    refine⟨j.hh.mem,by simp[Dq,ED],?_,?_,?_,λx f=>⟨(j.hh.own x f).1,λL d I=>?_⟩⟩
    .intro l B L hB d;rw[V]at d;by_cases e:l=2
     .subst e;rw[bl rfl]at d;cases d;cases hB;refine⟨λb'=>if b'=Y.C then aa (.cells (l8 k ps ns++[]).toArray 241 (0,0))else ae,⟨rfl,?_,Cr,bh _,by omega,[],by grind,rfl⟩,λb' ob Dr=>?_,λb'=>?_,λb' Dr o=>?_⟩
      .intro x f;simp only[l8,List.mem_flatMap]at f;obtain⟨_,_,f⟩:=f;simp only[eE,n7,mq]at f;rcases f with rfl|rfl<;>rfl
      .by_cases e:b'=Y.C
       .subst e;simp only[cj]at Dr;cases Dr;rw[iQ];exact H
       grind
      .by_cases e:b'=Y.C<;>simp[e]
      grind
     .match l,hB,e with
      |0,hB,_|1,hB,_|3,hB,_|4,hB,_=>cases hB;trivial
      |2,_,e=>grind
    .intro l l' L L' d fe x f P5;rw[V]at d fe;by_cases e:l=2
     .grind
     .rw[aZ e]at d;by_cases e':l'=2
      .grind
      .rw[aZ e']at fe;exact j.hh.eB l l' L L' d fe x f P5
    .intro L d x f;rcases y L d with rfl|d
     .grind
     .exact j.hh.lt L d x f
    .rcases y L d with rfl|d
     .grind
     .exact(j.hh.own x f).2 L d I
   have YZ:cR [.dead,.dead,.b8 (fQ 241 2 (.row Y.C ns.length) ns.length xs),.dead,.cells 238 [.c (.int .u64 0),.c (.int .u32 0)]] s (ED k ps ns Y.C) {s' with β:=s'.β.set 2 ⟨.nilFunc,[Y.C]⟩}:=by
    have q:=j.st;refine⟨by have:=q.size;grind,λx f=>by have:=q.fb x (by grind);grind,λx o v f=>q.mem x o v (by grind),λx f ZT o=>?_,λL d x f=>?_,?_,by rw[q.os,ew],by rw[q.tape,ew],by rw[q.output,ew],by rw[q.own,eo]⟩
    .rw[q.iV x (by grind) (λL d I=>by
      obtain⟨l,_,_,hl⟩:=p L d x I
      grind) o,eM]
    .rcases y L d with rfl|d
     .grind
     .rcases q.vd L d x f with r1|⟨L0,r1,r2⟩
      .grind
      .obtain⟨l,_,_,hl⟩:=p L0 r1 x r2;grind
    .intro l B L hB d;obtain⟨B1,L1,r1,r2,r3⟩:=Qq.box l B L hB d;obtain⟨B3,L3,u1,u2,u3⟩:=q.box l B1 L1 r1 r2;have eB1:=K l B1 r1;have eB3:=K l B3 u1;subst eB1 eB3;by_cases e:l=2
     .subst e;cases hB;rw[u]at d;cases d;exact⟨_,⟨.nilFunc,[Y.C]⟩,rfl,by grind,hv2.symm⟩
     .refine⟨.dead,L3,?_,by grind,r3.trans u3⟩
      match l,u1,e with
      |0,_,_|1,_,_|3,_,_|4,_,_=>rfl
      |2,_,e=>grind
   refine⟨{s' with β:=s'.β.set 2 ⟨.nilFunc,[Y.C]⟩},⟨Z,m,⟨⟨j.fr.size,⟨[],?_⟩,λt=>?_⟩,YE,h.st.trans YZ⟩,KU,hgo⟩,rfl,hm',λSh R hnC=>⟨R.own,λx f L d I=>?_,R.M,R.lt⟩⟩
   .obtain⟨ls,RE⟩:=j.fr.defers;rw[lI (λB hB=>by grind) RE];trivial
   .have fq:cm 45 d5 s' (KX ns.length Y.C) Z:=j.fr.le (cE rfl (by simp));exact dk.closed (s:=s') (s':={s' with β:=s'.β.set 2 ⟨.nilFunc,[Y.C]⟩}) rfl (fq.slot t) (nB rfl)
   .rcases y L d with rfl|d
    .grind
    .exact R.β x f L d I
 .rintro g' s' ⟨Z,m,h4,hl4,hgo⟩;refine At.goes m g' s' h4 hl4 hgo λs1 h1=>?_;have h2:At (Az k ps ns C xs) so ((28,.any)::KX ns.length C) (ED k ps ns C) (Z.put (aa 28) (.tuple #[])) s1:=⟨h1.fr.put (by decide) ay,h1.hh,h1.st⟩
  refine h2.ctl rfl (λw=>iX) λs2 h3=>?_;refine Vy s2 _ (h3.fr.le (cE rfl (by simp))) h3.hh b kk cs S hb N1 λe φ' σ' s' a' q f' h' qC=>hQ e φ' σ' s' a' q f' h' (h3.st.trans qC)
end
end
abbrev Y0(a:List Bs)(b:Bool):D:=.eX [.one (.c (.sl af 1 a.length (cS.fn a))),.one (.c (.bool b))]
def eK(k:Int)(ps:List bG)(ns:List Int):Option (List Bs):=if ns.all (λn=>(dK k ps n).isSome)then aa (ns.map λn=>(dK k ps n).getD [])else ae
noncomputable def cR0:Code:=xo EB
noncomputable def cR1:Code:=xo (kY EB)
noncomputable def cR2:Code:=xo (kY (kY EB))
def OD:Tryz.f140.body=aa (.seq cR0 (.seq cR1 (.seq cR2 YV))):=by kernel_rfl
def Sp(k:Int)(ps:List bG)(ns:List Int)(i:Nat):List AM.C:=[.str ((dK k ps (ns.getD i 0)).getD []),.bool (dK k ps (ns.getD i 0)).isSome]
def uQ(k:Int)(ps:List bG)(ns:List Int):List Bs:=ns.map λn=>(dK k ps n).getD []
theorem Cs{b p:Bs}(h:eQ b=aa p):p.length<=8:=by
 unfold eQ at h;split at h
 .rename_i a;cases h;simp only[bR,bz,ba]at a;omega
 grind
theorem HO{k:Int}{x:bn}{p:Bs}(h:chunk k x=aa p):p.length<=8:=by unfold chunk at h;grind[Cs]
theorem yN{k:Int}{ps:List bG}{n:Int}:((dK k ps n).getD []).length<=8:=by
 cases h:dK k ps n with
 |none=>simp
 |some p =>
  obtain⟨q,_,a⟩:=List.exists_of_findSome?_eq_some h;unfold ei at a;grind[HO]
theorem Sq{k:Int}{ps:List bG}{ns:List Int}{i:Nat}(hi:i<ns.length){M:Mem}{j:Nat}{c:AM.C}{x:ah}(a:(Sp k ps ns i)[j]?=aa c)(d:(l8 k ps ns)[i*2+j]?=aa x):Rd M x c:=by
 have b:j<2:=(bY.1 a).1;have:=AA (k:=k) (ps:=ps) hi b;rw[Nat.mul_comm,this]at d;cases d
 match j,b with
 |0,_ =>
  cases a;have:=yN (k:=k) (ps:=ps) (n:=ns.getD i 0);exact .str rfl (by omega)
 |1,_=>cases a;exact .bool
def _root_.Go.AM.kT.le{P:ar}{X:Cx P}{N:Nat}{Q:Post}{φ φ':Fr}{σ:List aP}{c:Code}(h:kT X N c Q φ' σ)(hl:oi φ φ'):kT X N c Q φ σ:=λs a f hh=>h s a (f.le hl) hh
def Co{k:Int}(f:ef (Cx.work ag) 169 (l7 k))(ps:List bG)(ns:List Int)(r:ns.length<=4000000):
  Ev (Cx.beside ag) 140 [dI k,cP.sl ps,cI.sl ns] [] (Y0 ((eK k ps ns).getD []) (eK k ps ns).isSome) []:=by
 refine eb.DJ (eb.D4 (ι:=Unit) Tryz.func140 rfl OD rfl λs=>?_);show kT _ 45 _ _ _ _;refine kT.seq (AW.top (AK.of_code ?_));refine bt rfl ay ?_;show kT _ 45 _ _ _ _;refine kT.seq (AW.top (AK.of_code ?_));refine bt rfl ay ?_;refine AK.Jh (E:=241) (n:=ns.length) tok rfl rfl rfl rfl rfl rfl (by show _*24<=_;omega) (by omega) rfl rfl λC xs=>?_;refine bt rfl ay ?_;show kT _ 45 _ _ _ _;refine kT.seq (AW.top (AK.of_code ?_));refine bt rfl ay ?_;show kT _ 45 _ _ _ _;have a:kT (Cx.beside ag) 45 qL (λe φ σ1=>∃_:Unit,cp Tryz.f140 0 (Y0 ((eK k ps ns).getD []) (eK k ps ns).isSome) [] e φ σ1) (KX ns.length C) (ED k ps ns C):=by
  refine AW.top (AW.mono (Q:=cp Tryz.f140 0 (Y0 ((eK k ps ns).getD []) (eK k ps ns).isSome) []) (AK.of_code ?_) λ_ _ _ q=>⟨(),q⟩);refine bt rfl (show _<=_ by omega) ?_;refine AK.vO 29 2 (bf:=.row C ns.length) (n:=ns.length) (k:=2) (Sp k ps ns) rfl rfl (λi hi=>⟨rfl,λM j c x t u=>?_⟩) ?_
  .grind [Sq]
  refine AK.iC 12 9 1 rfl rfl ?_;refine AK.cz 6 (λi=>i<=ns.length/\∀j,j<i->(dK k ps (ns.getD j 0)).isSome=ab) (λi:Nat=>[(29,.e (.one (.c (.sl af 2 ns.length (Sp k ps ns))))),(30,dI ns.length),(31,dI i),(12,.e (.one (.vec 5 1 (uQ k ps (ns.take i)).length (cS.fn (uQ k ps (ns.take i))))))]) (λi=>[.dead,.dead,.dead,.dead,.dead,.vec 9 1 (uQ k ps (ns.take i)).length (cS.fn (uQ k ps (ns.take i)))]) (λi=>ns.length-i) 0 rfl ?_ rfl ?_ rfl ⟨by omega,by omega⟩ ?_
  .simp[cv,uQ]
  .simp[cv,uQ]
  rintro i ⟨hi,m⟩;by_cases h:i<ns.length
  .cases o:(dK k ps (ns.getD i 0)).isSome with
   |true =>
    have d:uQ k ps (ns.take (i+1))=uQ k ps (ns.take i)++[(dK k ps (ns.getD i 0)).getD []]:=by unfold uQ;grind[List.take_add_one]
    have p:(uQ k ps (ns.take i)).length<=4000000:=by simp[uQ];omega
    refine bH [(32,ab),(37,af)] rfl ?_ (AK.aQ (i+1) rfl ?_ ?_ ?_ ?_)
    .simp[-aq,h,Sp,o,bA];have:i9.bytes=16:=rfl;grind
    .rw[d];simp[-aq,Sp];exact cS.cu _ _
    .rw[d];simp[-aq,Sp];exact cS.cu _ _
    .grind
    .omega
   |false =>
    refine bH [(32,ab),(37,ab)] rfl ?_ (AK.fE (cp.zero rfl ?_))
    .simp[-aq,h,Sp,o]
    .have g:eK k ps ns=ae:=by unfold eK;rw[aZ];grind
     simp[g]
  .have l:i=ns.length:=by omega
   subst l;refine bH [(32,af)] rfl (by simp) (AK.leaveD rfl rfl ?_);refine c8 rfl ay (AK.bw rfl ?_);have b:eK k ps ns=aa (uQ k ps ns):=by
    unfold eK;rw[bl]
    .rfl
    grind[List.mem_iff_getElem]
   simp[b]
 exact kT.le (σ:=Az k ps ns C xs) (Vx (xs:=xs) f r a) (cE rfl (by simp))
end Go.AM.R1
namespace Go.AM.R1
def jV(a:UInt8)(s:Bs):iG (a::s)=if a=47 then 0 else if iG s=-1 then -1 else iG s+1:=by unfold iG;grind[Lib.indexByte.eq_def]
def vC:iG []=-1:=by unfold iG;rw[Lib.indexByte.eq_def]
def H0(s:Bs):e9 s=dD s:=by
 by_cases i:s.length<=3
 .match s,i with
  |[],_=>simp[e9,dD,cy,jv,vC]
  |[a],_ =>
   by_cases d:a=47
   .subst d;simp[e9,dD,cy,jv,mN,j4,jV,l9,cK]
   .simp[e9,dD,cy,jv,j4,jV,vC,d,l9,cK]
  |[a,b],_ =>
   by_cases d:a=47
   .subst d;simp[e9,dD,cy,jv,mN,j4,jV]
   .by_cases e:b=47
    .subst e;simp[e9,dD,cy,jv,mN,j4,jV,d]
    .simp[e9,dD,cy,jv,j4,jV,vC,d,e]
  |[a,b,c],_ =>
   by_cases d:a=47
   .subst d;simp[e9,dD,cy,jv,mN,j4,jV,l9,cK]
   .by_cases e:b=47
    .subst e;simp[e9,dD,cy,jv,mN,j4,jV,d,l9,cK]
    .have f:¬(b.toNat:Int)=47:=by intro h;apply e;apply n9.1;grind
     by_cases g:c=47
     .subst g;simp[e9,dD,cy,jv,mN,j4,jV,d,e,l9,cK]
     .simp[e9,dD,cy,jv,j4,jV,vC,d,e,g,f,l9,cK]
  |_::_::_::_::_,h=>grind
 .have j:dD s=af:=by unfold dD;grind
  grind[uu]
end Go.AM.R1
namespace Go.AM
theorem sI(a:Bs):bk a []=af:=by rw[Op.bytesLess.eq_def]
def xA(b:UInt8)(l:Bs):bk [] (b::l)=ab:=by rw[Op.bytesLess.eq_def]
theorem sJ(a b:UInt8)(x y:Bs):bk (a::x) (b::y)=(decide (a<b)||a==b&&bk x y):=by rw[Op.bytesLess.eq_def]
theorem qw:∀a:Bs,bk a a=af
 |[]=>sI []
 |a::l=>by rw[sJ,qw l];simp
def CB:∀a b:Bs,bk a b=ab∨a=b∨bk b a=ab
 |[],[]=>.inr (.inl rfl)
 |[],b::y=>.inl (xA b y)
 |a::x,[]=>.inr (.inr (xA a x))
 |a::x,b::y=>by
  rw[sJ,sJ];rcases CB x y with h|h|h
  .grind
  .grind
  grind
theorem xB:∀{a b c:Bs},bk a b=ab->bk b c=ab->bk a c=ab
 |a,b,[],_,e=>by grind[sI]
 |a,[],c::z,d,_=>by grind[sI]
 |[],b::y,c::z,_,_=>xA c z
 |a::x,b::y,c::z,d,e=>by
  rw[sJ,jC,bR,ba,hI]at d e⊢;rcases d with d|⟨rfl,d⟩
  .grind
  .rcases e with e|⟨rfl,e⟩
   .grind
   .exact .inr ⟨rfl,xB d e⟩
theorem CC{a b:Bs}(h:bk a b=ab):bk b a=af:=by grind[xB,qw]
def SQ{a b:Bs}:(!(bk b a||b==a))=bk a b:=by
 rcases CB a b with h|h|h
 .have c:(b==a)=af:=by simp only[eD,dr];grind[qw]
  grind[CC]
 .grind [qw]
 grind[CC]
namespace R1
def V3{t:List bx}{i:Nat}(h:∀k,0<k->k<=i->bk (fg t (k-1)) (fg t k)=ab):∀j,j<i->bk (fg t j) (fg t i)=ab:=by
 intro j f;induction i with
 |zero=>omega
 |succ i d =>
  have c:=h (i+1) (by omega) (bh _);simp only[pQ]at c;by_cases e:j=i
  .grind
  .exact xB (d (λk a b=>h k a (by omega)) (by omega)) c
def uv{s:Bs}(h:dD s=ab):(∃a,s=[a])∨∃a b,s=[a,47,b]:=by
 unfold dD at h;split at h
 .rename_i d
  match s,d with
  |[a],_=>grind
 .split at h
  .rename_i d
   match s,d with
   |[a,b,c],_ =>
    right;simp[l9,cK]at h;have e:b=47:=by apply n9.1;grind
    grind
  grind
theorem CE{p q:Bs}(g:dD p=ab)(f:dD q=ab)(i:bk p q=ab):clash p q=under q p:=by
 rcases uv g with⟨a,rfl⟩|⟨a,b,rfl⟩<;>rcases uv f with⟨c,rfl⟩|⟨c,d,rfl⟩
 .simp[clash,under,lp]
 .by_cases e:a=c
  .subst e;simp[clash,under,lp,cK]
  .have:¬(a.toNat:Int)=c.toNat:=λh=>e (n9.1 (by omega));have k:((a.toNat:Int)==(c.toNat:Int))=af:=by grind
   have j:(c==a)=af:=by grind
   simp[clash,under,lp,cK];grind
 .have:¬(a.toNat:Int)=c.toNat:=by grind[UInt8.toNat_inj,sJ,sI]
  simp[clash,under,lp,cK,this]
 .simp[clash,under,lp]
theorem y4{t:List bx}{i:Nat}(a:∀j,j<i->gI t j=ab):jf t i=gI t i:=by
 unfold jf gI;rw[H0,SQ];cases h:dD (fg t i)with
 |false=>simp
 |true =>
  cases g:eg (sZ t i)with
  |false=>simp
  |true =>
   cases d:(i==0||bk (fg t (i-1)) (fg t i))with
   |false=>simp
   |true =>
    simp only[fC];have f:∀j,j<i->bk (fg t j) (fg t i)=ab:=by
     apply V3;intro k hk hki;by_cases e:k=i
     .grind
     .have:=a k (by omega);simp only[gI,bR,jC,hI]at this;grind
    rw[pW,dz,dz];have l:∀j,j<i->clash (fg t j) (fg t i)=under (fg t i) (fg t j):=by
     intro j c;have b:dD (fg t j)=ab:=by have:=a j c;simp only[gI,bR]at this;exact this.1.1.1
     grind[CE]
    grind
def g9(t:List bx):mO t=cw t:=by
 unfold mO cw;congr 1;rw[pW,dz,dz];constructor
 .intro h i;induction i using Nat.strongRecOn with
  |_ i a=>grind[y4]
 grind[y4]
end R1
end Go.AM
namespace Go.AM.R1
section
variable {X:Cx ag}
def fileOf(k:Int)(ps:List bG)(x:jU):Option bx:=match eK k ps x.2 with
 |none=>ae
 |some l=>match gv l with
  |none=>ae
  |some t=>aa (x.1,t)
def dh(k:Int)(ps:List bG)(l:List jU):List bx:=l.map λx=>(fileOf k ps x).getD ([],[])
def c9(k:Int)(s:gE)(ps:List bG):Option (List bx) :=
 if cd k&&s.2.all (λx=>(fileOf k ps x).isSome)&&cw (dh k ps s.2)then aa (dh k ps s.2)else ae
abbrev Sg(a:List bx)(b:Bool):D:=.eX [.one (.c (.sl af 2 a.length (cF.fn a))),.one (.c (.bool b))]
abbrev Nb(s:gE):D:=.e (.agg [.c (.int .i64 s.1),.c (.sl af 2 s.2.length (cL.fn s.2))])
theorem pC{k:Int}{ps:List bG}{l:List jU}{i:Nat}(h:i<l.length):dh k ps (l.take (i+1))=dh k ps (l.take i)++[(fileOf k ps (l.getD i ([],[]))).getD ([],[])]:=by unfold dh;grind[List.take_add_one]
def pD{k:Int}{ps:List bG}{s:gE}{i:Nat}(h:i<s.2.length)(a:fileOf k ps (s.2.getD i ([],[]))=ae):c9 k s ps=ae:=by unfold c9;rw[aZ];grind
def yf{k:Int}{ps:List bG}{ns:List Int}{l:List Bs}(h:eK k ps ns=aa l)(b:ns.length<=4000000):l.flatten.length<=140737488355328/\l.length<=4000000:=by
 unfold eK at h;split at h
 .rename_i a;cases h;refine⟨?_,by grind⟩;have key:∀ns:List Int,(ns.all λn=>(dK k ps n).isSome)=ab->(ns.map λn=>(dK k ps n).getD []).flatten.length<=8*ns.length:=by
   intro ns;induction ns with
   |nil=>grind
   |cons n ns ih =>
    intro h;simp only[List.all_cons,bR]at h;grind[yN]
  grind
 grind
def Cn(k:Int)(s:gE)(ps:List bG)(I:s.2.length<=4000000)(E:∀x∈s.2,x.2.length<=4000000):
  Ev (Cx.beside ag) 107 [dI k,Nb s,cP.sl ps] [] (Sg ((c9 k s ps).getD []) (c9 k s ps).isSome) []:=by
 refine Ev.bQ Tryz.func107 rfl λH=>?_;have w:=H.sl 2 rfl;have a:bE (Cx.beside ag) [(30,kr aI (λk=>dB (cd k)) λ_=>[])]:=.cons t30 .nil;cases hk:cd k with
 |false =>
  refine aW a [(15,af),(16,ab)] rfl ?_ (AK.bw rfl ?_)
  .simp[hk]
  .simp[c9,hk]
 |true =>
  have r:ef (Cx.work ag) 169 (l7 k):=Sc Oj hk;refine aW a [(15,ab),(16,af),(1000004,ab)] rfl ?_ ?_
  .simp[hk]
  refine AK.iC 8 76 2 rfl rfl ?_;refine cf a rfl ay ?_;refine AK.cz 2 (λi=>i<=s.2.length/\∀j,j<i->(fileOf k ps (s.2.getD j ([],[]))).isSome=ab) (λi:Nat=>[(0,dI k),(2,cP.sl ps),(4,.e (.one (.ptr 0 0))),(8,.e (.one (.vec 1 2 (dh k ps (s.2.take i)).length (cF.fn (dh k ps (s.2.take i)))))),(18,cL.sl s.2),(19,dI s.2.length),(20,dI i)]) (λi=>[.cells 41 [.c (.int .i64 s.1),.c (.sl af 2 s.2.length (cL.fn s.2))],.vec 76 2 (dh k ps (s.2.take i)).length (cF.fn (dh k ps (s.2.take i)))]) (λi=>s.2.length-i) 0 rfl ?_ rfl ?_ rfl ⟨by omega,by omega⟩ ?_
  .simp[dh]
  .simp[dh]
  rintro i ⟨hi,y⟩;by_cases h:i<s.2.length
  .have p:s.2.getD i ([],[])∈s.2:=by grind
   generalize f:s.2.getD i ([],[])=x at p;have m:=E x p;have d:=Co r ps x.2 m;cases b:eK k ps x.2 with
   |none =>
    rw[b]at d;refine aW a [(21,ab)] rfl ?_ ?_
    .exact⟨by omega,by omega,db (by omega)⟩
    refine AK.cQ (f▸d) [] rfl ?_;refine aW a [(33,ab)] rfl ?_ (AK.fE (cp.zero rfl ?_))
    .simp
    .have e:fileOf k ps x=ae:=by simp[fileOf,b]
     rw[pD h (by grind)];simp
   |some l =>
    obtain⟨o,D⟩:=yf b m;rw[b]at d;have q:=Ez (X:=Cx.beside ag) l o;refine aW a [(21,ab)] rfl ?_ ?_
    .exact⟨by omega,by omega,db (by omega)⟩
    refine AK.cQ (f▸d) [] rfl ?_;refine aW a [(33,af)] rfl ?_ ?_
    .simp
    refine AK.cQ q [] rfl ?_;cases A:gv l with
    |none =>
     refine aW a [(40,ab)] rfl ?_ (AK.fE (cp.zero rfl ?_))
     .simp
     .have e:fileOf k ps x=ae:=by simp[fileOf,b,A]
      rw[pD h (by grind)];simp
    |some t =>
     have e:fileOf k ps x=aa (x.1,t):=by simp[fileOf,b,A]
     have B:s.2.getD (i:Int).toNat cL.b5=x:=f;have F:(dh k ps (s.2.take i)).length<=4000000:=by simp[dh];omega
     have z:cv ((dh k ps (s.2.take i)).length+1) (cA (dh k ps (s.2.take i)).length (cF.fn (dh k ps (s.2.take i))) λn=>[[C.str (s.2.getD (i:Int).toNat cL.b5).1,C.str ((aa t).getD [])]].getD n []) (cF.fn (dh k ps (s.2.take (i+1)))):=by rw[pC h,f,e,B];exact cF.cu (dh k ps (s.2.take i)) (x.1,t)
     have v:(dh k ps (s.2.take i)).length+1=(dh k ps (s.2.take (i+1))).length:=by grind[pC]
     refine aW a [(40,af)] rfl ?_ (AK.aQ (i+1) rfl ?_ ?_ ?_ ?_)
     .refine⟨by simp only[bA];omega,rfl,rfl,?_,rfl⟩;show _*32<=_;omega
     .refine az.cat.2 ⟨rfl,az.cat.2 ⟨⟨rfl,cv.same⟩,az.cat.2 ⟨ay,az.cat.2 ⟨⟨v,z⟩,az.cat.2 ⟨⟨rfl,cv.same⟩,az.cat.2 ⟨rfl,az.cat.2 ⟨?_,ay⟩⟩⟩⟩⟩⟩⟩;simp
     .exact az.cat.2 ⟨az.cat.2 ⟨rfl,az.cat.2 ⟨⟨rfl,cv.same⟩,ay⟩⟩,az.cat.2 ⟨⟨v,z⟩,ay⟩⟩
     .grind
     .omega
  .have e:i=s.2.length:=by omega
   subst e;refine aW a [(21,af)] rfl (by simp) (AK.leaveD rfl rfl ?_);rw[di];have g:=xm (X:=Cx.beside ag) (dh k ps s.2);rw[g9]at g;refine cf a rfl ay ?_;refine AK.cQ g [] rfl ?_;have G:s.2.all (λx=>(fileOf k ps x).isSome)=ab:=List.all_eq_true.2 λx p=>by grind[List.mem_iff_getElem]
   cases u:cw (dh k ps s.2)with
   |false =>
    refine aW a [(51,ab)] rfl ?_ (AK.bw rfl ?_)
    .simp
    .simp[c9,u]
   |true =>
    refine aW a [(51,af)] rfl ?_ (AK.bw rfl ?_)
    .simp
    .simp[c9,u,hk,G]
abbrev bm:=List bG×List gE×List (Int×Int)
def ox(s:bm):Prop:=∀x∈s.2.1,x.2.length<=4000000/\∀y∈x.2,y.2.length<=4000000
abbrev rq(s:bm):D:=.e (.agg [.c (.sl af 2 s.1.length (cP.fn s.1)),.c (.sl af 2 s.2.1.length (gp.fn s.2.1)),.c (.sl af 2 s.2.2.length (cH.fn s.2.2))])
def yO:dt:=Gg aI (Eu cL) (aL cP) (λk s ps=>Sg ((c9 k s ps).getD []) (c9 k s ps).isSome) λ_ s _=>[s.2.length<=4000000,∀x∈s.2,x.2.length<=4000000]
def HK:ef (Cx.beside ag) 107 yO:=.Na λk s ps h=>Cn k s ps h.1 h.2
def TR:Arg bm:=⟨rq,λd=>match d with
 |.e (.agg [.c a,.c b,.c c])=>match kX 2 (.e (.one (.c a)))with
  |some (n,k)=>match kX 2 (.e (.one (.c b)))with
   |some (g,l)=>match kX 2 (.e (.one (.c c)))with
    |some (j,i)=>aa ((cP.list n k,gp.list g l,cH.list j i),[cP.fits n k,gp.fits g l,cH.fits j i])
    |none=>ae
   |none=>ae
  |none=>ae
 |_=>ae,λ{d a o} h m σ s v r=>by
 split at h
 .split at h
  .rename_i n k u;split at h
   .rename_i g l w;split at h
    .rename_i j i q;cases h;obtain⟨vs,p,f⟩:=r
     match vs,f with
     |[],f=>exact f.elim
     |[_],f=>exact f.2.elim
     |[_,_],f=>exact f.2.2.elim
     |_::_::_::_::_,f=>exact f.2.2.2.elim
     |[x,y,t],f =>
      exact⟨_,p,cP.jT (σ:=[]) (s:=s) (v:=x) u m.1 f.1,gp.jT (σ:=[]) (s:=s) (v:=y) w m.2.1 f.2.1,cH.jT (σ:=[]) (s:=s) (v:=t) q m.2.2 f.2.2.1,ay⟩
    grind
   grind
  grind
 grind⟩
abbrev gX(p:bG)(i:Nat):bn:=p.2.getD i (0,[])
def iL(k:Int)(p:bG)(i:Nat):Bool:=right k (gX p i)&&(i==0||decide ((gX p (i-1)).1<(gX p i).1))
theorem tI(k:Int)(p:bG):gg k p=((bg p.2.length).all (iL k p)&&(cd k&&decide (1<=p.1)&&decide (p.1<=99)&&decide (1<=p.2.length)&&decide (p.2.length<=4))):=by
 have e:(p.2.all (right k)&&Aw (p.2.map (·.1)))=(bg p.2.length).all (iL k p):=by
  rw[pW,bR,List.all_eq_true,List.all_eq_true];unfold Aw;rw[List.all_eq_true];have a:∀i,i<p.2.length->(p.2.map (·.1)).getD i 0=(gX p i).1:=λi hi=>by grind
  constructor
  .rintro⟨c,b⟩ i hi;have hi:=oa.1 hi;have q:=b i (by grind);rw[a i hi]at q;unfold iL;rw[c (gX p i) (by grind),fC];rcases mT i with rfl|f
   .rfl
   grind
  .intro h;refine⟨λx d=>?_,λi hi=>?_⟩
   .obtain⟨i,hi,rfl⟩:=nW.1 d;have:=h i (oa.2 hi);simp only[iL,bR]at this;grind
   .have hi:i<p.2.length:=by grind
    have:=h i (oa.2 hi);simp only[iL,bR]at this;grind
 rw[<-e];unfold gg;cases cd k<;>cases decide (1<=p.1)<;>cases decide (p.1<=99)<;>cases decide (1<=p.2.length)<;>cases decide (p.2.length<=4)<;>simp
def yQ{k:Int}{p:bG}{i:Nat}(hi:i<p.2.length)(h:iL k p i=af):gg k p=af:=by grind[tI]
theorem rr{k:Int}{x:bn}(hk:cd k=ab):(chunk k x).isSome=right k x:=by unfold chunk right;grind
def HL(k:Int)(p:bG)(hk:cd k=ab)(u:p.2.length<=4000000):Ev X 104 [dI k,KI p] [] (dB (gg k p)) []:=by
 refine Ev.bQ Tryz.func104 rfl λw=>?_;have a:bE X [(30,kr aI (λk=>dB (cd k)) λ_=>[]),(137,oT TP aI (λx k=>Ar (chunk k x)) λ_ k=>[cd k=ab])]:=.cons t30 (.cons (KG Oj) .nil);refine cf a rfl ay ?_;refine AK.cz 1 (λi=>i<=p.2.length/\∀j,j<i->iL k p j=ab) (λi:Nat=>[(0,dI k),(3,.e (.one (.ptr 0 0))),(10,dO.sl p.2),(11,dI p.2.length),(12,dI i)]) (λ_=>[.cells 37 [.c (.int .i64 p.1),.c (sP p)]]) (λi=>p.2.length-i) 0 rfl ?_ rfl ?_ rfl ⟨by omega,by omega⟩ ?_
 .simp
 .simp
 rintro i ⟨hi,f⟩;by_cases h:i<p.2.length
 .cases l:right k (gX p i)with
  |false =>
   have m:(chunk k (gX p i)).isSome=af:=by grind[rr]
   refine aW a [(13,ab),(24,ab),(40,ab)] rfl ?_ (AK.fE (cp.zero rfl ?_))
   .refine⟨rfl,?_,hk,by omega,by omega,db (by omega)⟩;grind
   .rw[yQ h (by simp only[iL,l,rO])];simp
  |true =>
   have m:(!(chunk k (gX p i)).isSome)=af:=by grind[rr]
   by_cases t:i=0
   .subst t;refine aW a [(13,ab),(24,af),(27,af),(40,af)] rfl ?_ (AK.aQ 1 rfl ?_ ?_ ⟨by omega,λj g=>?_⟩ (by omega))
    .simp only[az,bA];grind
    .simp
    .simp
    .have:j=0:=by omega
     subst this;simp only[iL,l,fC];rfl
   .have r:((i:Int)-1).toNat=i-1:=by omega
    cases s:decide ((gX p (i-1)).1<(gX p i).1)with
    |false =>
     refine aW a [(13,ab),(24,af),(27,ab),(38,ab),(40,ab)] rfl ?_ (AK.fE (cp.zero rfl ?_))
     .have n:(p.2.getD ((i:Int)-1).toNat dO.b5).1=(gX p (i-1)).1:=by rw[r];rfl
      refine⟨rfl,db ?_,by omega,by omega,by simp only[bA];omega,db (by omega),m,hk,by omega,by omega,db (by omega)⟩;rw[n];show(gX p i).1<=_;grind
     .rw[yQ h (by simp only[iL,l,s,fC,Bool.or_false];grind)];simp
    |true =>
     refine aW a [(13,ab),(24,af),(27,ab),(38,af),(40,af)] rfl ?_ (AK.aQ (i+1) rfl ?_ ?_ ⟨by omega,λj g=>?_⟩ (by omega))
     .have n:(p.2.getD ((i:Int)-1).toNat dO.b5).1=(gX p (i-1)).1:=by rw[r];rfl
      refine⟨by simp only[bA];omega,rfl,iP ?_,by omega,by omega,by simp only[bA];omega,db (by omega),m,hk,by omega,by omega,db (by omega)⟩;rw[n];show¬(gX p i).1<=_;grind
     .simp
     .simp
     .rcases zo.1 g with g|rfl
      .grind
      .simp only[iL,l,s,fC,Bool.or_true]
 .have e:i=p.2.length:=by omega
  subst e;refine aW a [(13,af)] rfl (by simp) (AK.leaveD rfl rfl ?_);have v:(bg p.2.length).all (iL k p)=ab:=List.all_eq_true.2 λj g=>f j (oa.1 g);rw[tI,v,hk];by_cases b:1<=p.1
  .by_cases d:p.1<=99
   .by_cases o:1<=p.2.length
    .by_cases q:p.2.length<=4
     .refine aW a [(43,ab),(47,ab),(52,ab),(58,ab),(64,ab)] rfl ?_ (AK.bw rfl ?_)
      .exact⟨db (by omega),db (by omega),db d,db b,hk⟩
      .simp[b,d,o,q]
     .refine aW a [(43,ab),(47,ab),(52,ab),(58,ab),(64,af)] rfl ?_ (AK.bw rfl ?_)
      .exact⟨iP (by omega),db (by omega),db d,db b,hk⟩
      .simp[b,d,o,q]
    .refine aW a [(43,ab),(47,ab),(52,ab),(58,af)] rfl ?_ (AK.bw rfl ?_)
     .exact⟨iP (by omega),db d,db b,hk⟩
     .simp[b,d,o]
   .refine aW a [(43,ab),(47,ab),(52,af)] rfl ?_ (AK.bw rfl ?_)
    .exact⟨iP d,db b,hk⟩
    .simp[b,d]
  .refine aW a [(43,ab),(47,af)] rfl ?_ (AK.bw rfl ?_)
   .exact⟨iP b,hk⟩
   .simp[b]
def Ax:dt:=oT aI (Eu dO) (λk p=>dB (gg k p)) λk p=>[cd k=ab,p.2.length<=4000000]
def Gk:ef X 104 Ax:=.sD λk p h=>HL k p h.1 h.2
def yR(l:List (Int×Int))(f:l.length<=4000000):Ev X 78 [cH.sl l] [] (.e (.one (.bp 0 (.sl l.length 2 0 l.length)))) [.buf 106 2 l.length (cH.fn l)]:=by
 refine Ev.bQ Tryz.func78 rfl λd=>?_;refine bt rfl ay ?_;refine AK.F1 tok rfl rfl rfl rfl rfl rfl λb c=>?_;cases b with
 |true =>
  obtain rfl:=jg (c rfl);refine bt rfl ay ?_;refine AK.Vb 2 106 2 (cH.fn []) rfl ?_;refine AK.de [0] rfl ?_ rfl rfl rfl (λj a=>absurd a (by simp));simp
 |false =>
  refine qE [] 7 rfl ay ?_;refine AK.F0 5 106 2 (cH.fn []) rfl ?_;refine bt rfl ⟨rfl,rfl,show(0+l.length)*16<=_ by omega⟩ ?_;refine AK.norm [.buf 106 2 l.length (cH.fn l)] rfl ?_ ?_
  .simp[cv,cA]
  refine AK.de [0] rfl ?_ rfl rfl rfl (λj a=>absurd a (by simp));simp;rfl
def EE(l:List (Int×Int))(d:l.length<=4000000):Ev X 78 [cH.sl l] [] (cH.sl l) []:=by
 refine Ev.bQ Tryz.func78 rfl λc=>?_;refine bt rfl ay ?_;refine AK.F1 tok rfl rfl rfl rfl rfl rfl λb a=>?_;cases b with
 |true =>
  obtain rfl:=jg (a rfl);refine bt rfl ay ?_;refine AK.bw rfl ?_;simp[cv]
 |false =>
  refine bt rfl ⟨show(0+l.length)*16<=_ by omega,.inl rfl⟩ ?_;refine AK.bw rfl ?_;simp[cv,cA]
def EF(l:List bn)(d:l.length<=4000000):Ev X 125 [dO.sl l] [] (dO.sl l) []:=by
 refine Ev.bQ Tryz.func125 rfl λc=>?_;refine bt rfl ay ?_;refine AK.F1 tok rfl rfl rfl rfl rfl rfl λb a=>?_;cases b with
 |true =>
  obtain rfl:=jg (a rfl);refine bt rfl ay ?_;refine AK.bw rfl ?_;simp[cv]
 |false =>
  refine bt rfl ⟨show(0+l.length)*24<=_ by omega,.inl rfl⟩ ?_;refine AK.bw rfl ?_;simp[cv,cA]
def EG(l:List Int)(d:l.length<=4000000):Ev X 126 [cI.sl l] [] (cI.sl l) []:=by
 refine Ev.bQ Tryz.func126 rfl λc=>?_;refine bt rfl ay ?_;refine AK.F1 tok rfl rfl rfl rfl rfl rfl λb a=>?_;cases b with
 |true =>
  obtain rfl:=jg (a rfl);refine bt rfl ay ?_;refine AK.bw rfl ?_;simp[cv]
 |false =>
  refine bt rfl ⟨show(0+l.length)*8<=_ by omega,.inl rfl⟩ ?_;refine AK.bw rfl ?_;simp[cv,cA]
def _root_.Go.AM.mh.kE{α:Type}(c:mh α)(l:List α){i:Nat}(h:i<l.length)(d:α):cv (i+1) (cA i (c.fn (l.take i)) (λq=>[c.enc (l.getD i d)].getD q [])) (c.fn (l.take (i+1))):=by
 have e:l.take (i+1)=l.take i++[l.getD i d]:=by grind[List.take_add_one]
 have:=c.cu (l.take i) (l.getD i d);grind
abbrev VC:dt:=kr (aL dO) (λl=>dO.sl l) λl=>[l.length<=4000000]
def Y1:ef X 125 VC:=.pz λl h=>EF l h
abbrev VD:dt:=kr (aL cI) (λl=>cI.sl l) λl=>[l.length<=4000000]
def Y2:ef X 126 VD:=.pz λl h=>EG l h
def AB(p:bG)(a:p.2.length<=4000000):Ev X 76 [KI p] [] (KI p) []:=by
 refine Ev.qK tok Tryz.func76 rfl rfl rfl λd=>?_;have b:bE X [(125,VC)]:=.cons Y1 .nil;refine cf b rfl ?_ ?_
 .simp only[az,dO.list_fn];exact⟨dO.aU _,a⟩
 refine AK.mH () [] rfl rfl rfl rfl rfl rfl rfl rfl ?_ rfl rfl rfl rfl (λj c=>absurd c (by simp));simp[dO.list_fn]
abbrev KY:dt:=kr (Eu dO) (λp=>KI p) λp=>[p.2.length<=4000000]
def Qs:ef X 76 KY:=.pz λp h=>AB p h
def AD(x:gE)(l:x.2.length<=4000000)(d:∀y∈x.2,y.2.length<=4000000):Ev X 77 [Nb x] [] (Nb x) []:=by
 refine Ev.qK tok Tryz.func77 rfl rfl rfl λk=>?_;have a:bE X [(126,VD)]:=.cons Y2 .nil;refine aW a [(1000002,ab)] rfl ay ?_;refine AK.g7 2 1 69 2 (cL.fn []) rfl rfl ?_;refine cf a rfl ay ?_;refine AK.cz 4 (λi=>i<=x.2.length) (λi:Nat=>[(2,.e (.one (.ptr 1 0))),(3,.e (.one (.ptr 2 0))),(10,cL.sl x.2),(11,dI x.2.length),(12,dI i)])
  (λi=>[.cells 41 [.c (.int .i64 x.1),.c (.sl af 2 x.2.length (cL.fn x.2))],.cells 41 [.c (.int .i64 0),.c (.sl ab 0 0 λ_=>[])],.cells 41 [.c (.int .i64 x.1),.vec 3 2 i (cL.fn (x.2.take i))],.vec 69 2 i (cL.fn (x.2.take i))]) (λi=>x.2.length-i) 0 rfl ?_ rfl ?_ rfl (by omega) ?_
 .simp
 .simp[cv]
 intro i hi;by_cases h:i<x.2.length
 .have g:x.2.getD i ([],[])∈x.2:=by grind
  refine aW a [(13,ab)] rfl ?_ (AK.aQ (i+1) rfl ?_ ?_ ?_ ?_)
  .have q:=d _ g;have b:x.2.getD (i:Int).toNat cL.b5=x.2.getD i ([],[]):=by grind
   simp only[az,b,cI.list_fn,bA];exact⟨by omega,ay,ay,show(i+1)*40<=_ by omega,cI.aU _,q,by omega,by omega,db (by omega)⟩
  .simp
  .have b:x.2.getD (i:Int).toNat cL.b5=x.2.getD i ([],[]):=by grind
   have e:=cL.kE x.2 h ([],[]);simp only[az.cat,az,b,cI.list_fn,aE,aG];exact⟨cv.same,cv.same,e,e⟩
  .grind
  .omega
 .obtain rfl:i=x.2.length:=by omega
  refine aW a [(13,af)] rfl (by simp) (AK.leaveD rfl rfl ?_);refine cf a rfl ay ?_;refine AK.mH () [] rfl rfl rfl rfl rfl rfl rfl rfl ?_ rfl rfl rfl rfl (λj f=>absurd f (by simp));simp[cv]
abbrev KZ:dt:=kr (Eu cL) (λx=>Nb x) λx=>[x.2.length<=4000000,∀y∈x.2,y.2.length<=4000000]
def Qt:ef X 77 KZ:=.pz λx h=>AD x h.1 h.2
abbrev gK:A:=.c (.sl ab 0 0 λ_=>[])
def xq(s:bm)(m:s.1.length<=4000000)(d:∀p∈s.1,p.2.length<=4000000)(o:s.2.1.length<=4000000)(f:ox s)(l:s.2.2.length<=4000000):
  Ev X 27 [rq s] [] (.e (.agg [.bp 0 (.sl s.1.length 2 0 s.1.length),.bp 1 (.sl s.2.1.length 2 0 s.2.1.length),.c (.sl af 2 s.2.2.length (cH.fn s.2.2))])) [.buf 37 2 s.1.length (cP.fn s.1),.buf 41 2 s.2.1.length (gp.fn s.2.1)]:=by
 refine Ev.qK tok Tryz.func27 rfl rfl rfl λn=>?_;have a:bE X [(76,KY),(77,KZ)]:=.cons Qs (.cons Qt .nil);refine aW a [(1000002,ab)] rfl ay ?_;refine AK.sC 2 0 37 2 (cP.fn []) rfl rfl ?_;refine AK.sC 2 1 41 2 (gp.fn []) rfl rfl ?_;refine cf a rfl ay ?_;refine AK.cz 5 (λi=>i<=s.1.length) (λi:Nat=>[(1,.e (.one (.ptr 0 0))),(2,.e (.one (.ptr 1 0))),(3,.e (.one (.ptr 2 0))),(9,cP.sl s.1),(10,dI s.1.length),(11,dI i)])
  (λi=>[.cells 27 [.c (.sl af 2 s.1.length (cP.fn s.1)),.c (.sl af 2 s.2.1.length (gp.fn s.2.1)),.c (.sl af 2 s.2.2.length (cH.fn s.2.2))],.cells 27 [gK,gK,gK],.cells 27 [.bp 3 (.sl i 2 0 i),.bp 4 (.sl 0 2 0 0),gK],.buf 37 2 i (cP.fn (s.1.take i)),.buf 41 2 0 (gp.fn [])]) (λi=>s.1.length-i) 0 rfl ?_ rfl ?_ rfl (by omega) ?_
 .simp
 .simp[cv]
 intro i hi;by_cases h:i<s.1.length
 .have g:s.1.getD i (0,[])∈s.1:=by grind
  have b:s.1.getD (i:Int).toNat cP.b5=s.1.getD i (0,[]):=by grind
  refine aW a [(12,ab)] rfl ?_ (AK.aQ (i+1) rfl ?_ ?_ ?_ ?_)
  .have q:=d _ g;simp only[az,b,dO.list_fn,bA];exact⟨by omega,ay,ay,show(i+1)*32<=_ by omega,dO.aU _,q,by omega,by omega,db (by omega)⟩
  .simp
  .have e:=cP.kE s.1 h (0,[]);simp only[az.cat,az,b,dO.list_fn,aE,aG];exact⟨⟨cv.same,cv.same,cv.same⟩,⟨cv.same,cv.same,cv.same⟩,⟨rfl,cv.same⟩,e,cv.same⟩
  .grind
  .omega
 obtain rfl:i=s.1.length:=by omega
 rw[di];refine aW a [(12,af)] rfl (by simp) (AK.leaveD rfl rfl ?_);refine cf a rfl ay ?_;refine AK.cz 5 (λi=>i<=s.2.1.length) (λi:Nat=>[(1,.e (.one (.ptr 0 0))),(2,.e (.one (.ptr 1 0))),(3,.e (.one (.ptr 2 0))),(24,gp.sl s.2.1),(25,dI s.2.1.length),(26,dI i)])
  (λi=>[.cells 27 [.c (.sl af 2 s.1.length (cP.fn s.1)),.c (.sl af 2 s.2.1.length (gp.fn s.2.1)),.c (.sl af 2 s.2.2.length (cH.fn s.2.2))],.cells 27 [gK,gK,gK],.cells 27 [.bp 3 (.sl s.1.length 2 0 s.1.length),.bp 4 (.sl i 2 0 i),gK],.buf 37 2 s.1.length (cP.fn s.1),.buf 41 2 i (gp.fn (s.2.1.take i))]) (λi=>s.2.1.length-i) 0 rfl ?_ rfl ?_ rfl (by omega) ?_
 .simp
 .simp[cv]
 intro i hi;by_cases h:i<s.2.1.length
 .have g:s.2.1.getD i (0,[])∈s.2.1:=by grind
  have b:s.2.1.getD (i:Int).toNat gp.b5=s.2.1.getD i (0,[]):=by grind
  refine aW a [(27,ab)] rfl ?_ (AK.aQ (i+1) rfl ?_ ?_ ?_ ?_)
  .have q:=f _ g;simp only[az,b,cL.list_fn,bA];exact⟨by omega,ay,ay,show(i+1)*32<=_ by omega,cL.aU _,q.1,q.2,by omega,by omega,db (by omega)⟩
  .simp
  .have e:=gp.kE s.2.1 h (0,[]);simp only[az.cat,az,b,cL.list_fn,aE,aG];exact⟨⟨cv.same,cv.same,cv.same⟩,⟨cv.same,cv.same,cv.same⟩,⟨rfl,cv.same⟩,cv.same,e⟩
  .grind
  .omega
 obtain rfl:i=s.2.1.length:=by omega
 rw[di];refine aW a [(27,af)] rfl (by simp) (AK.leaveD rfl rfl ?_);refine cf a rfl ay ?_;refine AK.cQ (EE s.2.2 l) [] rfl ?_;refine cf a rfl ay ?_;refine AK.mH () [3,4] rfl rfl rfl rfl rfl rfl rfl rfl ?_ rfl rfl rfl rfl (λj k=>absurd k (by simp))
 .simp
def xt(s:bm)(m:s.1.length<=4000000)(d:∀p∈s.1,p.2.length<=4000000)(o:s.2.1.length<=4000000)(f:ox s)(l:s.2.2.length<=4000000):
  Ev X 27 [rq s] [] (.e (.agg [.bp 0 (.sl s.1.length 2 0 s.1.length),.bp 1 (.sl s.2.1.length 2 0 s.2.1.length),.bp 2 (.sl s.2.2.length 2 0 s.2.2.length)])) [.buf 37 2 s.1.length (cP.fn s.1),.buf 41 2 s.2.1.length (gp.fn s.2.1),.buf 106 2 s.2.2.length (cH.fn s.2.2)]:=by
 refine Ev.qK tok Tryz.func27 rfl rfl rfl λn=>?_;have a:bE X [(76,KY),(77,KZ)]:=.cons Qs (.cons Qt .nil);refine aW a [(1000002,ab)] rfl ay ?_;refine AK.sC 2 0 37 2 (cP.fn []) rfl rfl ?_;refine AK.sC 2 1 41 2 (gp.fn []) rfl rfl ?_;refine cf a rfl ay ?_;refine AK.cz 5 (λi=>i<=s.1.length) (λi:Nat=>[(1,.e (.one (.ptr 0 0))),(2,.e (.one (.ptr 1 0))),(3,.e (.one (.ptr 2 0))),(9,cP.sl s.1),(10,dI s.1.length),(11,dI i)])
  (λi=>[.cells 27 [.c (.sl af 2 s.1.length (cP.fn s.1)),.c (.sl af 2 s.2.1.length (gp.fn s.2.1)),.c (.sl af 2 s.2.2.length (cH.fn s.2.2))],.cells 27 [gK,gK,gK],.cells 27 [.bp 3 (.sl i 2 0 i),.bp 4 (.sl 0 2 0 0),gK],.buf 37 2 i (cP.fn (s.1.take i)),.buf 41 2 0 (gp.fn [])]) (λi=>s.1.length-i) 0 rfl ?_ rfl ?_ rfl (by omega) ?_
 .simp
 .simp[cv]
 intro i hi;by_cases h:i<s.1.length
 .have g:s.1.getD i (0,[])∈s.1:=by grind
  have b:s.1.getD (i:Int).toNat cP.b5=s.1.getD i (0,[]):=by grind
  refine aW a [(12,ab)] rfl ?_ (AK.aQ (i+1) rfl ?_ ?_ ?_ ?_)
  .have q:=d _ g;simp only[az,b,dO.list_fn,bA];exact⟨by omega,ay,ay,show(i+1)*32<=_ by omega,dO.aU _,q,by omega,by omega,db (by omega)⟩
  .simp
  .have e:=cP.kE s.1 h (0,[]);simp only[az.cat,az,b,dO.list_fn,aE,aG];exact⟨⟨cv.same,cv.same,cv.same⟩,⟨cv.same,cv.same,cv.same⟩,⟨rfl,cv.same⟩,e,cv.same⟩
  .grind
  .omega
 obtain rfl:i=s.1.length:=by omega
 rw[di];refine aW a [(12,af)] rfl (by simp) (AK.leaveD rfl rfl ?_);refine cf a rfl ay ?_;refine AK.cz 5 (λi=>i<=s.2.1.length) (λi:Nat=>[(1,.e (.one (.ptr 0 0))),(2,.e (.one (.ptr 1 0))),(3,.e (.one (.ptr 2 0))),(24,gp.sl s.2.1),(25,dI s.2.1.length),(26,dI i)])
  (λi=>[.cells 27 [.c (.sl af 2 s.1.length (cP.fn s.1)),.c (.sl af 2 s.2.1.length (gp.fn s.2.1)),.c (.sl af 2 s.2.2.length (cH.fn s.2.2))],.cells 27 [gK,gK,gK],.cells 27 [.bp 3 (.sl s.1.length 2 0 s.1.length),.bp 4 (.sl i 2 0 i),gK],.buf 37 2 s.1.length (cP.fn s.1),.buf 41 2 i (gp.fn (s.2.1.take i))]) (λi=>s.2.1.length-i) 0 rfl ?_ rfl ?_ rfl (by omega) ?_
 .simp
 .simp[cv]
 intro i hi;by_cases h:i<s.2.1.length
 .have g:s.2.1.getD i (0,[])∈s.2.1:=by grind
  have b:s.2.1.getD (i:Int).toNat gp.b5=s.2.1.getD i (0,[]):=by grind
  refine aW a [(27,ab)] rfl ?_ (AK.aQ (i+1) rfl ?_ ?_ ?_ ?_)
  .have q:=f _ g;simp only[az,b,cL.list_fn,bA];exact⟨by omega,ay,ay,show(i+1)*32<=_ by omega,cL.aU _,q.1,q.2,by omega,by omega,db (by omega)⟩
  .simp
  .have e:=gp.kE s.2.1 h (0,[]);simp only[az.cat,az,b,cL.list_fn,aE,aG];exact⟨⟨cv.same,cv.same,cv.same⟩,⟨cv.same,cv.same,cv.same⟩,⟨rfl,cv.same⟩,cv.same,e⟩
  .grind
  .omega
 obtain rfl:i=s.2.1.length:=by omega
 rw[di];refine aW a [(27,af)] rfl (by simp) (AK.leaveD rfl rfl ?_);refine cf a rfl ay ?_;refine AK.cQ (yR s.2.2 l) [] rfl ?_;refine cf a rfl ay ?_;refine AK.mH () [3,4,5] rfl rfl rfl rfl rfl rfl rfl rfl ?_ rfl rfl rfl rfl (λj k=>absurd k (by simp))
 .simp
def VQ{o:au}{x y:ak}(h:o.op=.call {callee:=.builtin .append,args:=#[x,y],argTypes:=#[35,35]}):lz ag o x y 66 i66 :=
 ⟨⟨35,35,i35,i35,h,(tok _ _ rfl),rfl,(tok _ _ rfl),rfl⟩,(tok _ _ rfl),by decide,by decide⟩
def Gy(l:List bn)(n:Nat):∀i,i<n->∀c∈dO.fn l i,uK c=ab:=by
 intro i _ c a;have:dO.fn l i=[.int .i64 (l.getD i dO.b5).1,.str (l.getD i dO.b5).2]:=rfl;rw[this]at a;rcases eE.1 a with rfl|a
 .rfl
 .rcases eE.1 a with rfl|a
  .rfl
  grind
abbrev Own(l:List bn):Type:={q:m9×List ah // gi 2 l.length (dO.fn l) q.2}
abbrev HW(l:List bn)(q:Own l):aP:=.b8 (fQ 66 2 q.1.1 l.length q.1.2)
abbrev AJ(l:List bn)(q:Own l):C:=.val (k9 q.1.1 l.length)
abbrev S3:Type:=Nat×m9×Nat×List ah
abbrev u3(x:S3):ah:=k9 x.2.1 x.2.2.1
def AE{α:Type}(q:α->Bool)(l:List α):Int:=match l.findIdx? q with|some i=>i|none=>-1
def OE{α:Type}{q:α->Bool}{t:List α}{i:Nat}{d:α}(hi:i<t.length)(h:q (t.getD i d)=ab)(a:∀j,j<i->q (t.getD j d)=af):AE q t=i:=by
 have:t.findIdx? q=aa i:=by grind[List.findIdx?_eq_some_iff_getElem]
 rw[AE,this]
def HP{α:Type}{q:α->Bool}{t:List α}{d:α}(a:∀j,j<t.length->q (t.getD j d)=af):AE q t=-1:=by
 have:t.findIdx? q=ae:=by grind[List.getElem_of_mem]
 rw[AE,this]
def EH{lo hi j:Nat}{z:List C}{es:Nat->List C}(h:¬(lo<=j/\j<hi)):tj lo hi z es j=es j:=aZ h
theorem bS{α:Type}{l:List α}{i:Nat}(h:i<l.length)(d:α):l.take (i+1)=l.take i++[l.getD i d]:=by grind[List.take_add_one]
def _root_.Go.AM.mh.Sr{α:Type}(c:mh α)(l:List α)(i:Nat)(x:α)(n:Nat)(b:n<=l.length):cv n (pj i (c.enc x) (c.fn l)) (c.fn (l.set i x)):=by intro q a;simp only[pj,mh.fn,AF];grind
abbrev Y3:=Int×Int×Int×Bs
abbrev TT(cs:List C):D:=.e (.one (.c (.rp cs)))
abbrev Gq(ps:List bG):C:=.sl af 2 ps.length (cP.fn ps)
abbrev EI(a:List gE):C:=.sl af 2 a.length (gp.fn a)
abbrev Ct(a:List (Int×Int)):C:=.sl af 2 a.length (cH.fn a)
def M4(s:bm)(l:Y3)(n:Nat)(a:l.2.1=n)(h:n<=s.2.2.length):az (fM s.2.2.length (aa l.2.1) ae):=by show 0<=l.2.1/\l.2.1<=(s.2.2.length:Int);omega
def Ss(n lo hi:Int):Ev X 20 [dI n,dI lo,dI hi] [] (dB (decide (lo<=n/\n<=hi))) []:=by
 refine Ev.bQ Tryz.func20 rfl λc=>?_;by_cases b:lo<=n
 .by_cases a:n<=hi
  .refine aX [(10,ab),(14,ab)] rfl (by simp;omega) (AK.bw rfl ?_);simp[b,a]
  .refine aX [(10,ab),(14,af)] rfl (by simp;omega) (AK.bw rfl ?_);simp;omega
 .refine aX [(10,af),(14,af)] rfl (by simp;omega) (AK.bw rfl ?_);simp;omega
abbrev Cu:dt:=Gg aI aI aI (λn lo hi=>dB (decide (lo<=n/\n<=hi))) λ_ _ _=>[]
def EJ:ef X 20 Cu:=.Na λn lo hi _=>Ss n lo hi
def HQ(n:Nat)(e:n<=4000000):Ev X 136 [dI n] [] (dI (cG n)) []:=by
 refine Ev.bQ Tryz.func136 rfl λf=>?_;by_cases d:n<1
 .refine aX [(6,ab),(9,ab)] rfl (by simp;omega) (AK.bw rfl ?_);have:cG n=0:=by simp[cG,d]
  simp[this]
 by_cases c:8<n
 .refine aX [(6,af),(9,ab)] rfl (by simp;omega) (AK.bw rfl ?_);have:cG n=0:=by simp[cG,c]
  simp[this]
 by_cases a:n<=2
 .refine aX [(6,af),(9,af),(10,ab)] rfl (by simp;omega) (AK.bw rfl ?_);have:cG n=2:=by simp only[cG,aZ (show¬(n<1∨8<n) by omega),bl a]
  simp[this]
 by_cases b:n<=4
 .refine aX [(6,af),(9,af),(10,af),(13,ab)] rfl (by simp;omega) (AK.bw rfl ?_);have:cG n=4:=by simp only[cG,aZ (show¬(n<1∨8<n) by omega),aZ a,bl b]
  simp[this]
 .refine aX [(6,af),(9,af),(10,af),(13,af)] rfl (by simp;omega) (AK.bw rfl ?_);have:cG n=8:=by simp only[cG,aZ (show¬(n<1∨8<n) by omega),aZ a,aZ b]
  simp[this]
def OF(l:List Bs)(p:Bs)(c:l.length<=4000000):Ev X 99 [cS.sl l,dS p] [] (dB (l.contains p)) []:=by
 refine Ev.bQ Tryz.func99 rfl λe=>?_;refine bt rfl ay ?_;refine AK.cz 0 (λi=>i<=l.length/\∀j,j<i->l.getD j []≠p) (λi:Nat=>[(0,cS.sl l),(1,dS p),(5,dI i)]) (λ_=>[]) (λi=>l.length-i) 0 rfl ?_ rfl ?_ rfl ⟨by omega,by omega⟩ ?_
 .simp
 .simp
 rintro i ⟨hi,b⟩;by_cases h:i<l.length
 .have a:l.getD (i:Int).toNat cS.b5=l.getD i []:=by grind
  by_cases d:l.getD i []=p
  .refine aX [(9,ab),(17,ab)] rfl ?_ (AK.fE (cp.zero rfl ?_))
   .simp only[az,a];grind
   .have:p∈l:=by grind
    simp[this]
  .refine aX [(9,ab),(17,af)] rfl ?_ (AK.aQ (i+1) rfl ?_ ?_ ?_ ?_)
   .simp only[az,a,bA];grind
   .simp
   .simp
   .grind
   .omega
 .refine aX [(9,af)] rfl (by simp;omega) (AK.leaveD rfl rfl ?_);refine bt rfl ay (AK.bw rfl ?_);have:¬p∈l:=λf=>by grind[List.getElem_of_mem]
  simp[this]
def K1(p:Bs)(b:bz p=ab):Ev X 135 [dS p] [] (dI (codeOf p)) []:=by
 refine Ev.bQ Tryz.func135 rfl λg=>?_;have a:=b;simp only[bz,bR,ba]at a;refine bt rfl ay ?_;refine AK.cz 0 (λi=>i<=p.length) (λi:Nat=>[(0,dS p),(3,dI (codeOf (p.take i))),(4,dI i)]) (λ_=>[]) (λi=>p.length-i) 0 rfl (by simp[codeOf]) rfl (by simp) rfl (by omega) ?_;intro i hi;by_cases h:i<p.length
 .have k:=jS b hi;have j:=jS b (i:=i+1) (by omega);have e:=uq h;have f:=gO a.2 (p.getD i 0) (xc h);have d:97<=cK p i/\cK p i<=122:=by unfold cK;omega
  refine aX [(8,ab)] rfl ?_ (AK.aQ (i+1) rfl ?_ ?_ ?_ ?_)
  .simp only[az,cN,bA];grind
  .have c:(cK p i-97) % 256=cK p i-97:=Int.emod_eq_of_lt (by omega) (by omega);rw[c]at e;simp[-aq,cN,e]
  .simp
  .grind
  grind
 .obtain rfl:i=p.length:=by omega
  refine aX [(8,af)] rfl (by simp) (AK.leaveD rfl rfl ?_);exact bt rfl ay (AK.bw rfl)
def Su:ef X 135 (kr aS (λp=>dI (codeOf p)) λp=>[bz p=ab]):=.pz λp h=>K1 p h
def K2(k:Int)(p:Bs)(hk:cd k=ab)(c:bz p=ab):Ev X 98 [dI k,dS p] [] (dI (en k p)) []:=by
 refine Ev.bQ Tryz.func98 rfl λg=>?_;have b:bE X [(135,kr aS (λp=>dI (codeOf p)) λp=>[bz p=ab])]:=.cons Su .nil;have a:=hk;simp only[cd,bR,ba]at a;have f:=qq c;refine cf b rfl ?_ (AK.bw rfl ?_)
 .have e:0<=codeOf p*(2*k+1):=Int.mul_nonneg f.1 (by omega);have d:codeOf p*(2*k+1)<=282429536481*199:=Int.mul_le_mul (by omega) (by omega) (by omega) (by omega);generalize codeOf p*(2*k+1)=m at e d;simp only[az,bA];grind
 .show (_:Int)=_;rfl
def xu:ef X 98 (oT aI aS (λk p=>dI (en k p)) λk p=>[cd k=ab,bz p=ab]):=.sD λk p h=>K2 k p h.1 h.2
def K3(l:List cn)(n:Int)(c:l.length<=4000000):Ev X 97 [oU.sl l,dI n] [] (dI (mJ l n)) []:=by
 refine Ev.bQ Tryz.func97 rfl λe=>?_;refine bt rfl ay ?_;refine AK.cz 0 (λi=>i<=l.length/\∀j,j<i->(l.getD j (0,0)).1≠n) (λi:Nat=>[(0,oU.sl l),(1,dI n),(5,dI i)]) (λ_=>[]) (λi=>l.length-i) 0 rfl ?_ rfl ?_ rfl ⟨by omega,by omega⟩ ?_
 .simp
 .simp
 rintro i ⟨hi,b⟩;by_cases h:i<l.length
 .have a:l.getD (i:Int).toNat oU.b5=l.getD i (0,0):=by grind
  by_cases d:(l.getD i (0,0)).1=n
  .refine aX [(9,ab),(18,ab)] rfl ?_ (AK.fE (cp.zero rfl ?_))
   .simp only[az,a];grind
   .have:mJ l n=(l.getD i (0,0)).2:=by
     have:l.find? (λs=>s.1==n)=aa (l.getD i (0,0)):=by grind[List.find?_eq_some_iff_getElem]
     rw[mJ,this]
    simp only[az,a];grind
  .refine aX [(9,ab),(18,af)] rfl ?_ (AK.aQ (i+1) rfl ?_ ?_ ?_ ?_)
   .simp only[az,a,bA];grind
   .simp
   .simp
   .grind
   .omega
 .refine aX [(9,af)] rfl (by simp;omega) (AK.leaveD rfl rfl ?_);refine bt rfl ay (AK.bw rfl ?_);have:mJ l n=0:=by
   have:l.find? (λs=>s.1==n)=ae:=by grind[List.getElem_of_mem]
   rw[mJ,this]
  simp[this]
theorem xw{n:Nat}(b:1<=n)(a:n<=8):n<=cG n/\cG n<=8:=by unfold cG;grind
abbrev Gr:dt:=kr aI (λn=>dI (cG n.toNat)) λn=>[0<=n/\n<=4000000]
def OG:ef X 136 Gr:=.pz λn h=>by
 obtain⟨m,rfl⟩:∃m:Nat,n=m:=⟨n.toNat,by have:=h.1;omega⟩
 exact HQ m (by have:=h.2;omega)
def OH(p:Bs)(c:bz p=ab):Ev X 103 [dS p] [] (dS (eO p)) []:=by
 refine Ev.bQ Tryz.func103 rfl λd=>?_;have b:bE X [(136,Gr)]:=.cons OG .nil;have a:=c;simp only[bz,bR,ba]at a;have g:=xw a.1.1 a.1.2;refine cf b rfl ?_ ?_
 .simp only[az];omega
 refine AK.cz 0 (λj=>p.length+j<=cG p.length) (λj:Nat=>[(0,dS (p++List.replicate j 46)),(3,dI (cG p.length))]) (λ_=>[]) (λj=>cG p.length-j) 0 rfl (by simp) rfl (by simp) rfl (by omega) ?_;intro j f;by_cases h:p.length+j<cG p.length
 .refine aW b [(10,ab)] rfl ?_ (AK.aQ (j+1) rfl ?_ ?_ ?_ ?_)
  .simp;omega
  .simp[List.replicate_succ']
  .simp
  .grind
  grind
 .have e:cG p.length-p.length=j:=by omega
  refine aW b [(10,af)] rfl (by simp;omega) (AK.leaveD rfl rfl ?_);refine cf b rfl ay (AK.bw rfl ?_);simp[eO,c,e]
def K4(s:cn):Ev X 100 [.e (.agg [.c (.int .i64 s.1),.c (.int .i64 s.2)])] [] (dB (eF s)) []:=by
 refine Ev.bQ Tryz.func100 rfl λf=>?_;have d:bE X [(20,Cu)]:=.cons EJ .nil;by_cases a:0<=s.1/\s.1<=999999999988
 .by_cases b:1<=s.2/\s.2<=99
  .refine aW d [(6,ab),(10,ab)] rfl (by simp[a,b]) (AK.bw rfl ?_);have:eF s=ab:=by simp[eF,a,b];omega
   simp[this]
  .refine aW d [(6,ab),(10,af)] rfl (by simp[a,b]<;>omega) (AK.bw rfl ?_);have:eF s=af:=by simp[eF,a];omega
   simp[this]
 .refine aW d [(6,af),(10,af)] rfl (by simp;omega) (AK.bw rfl ?_);have:eF s=af:=by simp[eF];omega
  simp[this]
abbrev K5:dt:=kr TQ (λs=>dB (eF s)) λ_=>[]
def Sw:ef X 100 K5:=.pz λs _=>K4 s
def Lr{α:Type}{q:α->Bool}{l:List α}(h:l.any q=ab):0<=AE q l:=by unfold AE;grind
theorem Ls{α:Type}{q:α->Bool}{l:List α}(h:l.any q=af):AE q l=-1:=by unfold AE;grind
def Lt(l:List (Int×Int))(b:Nat)(q:Int×Int->Bool)(g:∀x,x∈l->Ev X b [.e (.agg [.c (.int .i64 x.1),.c (.int .i64 x.2)])] [] (dB (q x)) []):
  Ev X 142 [cH.sl l,.e (.one (.c (.fn (.func b) [] [])))] [] (dI (AE q l)) []:=by
 refine Ev.bQ Tryz.func142 rfl λm=>?_;have d:=m.sl 0 rfl;refine bt rfl ay ?_;refine AK.j3 (λi=>i<=l.length/\∀j,j<i->q (l.getD j (0,0))=af) (λi:Nat=>[(0,cH.sl l),(1,.e (.one (.c (.fn (.func b) [] [])))),(7,dI l.length),(8,dI i)]) (λ_=>[]) (λi=>l.length-i) 0 rfl ?_ rfl ay ⟨by omega,by omega⟩ ?_
 .simp
 rintro i ⟨hi,a⟩;by_cases h:i<l.length
 .have n:l.getD i (0,0)∈l:=by grind
  have f:l.getD (i:Int).toNat cH.b5=l.getD i (0,0):=by grind
  refine aX [(9,ab)] rfl ?_ ?_
  .simp only[az];grind
  rw[f];refine AK.cQ (g _ n) [] rfl ?_;cases k:q (l.getD i (0,0))with
  |true =>
   refine aX [(16,ab)] rfl ?_ (AK.iD (cp.zero rfl ?_))
   .simp
   .simp[OE h k a]
  |false =>
   refine aX [(16,af)] rfl ?_ (AK.gf (i+1) rfl ?_ rfl ay ?_ ?_)
   .simp[bA];omega
   .simp
   .grind
   .omega
 .refine aX [(9,af)] rfl (by simp;omega) (AK.leave rfl rfl ?_);refine bt rfl ay (AK.bw rfl ?_);simp[HP (λj o=>a j (by omega))]
def Lu(l:List (Int×Int))(a:Nat)(q:Int×Int->Bool)(b:∀x,x∈l->Ev X a [.e (.agg [.c (.int .i64 x.1),.c (.int .i64 x.2)])] [] (dB (q x)) []):
  Ev X 108 [cH.sl l,.e (.one (.c (.fn (.func a) [] [])))] [] (dB (l.any q)) []:=by
 refine Ev.bQ Tryz.func108 rfl λd=>?_;refine bt rfl ay ?_;refine AK.cQ (Lt l a q b) [] rfl ?_;cases h:l.any q with
 |true =>
  exact aX [(8,ab)] rfl (db (Lr h)) (AK.bw rfl)
 |false =>
  exact aX [(8,af)] rfl (iP (by grind[Ls])) (AK.bw rfl)
end
abbrev AU(l:List bx):Prop:=l.Pairwise λa b=>bk a.1 b.1=ab
def xH{t:List bx}(h:cw t=ab):AU t:=by simp only[cw,bR]at h;have a:=dz.1 h.1;rw[AU,j6];intro i j hi hj Zf;rw[fileAt hi,fileAt hj];refine V3 (t:=t) (i:=j) (λk hk hkj=>?_) i Zf;have:=a k (by omega);simp only[gI,bR,jC,hI]at this;grind
theorem mP{t:List bx}:cw t=ab↔(∀f∈t,dD f.1=ab/\eg f.2=ab)/\AU t/\t.Pairwise (λa b=>clash a.1 b.1=af)/\t.length<=6:=by
 constructor
 .intro h;have l:=xH h;simp only[cw,bR,ba]at h;have c:=dz.1 h.1;refine⟨λf e=>?_,l,?_,h.2⟩
  .obtain⟨i,hi,rfl⟩:=dL e;have:=c i hi;simp only[gI,bR]at this;grind[fileAt]
  .rw[j6];intro i j hi hj Zf;have:=c j hj;simp only[gI,bR]at this;grind[fileAt]
 .rintro⟨g,n,m,d⟩;simp only[cw,bR,ba];refine⟨dz.2 λi hi=>?_,d⟩;have k:=g _ (rK hi);rw[fileAt hi]at k;simp only[gI,bR,jC,hI];grind[List.pairwise_iff_getElem,fileAt]
def xI{t:List bx}(q:bx->Bool)(h:cw t=ab):cw (t.filter q)=ab:=by grind[mP]
theorem LH{t:List bx}(p:Bs)(h:cw t=ab):cw (mb t p)=ab:=xI _ h
def EX{t:List bx}{p x:Bs}(h:(ek t p x).2=ab):cw (ek t p x).1=ab:=by unfold ek at h⊢;grind
end Go.AM.R1
namespace Go.AM
def eb.le{P:ar}{ι:Type}{X:Cx P}{f:aJ}{args:List D}{σ:List aP}{res tz:ι->D}{σ1:ι->List aP}(h:eb X f args σ res σ1){ps:ι->List Prop}(a:∀i,Ds (res i) (tz i)=aa (ps i))(b:∀i,az (ps i)):eb X f args σ tz σ1 :=
 ⟨h.1,λs vs hr hh S cs hS=>h.2 s vs hr hh S cs λi fr v s' hl ml iY st=>hS i fr v s' hl (oo (a i) (b i) ml) iY st⟩
namespace R1
variable {X:Cx ag}
structure lD(s:bm):Prop where
 p:s.1.length<=4000000
 p2:∀p∈s.1,p.2.length<=4000000
 sn:s.2.1.length<=4000000
 s2:ox s
 h:s.2.2.length<=4000000
end R1
def Tr.sz:Tr->Nat
 |.nil=>0
 |.nd l _ _ r=>l.sz+r.sz+1
namespace R1
variable {X:Cx ag}
def Po(t:Tr)(n:Int):Ev X 34 [.e (.one (.c (tC t))),dI n] [] (dI (t.find n)) []:=by
 refine Ev.bQ Tryz.func34 rfl λg=>?_;refine bt rfl ay ?_;refine AK.loop (λu:Tr=>u.find n=t.find n) (λu=>[(0,.e (.one (.c (tC u)))),(1,dI n)]) (λ_=>[]) (λu=>u.sz) t rfl (.cons rfl (cE rfl (by simp))) rfl ?_;intro u d;cases u with
 |nil =>
  refine bt rfl ay ?_;refine AK.law (tG rfl Tryz.underlying73 rfl rfl rfl) rfl rfl ?_;refine aX [(7,af),(15,af)] rfl (by simp) (AK.leave rfl rfl ?_);refine bt rfl ay ?_;refine AK.law (tG rfl Tryz.underlying73 rfl rfl rfl) rfl rfl ?_;refine bt rfl ay (AK.bw rfl ?_);rw[<-d];simp[Tr.find]
 |nd l a b r =>
  have e:(Tr.nd l a b r).find n=if n=a then b else if n<a then l.find n else r.find n:=rfl;rw[e]at d;refine bt rfl ay ?_;refine AK.law (Gi rfl Tryz.underlying73 rfl rfl rfl) rfl rfl ?_;by_cases h:n=a
  .subst h;rw[bl rfl]at d;refine aX [(7,ab),(15,af)] rfl (by simp) (AK.leave rfl rfl ?_);refine bt rfl ay ?_;refine AK.law (Gi rfl Tryz.underlying73 rfl rfl rfl) rfl rfl ?_;refine bt rfl ay (AK.bw rfl ?_);rw[<-d];simp
  rw[aZ h]at d;by_cases f:n<a
  .rw[bl f]at d;cases l<;>exact aX [(7,ab),(15,ab),(22,ab)] rfl (by simp only[az,lH,ba,aG,aE];and_intros<;>first|rfl|grind|exact f) ⟨_,d,by simp only[Tr.sz];omega,.cons rfl (cE rfl (by simp)),rfl⟩
  .rw[aZ f]at d;cases r<;>exact aX [(7,ab),(15,ab),(22,af)] rfl (by simp only[az,lH,bO,aG,aE];and_intros<;>first|rfl|grind|exact f) ⟨_,d,by simp only[Tr.sz];omega,.cons rfl (cE rfl (by simp)),rfl⟩
end R1
end Go.AM
namespace Go.AM.R1
section
open Go.Sort (pdq bitsLen ltInt Below)
variable {X:Cx ag}
def oL(l:List Int):List Int:=l.mergeSort λx y=>decide (x<=y)
def lL(l:List Int):(oL l).length=l.length:=List.length_mergeSort _
def Mg(l:List Int):pdq ltInt l.toArray 0 l.length (bitsLen l.length) ab ab=(oL l).toArray:=by have h:=Go.Sort.sortInt l;unfold Go.Sort.sort at h;rw[List.size_toArray]at h;exact Array.ext' (by rw[h];rfl)
theorem Wo(l:List Int):eI l.toArray=cI.fn l:=by funext j;simp only[eI,mh.fn,AF,cI,aq];simp
abbrev IZ(n:Nat)(l:List Int):aP:=.buf 3 1 n (cI.fn l)
def LG(l:List Int)(a:l.length<=4000000):Ev X 105 [kF l.length] [IZ l.length l] (.eX []) [IZ l.length (oL l)]:=by
 refine Ev.bQ Tryz.func105 rfl λb=>?_;refine c8 rfl (by simp only[az,bA];and_intros<;>omega) ?_;refine AK.cQ (Mh l.length a) [] rfl ?_;refine c8 rfl ay ?_;have c:=kz (x:=l.length) (k:=22) (by grind);have key:Ev X 138 [kF l.length,dI 0,dI l.length,dI (bitsLen l.length)] [IZ l.length l] (.eX []) [IZ l.length (oL l)]:=by have:=Th (X:=X) l.length a l.length l.toArray 0 l.length (bitsLen l.length) (by omega) (by simp) (by omega) (bh _) (by omega) (.inl rfl) (x:=0) rfl rfl rfl (Mg l).symm;grind[Wo]
 refine AK.cQ key [0] rfl ?_;refine c8 rfl ay ?_;exact cp.pv [0] rfl ay rfl rfl rfl ig
def lq(l:List Int):Nat->List Int
 |0=>[]
 |j+1=>if j≠0/\l.getD j 0=l.getD (j-1) 0 then lq l j else lq l j++[l.getD j 0]
def ez(l:List Int):List Int:=lq l l.length
def sO(l:List Int):∀j,(lq l j).length<=j
 |0=>bh _
 |j+1=>by have:=sO l j;simp only[lq];grind
def nQ{l:List Int}:∀{k:Nat},k<=l.length->(∀i,1<=i->i<k->l.getD i 0≠l.getD (i-1) 0)->lq l k=l.take k
 |0,_,_=>by simp[lq]
 |k+1,hk,h=>by rw[lq,aZ,nQ (by omega) λi a b=>h i a (by omega),bS (by omega) 0];grind
structure CoP(l:List Int)(k0:Nat)(k2:Nat)(ys:List Int):Prop where
 h1:1<=k2
 hj:k0+k2<=l.length
 len:ys.length=l.length
 lt:(lq l (k0+k2)).length<k0+k2
 done:ys.take (lq l (k0+k2)).length=lq l (k0+k2)
 rest:∀i,k0+k2<=i+1->ys.getD i 0=l.getD i 0
abbrev Wp(a:List Int):Type:={es:Nat->List C // ∀i,i<a.length->es i=cI.fn a i}
def EU(l:List Int)(I:l.length<=4000000):eb (ι:=Wp (ez l)) X 106 [kF l.length] [IZ l.length l] (λ_=>.e (.one (.bp 0 (.sl l.length 1 0 (ez l).length)))) (λes=>[.buf 3 1 l.length es.1]):=by
 refine eb.qM Tryz.func106 rfl rfl rfl λJ=>?_;by_cases A:l.length<2
 .have h:ez l=l:=by unfold ez;rw[nQ (bh _) λi _ _=>by omega,di]
  refine bH [(8,ab)] rfl (by simp only[az,ba];omega) (AK.nL ⟨cI.fn l,λi _=>by rw[h]⟩ (AK.de [0] rfl ?_ rfl rfl rfl ig));simp[h]
 refine bH [(8,af)] rfl (by simp only[az,bO];omega) ?_;refine AK.kU (S2:=Unit) 0 rfl rfl (λ_=>ez l=l) (λ_=>[(0,kF l.length)]) (λ_=>[IZ l.length l]) 1 (λk:Nat=>1<=k/\k<=l.length/\∀i,1<=i->i<k->l.getD i 0≠l.getD (i-1) 0) (λk=>[(0,kF l.length),(3,dI k)]) (λ_=>[IZ l.length l]) (λk=>l.length-k) 1 rfl ?_ rfl ?_ rfl ⟨bh _,by omega,λi H A=>by omega⟩ ?_ ?_
 .simp
 .simp
 .rintro out k ⟨C,hk,d⟩;by_cases F:k<l.length
  .have u:((k:Int)-1).toNat=k-1:=by omega
   have v:∀j,l.getD j cI.b5=l.getD j 0:=λ_=>rfl;by_cases g:l.getD k 0=l.getD (k-1) 0
   .refine bH [(13,ab),(25,ab)] rfl ?_ ?_
    .simp only[az,bC,b9,u,v,g,bA,ba,jB,aG,aE];and_intros<;>omega
    have hT:=nQ (l:=l) (by omega) d;have E:lq l (k+1)=l.take k:=by rw[lq,bl ⟨by omega,g⟩,hT]
    refine AK.kU (S2:=List Int) 2 rfl rfl (λc=>c.length=l.length/\c.take (ez l).length=ez l) (λ_=>[(0,kF l.length),(3,dI (ez l).length)]) (λc=>[IZ l.length c]) 1 (λs:Nat×List Int=>CoP l k s.1 s.2) (λs=>[(0,kF l.length),(3,dI (lq l (k+s.1)).length),(4,.e (.one (.bp 0 (.sl l.length 1 k (l.length-k))))),(5,dI s.1)]) (λs=>[IZ l.length s.2]) (λs=>l.length-s.1) (1,l) rfl ?_ rfl ?_ rfl ?_ ?_ ?_
    .simp only[az.cat,az,E,List.length_take,dc,bC,b9,aG,aE];exact⟨by omega,rfl,rfl⟩
    .simp
    .exact⟨bh _,by omega,rfl,by grind,by grind,λ_ _=>rfl⟩
    .rintro f ⟨b,c⟩ ⟨c1,c2,c3,c4,o,n⟩;simp only at c1 c2 c3 c4 o n;by_cases G:k+b<l.length
     .have w:((b:Int)-1).toNat=b-1:=by omega
      have q:∀j,c.getD j cI.b5=c.getD j 0:=λ_=>rfl;have r:c.getD (k+b) 0=l.getD (k+b) 0:=n _ (by omega);have x:c.getD (k+(b-1)) 0=l.getD (k+(b-1)) 0:=n _ (by omega);by_cases m:l.getD (k+b) 0=l.getD (k+(b-1)) 0
      .have p:lq l (k+(b+1))=lq l (k+b):=by rw[show k+(b+1)=k+b+1 by omega,lq,bl ⟨by omega,by rw[m,show k+b-1=k+(b-1) by omega]⟩]
       refine bH [(32,ab),(44,af)] rfl ?_ (AK.aQ (b+1,c) rfl ?_ ?_ ?_ ?_)
       .simp only[az,bC,b9,w,q,r,x,m,bA,ba,nZ,j9,jB,aG,aE];and_intros<;>first|trivial|omega
       .simp only[az.cat,az,p,aG,aE];omega
       .simp
       .exact⟨by grind,by grind,c3,by grind,by grind,λi hi=>n i (by grind)⟩
       .simp only;omega
      .have p:lq l (k+(b+1))=lq l (k+b)++[l.getD (k+b) 0]:=by rw[show k+(b+1)=k+b+1 by omega,lq,aZ];rintro⟨_,g⟩;exact m (by rw[g,show k+b-1=k+(b-1) by omega])
       refine bH [(32,ab),(44,ab)] rfl ?_ (AK.aQ (b+1,c.set (lq l (k+b)).length (l.getD (k+b) 0)) rfl ?_ ?_ ?_ ?_)
       .simp only[az,bC,b9,w,q,r,x,bA,ba,j8,eD,lH,dr,aG,aE];and_intros<;>first|exact m|omega
       .simp only[az.cat,az,p,cX,eU,gx,aG,aE];and_intros<;>omega
       .have e:=cI.Sr c (lq l (k+b)).length (l.getD (k+b) 0) l.length (by omega);simp only[az.cat,az,bC,b9,q,r,aE,aG];exact e
       .refine⟨by grind,by grind,by grind,by grind,?_,λi hi=>?_⟩
        .simp only;rw[p,cX,show ∀a:Int,[a].length=1 fromλ_=>rfl,ld,List.take_set,List.set_eq_of_length_le (by grind),o,fV (by omega)];rfl
        .simp only at hi⊢;rw[aq,j7 (by omega),<-aq];grind
       .simp only;omega
     .have y:k+b=l.length:=by omega
      have t:lq l (k+b)=ez l:=by rw[y];rfl
      refine bH [(32,af)] rfl ?_ (AK.leaveD rfl rfl ?_)
      .simp only[az,bO];omega
      rw[t]at o;exact f c ⟨c3,o⟩ rfl (by simp[t]) rfl (by simp)
    rintro c ⟨D,B⟩;have z:(ez l).length<=l.length:=sO l _;refine c8 rfl ?_ ?_
    .simp only[az];grind
    refine AK.law (bF.Q8 tok rfl rfl rfl rfl rfl rfl ?_) rfl rfl ?_
    .simp only[dc,b9];omega
    refine bt rfl ?_ (AK.fE ⟨⟨tj (0+dc 0 (aa ((ez l).length:Int))) (0+dc 0 (aa ((ez l).length:Int))+(dc l.length ae-dc 0 (aa ((ez l).length:Int)))) i3.zero (cI.fn c),λi hi=>?_⟩,cp.mk [0] rfl ?_ rfl rfl rfl ig⟩)
    .simp only[az];grind
    .have e:c[i]?=(ez l)[i]?:=by grind
     refine(EH (by simp only[dc,b9];omega)).trans ?_;simp only[mh.fn,AF,aq,e]
    .simp[dc];rfl
   .refine bH [(13,ab),(25,af)] rfl ?_ (AK.aQ (k+1) rfl ?_ ?_ ?_ ?_)
    .simp only[az,bC,b9,u,v,bA,ba,eD,dr,aG,aE];and_intros<;>first|exact g|omega
    .simp
    .simp
    .grind
    .omega
  .obtain rfl:k=l.length:=by omega
   refine bH [(13,af)] rfl (by simp) (AK.leaveD rfl rfl ?_);exact out () (by unfold ez;rw[nQ (bh _) d,di]) rfl (by simp) rfl (by simp)
 rintro⟨⟩ h;refine c8 rfl ay (AK.nL ⟨cI.fn l,λi _=>by rw[h]⟩ (AK.de [0] rfl ?_ rfl rfl rfl ig));simp[h]
end
section
variable {X:Cx ag}
def vD(l:List jU):List Int:=l.flatMap (·.2)
def _root_.Go.AM.mh.SX{α:Type}(c:mh α)(a b:List α)(n:Nat)(d:n=(a++b).length):cv n (cA a.length (c.fn a) (c.fn b)) (c.fn (a++b)):=by intro i hi;simp only[cA,mh.fn,AF,aq];grind
def AT(l:List Int):(ez l).length<=l.length:=sO l _
def K8(s:Bs)(i:Nat)(a:b6 s=ab)(f:3<=i)(hi:i<=s.length)(e:s.length<=4000000):Ev X 180 [dS s,dI i] [] (dB (jw s i)) []:=by
 refine Ev.bQ Tryz.func180 rfl λj=>?_;have k:=HF a (i-1) (by omega);have g:=HF a (i-2) (by omega);have h:=HF a (i-3) (by omega);have b:((iS s ((i:Int)-1)).toNat:Int)=cK s (i-1):=by grind[cN]
 have c:((iS s ((i:Int)-2)).toNat:Int)=cK s (i-2):=by grind[cN]
 have d:((iS s ((i:Int)-3)).toNat:Int)=cK s (i-3):=by grind[cN]
 refine bt rfl ?_ (AK.bw rfl ?_)
 .simp only[az,bA,b,c,d];omega
 .simp only[az,az.cat,b,c,d,jw,dl,aE];grind
abbrev K9:dt:=oT aS aI (λs i=>dB (jw s i.toNat)) λs i=>[b6 s=ab,3<=i,i<=s.length,s.length<=4000000]
def Sx:ef X 180 K9:=.sD λs i h=>by
 obtain⟨b,d,c,a⟩:=h;obtain⟨m,rfl⟩:∃m:Nat,i=m:=⟨i.toNat,by omega⟩
 exact K8 s m b (by omega) (by omega) a
def Sy(t:Bs)(f:Nat)(i:b6 t=ab)(l:f<=t.length)(n:t.length<=4000000):Ev X 152 [dS t,dI f] [] (dI (cutAt t f)) []:=by
 refine Ev.bQ Tryz.func152 rfl λo=>?_;have b:bE X [(180,K9)]:=.cons Sx .nil;refine cf b rfl ay ?_;refine AK.j3 (λj=>j<=5/\tH t f (5-j)=cutAt t f) (λj:Nat=>[(0,dS t),(1,dI f),(5,dI (3+j))]) (λ_=>[]) (λj=>5-j) 0 rfl ?_ rfl ay ⟨by omega,rfl⟩ ?_
 .simp
 rintro j ⟨p,a⟩;by_cases h:j<5
 .obtain⟨k,hk⟩:∃k,5-j=k+1:=⟨4-j,by omega⟩
  have d:f+(7-k)=f+3+j:=by omega
  rw[hk]at a;simp only[tH,d]at a;by_cases g:t.length<=f+3+j
  .rw[bl g]at a;refine aW b [(7,ab),(15,ab)] rfl ?_ (AK.iD (cp.zero rfl ?_))
   .simp only[az,bA,ba,aG,aE];omega
   .simp[<-a]
  rw[aZ g]at a;have e:((f:Int)+(3+(j:Int))).toNat=f+3+j:=by omega
  cases c:jw t (f+3+j)with
  |true =>
   rw[c,bl rfl]at a;refine aW b [(7,ab),(15,af),(22,ab)] rfl ?_ (AK.iD (cp.zero rfl ?_))
   .simp only[az,bA,e,c,i,ba,bO,aG,aE];omega
   .simp[<-a];omega
  |false =>
   rw[c,aZ (by simp)]at a;refine aW b [(7,ab),(15,af),(22,af)] rfl ?_ (AK.gf (j+1) rfl ?_ rfl ay ⟨by omega,by grind⟩ (by omega))
   .simp only[az,bA,e,c,i,ba,bO,aG,aE];omega
   .simp;omega
 .have e:cutAt t f=min (f+8) t.length:=by rw[<-a,show 5-j=0 by omega];rfl
  have m:bA .i64 ((min (f+8) t.length:Nat):Int):=by simp only[bA];omega
  refine aW b [(7,af)] rfl ?_ (AK.leave rfl rfl ?_)
  .simp only[az,bA,ba,bO];omega
  refine cf b rfl ?_ ?_
  .simp only[az,bA];omega
  refine AK.law (xi ((min (f+8) t.length:Nat):Int) rfl rfl rfl (by omega) m) rfl rfl ?_;refine cf b rfl ay (AK.bw rfl ?_);simp[e]
abbrev VG:dt:=oT aS aI (λs i=>dI (cutAt s i.toNat)) λs i=>[b6 s=ab,0<=i,i<=s.length,s.length<=4000000]
def Y4:ef X 152 VG:=.sD λs i h=>by
 obtain⟨b,d,c,a⟩:=h;obtain⟨m,rfl⟩:∃m:Nat,i=m:=⟨i.toNat,by omega⟩
 exact Sy s m b (by omega) a
abbrev mL(t:Bs):List Int:=(AG t).map λn:Nat=>(n:Int)
def La(t:Bs)(l:b6 t=ab)(m:t.length<=4000000):Ev X 134 [dS t] [] (cI.sl (mL t)) []:=by
 refine Ev.bQ Tryz.func134 rfl λo=>?_;have b:bE X [(152,VG)]:=.cons Y4 .nil;refine aW b [(1000003,ab)] rfl ay ?_;refine AK.iC 3 3 1 rfl rfl ?_;refine cf b rfl ay ?_;refine AK.cz 1 (λs:Nat×List Int=>s.1<=t.length/\s.2.length<=s.1/\∃k,t.length<=s.1+k/\mL t=s.2++(mM t k s.1).map λn:Nat=>(n:Int)) (λs=>[(0,dS t),(3,.e (.one (.vec 0 1 s.2.length (cI.fn s.2)))),(4,dI s.1)]) (λs=>[.vec 3 1 s.2.length (cI.fn s.2)]) (λs=>t.length-s.1) (0,[]) rfl ?_ rfl ?_ rfl ⟨by simp,by simp,t.length,by simp,by simp[mL,AG]⟩ ?_
 .simp
 .simp
 rintro⟨f,acc⟩ ⟨c,a,k,hk,d⟩;simp only at c a hk d;by_cases h:f<t.length
 .obtain⟨k,rfl⟩:∃k',k=k'+1:=⟨k-1,by omega⟩
  have j:=nD t f h;have i:=cI.cu acc (cutAt t f:Int);have g:acc.length+1=(acc++[(cutAt t f:Int)]).length:=by simp
  refine aW b [(9,ab)] rfl ?_ (AK.aQ (cutAt t f,acc++[(cutAt t f:Int)]) rfl ?_ ?_ ?_ ?_)
  .simp only[az,l,show i3.bytes=8 from rfl,ba,aG,aE];and_intros<;>omega
  .exact az.cat.2 ⟨rfl,az.cat.2 ⟨⟨g,i⟩,az.cat.2 ⟨rfl,ay⟩⟩⟩
  .exact az.cat.2 ⟨⟨g,i⟩,ay⟩
  .refine⟨j.2.1,by grind,k,by grind,?_⟩;rw[d];simp only[mM,bl h];simp
  grind
 .have e:mL t=acc:=by
   have:mM t k f=[]:=by cases k<;>simp[mM,h]
   grind
  refine aW b [(9,af)] rfl (by simp only[az,bO];omega) (AK.leaveD rfl rfl ?_);refine cf b rfl ay (AK.bw rfl ?_);rw[e];simp
abbrev Lb:dt:=kr aS (λt=>cI.sl (mL t)) λt=>[b6 t=ab,t.length<=4000000]
def Sz:ef X 134 Lb:=.pz λt h=>La t h.1 h.2
def drop_cons{α:Type}{l r:List α}{i:Nat}{x:α}(h:l.drop i=x::r)(d:α):i<l.length/\l.getD i d=x/\l.drop (i+1)=r:=by grind[List.drop_eq_nil_of_le,List.drop_eq_getElem_cons]
def yU(t:Bs):∀k f,(mM t k f).length<=k
 |0,_=>bh _
 |k+1,f=>by
  simp only[mM];split
  .have:=yU t k (cutAt t f);grind
  .simp
def OJ(t:Bs)(v:b6 t=ab)(A:t.length<=4000000):Ev X 96 [dS t] [] (cS.sl (pieces t)) []:=by
 refine Ev.bQ Tryz.func96 rfl λB=>?_;have c:bE X [(134,Lb)]:=.cons Sz .nil;have z:(mL t).length<=t.length:=by simp only[mL,lg];exact yU t _ _
 refine aW c [(1000002,ab)] rfl ay ?_;refine AK.iC 3 9 1 rfl rfl ?_;refine cf c rfl (by simp only[az,v];grind) ?_;refine AK.cz 1 (λs:Nat×Nat×List Bs=>s.1<=(mL t).length/\s.2.1<=t.length/\s.2.2.length<=s.1/\∃k,t.length<=s.2.1+k/\(mL t).drop s.1=((mM t k s.2.1).map λn:Nat=>(n:Int))/\pieces t=s.2.2++fj t k s.2.1) (λs=>[(0,dS t),(3,.e (.one (.vec 0 1 s.2.2.length (cS.fn s.2.2)))),(4,dI s.2.1),(5,cI.sl (mL t)),(6,dI s.1)]) (λs=>[.vec 9 1 s.2.2.length (cS.fn s.2.2)]) (λs=>(mL t).length-s.1) (0,0,[]) rfl ?_ rfl ?_ rfl ⟨by simp,by simp,by simp,t.length,by simp,by simp[mL,AG],by simp[pieces]⟩ ?_
 .simp
 .simp
 rintro⟨i,f,acc⟩ ⟨hi,j,d,k,hk,m,o⟩;simp only at hi j d hk m o;by_cases h:i<(mL t).length
 .have g:mM t k f≠[]:=by grind[List.length_drop]
  obtain⟨k,rfl⟩:∃k',k=k'+1:=by
   cases k with
   |zero=>exact absurd rfl g
   |succ k=>grind
  have a:f<t.length:=by
   rcases cC f t.length with h|h
   .exact h
   .exact absurd (by simp only[mM,aZ (show¬f<t.length by omega)]) g
  simp only[mM,bl a,pX]at m;obtain⟨_,y,u⟩:=drop_cons m 0;have x:=nD t f a;have l:(mL t).getD (i:Int).toNat cI.b5=(cutAt t f:Int):=by grind
  have b:sd t (aa (f:Int)) (aa (cutAt t f:Int))=(t.drop f).take (cutAt t f-f):=by simp[sd,List.drop_take]
  have p:=cS.cu acc ((t.drop f).take (cutAt t f-f));have r:acc.length+1=(acc++[(t.drop f).take (cutAt t f-f)]).length:=by simp
  refine aW c [(13,ab)] rfl ?_ (AK.aQ (i+1,cutAt t f,acc++[(t.drop f).take (cutAt t f-f)]) rfl ?_ ?_ ?_ ?_)
  .simp only[az,l,bA,fM,show i9.bytes=16 from rfl,ba,aG,aE];and_intros<;>omega
  .simp only[az.cat,az,l,b,aG,aE];and_intros<;>first|exact r|exact p|exactλ_ _=>rfl|omega
  .simp only[az.cat,az,l,b,aG,aE];and_intros<;>first|exact r|exact p
  .refine⟨by grind,x.2.1,by grind,k,by grind,u,?_⟩;rw[o];simp only[fj,bl a];simp
  grind
 .have e:pieces t=acc:=by
   have q:mM t k f=[]:=by grind[List.map_eq_nil_iff]
   have a:¬f<t.length:=by
    intro w;cases k with
    |zero=>omega
    |succ k=>simp only[mM,bl w]at q;cases q
   rw[o];cases k<;>simp[fj,a]
  refine aW c [(13,af)] rfl (by simp only[az,bO];omega) (AK.leaveD rfl rfl ?_);refine cf c rfl ay (AK.bw rfl ?_);rw[e];simp
abbrev Gu:dt:=kr aS (λt=>cS.sl (pieces t)) λt=>[b6 t=ab,t.length<=4000000]
def Lc:ef X 96 Gu:=.pz λt h=>OJ t h.1 h.2
def _root_.Go.AM.mh.pF{α:Type}(c:mh α)(l:List α)(x y:α):cv (l.length+1+1) (cA (l.length+1) (cA l.length (c.fn l) λq=>[c.enc x].getD q []) λq=>[c.enc y].getD q []) (c.fn (l++[x,y])):=by
 have h1:=c.cu l x;have h2:=c.cu (l++[x]) y;rw[show(l++[x]).length=l.length+1 by simp,show l++[x]++[y]=l++[x,y] by simp]at h2;intro q a;rw[<-h2 q a];simp only[cA];by_cases e:q<l.length+1
 .rw[bl e,bl e];exact h1 q e
 grind
abbrev SB(x:bn):D:=.e (.agg [.c (.int .i64 x.1),.c (.str x.2)])
def iM(x:bn)(acc:List bn×Bool)(y:bn):List bn×Bool:=if acc.2=ab then(acc.1++[y],ab)else if x.1<y.1 then(acc.1++[x,y],ab)else(acc.1++[y],af)
def yW(x:bn):∀(l:List bn)(a:List bn),(l.foldl (iM x) (a,ab))=(a++l,ab)
 |[],a=>by simp
 |y::r,a=>by rw[lh,show iM x (a,ab) y=(a++[y],ab)from rfl,yW x r];simp
def tN(x:bn):∀(l:List bn)(a:List bn),(if(l.foldl (iM x) (a,af)).2=ab then(l.foldl (iM x) (a,af)).1 else(l.foldl (iM x) (a,af)).1++[x])=a++gG l x
 |[],a=>by simp[gG]
 |y::r,a=>by
  rw[lh];by_cases h:x.1<y.1
  .rw[show iM x (a,af) y=(a++[x,y],ab) by simp[iM,h],yW];simp[gG,h]
  .rw[show iM x (a,af) y=(a++[y],af) by simp[iM,h],tN x r];simp[gG,h]
theorem yX(x:bn):∀(l:List bn)(a:List bn×Bool),(l.foldl (iM x) a).1.length<=a.1.length+l.length+1-(if a.2=ab then 1 else 0)
 |[],a=>by grind
 |y::r,a=>by rw[lh];have:=yX x r (iM x a y);unfold iM at this⊢;grind
abbrev m0(x:bn)(l:List bn)(i:Nat):List bn×Bool:=(l.take i).foldl (iM x) ([],af)
def yY{x:bn}{l:List bn}{i:Nat}(h:i<l.length):m0 x l (i+1)=iM x (m0 x l i) (l.getD i (0,[])):=by grind[bS]
def sF(x:bn)(l:List bn)(i:Nat):(m0 x l i).1.length<=l.length+1:=by grind[yX]
abbrev p3F(l:List bn)(x:bn)(i:Nat)(a:List bn×Bool):Fr:=[(0,dO.sl l),(3,.e (.one (.ptr 0 0))),(5,.e (.one (.vec 1 2 a.1.length (dO.fn a.1)))),(6,dB a.2),(7,dI i)]
abbrev Za(x:bn)(a:List bn):List aP:=[.cells 66 [.c (.int .i64 x.1),.c (.str x.2)],.vec 66 2 a.length (dO.fn a)]
def ON(l:List bn)(x:bn)(p:l.length<=4000000):Ev X 102 [dO.sl l,SB x] [] (dO.sl (gG l x)) []:=by
 refine Ev.bQ Tryz.func102 rfl λq=>?_;refine bH [(1000002,ab)] rfl ay ?_;refine AK.iC 5 66 2 rfl rfl ?_;refine c8 rfl ay ?_;refine AK.cz 2 (λi=>i<=l.length) (λi:Nat=>p3F l x i (m0 x l i)) (λi=>Za x (m0 x l i).1) (λi=>l.length-i) 0 rfl ?_ rfl ?_ rfl (by omega) ?_
 .simp[m0]
 .simp[m0]
 intro i hi;by_cases h:i<l.length
 .have n:=yY (x:=x) h;have e:=sF x l i;have f:l.getD (i:Int).toNat dO.b5=l.getD i (0,[]):=by grind
  generalize m0 x l i=a at n e;obtain⟨a,b⟩:=a;simp only at e;have k:=dO.cu a (l.getD i (0,[]));have m:=dO.pF a x (l.getD i (0,[]));cases b with
  |true =>
   have c:m0 x l (i+1)=(a++[l.getD i (0,[])],ab):=n;have j:a.length+1=(a++[l.getD i (0,[])]).length:=by simp
   refine bH [(12,ab)] rfl ?_ (AK.aQ (i+1) rfl ?_ ?_ ?_ ?_)
   .simp only[az,f,bA,show i66.bytes=24 from rfl,ba,aG,aE];and_intros<;>omega
   .rw[c];simp only[az.cat,az,f,aG,aE];and_intros<;>first|exact j|exact k|exactλ_ _=>rfl|rfl|omega
   .rw[c];simp only[az.cat,az,f,aG,aE];and_intros<;>first|exact j|exact k|exactλ_ _=>rfl|rfl|omega
   .grind
   .omega
  |false =>
   by_cases g:x.1<(l.getD i (0,[])).1
   .have c:m0 x l (i+1)=(a++[x,l.getD i (0,[])],ab):=by rw[n];simp only[iM,bl g];rfl
    have j:a.length+1+1=(a++[x,l.getD i (0,[])]).length:=by simp
    refine bH [(12,ab),(25,ab)] rfl ?_ (AK.aQ (i+1) rfl ?_ ?_ ?_ ?_)
    .simp only[az,f,bA,show i66.bytes=24 from rfl,g,jD,ba,aG,aE];and_intros<;>omega
    .rw[c];simp only[az.cat,az,f,aG,aE];and_intros<;>first|exact j|exact m|exactλ_ _=>rfl|rfl|omega
    .rw[c];simp only[az.cat,az,f,aG,aE];and_intros<;>first|exact j|exact m|exactλ_ _=>rfl|rfl|omega
    .grind
    .omega
   .have c:m0 x l (i+1)=(a++[l.getD i (0,[])],af):=by rw[n];simp only[iM,aZ g];rfl
    have j:a.length+1=(a++[l.getD i (0,[])]).length:=by simp
    refine bH [(12,ab),(25,af)] rfl ?_ (AK.aQ (i+1) rfl ?_ ?_ ?_ ?_)
    .simp only[az,f,bA,show i66.bytes=24 from rfl,ba,g,kA,nY,bO,aG,aE];and_intros<;>omega
    .rw[c];simp only[az.cat,az,f,aG,aE];and_intros<;>first|exact j|exact k|exactλ_ _=>rfl|rfl|omega
    .rw[c];simp only[az.cat,az,f,aG,aE];and_intros<;>first|exact j|exact k|exactλ_ _=>rfl|rfl|omega
    .grind
    .omega
 .obtain rfl:i=l.length:=by omega
  have d:=tN x l [];have e:=sF x l l.length;refine bH [(12,af)] rfl (by simp) (AK.leaveD rfl rfl ?_);have o:m0 x l l.length=l.foldl (iM x) ([],af):=by grind
  rw[o]at e⊢;generalize l.foldl (iM x) ([],af)=a at *;obtain⟨a,b⟩:=a;simp only[mn]at d e;cases b with
  |true =>
   simp only[cj]at d;subst d;exact c8 rfl ay (AK.bw rfl)
  |false =>
   simp only[jA,b7]at d;have k:=dO.cu a x;refine c8 rfl ?_ (AK.bw rfl ?_)
   .simp only[az,show i66.bytes=24 from rfl,aG,aE];grind
   .rw[<-d];simp only[az.cat,az,aG,aE];and_intros<;>first|exact k|simp
abbrev QA:dt:=oT (aL dO) TP (λl x=>dO.sl (gG l x)) λl _=>[l.length<=4000000]
def VN:ef X 102 QA:=.sD λl x h=>ON l x h
abbrev Zb(x:cn):D:=.e (.agg [.c (.int .i64 x.1),.c (.int .i64 x.2)])
def eW(x:cn)(acc:List cn×Bool)(y:cn):List cn×Bool :=
 if acc.2=ab then(if y.1=x.1 then acc else(acc.1++[y],ab))else if x.1<=y.1 then(if y.1=x.1 then(acc.1++[x],ab)else(acc.1++[x,y],ab))else(acc.1++[y],af)
def qt(x:cn):∀(l:List cn)(a:List cn),(l.foldl (eW x) (a,ab))=(a++l.filter λz=>!(z.1==x.1),ab)
 |[],a=>by simp
 |y::r,a=>by
  rw[lh];by_cases h:y.1=x.1
  .rw[show eW x (a,ab) y=(a,ab) by simp[eW,h],qt x r];simp[h]
  .rw[show eW x (a,ab) y=(a++[y],ab) by simp[eW,h],qt x r];simp[h]
def yZ(x:cn):∀(l:List cn)(a:List cn),(if(l.foldl (eW x) (a,af)).2=ab then(l.foldl (eW x) (a,af)).1 else(l.foldl (eW x) (a,af)).1++[x])=a++gq l x
 |[],a=>by simp[gq]
 |y::r,a=>by
  rw[lh];by_cases h:x.1<=y.1
  .have c:¬y.1<x.1:=by omega
   by_cases b:y.1=x.1
   .rw[show eW x (a,af) y=(a++[x],ab) by simp[eW,b],qt];simp[gq,b]
   .rw[show eW x (a,af) y=(a++[x,y],ab) by simp[eW,h,b],qt];simp[gq,c,b]
  .have c:y.1<x.1:=by omega
   rw[show eW x (a,af) y=(a++[y],af) by simp[eW,h],yZ x r];simp[gq,c]
theorem y0(x:cn):∀(l:List cn)(a:List cn×Bool),(l.foldl (eW x) a).1.length<=a.1.length+l.length+1-(if a.2=ab then 1 else 0)
 |[],a=>by grind
 |y::r,a=>by
  rw[lh];have c:=y0 x r (eW x a y);obtain⟨a,b⟩:=a;simp only[eU];cases b with
  |true =>
   by_cases d:y.1=x.1
   .rw[show eW x (a,ab) y=(a,ab) by simp[eW,d]]at c⊢;grind
   .rw[show eW x (a,ab) y=(a++[y],ab) by simp[eW,d]]at c⊢;grind
  |false =>
   by_cases h:x.1<=y.1
   .by_cases d:y.1=x.1
    .rw[show eW x (a,af) y=(a++[x],ab) by simp[eW,d]]at c⊢;grind
    .rw[show eW x (a,af) y=(a++[x,y],ab) by simp[eW,h,d]]at c⊢;grind
   .rw[show eW x (a,af) y=(a++[y],af) by simp[eW,h]]at c⊢;grind
abbrev sG(x:cn)(l:List cn)(i:Nat):List cn×Bool:=(l.take i).foldl (eW x) ([],af)
def HU{x:cn}{l:List cn}{i:Nat}(h:i<l.length):sG x l (i+1)=eW x (sG x l i) (l.getD i (0,0)):=by grind[bS]
def Cw(x:cn)(l:List cn)(i:Nat):(sG x l i).1.length<=l.length+1:=by grind[y0]
abbrev p4F(l:List cn)(x:cn)(i:Nat)(a:List cn×Bool):Fr:=[(0,oU.sl l),(3,.e (.one (.ptr 0 0))),(5,.e (.one (.vec 1 2 a.1.length (oU.fn a.1)))),(6,dB a.2),(7,dI i)]
abbrev p4B(x:cn)(a:List cn):List aP:=[.cells 81 [.c (.int .i64 x.1),.c (.int .i64 x.2)],.vec 81 2 a.length (oU.fn a)]
def OO(l:List cn)(x:cn)(p:l.length<=4000000):Ev X 101 [oU.sl l,Zb x] [] (oU.sl (gq l x)) []:=by
 refine Ev.bQ Tryz.func101 rfl λq=>?_;refine bH [(1000002,ab)] rfl ay ?_;refine AK.iC 5 81 2 rfl rfl ?_;refine c8 rfl ay ?_;refine AK.cz 2 (λi=>i<=l.length) (λi:Nat=>p4F l x i (sG x l i)) (λi=>p4B x (sG x l i).1) (λi=>l.length-i) 0 rfl ?_ rfl ?_ rfl (by omega) ?_
 .simp[sG]
 .simp[sG]
 intro i hi;by_cases h:i<l.length
 .have n:=HU (x:=x) h;have k:=Cw x l i;have f:l.getD (i:Int).toNat oU.b5=l.getD i (0,0):=by grind
  generalize sG x l i=a at n k;obtain⟨a,b⟩:=a;simp only at k;have j:=oU.cu a (l.getD i (0,0));have m:=oU.cu a x;have d:=oU.pF a x (l.getD i (0,0));cases b with
  |true =>
   by_cases heq:(l.getD i (0,0)).1=x.1
   .have c:sG x l (i+1)=(a,ab):=by rw[n];simp only[eW,cj,bl heq]
    refine bH [(12,ab),(38,af)] rfl ?_ (AK.aQ (i+1) rfl ?_ ?_ ?_ ?_)
    .simp only[az,f,bA,show i81.bytes=16 from rfl,ba,bO,j8,pT,hI,eD,lH,dr,heq,fa,nY,jB,j9,nZ,jD,kA,aG,aE];and_intros<;>omega
    .rw[c];simp only[az.cat,az,f,aG,aE];and_intros<;>first|exact j|exact m|exact d|exactλ_ _=>rfl|rfl|omega|simp
    .rw[c];simp only[az.cat,az,f,aG,aE];and_intros<;>first|exact j|exact m|exact d|exactλ_ _=>rfl|rfl|omega|simp
    .grind
    .omega
   .have c:sG x l (i+1)=(a++[l.getD i (0,0)],ab):=by rw[n];simp only[eW,cj,aZ heq]
    refine bH [(12,ab),(38,ab)] rfl ?_ (AK.aQ (i+1) rfl ?_ ?_ ?_ ?_)
    .simp only[az,f,bA,show i81.bytes=16 from rfl,ba,bO,j8,pT,hI,eD,lH,dr,heq,fa,nY,jB,j9,nZ,jD,kA,aG,aE];and_intros<;>omega
    .rw[c];simp only[az.cat,az,f,aG,aE];and_intros<;>first|exact j|exact m|exact d|exactλ_ _=>rfl|rfl|omega|simp
    .rw[c];simp only[az.cat,az,f,aG,aE];and_intros<;>first|exact j|exact m|exact d|grind|rfl|omega|simp
    .grind
    .omega
  |false =>
   by_cases g:x.1<=(l.getD i (0,0)).1
   .by_cases heq:(l.getD i (0,0)).1=x.1
    .have c:sG x l (i+1)=(a++[x],ab):=by rw[n];simp only[eW,bl g,bl heq];rfl
     refine bH [(12,ab),(25,ab),(38,af)] rfl ?_ (AK.aQ (i+1) rfl ?_ ?_ ?_ ?_)
     .simp only[az,f,bA,show i81.bytes=16 from rfl,ba,bO,j8,pT,hI,eD,lH,dr,g,heq,fa,nY,jB,j9,nZ,jD,kA,aG,aE];and_intros<;>omega
     .rw[c];simp only[az.cat,az,f,aG,aE];and_intros<;>first|exact j|exact m|exact d|exactλ_ _=>rfl|rfl|omega|simp
     .rw[c];simp only[az.cat,az,f,aG,aE];and_intros<;>first|exact j|exact m|exact d|grind|rfl|omega|simp
     .grind
     .omega
    .have c:sG x l (i+1)=(a++[x,l.getD i (0,0)],ab):=by rw[n];simp only[eW,bl g,aZ heq];rfl
     refine bH [(12,ab),(25,ab),(38,ab)] rfl ?_ (AK.aQ (i+1) rfl ?_ ?_ ?_ ?_)
     .simp only[az,f,bA,show i81.bytes=16 from rfl,ba,bO,j8,pT,hI,eD,lH,dr,g,heq,fa,nY,jB,j9,nZ,jD,kA,aG,aE];and_intros<;>omega
     .rw[c];simp only[az.cat,az,f,aG,aE];and_intros<;>first|exact j|exact m|exact d|exactλ_ _=>rfl|rfl|omega|simp
     .rw[c];simp only[az.cat,az,f,aG,aE];and_intros<;>first|exact j|exact m|exact d|grind|rfl|omega|simp
     .grind
     .omega
   .have heq:¬(l.getD i (0,0)).1=x.1:=by omega
    have c:sG x l (i+1)=(a++[l.getD i (0,0)],af):=by rw[n];simp only[eW,aZ g];rfl
    refine bH [(12,ab),(25,af),(38,ab)] rfl ?_ (AK.aQ (i+1) rfl ?_ ?_ ?_ ?_)
    .simp only[az,f,bA,show i81.bytes=16 from rfl,ba,bO,j8,pT,hI,eD,lH,dr,g,heq,fa,nY,jB,j9,nZ,jD,kA,aG,aE];and_intros<;>omega
    .rw[c];simp only[az.cat,az,f,aG,aE];and_intros<;>first|exact j|exact m|exact d|exactλ_ _=>rfl|rfl|omega|simp
    .rw[c];simp only[az.cat,az,f,aG,aE];and_intros<;>first|exact j|exact m|exact d|grind|rfl|omega|simp
    .grind
    .omega
 .obtain rfl:i=l.length:=by omega
  have e:=yZ x l [];have k:=Cw x l l.length;refine bH [(12,af)] rfl (by simp) (AK.leaveD rfl rfl ?_);have o:sG x l l.length=l.foldl (eW x) ([],af):=by grind
  rw[o]at k⊢;generalize l.foldl (eW x) ([],af)=a at *;obtain⟨a,b⟩:=a;simp only[mn]at e k;cases b with
  |true =>
   simp only[cj]at e;subst e;exact c8 rfl ay (AK.bw rfl)
  |false =>
   simp only[jA,b7]at e;have j:=oU.cu a x;refine c8 rfl ?_ (AK.bw rfl ?_)
   .simp only[az,show i81.bytes=16 from rfl,aG,aE];grind
   .rw[<-e];simp only[az.cat,az,aG,aE];and_intros<;>first|exact j|simp
abbrev QB:dt:=oT (aL oU) TQ (λl x=>oU.sl (gq l x)) λl _=>[l.length<=4000000]
def VO:ef X 101 QB:=.sD λl x h=>OO l x h
abbrev AH(p:bG):List cn:=p.2.map λx=>(x.1,p.1)
def ku(l:List bG)(i j:Nat):List cn:=cW (l.take i)++(AH (l.getD i (0,[]))).take j
def rv{l:List bG}{i:Nat}(h:i<l.length):cW (l.take (i+1))=cW (l.take i)++AH (l.getD i (0,[])):=by rw[bS h (0,[])];simp[cW]
theorem Cy(l:List bG)(i:Nat):(cW (l.take i)).length<=(cW l).length:=by
 have h:cW l=cW (l.take i)++cW (l.drop i):=by unfold cW;grind[List.take_append_drop]
 grind
def sH{l:List bG}{i j:Nat}(h:i<l.length):∃r,cW l=ku l i j++r:=by
 have a:cW l=cW (l.take (i+1))++cW (l.drop (i+1)):=by unfold cW;grind[List.take_append_drop]
 refine⟨(AH (l.getD i (0,[]))).drop j++cW (l.drop (i+1)),?_⟩;rw[a,rv h,ku,lS,lS];grind[List.take_append_drop]
theorem Lj(l:List cn)(x:cn):(gq l x).length<=l.length+1:=by
 induction l with
 |nil=>simp[gq]
 |cons y r a =>
  simp only[gq];grind
theorem tM(l:List cn):∀a:List cn,(l.foldl gq a).length<=a.length+l.length:=by
 induction l with
 |nil=>grind
 |cons y r b=>grind[Lj]
def EL(l:List bG)(x:l.length<=4000000)(v:(cW l).length<=100000):Ev X 56 [cP.sl l] [] (oU.sl (indexOf l)) []:=by
 refine Ev.bQ Tryz.func56 rfl λy=>?_;have a:bE X [(100,K5),(101,QB)]:=.cons Sw (.cons VO .nil);refine cx a rfl ay ?_;refine AK.cz 0 (λi=>i<=l.length/\(cW (l.take i)).all eF=ab) (λi:Nat=>[(0,cP.sl l),(3,oU.sl ((cW (l.take i)).foldl gq [])),(4,dI i)]) (λ_=>[]) (λi=>l.length-i) 0 rfl ?_ rfl ?_ rfl ⟨by omega,rfl⟩ ?_
 .simp[cW]
 .simp
 rintro i ⟨hi,c⟩;by_cases h:i<l.length
 .have e:l.getD (i:Int).toNat cP.b5=l.getD i (0,[]):=by grind
  have n:=rv h;refine bq a [(11,ab)] rfl (by simp only[az,ba];omega) ?_;refine AK.cz 0 (λj=>j<=(l.getD i (0,[])).2.length/\(ku l i j).all eF=ab) (λj:Nat=>[(0,cP.sl l),(3,oU.sl ((ku l i j).foldl gq [])),(4,dI i),(5,dI j)]) (λ_=>[]) (λj=>(l.getD i (0,[])).2.length-j) 0 rfl ?_ rfl ?_ rfl ⟨by omega,by simpa[ku]using c⟩ ?_
  .simp[ku]
  .simp
  rintro j ⟨w,o⟩;obtain⟨r,q⟩:=sH (l:=l) (j:=j) h;have k:(ku l i j).length<=100000:=by grind
  have f:=tM (ku l i j) [];simp only[gx]at f;have t:(l.getD i (0,[])).2.length<=100000:=by grind[Cy]
  by_cases u:j<(l.getD i (0,[])).2.length
  .have b:(l.getD i (0,[])).2.getD (j:Int).toNat dO.b5=(l.getD i (0,[])).2.getD j (0,[]):=by grind
   have g:ku l i (j+1)=ku l i j++[(((l.getD i (0,[])).2.getD j (0,[])).1,(l.getD i (0,[])).1)]:=by unfold ku;rw[lS];congr 1;rw[bS (by grind) (0,0)];grind
   cases d:eF (((l.getD i (0,[])).2.getD j (0,[])).1,(l.getD i (0,[])).1)with
   |false =>
    have s:indexOf l=[]:=by obtain⟨r,q⟩:=sH (l:=l) (j:=j+1) h;unfold indexOf;rw[aZ];grind
    refine bq a [(21,ab),(40,af)] rfl ?_ (AK.fE (cp.zero rfl ?_))
    .simp only[az,e,b,d,ba,aG,aE];and_intros<;>omega
    .rw[s];simp
   |true =>
    refine bq a [(21,ab),(40,ab)] rfl ?_ (AK.aQ (j+1) rfl ?_ ?_ ?_ ?_)
    .simp only[az,e,b,d,bA,oU.list_fn,ba,aG,aE];and_intros<;>first|exact oU.aU _|omega
    .rw[g];simp only[List.foldl_append,lh,List.foldl_nil,az.cat,az,e,b,oU.list_fn,aG,aE];and_intros<;>first|exactλ_ _=>rfl|rfl|omega
    .simp
    .grind
    .omega
  .have p:j=(l.getD i (0,[])).2.length:=by omega
   have m:ku l i j=cW (l.take (i+1)):=by rw[n,ku];grind[List.length_map]
   refine bq a [(21,af)] rfl ?_ (AK.leaveD rfl rfl ?_)
   .simp only[az,e,bO];and_intros<;>omega
   refine cx a rfl ?_ (AK.aQ (i+1) rfl ?_ ?_ ?_ ?_)
   .simp only[az,bA];omega
   .rw[m];simp
   .simp
   .grind
   .omega
 .obtain rfl:i=l.length:=by omega
  rw[di]at c⊢;refine bq a [(11,af)] rfl (by simp) (AK.leaveD rfl rfl ?_);refine cx a rfl ay (AK.bw rfl ?_);simp[indexOf,c]
abbrev Lk:dt:=kr (aL cP) (λl=>oU.sl (indexOf l)) λl=>[l.length<=4000000,(cW l).length<=100000]
def SC:ef X 56 Lk:=.pz λl h=>EL l h.1 h.2
abbrev xy:dt:=oT aI aS (λk p=>dI (en k p)) λk p=>[cd k=ab,bz p=ab]
abbrev Gw:dt:=kr aS (λp=>dS (eO p)) λp=>[bz p=ab]
def Ll:ef X 103 Gw:=.pz λp h=>OH p h
theorem Lm(l:List bn)(x:bn):(gG l x).length=l.length+1:=by
 induction l with
 |nil=>simp[gG]
 |cons y r a=>simp only[gG];split<;>simp[a]
def qu(k:Int)(ps:List Bs):List bn:=ps.foldl (λl p=>gG l (en k p,eO p)) []
theorem qv(k:Int)(ps:List Bs):(qu k ps).length=ps.length:=by
 have h:∀(ps:List Bs) (a:List bn),(ps.foldl (λl p=>gG l (en k p,eO p)) a).length=a.length+ps.length:=by
  intro ps;induction ps with
  |nil=>grind
  |cons p r b=>grind[Lm]
 have:=h ps [];rw[gx,bC]at this;exact this
def Ln{k:Int}{ps:List Bs}{i:Nat}(h:i<ps.length):qu k (ps.take (i+1))=gG (qu k (ps.take i)) (en k (ps.getD i []),eO (ps.getD i [])):=by unfold qu;grind[bS]
abbrev pkB(no:Int)(l:List bn):aP:=.cells 37 [.c (.int .i64 no),.c (.sl af 2 l.length (dO.fn l))]
theorem Cz{s r:Bs}(h:b6 s=ab)(a:∀b∈r,b∈s):b6 r=ab:=by unfold b6 at h⊢;grind
def xz{t:Bs}(b:b6 t=ab):∀k f,∀p∈fj t k f,bz p=ab
 |0,_,p,a=>by simp[fj]at a
 |k+1,f,p,a=>by
  simp only[fj]at a;split at a
  .rename_i h;have d:=nD t f h;rcases eE.1 a with rfl|a
   .have c:((t.drop f).take (cutAt t f-f)).length=cutAt t f-f:=by grind
    simp only[bz,bR,ba];grind[Cz]
   .exact xz b k _ p a
  grind
def nJ{t:Bs}(a:b6 t=ab):∀p∈pieces t,bz p=ab:=xz a _ _
def ur(t:Bs):∀k f,(fj t k f).length<=k
 |0,_=>bh _
 |k+1,f=>by
  simp only[fj];split
  .have:=ur t k (cutAt t f);grind
  .simp
def kv(t:Bs):(pieces t).length<=t.length:=ur t _ _
def gL(t:List bx):List Bs:=t.flatMap λf=>pieces f.2
def y3{t:List bx}{i:Nat}(h:i<t.length):gL (t.take (i+1))=gL (t.take i)++pieces (t.getD i ([],[])).2:=by rw[bS h ([],[])];simp[gL]
def Gx(t:List bx)(i:Nat):(gL (t.take i)).length<=(gL t).length:=by
 have h:gL t=gL (t.take i)++gL (t.drop i):=by unfold gL;grind[List.take_append_drop]
 grind
def tL(k:Int)(l:List cn)(ps:List Bs):∀a:List Bs,(ps.foldl (iF k l) a).length<=a.length+ps.length:=by
 induction ps with
 |nil=>grind
 |cons p r b =>
  intro a;have d:=b (iF k l a p);have c:(iF k l a p).length<=a.length+1:=by unfold iF;split<;>simp
  grind
abbrev Lo:dt:=oT (aL oU) aI (λl n=>dI (mJ l n)) λl _=>[l.length<=4000000]
def SD:ef X 97 Lo:=.sD λl n h=>K3 l n h
abbrev QC:dt:=oT (aL cS) aS (λl p=>dB (l.contains p)) λl _=>[l.length<=4000000]
def VP:ef X 99 QC:=.sD λl p h=>OF l p h
abbrev dV0(a:List Bs):D:=.e (.one (.vec 0 1 a.length (cS.fn a)))
structure sE(t:List bx):Prop where
 len:t.length<=4000000
 sZ:∀f∈t,b6 f.2=ab/\f.2.length<=4000000
 all:(gL t).length<=100000
def Lf(k:Int)(t:List bx)(l:List cn)(hk:cd k=ab)(r:sE t)(C:l.length<=4000000):Ev X 55 [dI k,cF.sl t,oU.sl l] [] (cS.sl (c6 k t l)) []:=by
 refine Ev.bQ Tryz.func55 rfl λD=>?_;have c:bE X [(96,Gu),(98,xy),(97,Lo),(99,QC)]:=.cons Lc (.cons xu (.cons SD (.cons VP .nil)));refine bq c [(1000002,ab)] rfl ay ?_;refine AK.iC 7 9 1 rfl rfl ?_;refine cx c rfl ay ?_;refine AK.cz 1 (λi=>i<=t.length) (λi:Nat=>[(0,dI k),(1,cF.sl t),(2,oU.sl l),(7,dV0 ((gL (t.take i)).foldl (iF k l) [])),(8,dI i)]) (λi=>[.vec 9 1 ((gL (t.take i)).foldl (iF k l) []).length (cS.fn ((gL (t.take i)).foldl (iF k l) []))]) (λi=>t.length-i) 0 rfl ?_ rfl ?_ rfl (by omega) ?_
 .simp[gL]
 .simp[gL]
 intro i hi;by_cases h:i<t.length
 .have u:t.getD (i:Int).toNat cF.b5=t.getD i ([],[]):=by grind
  have n:t.getD i ([],[])∈t:=by grind
  obtain⟨w,q2⟩:=r.sZ _ n;have d:=y3 h;have q:=Gx t (i+1);have x:=r.all;have z:=r.len;have s:=nJ w;generalize t.getD i ([],[])=f at *;rw[d,cX]at q;refine bq c [(15,ab)] rfl ?_ ?_
  .simp only[az,u,w,ba,aG,aE];and_intros<;>omega
  rw[u];refine AK.cz 1 (λj=>j<=(pieces f.2).length) (λj:Nat=>[(0,dI k),(1,cF.sl t),(2,oU.sl l),(7,dV0 ((gL (t.take i)++(pieces f.2).take j).foldl (iF k l) [])),(8,dI i),(9,cS.sl (pieces f.2)),(10,dI j)]) (λj=>[.vec 9 1 ((gL (t.take i)++(pieces f.2).take j).foldl (iF k l) []).length (cS.fn ((gL (t.take i)++(pieces f.2).take j).foldl (iF k l) []))]) (λj=>(pieces f.2).length-j) 0 rfl ?_ rfl ?_ rfl (by omega) ?_
  .simp
  .simp
  intro j B;have o:=tL k l (gL (t.take i)++(pieces f.2).take j) [];simp only[gx,cX,List.length_take]at o;by_cases A:j<(pieces f.2).length
  .have b:(pieces f.2).getD (j:Int).toNat cS.b5=(pieces f.2).getD j []:=by grind
   have g:bz ((pieces f.2).getD j [])=ab:=s _ (by grind);have a:(gL (t.take i)++(pieces f.2).take (j+1)).foldl (iF k l) []=iF k l ((gL (t.take i)++(pieces f.2).take j).foldl (iF k l) []) ((pieces f.2).getD j []):=by grind[bS]
   generalize(gL (t.take i)++(pieces f.2).take j).foldl (iF k l) []=out at *;generalize(pieces f.2).getD j []=p at *;have v:=cS.cu out p;by_cases e:mJ l (en k p)=0
   .cases y:out.contains p with
    |true =>
     rw[iF,aZ (by grind)]at a;refine bq c [(27,ab),(38,ab),(45,ab)] rfl ?_ (AK.aQ (j+1) rfl ?_ ?_ ?_ ?_)
     .simp only[az,b,hk,g,e,y,bA,cS.list_fn,oU.list_fn,jB,ba,aG,aE];and_intros<;>first|exact cS.aU _|exact oU.aU _|omega
     .rw[a];simp
     .rw[a];simp
     .grind
     .omega
    |false =>
     rw[iF,bl (by grind)]at a;refine bq c [(27,ab),(38,ab),(45,af)] rfl ?_ (AK.aQ (j+1) rfl ?_ ?_ ?_ ?_)
     .simp only[az,b,hk,g,e,y,bA,show i9.bytes=16 from rfl,cS.list_fn,oU.list_fn,jB,ba,aG,aE];and_intros<;>first|exact cS.aU _|exact oU.aU _|omega
     .rw[a];simp only[az.cat,az,b,cX,eU,gx,aG,aE];and_intros<;>first|exactλ_ _=>rfl|exact v|rfl|omega
     .rw[a];simp only[az.cat,az,b,cX,eU,gx,aG,aE];and_intros<;>first|exact v|rfl|omega
     .grind
     .omega
   .rw[iF,aZ (by grind)]at a;refine bq c [(27,ab),(38,af)] rfl ?_ (AK.aQ (j+1) rfl ?_ ?_ ?_ ?_)
    .simp only[az,b,hk,g,bA,oU.list_fn,eD,dr,e,nY,ba,aG,aE];and_intros<;>first|exact oU.aU _|omega
    .rw[a];simp
    .rw[a];simp
    .grind
    .omega
  .have m:j=(pieces f.2).length:=by omega
   refine bq c [(27,af)] rfl (by simp only[az,bO];omega) (AK.leaveD rfl rfl ?_);refine cx c rfl ?_ (AK.aQ (i+1) rfl ?_ ?_ ?_ ?_)
   .simp only[az,bA];omega
   .rw[d,m,di];simp
   .rw[d,m,di];simp
   .grind
   .omega
 .obtain rfl:i=t.length:=by omega
  rw[di];refine bq c [(15,af)] rfl (by simp) (AK.leaveD rfl rfl ?_);refine cx c rfl ay (AK.bw rfl ?_);simp[c6,gL]
abbrev lF(k:Int)(ps:List Bs):List Int:=ps.map (en k)
abbrev m6(k:Int)(t:List bx):List jU:=t.map (oJ k)
abbrev QD(no:Int)(ls:List jU):List aP:=[.cells 41 [.c (.int .i64 0),.c (.sl ab 0 0 λ_=>[])],.cells 41 [.c (.int .i64 no),.vec 2 2 ls.length (cL.fn ls)],.vec 69 2 ls.length (cL.fn ls)]
def OK(no k:Int)(t:List bx)(hk:cd k=ab)(q:sE t):Ev X 58 [dI no,dI k,cF.sl t] [] (Nb (fp no k t)) []:=by
 refine Ev.qK tok Tryz.func58 rfl rfl rfl λz=>?_;have a:bE X [(96,Gu),(98,xy)]:=.cons Lc (.cons xu .nil);refine bq a [(1000002,ab)] rfl ay ?_;refine AK.g7 1 1 69 2 (cL.fn []) rfl rfl ?_;refine cx a rfl ay ?_;refine AK.cz 3 (λi=>i<=t.length) (λi:Nat=>[(1,dI k),(2,cF.sl t),(6,.e (.one (.ptr 0 0))),(7,.e (.one (.ptr 1 0))),(8,dI i)]) (λi=>QD no (m6 k (t.take i))) (λi=>t.length-i) 0 rfl ?_ rfl ?_ rfl (by omega) ?_
 .simp
 .simp
 intro i hi;by_cases h:i<t.length
 .have l:t.getD (i:Int).toNat cF.b5=t.getD i ([],[]):=by grind
  have d:t.getD i ([],[])∈t:=by grind
  obtain⟨r,q2⟩:=q.sZ _ d;have u:=q.len;have m:=nJ r;have x:=kv (t.getD i ([],[])).2;have g:m6 k (t.take (i+1))=m6 k (t.take i)++[oJ k (t.getD i ([],[]))]:=by grind[bS]
  have v:(m6 k (t.take i)).length=i:=by grind
  generalize t.getD i ([],[])=f at *;generalize m6 k (t.take i)=ls at *;refine bq a [(18,ab),(1000007,ab)] rfl ?_ ?_
  .simp only[az,l,r,ba,aG,aE];and_intros<;>omega
  rw[l];refine AK.iC 10 3 1 rfl rfl ?_;refine cx a rfl ay ?_;refine AK.cz 4 (λj=>j<=(pieces f.2).length) (λj:Nat=>[(1,dI k),(2,cF.sl t),(6,.e (.one (.ptr 0 0))),(7,.e (.one (.ptr 1 0))),(8,dI i),(9,cS.sl (pieces f.2)),(10,.e (.one (.vec 3 1 j (cI.fn (lF k ((pieces f.2).take j)))))),(11,dI j)]) (λj=>QD no ls++[.vec 3 1 j (cI.fn (lF k ((pieces f.2).take j)))]) (λj=>(pieces f.2).length-j) 0 rfl ?_ rfl ?_ rfl (by omega) ?_
  .simp
  .simp
  intro j p;by_cases y:j<(pieces f.2).length
  .have b:(pieces f.2).getD (j:Int).toNat cS.b5=(pieces f.2).getD j []:=by grind
   have o:bz ((pieces f.2).getD j [])=ab:=m _ (by grind);have c:=cI.cu (lF k ((pieces f.2).take j)) (en k ((pieces f.2).getD j []));rw[show(lF k ((pieces f.2).take j)).length=j by grind,show lF k ((pieces f.2).take j)++[en k ((pieces f.2).getD j [])]=lF k ((pieces f.2).take (j+1)) by grind[bS]]at c;refine bq a [(31,ab)] rfl ?_ (AK.aQ (j+1) rfl ?_ ?_ ?_ ?_)
   .simp only[az,b,hk,o,bA,show i3.bytes=8 from rfl,ba,aG,aE];and_intros<;>omega
   .simp only[az.cat,az,b,aG,aE];and_intros<;>first|exactλ_ _=>rfl|exact c|rfl|omega
   .simp only[az.cat,az,b,aG,aE];and_intros<;>first|exactλ_ _=>rfl|exact c|rfl|omega
   .grind
   .omega
  .have n:j=(pieces f.2).length:=by omega
   rw[n,di];have c:=cL.cu ls (oJ k f);have s:ls.length+1=(ls++[oJ k f]).length:=by simp
   have w:cL.enc (oJ k f)=[C.str f.1,C.sl af 1 (pieces f.2).length (cI.fn (lF k (pieces f.2)))]:=by show[C.str f.1,C.sl af 1 (lF k (pieces f.2)).length (cI.fn (lF k (pieces f.2)))]=_;grind
   rw[w,<-g]at c;rw[<-g]at s;refine bq a [(31,af)] rfl (by simp only[az,bO];omega) (AK.leaveD rfl rfl ?_);refine cx a rfl ?_ (AK.aQ (i+1) rfl ?_ ?_ ?_ ?_)
   .simp only[az,bA,show i69.bytes=40 from rfl,aG,aE];and_intros<;>omega
   .simp
   .simp only[az.cat,az,l,aG,aE];and_intros<;>first|exact cv.same|exact c|exact s|rfl
   .grind
   .omega
 .obtain rfl:i=t.length:=by omega
  rw[di];refine bq a [(18,af)] rfl (by simp) (AK.leaveD rfl rfl ?_);refine cx a rfl ay ?_;refine AK.mH () [] rfl rfl rfl rfl rfl rfl rfl rfl ?_ rfl rfl rfl rfl (λj p=>absurd p (by simp));simp[fp]
def nN(f g:Nat->List C):cA 0 f g=g:=by funext i;simp[cA]
abbrev vB(s:bm):aP:=.cells 27 [.c (.sl af 2 s.1.length (cP.fn s.1)),.c (.sl af 2 s.2.1.length (gp.fn s.2.1)),.c (.sl af 2 s.2.2.length (cH.fn s.2.2))]
def Dw(ps:List bG)(q:Nat->ah)(j:Nat):List C:=[.int .i64 (ps.getD j (0,[])).1,.val (q j)]
def Bm(ps:List bG)(q:Nat->ah)(i:Nat):Mem->Prop:=λM=>∀j,j<i->Rd M (q j) (.sl af 2 (ps.getD j (0,[])).2.length (dO.fn (ps.getD j (0,[])).2))
def I3(q:Nat->ah)(i:Nat)(v:ah)(j:Nat):ah:=if j=i then v else q j
def MK{ps:List bG}{q:Nat->ah}{i:Nat}{v:ah}:cv (i+1) (cA i (Dw ps q) (λj=>([[.int .i64 (ps.getD i (0,[])).1,.val v]]:List (List C)).getD j [])) (Dw ps (I3 q i v)):=by
 intro j a;by_cases h:j<i
 .simp[cA,h,Dw,I3,show j≠i by omega]
 .obtain rfl:j=i:=by omega
  simp[cA,Dw,I3]
def Bm.up{ps:List bG}{q:Nat->ah}{i:Nat}{bf:m9}{xs:List ah}(o:0<(ps.getD i (0,[])).2.length)(k:gi 2 (ps.getD i (0,[])).2.length (dO.fn (ps.getD i (0,[])).2) xs)(m:∃b cap,bf=.row b cap/\(ps.getD i (0,[])).2.length<=cap/\cap<=9223372036854775807):
  ∀M M',wX M M'->Bm ps q i M->(∀b cap,bf=.row b cap->∀j v,xs[j]?=aa v->M' b j=aa v)->Bm ps (I3 q i (k9 bf (ps.getD i (0,[])).2.length)) (i+1) M':=by
 intro M M' hle hK hx j hj;by_cases h:j<i
 .have:=(hK j h).mono hle;simpa[I3,show j≠i by omega]using this
 .obtain rfl:j=i:=by omega
  obtain⟨b,cap,rfl,f,g⟩:=m;rw[I3,bl rfl];have hx:=hx b cap rfl;refine .sl b 0 (λd e=>xs.getD (d*2+e) ai) f g (λh=>by cases h) (λd a=>k.wid d a) (λ_=>rfl) (λd a e c l=>?_) λd a e c l=>?_
  .obtain⟨v,v1,n⟩:=k.at' d a e c l;grind
  .obtain⟨v,v1,n⟩:=k.at' d a e c l;grind
abbrev PG(s:bm)(i:Nat)(es:Nat->List C)(j:Nat)(l:List gE)(K:Mem->Prop):List aP:=[vB s,.cells 27 [gK,gK,gK],.buf 37 2 i es,.buf 41 2 j (gp.fn l),.buf 106 2 s.2.2.length (cH.fn s.2.2),.cells 27 [.bp 2 (.sl i 2 0 i),.bp 3 (.sl j 2 0 j),.bp 4 (.sl s.2.2.length 2 0 s.2.2.length)],.b8 (PM K)]
def Fo(s:bm)(z:∀p∈s.1,0<p.2.length)(F:s.1.length<=4000000)(m:∀p∈s.1,p.2.length<=4000000)(B:s.2.1.length<=4000000)(t:ox s)(C:s.2.2.length<=4000000):
  eb (ι:=Nat->ah) X 53 [rq s] [] (λ_=>.e (.agg [.bp 0 (.sl s.1.length 2 0 s.1.length),.bp 1 (.sl s.2.1.length 2 0 s.2.1.length),.bp 2 (.sl s.2.2.length 2 0 s.2.2.length)]))
   (λq=>[.buf 37 2 s.1.length (Dw s.1 q),.buf 41 2 s.2.1.length (gp.fn s.2.1),.buf 106 2 s.2.2.length (cH.fn s.2.2),.b8 (PM (Bm s.1 q s.1.length))]):=by
 refine eb.rZ tok Tryz.func53 rfl rfl rfl λG=>?_;refine bH [(1000001,ab)] rfl ay ?_;refine AK.region ?_;refine qE [] 5 rfl ay ?_;refine AK.F0 9 37 2 (cP.fn []) rfl ?_;refine AK.F0 10 41 2 (gp.fn []) rfl ?_;refine AK.F0 11 106 2 (cH.fn []) rfl ?_;refine bH [(1000002,ab)] rfl ?_ ?_
 .simp only[az,show i106.bytes=16 from rfl,aG,aE];grind
 refine AK.spare 66 2 ?_;refine AK.Nv (ι:=Unit) 6 (λ_=>PM (Bm s.1 (λ_=>ai) 0)) rfl (λv w h=>⟨(),PM.start (λ_ _ h=>absurd h (fL _)) v w h⟩) λ_=>?_;refine c8 rfl ay ?_;refine AK.cz 7 (λx:Nat×(Nat->ah)=>x.1<=s.1.length) (λx=>[(1,.e (.one (.ptr 0 0))),(2,.e (.one (.ptr 1 0))),(3,.e (.one (.ptr 5 0))),(4,dI x.1)]) (λx=>PG s x.1 (Dw s.1 x.2) 0 [] (Bm s.1 x.2 x.1)) (λx=>s.1.length-x.1) (0,λ_=>ai) rfl ?_ rfl ?_ rfl (lk _) ?_
 .simp
 .simp[cv,nN];rfl
 rintro⟨i,d⟩ hi;simp only at hi;by_cases h:i<s.1.length
 .have g:s.1.getD i (0,[])∈s.1:=by grind
  have a:s.1.getD (i:Int).toNat cP.b5=s.1.getD i (0,[]):=by grind
  have q:=m _ g;have b:=z _ g;rw[<-a]at b q;refine aX [(20,ab),(1000005,ab)] rfl ?_ ?_
  .simp only[az,bA,ba,aG,aE];omega
  refine AK.Kc (ι:=Own (s.1.getD (i:Int).toNat cP.b5).2) ja 15 18 8 (λk=>bu k 14)
   (λk=>[.e (.one (.ptr 5 0)),.e (.one (.bp 2 (.sl i 2 0 i))),.e (.one (.ptr 0 0)),cP.sl s.1,dI i,TT [.int .i64 (s.1.getD (i:Int).toNat cP.b5).1,sP (s.1.getD (i:Int).toNat cP.b5)],TT [.int .i64 (s.1.getD (i:Int).toNat cP.b5).1,sP (s.1.getD (i:Int).toNat cP.b5)],dI (s.1.getD (i:Int).toNat cP.b5).1,
    .e (.one (.c (.sl ab 2 0 (λj=>[].getD j [])))),.e (.one (.ptr 0 0)),cP.sl s.1,dI i,TT [.int .i64 (s.1.getD (i:Int).toNat cP.b5).1,sP (s.1.getD (i:Int).toNat cP.b5)],TT [sP (s.1.getD (i:Int).toNat cP.b5)],.e (.one (.c (sP (s.1.getD (i:Int).toNat cP.b5))))].getD k .any)
   (λq k=>[.e (.one (.c (AJ _ q))),.e (.agg [.c (.int .i64 (s.1.getD (i:Int).toNat cP.b5).1),.c (AJ _ q)]),.e (.one (.c (.sl ab 2 1 (λj=>[[.int .i64 (s.1.getD (i:Int).toNat cP.b5).1,AJ _ q]].getD j []))))].getD (k-15) .any)
   (λq=>PG s i (Dw s.1 d) 0 [] (Bm s.1 d i)++[HW _ q])
   rfl rfl rfl rfl rfl rfl rfl (λk h=>by have:=cV h;omega) rfl
   ⟨OA.cT tok bE.nil rfl,OA.cT tok bE.nil rfl,OA.cT tok bE.nil rfl,OA.cT tok bE.nil rfl,OA.cT tok bE.nil rfl,OA.eval (ds:=[]) tok bE.nil rfl ?_,OA.cT tok bE.nil rfl,OA.cT tok bE.nil rfl,OA.cT tok bE.nil rfl,OA.cT tok bE.nil rfl,OA.cT tok bE.nil rfl,OA.cT tok bE.nil rfl,OA.eval (ds:=[]) tok bE.nil rfl ?_,OA.cT tok bE.nil rfl,OA.cT tok bE.nil rfl,ay,ay,ay,ay,ay,ay,ay⟩
   (λq=>⟨OA.cT tok bE.nil rfl,OA.cT tok bE.nil rfl,OA.cT tok bE.nil rfl,OA.cT tok bE.nil rfl,OA.cT tok bE.nil rfl,OA.eval (ds:=[]) tok bE.nil rfl ?_,OA.cT tok bE.nil rfl,OA.cT tok bE.nil rfl,OA.cT tok bE.nil rfl,OA.cT tok bE.nil rfl,OA.cT tok bE.nil rfl,OA.cT tok bE.nil rfl,OA.eval (ds:=[]) tok bE.nil rfl ?_,OA.cT tok bE.nil rfl,OA.cT tok bE.nil rfl,ay,OA.cT tok bE.nil rfl,OA.cT tok bE.nil rfl,ay⟩)
   (mE.wJ rfl (dN.fresh (VQ rfl) rfl rfl rfl b (by show _*24<=_;omega) (Gy _ _))) ?_
  .simp only[az,aE];omega
  .simp only[az,aE];omega
  .simp only[az,aE];omega
  .simp only[az,aE];omega
  rw[a];rw[a]at b q;generalize o:s.1.getD i (0,[])=p at *;intro r;refine aX [(1000004,ab)] rfl ?_ ?_
  .simp only[az,show i37.bytes=32 from rfl,aG,aE];grind
  refine AK.fact (fQ.U0 (l:=7) (n:=p.2.length) (bf:=r.1.1) (xs:=r.1.2) rfl b) λD=>?_;refine AK.merge 6 7 (by decide) rfl rfl (λ_ _ h=>h.1) (PM.add (Bm.up (by grind) (by grind) (by grind))) ?_;have e:=MK (ps:=s.1) (q:=d) (i:=i) (v:=k9 r.1.1 (s.1.getD i (0,[])).2.length);rw[o]at *;refine bt rfl ?_ (AK.aQ (i+1,I3 d i (k9 r.1.1 p.2.length)) rfl ?_ ?_ ?_ ?_)
  .simp only[az,bA,aE];omega
  .simp
  .simp only[az.cat,az,aE,aG];and_intros<;>first|exactλ_ _=>rfl|exact e|rfl
  .grind
  grind
 obtain rfl:i=s.1.length:=by omega
 refine bH [(20,af)] rfl (by simp) (AK.leaveD rfl rfl ?_);refine c8 rfl ay ?_;refine AK.cz 7 (λi=>i<=s.2.1.length) (λi:Nat=>[(1,.e (.one (.ptr 0 0))),(2,.e (.one (.ptr 1 0))),(3,.e (.one (.ptr 5 0))),(5,dI i)]) (λi=>PG s s.1.length (Dw s.1 d) i (s.2.1.take i) (Bm s.1 d s.1.length)) (λi=>s.2.1.length-i) 0 rfl ?_ rfl ?_ rfl (by omega) ?_
 .simp
 .simp[cv]
 intro i hi;by_cases h:i<s.2.1.length
 .have g:s.2.1.getD i (0,[])∈s.2.1:=by grind
  have a:s.2.1.getD (i:Int).toNat gp.b5=s.2.1.getD i (0,[]):=by grind
  have q:=t _ g;have e:=gp.kE s.2.1 h (0,[]);generalize s.2.1.getD i (0,[])=x at *;refine bH [(47,ab),(1000010,ab)] rfl ?_ ?_
  .simp only[az,a,ba,true_or,aG,aE];and_intros<;>omega
  rw[a];refine AK.g7 7 1 69 2 (cL.fn []) rfl rfl ?_;refine c8 rfl ay ?_;refine AK.cz 9 (λj=>j<=x.2.length) (λj:Nat=>[(1,.e (.one (.ptr 0 0))),(2,.e (.one (.ptr 1 0))),(3,.e (.one (.ptr 5 0))),(5,dI i),(6,.e (.one (.ptr 7 0))),(7,dI j)]) (λj=>PG s s.1.length (Dw s.1 d) i (s.2.1.take i) (Bm s.1 d s.1.length)++[.cells 41 [.c (.int .i64 x.1),.vec 8 2 j (cL.fn (x.2.take j))],.vec 69 2 j (cL.fn (x.2.take j))]) (λj=>x.2.length-j) 0 rfl ?_ rfl ?_ rfl (by omega) ?_
  .simp
  .simp[cv]
  intro j u;by_cases y:j<x.2.length
  .have f:x.2.getD (j:Int).toNat cL.b5=x.2.getD j ([],[]):=by grind
   have E:=q.2 (x.2.getD j ([],[])) (by grind);have A:=cL.kE x.2 y ([],[]);refine bH [(66,ab),(2000085,ab)] rfl ?_ (AK.aQ (j+1) rfl ?_ ?_ ?_ ?_)
   .simp only[az,a,f,bA,show i69.bytes=40 from rfl,show i3.bytes=8 from rfl,ba,true_or,aG,aE];and_intros<;>omega
   .simp
   .simp only[az.cat,az,a,f,nN,bC,aE,aG];and_intros<;>first|exactλ_ _=>rfl|exact A|rfl
   .grind
   .omega
  obtain rfl:j=x.2.length:=by omega
  rw[di];refine bH [(66,af)] rfl ?_ (AK.leaveD rfl rfl ?_)
  .simp only[az,a,bO];and_intros<;>omega
  refine c8 rfl ?_ (AK.aQ (i+1) rfl ?_ ?_ ?_ ?_)
  .simp only[az,a,bA,show i41.bytes=32 from rfl,aG,aE];and_intros<;>omega
  .simp
  .simp only[az.cat,az,aE,aG];and_intros<;>first|exactλ_ _=>rfl|exact e|rfl
  .grind
  .omega
 obtain rfl:i=s.2.1.length:=by omega
 rw[di];refine bH [(47,af)] rfl (by simp) (AK.leaveD rfl rfl ?_);refine c8 rfl ay ?_;refine AK.mH d [2,3,4,6] rfl rfl rfl rfl rfl rfl rfl rfl ?_ rfl rfl rfl rfl (λj u=>absurd u (by simp))
 .simp
def ML(l:List bn)(x:bn)(r:l.length<=4000000):Ev X 102 [dO.sl l,SB x] [] (.e (.one (.vec 0 2 (gG l x).length (dO.fn (gG l x))))) [.vec 66 2 (gG l x).length (dO.fn (gG l x))]:=by
 refine Ev.bQ Tryz.func102 rfl λs=>?_;refine bH [(1000002,ab)] rfl ay ?_;refine AK.iC 5 66 2 rfl rfl ?_;refine c8 rfl ay ?_;refine AK.cz 2 (λi=>i<=l.length) (λi:Nat=>p3F l x i (m0 x l i)) (λi=>Za x (m0 x l i).1) (λi=>l.length-i) 0 rfl ?_ rfl ?_ rfl (by omega) ?_
 .simp[m0]
 .simp[m0]
 intro i hi;by_cases h:i<l.length
 .have p:=yY (x:=x) h;have f:=sF x l i;have g:l.getD (i:Int).toNat dO.b5=l.getD i (0,[]):=by grind
  generalize m0 x l i=a at p f;obtain⟨a,b⟩:=a;simp only at f;have m:=dO.cu a (l.getD i (0,[]));have o:=dO.pF a x (l.getD i (0,[]));cases b with
  |true =>
   have c:m0 x l (i+1)=(a++[l.getD i (0,[])],ab):=p;have k:a.length+1=(a++[l.getD i (0,[])]).length:=by simp
   refine bH [(12,ab)] rfl ?_ (AK.aQ (i+1) rfl ?_ ?_ ?_ ?_)
   .simp only[az,g,bA,show i66.bytes=24 from rfl,ba,aG,aE];and_intros<;>omega
   .rw[c];simp only[az.cat,az,g,aG,aE];and_intros<;>first|exact k|exact m|exactλ_ _=>rfl|rfl|omega
   .rw[c];simp only[az.cat,az,g,aG,aE];and_intros<;>first|exact k|exact m|exactλ_ _=>rfl|rfl|omega
   .grind
   .omega
  |false =>
   by_cases j:x.1<(l.getD i (0,[])).1
   .have c:m0 x l (i+1)=(a++[x,l.getD i (0,[])],ab):=by rw[p];simp only[iM,bl j];rfl
    have k:a.length+1+1=(a++[x,l.getD i (0,[])]).length:=by simp
    refine bH [(12,ab),(25,ab)] rfl ?_ (AK.aQ (i+1) rfl ?_ ?_ ?_ ?_)
    .simp only[az,g,bA,show i66.bytes=24 from rfl,j,jD,ba,aG,aE];and_intros<;>omega
    .rw[c];simp only[az.cat,az,g,aG,aE];and_intros<;>first|exact k|exact o|exactλ_ _=>rfl|rfl|omega
    .rw[c];simp only[az.cat,az,g,aG,aE];and_intros<;>first|exact k|exact o|exactλ_ _=>rfl|rfl|omega
    .grind
    .omega
   .have c:m0 x l (i+1)=(a++[l.getD i (0,[])],af):=by rw[p];simp only[iM,aZ j];rfl
    have k:a.length+1=(a++[l.getD i (0,[])]).length:=by simp
    refine bH [(12,ab),(25,af)] rfl ?_ (AK.aQ (i+1) rfl ?_ ?_ ?_ ?_)
    .simp only[az,g,bA,show i66.bytes=24 from rfl,ba,j,kA,nY,bO,aG,aE];and_intros<;>omega
    .rw[c];simp only[az.cat,az,g,aG,aE];and_intros<;>first|exact k|exact m|exactλ_ _=>rfl|rfl|omega
    .rw[c];simp only[az.cat,az,g,aG,aE];and_intros<;>first|exact k|exact m|exactλ_ _=>rfl|rfl|omega
    .grind
    .omega
 .obtain rfl:i=l.length:=by omega
  have d:=tN x l [];have f:=sF x l l.length;refine bH [(12,af)] rfl (by simp) (AK.leaveD rfl rfl ?_);have q:m0 x l l.length=l.foldl (iM x) ([],af):=by grind
  rw[q]at f⊢;generalize l.foldl (iM x) ([],af)=a at *;obtain⟨a,b⟩:=a;simp only[mn]at d f;cases b with
  |true =>
   simp only[cj]at d;subst d;refine c8 rfl ay (AK.de [1] rfl ?_ ?_ rfl rfl xe)
   .simp
   .rfl
  |false =>
   simp only[jA,b7]at d;have m:=dO.cu a x;refine bH [(1000012,ab)] rfl ?_ ?_
   .simp only[az,show i66.bytes=24 from rfl,aG,aE];grind
   have n:(a++[x]).length=a.length+1:=by simp
   refine AK.BZ (φ':=[(5,.e (.one (.vec 1 2 (a++[x]).length (dO.fn (a++[x])))))]) (σ':=Za x (a++[x])) ?_ rfl ?_ rfl ?_
   .rw[<-d];refine c8 rfl ay (AK.de [1] rfl ?_ ?_ rfl rfl xe)
    .simp
    .rfl
   .simp only[az.cat,az,n,aG,aE];and_intros<;>first|exact m|rfl
   .simp only[az.cat,az,n,aG,aE];and_intros<;>first|exact m|rfl
def MM[X.gZ](l:List bn)(x:bn)(a:l.length<=4000000):eb (ι:=Own (gG l x)) X 102 [dO.sl l,SB x] [] (λq=>.e (.one (.c (AJ (gG l x) q)))) (λq=>[HW (gG l x) q]) :=
 Ev.thaw (ML l x a) Tryz.func102 rfl (by simp[vr,qp,mI]) λi hi=>⟨rfl,Gy _ _ i hi⟩
def mkB(no:Int)(L:List bn):Option (Own L)->List bn->List aP
 |none,l=>[.cells 37 [.c (.int .i64 0),.c (.sl ab 0 0 λ_=>[])],pkB no l,.b8 (fQ 66 2 (.nil ae) 0 [])]
 |some q,_=>[.cells 37 [.c (.int .i64 0),.c (.sl ab 0 0 λ_=>[])],.cells 37 [.c (.int .i64 no),.c (AJ L q)],HW L q]
def IC[X.gZ](no k:Int)(ps:List Bs)(hk:cd k=ab)(u:∀p∈ps,bz p=ab)(z:ps.length<=4000000)(y:0<ps.length):
  eb (ι:=Own (qu k ps)) X 57 [dI no,dI k,cS.sl ps] [] (λq=>.e (.agg [.c (.int .i64 no),.c (AJ (qu k ps) q)])) (λq=>[HW (qu k ps) q]):=by
 refine eb.rZ tok Tryz.func57 rfl rfl rfl λB=>?_;have f:bE X [(98,xy),(103,Gw),(102,QA)]:=.cons xu (.cons Ll (.cons VN .nil));refine bq f [(1000002,ab)] rfl ay ?_;refine AK.spare 66 2 ?_;refine cx f rfl ay ?_;refine AK.cz 3 (λx:Option (Own (qu k ps))×Nat=>x.2<=ps.length/\(x.1.isSome=ab↔x.2=ps.length)) (λx=>[(1,dI k),(2,cS.sl ps),(6,.e (.one (.ptr 0 0))),(7,.e (.one (.ptr 1 0))),(8,dI x.2)]) (λx=>mkB no (qu k ps) x.1 (qu k (ps.take x.2))) (λx=>ps.length-x.2) (ae,0) rfl ?_ rfl ?_ rfl ⟨lk _,by grind⟩ ?_
 .simp
 .simp[qu]
 rintro⟨q,i⟩ ⟨hi,s⟩;simp only at hi s;cases q with
 |some q =>
  obtain rfl:i=ps.length:=s.1 rfl;refine bq f [(15,af)] rfl (by simp) (AK.leaveD rfl rfl ?_);refine cx f rfl ay ?_;refine AK.mH q [2] rfl rfl rfl rfl rfl rfl rfl rfl ?_ rfl rfl rfl rfl (λj w=>absurd w (by simp));simp
 |none =>
  have h:i<ps.length:=by grind
  have m:ps.getD (i:Int).toNat cS.b5=ps.getD i []:=by grind
  have b:bz (ps.getD i [])=ab:=u _ (by grind);have v:=Ln (k:=k) h;have n:=qv k (ps.take i);rw[List.length_take]at n;by_cases A:i+1<ps.length
  .refine bq f [(15,ab)] rfl ?_ (AK.aQ (ae,i+1) rfl ?_ ?_ ?_ ?_)
   .simp only[az,m,hk,b,bA,dO.list_fn,ba,aG,aE];and_intros<;>first|exact dO.aU _|omega
   .simp
   .show az _;rw[v];simp only[az.cat,az,m,dO.list_fn,aG,aE];and_intros<;>first|exactλ_ _=>rfl|rfl|omega
   .grind
   grind
  .have t:i+1=ps.length:=by omega
   have d:qu k ps=gG (qu k (ps.take i)) (en k (ps.getD i []),eO (ps.getD i [])):=by grind
   refine bq f [(15,ab),(1000005,ab)] rfl ?_ ?_
   .simp only[az,ba];omega
   have g:=MM (X:=X) (qu k (ps.take i)) (en k (ps.getD i []),eO (ps.getD i [])) (by omega);rw[<-d]at g;have a:bE X [(98,xy),(103,Gw)]:=.cons xu (.cons Ll .nil);generalize o:ps.getD i []=p at *;generalize qu k (ps.take i)=l at *;refine AK.Kc (ι:=Own (qu k ps)) ja 14 15 16 (λj=>bu j 13)
    (λj=>([.e (.one (.ptr 1 1)),dO.sl l,dI k,cS.sl ps,dI i,TT [.str (ps.getD (i:Int).toNat cS.b5)],dS (ps.getD (i:Int).toNat cS.b5),dI (en k (ps.getD (i:Int).toNat cS.b5)),cS.sl ps,dI i,TT [.str (ps.getD (i:Int).toNat cS.b5)],dS (ps.getD (i:Int).toNat cS.b5),dS (eO (ps.getD (i:Int).toNat cS.b5)),.e (.agg [.c (.int .i64 (en k (ps.getD (i:Int).toNat cS.b5))),.c (.str (eO (ps.getD (i:Int).toNat cS.b5)))])]:List D).getD j .any)
    (λq _=>.e (.one (.c (AJ (qu k ps) q)))) (λq=>mkB no (qu k ps) ae l++[HW (qu k ps) q])
    rfl rfl rfl rfl rfl rfl rfl (λj h=>by have:=cV h;omega) rfl
    ⟨OA.cT tok a rfl,OA.cT tok a rfl,OA.cT tok a rfl,OA.cT tok a rfl,OA.cT tok a rfl,OA.eval (ds:=[]) tok a rfl ?_,OA.cT tok a rfl,OA.eval (ds:=[]) tok a rfl ?_,OA.cT tok a rfl,OA.cT tok a rfl,OA.eval (ds:=[]) tok a rfl ?_,OA.cT tok a rfl,OA.eval (ds:=[]) tok a rfl ?_,OA.cT tok a rfl,ay,ay,ay,ay⟩
    (λq=>⟨OA.cT tok a rfl,OA.cT tok a rfl,OA.cT tok a rfl,OA.cT tok a rfl,OA.cT tok a rfl,OA.eval (ds:=[]) tok a rfl ?_,OA.cT tok a rfl,OA.eval (ds:=[]) tok a rfl ?_,OA.cT tok a rfl,OA.cT tok a rfl,OA.eval (ds:=[]) tok a rfl ?_,OA.cT tok a rfl,OA.eval (ds:=[]) tok a rfl ?_,OA.cT tok a rfl,ay,ay⟩)
    (mE.qc (o▸g) [] rfl rfl rfl rfl rfl rfl rfl (λ_=>rfl) rfl (λ_=>rfl)) ?_
   all_goals first|(simp only[az,m,hk,b,aE,aG];omega)|(simp only[az.cat,az,m,hk,b,and_self];done)|skip
   intro r;refine bq a [(1000004,ab)] rfl ay ?_;refine AK.swap 2 3 (by decide) rfl rfl (λ_ _ h=>h.1) (λ_ _ h=>h.1) ?_;refine cx a rfl ?_ (AK.aQ (aa r,i+1) rfl ?_ ?_ ?_ ?_)
   .simp only[az,bA];omega
   .simp
   .simp
   .grind
   grind
def AI{o:au}{k:ak->D}{σ:List aP}{x y:ak}{j:Array aj}{a b:Int}(m:Int)(h:o.op=.call {callee:=.builtin .max,args:=#[x,y],argTypes:=j})(q:k x=dI a)(n:k y=dI b)(r:max a b=m)(p:bA .i64 m):bF ag o k σ (dI m) σ:=by
 refine .quiet λs l t c=>?_;have f:=c x;have g:=c y;rw[q]at f;rw[n]at g;replace f:=eT f;replace g:=eT g;generalize d:l x=vx at f;generalize i:l y=vy at g;cases f;cases g;have e:(if a<b then b else a)=m:=by grind
 exact⟨.int .i64 m,by simp[aw,h,resolve,invoke,builtin,d,i,Builtin.max_,Builtin.max2,e],.int p,by simp[aw,h,resolve,invoke,builtin,d,i,Builtin.max_,Builtin.max2]⟩
def cM(s:bm):Int:=if s.1.length=0 then 1 else(s.1.getD (s.1.length-1) (0,[])).1+1
def oK(l:List (Int×Int)):Int:=l.foldl (λm h=>max m (h.2+1)) 1
def dw(s:bm):Int:=if s.2.1.length=0 then oK s.2.2 else max (oK s.2.2) ((s.2.1.getD (s.2.1.length-1) (0,[])).1+1)
structure ry(st:bm):Prop where
 p:∀x∈st.1,-4000000<=x.1/\x.1<=4000000
 s:∀x∈st.2.1,-4000000<=x.1/\x.1<=4000000
 h:∀x∈st.2.2,-4000000<=x.2/\x.2<=4000000
def nO(l:List (Int×Int))(h:∀x∈l,-4000000<=x.2/\x.2<=4000000):1<=oK l/\oK l<=4000001:=by
 have:∀(l:List (Int×Int)) (m:Int),(∀x∈l,-4000000<=x.2/\x.2<=4000000)->1<=m->m<=4000001->1<=l.foldl (λm h=>max m (h.2+1)) m/\l.foldl (λm h=>max m (h.2+1)) m<=4000001:=by
  intro l;induction l with
  |nil=>grind
  |cons x r a =>
   grind
 exact this l 1 h (by omega) (by omega)
def EN{l:List (Int×Int)}{i:Nat}(h:i<l.length):oK (l.take (i+1))=max (oK (l.take i)) ((l.getD i (0,0)).2+1):=by unfold oK;grind[bS]
def fA{α:Type}{l:List α}{i:Nat}(h:i<l.length)(d:α):l.getD i d∈l:=by grind
def HV(s:bm)(d:lD s)(b:ry s):Ev X 54 [rq s] [] (.eX [.one (.c (.int .i64 (cM s))),.one (.c (.int .i64 (dw s)))]) []:=by
 refine Ev.bQ Tryz.func54 rfl λo=>?_;have k:=d.p;have n:=d.sn;have g:=d.h;apply AK.join [(1,.e (.one (.ptr 0 0))),(4,dI (cM s)),(5,dI 1)] [vB s]
 .intro out;by_cases h:s.1.length=0
  .refine bH [(10,af),(1000005,ab)] rfl (by simp only[az,bO];omega) ?_;exact out _ _ rfl (by simp[cM,h])
  .have f:=b.p _ (fA (show s.1.length-1<s.1.length by omega) (0,[]));have a:s.1.getD ((s.1.length:Int)-1).toNat cP.b5=s.1.getD (s.1.length-1) (0,[]):=by rw[show((s.1.length:Int)-1).toNat=s.1.length-1 by omega];rfl
   refine bH [(10,ab),(1000005,ab)] rfl ?_ ?_
   .simp only[az,a,bA,ba,aG,aE];and_intros<;>omega
   exact out _ _ rfl (by simp only[az.cat,az,cM,aZ h,a,aG,aE])
 refine c8 rfl ay ?_;refine AK.cz 1 (λi=>i<=s.2.2.length) (λi:Nat=>[(1,.e (.one (.ptr 0 0))),(4,dI (cM s)),(5,dI (oK (s.2.2.take i))),(6,dI i)]) (λi=>[vB s]) (λi=>s.2.2.length-i) 0 rfl ?_ rfl ?_ rfl (by omega) ?_
 .simp[oK]
 .simp
 intro i hi;by_cases h:i<s.2.2.length
 .have f:=b.h _ (fA h (0,0));have j:=nO (s.2.2.take i) λx m=>b.h x (fW m);have a:s.2.2.getD (i:Int).toNat cH.b5=s.2.2.getD i (0,0):=by grind
  have l:=EN h;refine bH [(25,ab)] rfl ?_ ?_
  .simp only[az,a,bA,ba,aG,aE];and_intros<;>omega
  rw[a];refine AK.law (AI (oK (s.2.2.take (i+1))) rfl rfl rfl l.symm (by simp only[bA];omega)) rfl rfl ?_;refine c8 rfl ?_ (AK.aQ (i+1) rfl ?_ ?_ ?_ ?_)
  .simp only[az,bA];omega
  .simp
  .simp
  .grind
  .omega
 obtain rfl:i=s.2.2.length:=by omega
 rw[di];refine bH [(25,af)] rfl (by simp) (AK.leaveD rfl rfl ?_);have j:=nO s.2.2 b.h;by_cases h:s.2.1.length=0
 .refine bH [(40,af)] rfl (by simp only[az,bO];omega) (AK.bw rfl ?_);simp[dw,h]
 .have f:=b.s _ (fA (show s.2.1.length-1<s.2.1.length by omega) (0,[]));have a:s.2.1.getD ((s.2.1.length:Int)-1).toNat gp.b5=s.2.1.getD (s.2.1.length-1) (0,[]):=by rw[show((s.2.1.length:Int)-1).toNat=s.2.1.length-1 by omega];rfl
  refine bH [(40,ab)] rfl ?_ ?_
  .simp only[az,a,bA,ba,aG,aE];and_intros<;>omega
  rw[a];refine AK.law (AI (dw s) rfl rfl rfl (by rw[dw,aZ h]) (by rw[dw,aZ h];simp only[bA];omega)) rfl rfl ?_;exact c8 rfl ay (AK.bw rfl)
abbrev SE(s:bm)(i:Nat)(p:List bG)(j:Nat)(q:List gE):List aP:=[vB s,.cells 27 [gK,gK,gK],.vec 106 2 s.2.2.length (cH.fn s.2.2),.cells 27 [.vec 4 2 i (cP.fn p),.vec 5 2 j (gp.fn q),.vec 2 2 s.2.2.length (cH.fn s.2.2)],.vec 37 2 i (cP.fn p),.vec 41 2 j (gp.fn q)]
def EM(s:bm)(o:s.1.length<=4000000)(d:∀p∈s.1,p.2.length<=4000000)(t:s.2.1.length<=4000000)(f:ox s)(u:s.2.2.length<=4000000):
  Ev X 53 [rq s] [] (.e (.agg [.vec 0 2 s.1.length (cP.fn s.1),.vec 1 2 s.2.1.length (gp.fn s.2.1),.vec 2 2 s.2.2.length (cH.fn s.2.2)])) [.vec 37 2 s.1.length (cP.fn s.1),.vec 41 2 s.2.1.length (gp.fn s.2.1),.vec 106 2 s.2.2.length (cH.fn s.2.2)]:=by
 refine Ev.qK tok Tryz.func53 rfl rfl rfl λr=>?_;refine bH [(1000002,ab)] rfl ?_ ?_
 .simp only[az,show i106.bytes=16 from rfl,aG,aE,true_or];grind
 refine AK.g7 3 0 37 2 (cP.fn []) rfl rfl ?_;refine AK.g7 3 1 41 2 (gp.fn []) rfl rfl ?_;refine c8 rfl ay ?_;refine AK.cz 6 (λi=>i<=s.1.length) (λi:Nat=>[(1,.e (.one (.ptr 0 0))),(2,.e (.one (.ptr 1 0))),(3,.e (.one (.ptr 3 0))),(4,dI i)]) (λi=>SE s i (s.1.take i) 0 []) (λi=>s.1.length-i) 0 rfl ?_ rfl ?_ rfl (by omega) ?_
 .simp
 .simp[cv,nN]
 intro i hi;by_cases h:i<s.1.length
 .have g:s.1.getD i (0,[])∈s.1:=by grind
  have a:s.1.getD (i:Int).toNat cP.b5=s.1.getD i (0,[]):=by grind
  have q:=d _ g;refine bH [(20,ab),(2000038,ab)] rfl ?_ (AK.aQ (i+1) rfl ?_ ?_ ?_ ?_)
  .simp only[az,a,bA,show i37.bytes=32 from rfl,show i66.bytes=24 from rfl,ba,true_or,aG,aE];and_intros<;>omega
  .simp
  .have e:=cP.kE s.1 h (0,[]);simp only[az.cat,az,a,nN,bC,aE,aG];and_intros<;>first|exactλ_ _=>rfl|exact e|rfl|omega
  .grind
  .omega
 obtain rfl:i=s.1.length:=by omega
 rw[di];refine bH [(20,af)] rfl (by simp) (AK.leaveD rfl rfl ?_);refine c8 rfl ay ?_;refine AK.cz 6 (λi=>i<=s.2.1.length) (λi:Nat=>[(1,.e (.one (.ptr 0 0))),(2,.e (.one (.ptr 1 0))),(3,.e (.one (.ptr 3 0))),(5,dI i)]) (λi=>SE s s.1.length s.1 i (s.2.1.take i)) (λi=>s.2.1.length-i) 0 rfl ?_ rfl ?_ rfl (by omega) ?_
 .simp
 .simp[cv]
 intro i hi;by_cases h:i<s.2.1.length
 .have g:s.2.1.getD i (0,[])∈s.2.1:=by grind
  have a:s.2.1.getD (i:Int).toNat gp.b5=s.2.1.getD i (0,[]):=by grind
  have q:=f _ g;have e:=gp.kE s.2.1 h (0,[]);generalize s.2.1.getD i (0,[])=x at *;refine bH [(47,ab),(1000010,ab)] rfl ?_ ?_
  .simp only[az,a,ba,true_or,aG,aE];and_intros<;>omega
  rw[a];refine AK.g7 6 1 69 2 (cL.fn []) rfl rfl ?_;refine c8 rfl ay ?_;refine AK.cz 8 (λj=>j<=x.2.length) (λj:Nat=>[(1,.e (.one (.ptr 0 0))),(2,.e (.one (.ptr 1 0))),(3,.e (.one (.ptr 3 0))),(5,dI i),(6,.e (.one (.ptr 6 0))),(7,dI j)]) (λj=>SE s s.1.length s.1 i (s.2.1.take i)++[.cells 41 [.c (.int .i64 x.1),.vec 7 2 j (cL.fn (x.2.take j))],.vec 69 2 j (cL.fn (x.2.take j))]) (λj=>x.2.length-j) 0 rfl ?_ rfl ?_ rfl (by omega) ?_
  .simp
  .simp[cv]
  intro j k;by_cases l:j<x.2.length
  .have b:x.2.getD (j:Int).toNat cL.b5=x.2.getD j ([],[]):=by grind
   have n:=q.2 (x.2.getD j ([],[])) (by grind);have m:=cL.kE x.2 l ([],[]);refine bH [(66,ab),(2000085,ab)] rfl ?_ (AK.aQ (j+1) rfl ?_ ?_ ?_ ?_)
   .simp only[az,a,b,bA,show i69.bytes=40 from rfl,show i3.bytes=8 from rfl,ba,true_or,aG,aE];and_intros<;>omega
   .simp
   .simp only[az.cat,az,a,b,nN,bC,aE,aG];and_intros<;>first|exactλ_ _=>rfl|exact m|rfl
   .grind
   .omega
  obtain rfl:j=x.2.length:=by omega
  rw[di];refine bH [(66,af)] rfl ?_ (AK.leaveD rfl rfl ?_)
  .simp only[az,a,bO];and_intros<;>omega
  refine c8 rfl ?_ (AK.aQ (i+1) rfl ?_ ?_ ?_ ?_)
  .simp only[az,a,bA,show i41.bytes=32 from rfl,aG,aE];and_intros<;>omega
  .simp
  .simp only[az.cat,az,aE,aG];and_intros<;>first|exactλ_ _=>rfl|exact e|rfl|omega
  .grind
  .omega
 obtain rfl:i=s.2.1.length:=by omega
 rw[di];refine bH [(47,af)] rfl (by simp) (AK.leaveD rfl rfl ?_);refine c8 rfl ay ?_;refine AK.mH () [4,5,2] rfl rfl rfl rfl rfl rfl rfl rfl ?_ rfl rfl rfl rfl (λj k=>absurd k (by simp))
 .simp
def Ld(a b:Nat):min (a:Int) (b:Int)=((min a b:Nat):Int):=by grind
def fH(k:Int):Nat->Int->List Bs->List bG
 |0,_,_=>[]
 |f+1,no,ps=>if 0<ps.length then gH no k (ps.take 4)::fH k f (no+1) (ps.drop 4)else[]
def nI(k:Int)(s:bm)(t:List bx):List bG:=fH k (c6 k t (indexOf s.1)).length (cM s) (c6 k t (indexOf s.1))
def gm(k:Int)(s:bm)(t:List bx):Bool:=decide (20<s.1.length+(nI k s t).length)||(decide (99<cM s+(nI k s t).length-1)||(decide (20<dw s)||decide (9<=s.2.2.length)))
def ee(k:Int)(s:bm)(by_:Int)(t:List bx):bm:=(s.1++nI k s t,s.2.1++[fp (dw s) k t],s.2.2++[(by_,dw s)])
theorem xx(k:Int):∀f no ps,(fH k f no ps).length<=f
 |0,_,_=>bh _
 |f+1,no,ps=>by
  simp only[fH];split
  .have:=xx k f (no+1) (ps.drop 4);grind
  .simp
abbrev Qy:dt:=Gg aI aI (aL cF) (λno k t=>Nb (fp no k t)) λ_ k t=>[cd k=ab,sE t]
def VH:ef X 58 Qy:=.Na λno k t h=>OK no k t h.1 h.2
abbrev Le:dt:=Gg aI (aL cF) (aL oU) (λk t l=>cS.sl (c6 k t l)) λk t l=>[cd k=ab,sE t,l.length<=4000000]
def SA:ef X 55 Le:=.Na λk t l h=>Lf k t l h.1 h.2.1 h.2.2
def jr{k:Int}{t:List bx}{l:List cn}(c:sE t):(∀p∈c6 k t l,bz p=ab)/\(c6 k t l).length<=100000:=by
 constructor
 .have:∀(ps a:List Bs),(∀p∈ps,bz p=ab)->(∀p∈a,bz p=ab)->∀p∈ps.foldl (iF k l) a,bz p=ab:=by
   intro ps;induction ps with
   |nil=>grind
   |cons q r h =>
    intro a e d;refine h _ (λp b=>e p (qQ _ b)) λp b=>?_;unfold iF at b;grind
  refine this _ [] (λp b=>?_) (by simp);obtain⟨f,g,b⟩:=List.mem_flatMap.1 b;exact nJ (c.sZ f g).1 p b
 .have:=tL k l (gL t) [];have d:=c.all;unfold c6;simp only[gx]at this;exact iq this (by omega)
theorem pE{l:List bG}(h:(cW l).length<=100000):(indexOf l).length<=100000:=by unfold indexOf;grind[tM]
abbrev Y5(s:bm)(b:Bool):D:=.eX [.agg [.c (.sl af 2 s.1.length (cP.fn s.1)),.c (.sl af 2 s.2.1.length (gp.fn s.2.1)),.c (.sl af 2 s.2.2.length (cH.fn s.2.2))],.one (.c (.bool b))]
def Bm.snoc{ps:List bG}{x:bG}{q:Nat->ah}{bf:m9}{xs:List ah}(d:0<x.2.length)(a:gi 2 x.2.length (dO.fn x.2) xs)(c:∃b cap,bf=.row b cap/\x.2.length<=cap/\cap<=9223372036854775807):
  ∀M M',wX M M'->Bm ps q ps.length M->(∀b cap,bf=.row b cap->∀j v,xs[j]?=aa v->M' b j=aa v)->Bm (ps++[x]) (I3 q ps.length (k9 bf x.2.length)) (ps++[x]).length M':=by
 intro M M' hle hK hx;have e:(ps++[x]).getD ps.length (0,[])=x:=by simp
 have h:=Bm.up (ps:=ps++[x]) (q:=q) (i:=ps.length) (bf:=bf) (xs:=xs) (by grind) (by grind) (by grind) M M' hle (λj hj=>by
  have e2:(ps++[x]).getD j (0,[])=ps.getD j (0,[]):=by grind
  rw[e2];exact hK j hj) hx
 grind
def MN{ps:List bG}{x:bG}{q:Nat->ah}{v:ah}:cv (ps.length+1) (cA ps.length (Dw ps q) (λj=>([[.int .i64 x.1,.val v]]:List (List C)).getD j [])) (Dw (ps++[x]) (I3 q ps.length v)):=by
 intro j b;by_cases h:j<ps.length
 .have a:(ps++[x]).getD j (0,[])=ps.getD j (0,[]):=by grind
  simp only[cA,h,cj,Dw,I3,a,aZ (show j≠ps.length by omega)]
 .obtain rfl:j=ps.length:=by omega
  have e:(ps++[x]).getD ps.length (0,[])=x:=by simp
  simp only[cA,Dw,I3,e,cj];simp
abbrev ZO(k by_ no:Int)(s:bm)(t:List bx)(rest:List Bs):Fr:=[(0,dI k),(2,dI by_),(3,cF.sl t),(5,.e (.one (.ptr 0 0))),(8,.e (.one (.ptr 1 0))),(10,.e (.one (.ptr 6 0))),(11,dI no),(12,dI (dw s)),(13,cS.sl rest)]
abbrev PH(s:bm)(ps:List bG)(q:Nat->ah):List aP:=[vB s,.cells 27 [gK,gK,gK],.buf 37 2 ps.length (Dw ps q),.buf 41 2 s.2.1.length (gp.fn s.2.1),.buf 106 2 s.2.2.length (cH.fn s.2.2),.b8 (PM (Bm ps q ps.length)),.cells 27 [.bp 2 (.sl ps.length 2 0 ps.length),.bp 3 (.sl s.2.1.length 2 0 s.2.1.length),.bp 4 (.sl s.2.2.length 2 0 s.2.2.length)]]
def rC[X.gZ](k:Int)(s:bm)(by_:Int)(t:List bx)(hk:cd k=ab)(b:lD s)(z:ry s)(y:sE t)(M:(cW s.1).length<=100000)(U:∀p∈s.1,0<p.2.length){A:Bool}(G:gm k s t=A):
  eb (ι:=Nat->ah) X 22 [dI k,rq s,dI by_,cF.sl t] [] (λ_=>cond A (Y5 s af) (.eX [.agg [.bp 0 (.sl (ee k s by_ t).1.length 2 0 (ee k s by_ t).1.length),.c (EI (ee k s by_ t).2.1),.c (Ct (ee k s by_ t).2.2)],.one (.c (.bool ab))]))
   (λq=>cond A [] [.buf 37 2 (ee k s by_ t).1.length (Dw (ee k s by_ t).1 q),.b8 (PM (Bm (ee k s by_ t).1 q (ee k s by_ t).1.length))]):=by
 refine eb.rZ tok Tryz.func22 rfl rfl rfl λhf=>?_;have a:bE X [(56,Lk),(55,Le),(58,Qy)]:=.cons SC (.cons SA (.cons VH .nil));have h1:=b.p;have h2:=b.sn;have h3:=b.h;have hix:=pE M;refine cx a rfl ay ?_;refine AK.cP (Fo s U b.p b.p2 b.sn b.s2 b.h) [] rfl (λ_=>rfl) λq0=>?_;refine cx a rfl ay ?_;refine AK.cQ (HV s b z) [] rfl ?_;refine cx a rfl ?_ ?_
 .simp only[az,cP.list_fn,oU.list_fn,cF.list_fn,hk,y];and_intros<;>first|exact cP.aU _|exact oU.aU _|exact cF.aU _|trivial|exact y|omega
 simp only[cP.list_fn,oU.list_fn,cF.list_fn];obtain⟨I,hpl⟩:=jr (k:=k) (l:=indexOf s.1) y;have hN:nI k s t=fH k (c6 k t (indexOf s.1)).length (cM s) (c6 k t (indexOf s.1)):=rfl;generalize c6 k t (indexOf s.1)=pc at *;generalize N:nI k s t=np at *;have hpn:-4000000<=cM s/\cM s<=4000001:=by
  unfold cM;split
  .omega
  .rename_i h;have:=z.p _ (fA (show s.1.length-1<s.1.length by omega) (0,[]));omega
 have TC:np.length<=100000:=by grind[xx]
 refine AK.kU (S2:=Nat->ah) 0 rfl rfl (λ_=>True) (λ_=>[(0,dI k),(2,dI by_),(3,cF.sl t),(5,.e (.one (.ptr 0 0))),(8,.e (.one (.ptr 1 0))),(10,.e (.one (.ptr 6 0))),(11,dI (cM s+np.length)),(12,dI (dw s))]) (λq=>PH s (s.1++np) q) 7
  (λx:List Bs×List bG×(Nat->ah)=>(∀p∈x.1,bz p=ab)/\x.2.1.length+x.1.length<=5000000/\s.1.length<=x.2.1.length/\∃f,x.1.length<=f/\s.1++np=x.2.1++fH k f (cM s+(x.2.1.length-s.1.length:Nat)) x.1) (λx=>ZO k by_ (cM s+(x.2.1.length-s.1.length:Nat)) s t x.1) (λx=>PH s x.2.1 x.2.2) (λx=>x.1.length) (pc,s.1,q0) rfl ?_ rfl ?_ rfl ⟨I,by grind,bh _,pc.length,bh _,by grind⟩ ?_ ?_
 .simp
 .simp
 .rintro out ⟨rest,ps,q⟩ ⟨B,P,R,f,V,E⟩;simp only at B P R V E;by_cases h:0<rest.length
  .obtain⟨f,rfl⟩:∃Z,f=Z+1:=⟨f-1,by omega⟩
   simp only[fH,bl h]at E;have hm:bA .i64 ((min rest.length 4:Nat):Int):=by simp only[bA];omega
   refine bq a [(30,ab)] rfl (by simp only[az,ba];omega) ?_;refine AK.law (xi ((min rest.length 4:Nat):Int) rfl rfl rfl (Ld rest.length 4) hm) rfl rfl ?_;have K:dc rest.length (aa ((min rest.length 4:Nat):Int))-dc 0 ae=min rest.length 4:=by simp[dc]
   have hD:cv (rest.length-min rest.length 4) (lZ (min rest.length 4) (cS.fn rest)) (cS.fn (rest.drop 4)):=by
    intro i hi;have W:min rest.length 4=4:=by omega
    rw[W];simp only[lZ,mh.fn,AF,aq,oX]
   have hT:cv (dc rest.length (aa ((min rest.length 4:Nat):Int))-dc 0 ae) (lZ (dc 0 ae) (cS.fn rest)) (cS.fn (rest.take 4)):=by intro i hi;rw[K]at hi;simp only[lZ,dc,mh.fn,AF,aq,bC];grind
   have hTl:(rest.take 4).length=min rest.length 4:=by grind
   have F:∀p∈rest.take 4,bz p=ab:=λp L=>B p (fW L);have H:=IC (X:=X) (cM s+(ps.length-s.1.length:Nat)) k (rest.take 4) hk F (by omega) (by omega);have hx0:gH (cM s+(ps.length-s.1.length:Nat)) k (rest.take 4)=(cM s+(ps.length-s.1.length:Nat),qu k (rest.take 4)):=rfl;have o:0<(qu k (rest.take 4)).length:=by grind[qv]
   generalize Q:cM s+(ps.length-s.1.length:Nat)=no at *;have O:-5000000<=no/\no<=10000000:=by omega
   generalize hit:qu k (rest.take 4)=MO at *;refine bq a [(1000006,ab)] rfl ay ?_;refine AK.Kc (ι:=Own MO) ja 7 9 12 (λj=>bu j 6)
    (λj=>([.e (.one (.ptr 6 0)),.e (.one (.bp 2 (.sl ps.length 2 0 ps.length))),dI no,dI k,cS.sl rest,dI (min rest.length 4:Nat),.e (.one (.c (.sl af 1 (dc rest.length (aa ((min rest.length 4:Nat):Int))-dc 0 ae) (lZ (dc 0 ae) (cS.fn rest)))))]:List D).getD j .any)
    (λr j=>match j with|7=>.e (.agg [.c (.int .i64 no),.c (AJ MO r)])|_=>.e (.one (.c (.sl ab 2 1 (λj=>([[.int .i64 no,AJ MO r]]:List (List C)).getD j []))))) (λr=>PH s ps q++[HW MO r])
    rfl rfl rfl rfl rfl rfl rfl (λj h=>by have:=cV h;omega) rfl
    ⟨OA.cT tok a rfl,OA.cT tok a rfl,OA.cT tok a rfl,OA.cT tok a rfl,OA.cT tok a rfl,OA.cT tok a rfl,OA.eval (ds:=[]) tok a rfl ?_,ay,ay,ay,ay,ay,ay⟩
    (λr=>⟨OA.cT tok a rfl,OA.cT tok a rfl,OA.cT tok a rfl,OA.cT tok a rfl,OA.cT tok a rfl,OA.cT tok a rfl,OA.eval (ds:=[]) tok a rfl ?_,ay,OA.cT tok a rfl,ay⟩)
    (mE.jL H [] rfl rfl rfl rfl ?_ rfl rfl rfl (λ_=>rfl) rfl (λ_=>rfl)) ?_
   .simp only[fM,az];omega
   .simp only[fM,az];omega
   .simp only[az.cat,az,aG,aE];grind
   intro r;refine bq a [(1000007,ab)] rfl ?_ ?_
   .simp only[az,show i37.bytes=32 from rfl,aG];omega
   refine AK.fact (fQ.U0 (l:=7) (n:=MO.length) (bf:=r.1.1) (xs:=r.1.2) rfl o) λhb=>?_;refine AK.merge 5 7 (by decide) rfl rfl (λ_ _ h=>h.1) (PM.add (Bm.snoc (x:=(no,MO)) o r.2 hb)) ?_;have e:=MN (ps:=ps) (x:=(no,MO)) (q:=q) (v:=k9 r.1.1 MO.length);have u:(ps++[(no,MO)]).length=ps.length+1:=by simp
   refine cx a rfl ?_ (AK.aQ (rest.drop 4,ps++[(no,MO)],I3 q ps.length (k9 r.1.1 MO.length)) rfl ?_ ?_ ?_ ?_)
   .simp only[az,bA,fM];omega
   .simp only[az.cat,az,u,rJ,dc,b9,aG,aE];and_intros<;>first|rfl|omega|exactλ_ _=>rfl|exact hD
   .simp only[az.cat,az,u,aG,aE];and_intros<;>first|rfl|exactλ_ _=>rfl|exact e|omega
   .refine⟨λp L=>B p (rH L),by grind,by grind,f,by grind,?_⟩;grind
   grind
  .have e:ps=s.1++np:=by rw[E];cases f<;>simp[fH,h]
   refine bq a [(30,af)] rfl (by simp only[az,bO];omega) (AK.leaveD rfl rfl ?_);refine out q ay rfl ?_ rfl ?_
   .simp only[az.cat,az,e,cX,aG,aE];and_intros<;>first|rfl|omega|exactλ_ _=>rfl
   .simp[e]
 rintro q -;have d:gm k s t=(decide (20<s.1.length+np.length)||(decide (99<cM s+np.length-1)||(decide (20<dw s)||decide (9<=s.2.2.length)))):=by unfold gm;rw[N]
 rw[G]at d;have g:(s.1++np).length=s.1.length+np.length:=cX;have Z0:-4000000<=dw s/\dw s<=4000001:=by
  have:=nO s.2.2 z.h;unfold dw;split
  .omega
  .have:=z.s _ (fA (show s.2.1.length-1<s.2.1.length by omega) (0,[]));omega
 cases A with
 |true =>
  apply AK.join [(5,.e (.one (.ptr 0 0))),(8,.e (.one (.ptr 1 0)))] (PH s (s.1++np) q)
  .intro out;by_cases c1:20<s.1.length+np.length
   .refine bq a [(53,ab),(1000010,ab)] rfl ?_ (out _ _ rfl (by simp));simp[g];omega
   by_cases c2:99<cM s+np.length-1
   .refine bq a [(53,af),(57,ab),(1000010,ab)] rfl ?_ (out _ _ rfl (by simp));simp[g,bA];omega
   by_cases c3:20<dw s
   .refine bq a [(53,af),(57,af),(61,ab),(1000010,ab)] rfl ?_ (out _ _ rfl (by simp));simp[g,bA];omega
   refine bq a [(53,af),(57,af),(61,af),(67,ab),(1000010,ab)] rfl ?_ (out _ _ rfl (by simp));simp[g,bA];grind
  refine cx a rfl ay ?_;refine AK.cQ (EM s b.p b.p2 b.sn b.s2 b.h) [] rfl ?_;refine cx a rfl ay ?_;refine AK.lC q [] rfl rfl rfl rfl rfl rfl rfl rfl rfl ?_ rfl rfl rfl rfl xe;simp
 |false =>
 have d:=d.symm;simp only[u6,bO]at d;obtain⟨c1,c2,c3,c4⟩:=d;have K:=gp.cu s.2.1 (fp (dw s) k t);have e2:=cH.cu s.2.2 (by_,dw s);have J:ee k s by_ t=(s.1++np,s.2.1++[fp (dw s) k t],s.2.2++[(by_,dw s)]):=by unfold ee;rw[N]
 rw[J];refine bq a [(53,af),(57,af),(61,af),(67,af),(1000013,ab)] rfl ?_ ?_
 .simp only[az,hk,cF.list_fn,g,bA,show i41.bytes=32 from rfl,show i106.bytes=16 from rfl,ba,bO,aG,aE];and_intros<;>first|exact y|exact cF.aU _|rfl|omega
 generalize s.1++np=ps at *;generalize S:s.2.1++[fp (dw s) k t]=sw at *;generalize Y:s.2.2++[(by_,dw s)]=hw at *;have m:sw.length=s.2.1.length+1:=by grind
 have w:hw.length=s.2.2.length+1:=by grind
 refine AK.BZ (φ':=[(8,.e (.one (.ptr 1 0))),(10,.e (.one (.ptr 6 0)))]) (σ':=[vB s,.cells 27 [gK,gK,gK],.buf 37 2 ps.length (Dw ps q),.buf 41 2 sw.length (gp.fn sw),.buf 106 2 hw.length (cH.fn hw),.b8 (PM (Bm ps q ps.length)),.cells 27 [.bp 2 (.sl ps.length 2 0 ps.length),.bp 3 (.sl sw.length 2 0 sw.length),.bp 4 (.sl hw.length 2 0 hw.length)]]) ?_ rfl ?_ rfl ?_
 .refine AK.oG 3 rfl rfl rfl (by simp) (by simp) ?_;refine AK.oG 4 rfl rfl rfl (by simp) (by simp) ?_;refine bt rfl ay ?_;refine AK.lC q [2,5] rfl rfl rfl rfl rfl rfl rfl rfl rfl ?_ rfl rfl rfl rfl (λj T=>absurd T (by simp));simp[qX]
 .simp
 .simp only[az.cat,az,m,w,cF.list_fn,aG,aE];and_intros<;>first|exact cv.same|exact K|exact e2|rfl
abbrev Tz(v:ah)(ps:List bG):Mem->Prop:=λM=>Rd M v (.sl af 2 ps.length (cP.fn ps))
def xY[X.gZ](k:Int)(s:bm)(by_:Int)(t:List bx)(hk:cd k=ab)(m:lD s)(l:ry s)(n:sE t)(b:(cW s.1).length<=100000)(i:∀p∈s.1,0<p.2.length)(d:gm k s t=af):
  eb (ι:=ah) X 22 [dI k,rq s,dI by_,cF.sl t] [.b8 (fQ 37 2 (.nil ae) 0 [])] (λv=>.eX [.agg [.c (.val v),.c (EI (ee k s by_ t).2.1),.c (Ct (ee k s by_ t).2.2)],.one (.c (.bool ab))])
   (λv=>[.b8 (PM (Tz v (ee k s by_ t).1))]):=by
 refine eb.U1 (eb.Bh (cP.fn (ee k s by_ t).1) (rC k s by_ t hk m l n b i d) (λq M M' hle hK j f=>(hK j f).mono hle) λq M hK j f=>?_) (λ_ _ _ h=>h.1) (λ_=>rfl) (λ_=>rfl) rfl rfl;have hK:=hK j f;generalize(ee k s by_ t).1=ps at *;have e:cP.fn ps j=[.int .i64 (ps.getD j (0,[])).1,sP (ps.getD j (0,[]))]:=rfl;rw[e];refine⟨rfl,λp c a=>?_⟩
 match p,a with
 |0,a=>cases a;exact⟨_,rfl,λv g h=>by cases h with|int h=>exact .int h⟩
 |1,a=>cases a;exact⟨_,rfl,λv g h=>by grind[Rd.dZ]⟩
def H3(p:Bs):Ev X 179 [dS p] [] (dB (bz p)) []:=by
 refine Ev.bQ Tryz.func179 rfl λb=>?_;have a:bE X [(20,Cu),(95,Xm)]:=.cons EJ (.cons t95 .nil);by_cases h:1<=p.length/\p.length<=8
 .refine aW a [(6,ab)] rfl ?_ (AK.bw rfl ?_)
  .simp;omega
  .simp[bz,h.1,h.2]
 .refine aW a [(6,af)] rfl ?_ (AK.bw rfl ?_)
  .simp;omega
  .have:bz p=af:=by simp only[bz,<-Bool.decide_and,iP h,rO]
   simp[this]
abbrev GA:dt:=kr aS (λp=>dB (bz p)) λ_=>[]
def OR:ef X 179 GA:=.pz λp _=>H3 p
def H4(p:Bs):Ev X 149 [dS p] [] (dS (eO p)) []:=by
 refine Ev.bQ Tryz.func149 rfl λb=>?_;have a:bE X [(179,GA),(103,Gw)]:=.cons OR (.cons Ll .nil);cases h:bz p with
 |true=>exact aW a [(5,af)] rfl (by simp[h]) (AK.bw rfl)
 |false=>exact aW a [(5,ab)] rfl (by simp[h]) (AK.bw rfl (by simp[eO,h]))
abbrev GC:dt:=kr aS (λp=>dS (eO p)) λ_=>[]
def OS:ef X 149 GC:=.pz λp _=>H4 p
def H5(p:Bs):(eO p).length<=8:=by
 unfold eO;split
 .rename_i h;simp only[bz,bR,ba]at h;grind[xw]
 .simp
def CF(b:Bs):Ev X 131 [dS b] [] (Ar (eQ b)) []:=by
 refine Ev.bQ Tryz.func131 rfl λr=>?_;have p:=r.str 0 rfl;have i:bE X [(149,GC)]:=.cons OS .nil;refine bt rfl ay ?_;have fin:∀n,n<=b.length->strip (b.take n)=strip b->(n=0∨strip (b.take n)=b.take n)->b.take n=strip b:=λn a h f=>by
  rcases f with rfl|f
  .simpa[strip]using h
  grind
 have rest:∀n,n<=b.length->b.take n=strip b->eQ b=if b.length<=8/\eO (strip b)=b/\n≠0 then aa (b.take n)else ae:=λn a h=>by
  have t:=H5 (strip b);have l:n=0↔strip b=[]:=by grind[List.take_eq_nil_iff]
  unfold eQ;rw[h];by_cases g:eO (strip b)=b
  .by_cases m:bz (strip b)=ab
   .have:n≠0:=λq=>by rw[l.1 q]at m;cases m
    grind
   .have q:n=0:=l.2 (by rw[eO,aZ m]at g;grind);grind
  grind
 refine AK.kU (S2:=Nat) 0 rfl rfl (λn=>n<=b.length/\b.take n=strip b) (λn=>[(0,dS b),(4,dI n)]) (λ_=>[]) 0 (λn=>n<=b.length/\strip (b.take n)=strip b) (λn:Nat=>[(0,dS b),(4,dI n)]) (λ_=>[]) (λn=>n) b.length rfl (by simp) rfl ay rfl ⟨by omega,by simp⟩ ?_ ?_
 .rintro out n ⟨a,c⟩;rcases n with _|n
  .refine aX [(9,af),(15,af)] rfl (by simp) (AK.leaveD rfl rfl ?_);exact out 0 ⟨a,fin 0 a c (.inl rfl)⟩ rfl (by simp) rfl ay
  have l:=xa (s:=b) (n:=n) (by omega);have d:((n:Int)+1-1).toNat=n:=by omega
  by_cases f:b.getD n 0=46
  .refine aX [(9,ab),(15,ab)] rfl ?_ (AK.aQ n rfl ?_ ay ⟨by omega,?_⟩ (by omega))
   .have g:cK b n=46:=by unfold cK;rw[f];rfl
    simp[-aq,cN,d,g,bA];omega
   .simp
   grind
  .refine aX [(9,ab),(15,af)] rfl ?_ (AK.leaveD rfl rfl ?_)
   .have g:cK b n≠46:=by unfold cK;intro e;exact f (n9.1 (by grind))
    simp[-aq,cN,d,g,bA];omega
   .exact out (n+1) ⟨a,fin _ a c (.inr (by grind))⟩ rfl (by simp) rfl ay
 rintro n ⟨a,o⟩;have j:=rest n a o;have k:sd b ae (aa (n:Int))=strip b:=o▸rfl;have hi:((b.length:Int)<=8)↔b.length<=8:=by omega
 by_cases c1:b.length<=8
 .by_cases c2:eO (strip b)=b
  .by_cases c3:n=0
   .refine aW i [(21,af),(29,af),(32,ab)] rfl ?_ (AK.bw rfl ?_)
    .subst c3;simp only[az,k,c2];grind
    .simp[j,c3]
   .refine aW i [(21,af),(29,af),(32,af)] rfl ?_ (AK.bw rfl ?_)
    .simp[k,hi,c1,c2,c3,a]
    .simp[j,k,o,c1,c2,c3]
  .refine aW i [(21,af),(29,ab),(32,ab)] rfl ?_ (AK.bw rfl ?_)
   .simp[k,hi,c1,c2,a]
   .simp[j,c2]
 .refine aW i [(21,ab),(29,ab),(32,ab)] rfl ?_ (AK.bw rfl ?_)
  .simp;omega
  .simp[j,c1]
abbrev tO:dt:=kr aS (λb=>Ar (eQ b)) λ_=>[]
def y5:ef X 131 tO:=.pz λb _=>CF b
def H6(k:Int)(x:bn)(hk:cd k=ab):Ev X 91 [dI k,YQ x] [] (dB (right k x)) []:=by
 refine Ev.bQ Tryz.func91 rfl λc=>?_;have b:bE X [(131,tO),(98,xy)]:=.cons y5 (.cons xu .nil);cases a:eQ x.2 with
 |none=>exact aW b [(14,af)] rfl (by simp[a]) (AK.bw rfl (by simp[right,a]))
 |some p=>exact aW b [(14,ab)] rfl (by simp[a,hk,xd a]) (AK.bw rfl (by simp[right,a]))
abbrev AN:dt:=oT aI TP (λk x=>dB (right k x)) λk _=>[cd k=ab]
def GD:ef X 91 AN:=.sD λk x h=>H6 k x h
def OT(k:Int):Ev X 48 [dI k] [] (dB (cd k)) []:=by refine Ev.bQ Tryz.func48 rfl λb=>?_;have a:bE X [(20,Cu)]:=.cons EJ .nil;exact cf a rfl ay (AK.bw rfl (by simp[cd]))
abbrev CG:dt:=kr aI (λk=>dB (cd k)) λ_=>[]
def GF:ef X 48 CG:=.pz λk _=>OT k
abbrev SR(p:bG):aP:=.cells 37 [.c (.int .i64 p.1),.c (sP p)]
def CH(k:Int)(p:bG)(n:Int):Ev X 150 [dI k,KI p,dI n] [] (Ar (ei k p n)) []:=by
 refine Ev.bQ Tryz.func150 rfl λm=>?_;have b:bE X [(48,CG),(91,AN),(131,tO)]:=.cons GF (.cons GD (.cons y5 .nil));cases hk:cd k with
 |false =>
  refine aW b [(11,ab)] rfl (by simp[hk]) (AK.bw rfl ?_);have:ei k p n=ae:=by unfold ei chunk;grind
  simp[this]
 |true =>
 have l:=m.QG 1 rfl 1 rfl;refine aW b [(11,af)] rfl (by simp[hk]) ?_;refine AK.cz 1 (λi=>i<=p.2.length/\p.2.find? (λx=>x.1==n)=(p.2.drop i).find? (λx=>x.1==n)) (λi:Nat=>[(0,dI k),(4,.e (.one (.ptr 0 0))),(2,dI n),(8,dI i)]) (λ_=>[SR p]) (λi=>p.2.length-i) 0 rfl (by simp) rfl (by simp) rfl ⟨by omega,rfl⟩ ?_;rintro i ⟨hi,a⟩;by_cases h:i<p.2.length
 .have f:p.2.getD i dO.b5=gX p i:=rfl;have j:p.2.drop i=gX p i::p.2.drop (i+1):=by grind[List.drop_eq_getElem_cons]
  rw[j,List.find?_cons]at a;by_cases d:(gX p i).1=n
  .rw[show((gX p i).1==n)=ab by grind]at a;cases g:right k (gX p i)with
   |false =>
    have c:right k (n,(gX p i).2)=af:=d▸g;refine aW b [(16,ab),(26,ab),(34,ab)] rfl ?_ (AK.fE (cp.zero rfl ?_))
    .simp[-aq,f,d,c,hk,h]
    .have e:ei k p n=ae:=by have:=rr (k:=k) (x:=gX p i) hk;rw[g]at this;simp only[ei,a];simpa using this
     simp[e]
   |true =>
    have c:right k (n,(gX p i).2)=ab:=d▸g;refine aW b [(16,ab),(26,ab),(34,af)] rfl ?_ (AK.fE (cp.zero rfl ?_))
    .simp[-aq,f,d,c,hk,h]
    .have e:ei k p n=eQ (gX p i).2:=by simp only[ei,a,chunk];unfold right at g;grind
     simp[-aq,e,f]
  .rw[show((gX p i).1==n)=af by grind]at a;refine aW b [(16,ab),(26,af)] rfl ?_ (AK.aQ (i+1) rfl (by simp) (by simp) ⟨h,a⟩ (by omega));simp[-aq,f,d,bA,h];omega
 .obtain rfl:i=p.2.length:=by omega
  refine aW b [(16,af)] rfl (by simp) (AK.leaveD rfl rfl ?_);refine cf b rfl ay (AK.bw rfl ?_);simp[ei,a]
abbrev GG:dt:=Gg aI (Eu dO) aI (λk p n=>Ar (ei k p n)) λ_ _ _=>[]
def OU:ef X 150 GG:=.Na λk p n _=>CH k p n
theorem pG(k:Int)(p:bG):gg k p=(decide (1<=p.1/\p.1<=99)&&cd k&&decide (1<=p.2.length/\p.2.length<=4)&&(bg p.2.length).all (iL k p)):=by grind[tI]
def H7{k:Int}{p:bG}{i:Nat}(a:i≠0):iL k p i=(right k (gX p i)&&decide ((gX p (i-1)).1<(gX p i).1)):=by unfold iL;grind
def EO(k:Int)(p:bG):Ev X 45 [dI k,KI p] [] (dB (gg k p)) []:=by
 refine Ev.bQ Tryz.func45 rfl λm=>?_;have b:bE X [(20,Cu),(48,CG),(91,AN)]:=.cons EJ (.cons GF (.cons GD .nil));have l:=m.QG 1 rfl 1 rfl;rw[pG];by_cases c1:1<=p.1/\p.1<=99
 rotate_left
 .exact aW b [(10,ab),(14,ab),(21,ab)] rfl (by simp;omega) (AK.bw rfl (by simp[iP c1]))
 cases hk:cd k
 .exact aW b [(10,af),(14,ab),(21,ab)] rfl (by simp[hk,c1]) (AK.bw rfl)
 by_cases c3:1<=p.2.length/\p.2.length<=4
 rotate_left
 .exact aW b [(10,af),(14,af),(21,ab)] rfl (by simp[hk,c1];omega) (AK.bw rfl (by simp[iP c3]))
 refine aW b [(10,af),(14,af),(21,af)] rfl (by simp[hk,c1];omega) ?_;rw[db c1,db c3,fC,fC,fC];refine AK.cz 1 (λi=>i<=p.2.length/\∀j,j<i->iL k p j=ab) (λi:Nat=>[(0,dI k),(3,.e (.one (.ptr 0 0))),(5,dI i)]) (λ_=>[SR p]) (λi=>p.2.length-i) 0 rfl (by simp) rfl (by simp) rfl ⟨by omega,by omega⟩ ?_;rintro i ⟨hi,a⟩;by_cases h:i<p.2.length
 .have f:p.2.getD i dO.b5=gX p i:=rfl;cases c:right k (gX p i)with
  |false =>
   refine aW b [(26,ab),(37,ab),(56,ab)] rfl ?_ (AK.fE (cp.zero rfl ?_))
   .simp[-aq,f,c,hk,h]
   .rw[iH h (by simp only[iL,c,rO])];simp
  |true =>
   by_cases g:i=0
   .subst g;refine aW b [(26,ab),(37,af),(40,af),(56,af)] rfl ?_ (AK.aQ 1 rfl (by simp) (by simp) ⟨h,jW a (by simp only[iL,c,fC];rfl)⟩ (by omega));simp[-aq,f,c,hk,h,bA]
   have d:p.2.getD (i-1) dO.b5=gX p (i-1):=rfl;have o:=H7 (k:=k) (p:=p) g;by_cases n:(gX p (i-1)).1<(gX p i).1
   .refine aW b [(26,ab),(37,af),(40,ab),(54,af),(56,af)] rfl ?_ (AK.aQ (i+1) rfl (by simp) (by simp) ⟨h,jW a (by grind)⟩ (by omega));simp[-aq,f,d,c,hk,h,n,bA];omega
   .refine aW b [(26,ab),(37,af),(40,ab),(54,ab),(56,ab)] rfl ?_ (AK.fE (cp.zero rfl ?_))
    .simp[-aq,f,d,c,hk,h,bA];omega
    .rw[iH h (by grind)];simp
 .obtain rfl:i=p.2.length:=by omega
  refine aW b [(26,af)] rfl (by simp) (AK.leaveD rfl rfl ?_);exact cf b rfl ay (AK.bw rfl (by simp[dz.2 a]))
abbrev CI:dt:=oT aI (Eu dO) (λk p=>dB (gg k p)) λ_ _=>[]
def Lv:ef X 45 CI:=.sD λk p _=>EO k p
def lR{α:Type}{l:List α}{i:Nat}{d:α}(h:i<l.length):l.getD i d∈l:=by grind
def OV{l:List Int}{n:Int}:l.contains n=!(bg l.length).all λi=>!(l.getD i 0==n):=by rw[pW,j8,<-n8,dz,List.contains_iff_mem];grind[List.mem_iff_getElem]
def OW(l:List Int)(n:Int):Ev X 46 [cI.sl l,dI n] [] (dB (l.contains n)) []:=by
 refine Ev.bQ Tryz.func46 rfl λe=>?_;have c:=e.sl 0 rfl;refine bt rfl ay ?_;rw[OV];refine AK.j3 (λi=>i<=l.length/\∀j,j<i->(!(l.getD j 0==n))=ab) (λi:Nat=>[(0,cI.sl l),(1,dI n),(5,dI i)]) (λ_=>[]) (λi=>l.length-i) 0 rfl (by simp) rfl ay ⟨by omega,by omega⟩ ?_;rintro i ⟨hi,a⟩;by_cases h:i<l.length
 .have b:l.getD i cI.b5=l.getD i 0:=rfl;by_cases d:l.getD i 0=n
  .refine aX [(9,ab),(17,ab)] rfl ?_ (AK.iD (cp.zero rfl ?_))
   .simp[-aq,b,d,h]
   .rw[iH h (by grind)];simp
  .refine aX [(9,ab),(17,af)] rfl ?_ (AK.gf (i+1) rfl (by simp) rfl ay ⟨h,jW a (by grind)⟩ (by omega));simp[-aq,b,d,h,bA];omega
 .obtain rfl:i=l.length:=by omega
  refine aX [(9,af)] rfl (by simp) (AK.leave rfl rfl ?_);exact bt rfl ay (AK.bw rfl (by rw[dz.2 a];simp))
abbrev QH:dt:=oT (aL cI) aI (λl n=>dB (l.contains n)) λ_ _=>[]
def V4:ef X 46 QH:=.sD λl n _=>OW l n
def EP(k:Int)(ps:List bG)(n:Int):Ev X 132 [dI k,cP.sl ps,dI n] [] (Ar (dK k ps n)) []:=by
 refine Ev.bQ Tryz.func132 rfl λg=>?_;have f:=g.sl 1 rfl;have d:bE X [(150,GG)]:=.cons OU .nil;refine cf d rfl ay ?_;refine AK.j3 (λi=>i<=ps.length/\dK k ps n=dK k (ps.drop i) n) (λi:Nat=>[(0,dI k),(1,cP.sl ps),(2,dI n),(8,dI i)]) (λ_=>[]) (λi=>ps.length-i) 0 rfl (by simp) rfl ay ⟨by omega,rfl⟩ ?_;rintro i ⟨hi,a⟩;by_cases h:i<ps.length
 .have e:ps.drop i=ps.getD i (0,[])::ps.drop (i+1):=by grind[List.drop_eq_getElem_cons]
  have c:((ps.getD i cP.b5).1,dO.list (ps.getD i cP.b5).2.length (dO.fn (ps.getD i cP.b5).2))=ps.getD i (0,[]):=by rw[dO.list_fn];rfl
  rw[e,show dK k (ps.getD i (0,[])::ps.drop (i+1)) n=_ from List.findSome?_cons]at a;cases b:ei k (ps.getD i (0,[])) n with
  |some q =>
   rw[b]at a;refine aW d [(14,ab),(27,ab)] rfl ?_ (AK.iD (cp.zero rfl ?_))
   .simp[-aq,c,b,h,dO.aU]
   .simp[-aq,c,b,a]
  |none =>
   rw[b]at a;refine aW d [(14,ab),(27,af)] rfl ?_ (AK.gf (i+1) rfl (by simp) rfl ay ⟨h,a⟩ (by omega));simp[-aq,c,b,h,bA,dO.aU];omega
 .obtain rfl:i=ps.length:=by omega
  refine aX [(14,af)] rfl (by simp) (AK.leave rfl rfl ?_);exact bt rfl ay (AK.bw rfl (by rw[a,va];simp[dK]))
abbrev CJ:dt:=Gg aI (aL cP) aI (λk ps n=>Ar (dK k ps n)) λ_ _ _=>[]
def Lw:ef X 132 CJ:=.Na λk ps n _=>EP k ps n
def Lx(a b:List Bs):Ev X 151 [cS.sl a,cS.sl b] [] (dB (a==b)) []:=by
 refine Ev.bQ Tryz.func151 rfl λk=>?_;have e:=k.sl 0 rfl;by_cases g:a.length=b.length
 rotate_left
 .have:(a==b)=af:=eD.2 (by grind);exact aX [(10,ab)] rfl (by simp;omega) (AK.bw rfl (by simp[this]))
 refine aX [(10,af)] rfl (by simp;omega) ?_;refine AK.j3 (λi=>i<=a.length/\∀j,j<i->a.getD j []=b.getD j []) (λi:Nat=>[(0,cS.sl a),(1,cS.sl b),(5,dI i)]) (λ_=>[]) (λi=>a.length-i) 0 rfl (by simp) rfl ay ⟨by omega,by omega⟩ ?_;rintro i ⟨hi,f⟩;by_cases h:i<a.length
 .have d:∀l:List Bs,l.getD i cS.b5=l.getD i []:=λ_=>rfl;by_cases c:a.getD i []=b.getD i []
  .refine aX [(14,ab),(25,af)] rfl ?_ (AK.gf (i+1) rfl (by simp) rfl ay ⟨h,λj n=>?_⟩ (by omega))
   .simp[-aq,d,c,bA];omega
   grind
  .refine aX [(14,ab),(25,ab)] rfl ?_ (AK.iD (cp.zero rfl ?_))
   .simp[-aq,d,c];omega
   .have:(a==b)=af:=eD.2 (by grind);simp[this]
 .obtain rfl:i=a.length:=by omega
  have:a=b:=rL g λj c m=>by grind
  refine aX [(14,af)] rfl (by simp) (AK.leave rfl rfl ?_);exact bt rfl ay (AK.bw rfl (by simp[this]))
def SU:ef X 151 Ow:=.sD λa b _=>Lx a b
def uw(t:Bs):∀k f p,p∈fj t k f->p.length<=8
 |0,_,p,h=>by simp[fj]at h
 |k+1,f,p,h=>by
  simp only[fj]at h;split at h
  .rename_i a;rcases eE.1 h with rfl|h
   .grind [nD]
   .exact uw t k _ p h
  grind
def AO{l:List Bs}{p:Bs}(h:p∈l)(b:8<p.length):gv l=ae:=by unfold gv;rw[aZ];intro a;simp only[bR,hI]at a;have:=uw l.flatten l.flatten.length 0 p (by rw[show fj l.flatten l.flatten.length 0=l from a.2];exact h);omega
def uS(l:List Bs)(i:Nat):(l.take i).flatten.length<=l.flatten.length:=by grind[List.take_append_drop]
def ER{l:List Bs}{i:Nat}(h:40<(l.take i).flatten.length):gv l=ae:=by have:=uS l i;unfold gv;rw[aZ];intro a;simp only[bR,eg,ba]at a;omega
def Ly(l:List Bs):Ev X 133 [cS.sl l] [] (Ar (gv l)) []:=by
 refine Ev.bQ Tryz.func133 rfl λk=>?_;have g:=k.sl 0 rfl;have a:bE X [(51,Xn),(96,Gu),(151,Ow)]:=.cons t51 (.cons Lc (.cons SU .nil));refine cf a rfl ay ?_;refine AK.j3 (λi=>i<=l.length/\(l.take i).flatten.length<=48) (λi:Nat=>[(0,cS.sl l),(4,dS (l.take i).flatten),(5,dI i)]) (λ_=>[]) (λi=>l.length-i) 0 rfl (by simp) rfl ay ⟨by omega,by simp⟩ ?_;rintro i ⟨hi,f⟩;by_cases h:i<l.length
 .have e:l.getD i cS.b5=l.getD i []:=rfl;have m:(l.take (i+1)).flatten=(l.take i).flatten++l.getD i []:=by grind[bS]
  by_cases b:(l.getD i []).length<=8
  .by_cases c:(l.take i).flatten.length<=40
   .refine aW a [(9,ab),(18,af),(22,af)] rfl ?_ (AK.gf (i+1) rfl ?_ rfl ay ⟨h,by grind⟩ (by omega))
    .simp[-aq,-List.length_flatten,e,bA];omega
    .simp only[az.cat,az,m,aG,aE];grind[cv.same]
   .refine aW a [(9,ab),(18,af),(22,ab)] rfl ?_ (AK.iD (cp.zero rfl ?_))
    .simp[-aq,-List.length_flatten,e];omega
    .simp[ER (l:=l) (i:=i) (by omega)]
  .refine aW a [(9,ab),(18,ab),(22,ab)] rfl ?_ (AK.iD (cp.zero rfl ?_))
   .simp[-aq,e];omega
   .simp[az,az.cat,AO (lR (d:=[]) h) (by omega)]
 .obtain rfl:i=l.length:=by omega
  rw[di]at f⊢;refine aW a [(9,af)] rfl (by simp) (AK.leave rfl rfl ?_);have el:=cS.list_fn l;cases b:eg l.flatten with
  |false=>exact aW a [(32,ab),(38,ab)] rfl (by simp[b]) (AK.bw rfl (by simp[gv,b]))
  |true =>
   have j:b6 l.flatten=ab:=by simp only[eg,bR]at b;exact b.2
   cases c:(pieces l.flatten==l)with
   |false =>
    refine aW a [(32,af),(38,ab)] rfl ?_ (AK.bw rfl (by simp[gv,c]));simp[-List.length_flatten,b,j,el,cS.list_fn,cS.aU,by simpa using c];omega
   |true =>
    refine aW a [(32,af),(38,af)] rfl ?_ (AK.bw rfl (by simp[gv,b,c]));simp[-List.length_flatten,b,j,el,cS.list_fn,cS.aU,by simpa using c];omega
abbrev Lz:dt:=kr (aL cS) (λl=>Ar (gv l)) λ_=>[]
def SV:ef X 133 Lz:=.pz λl _=>Ly l
abbrev snB(s:gE):aP:=.cells 41 [.c (.int .i64 s.1),.c (.sl af 2 s.2.length (cL.fn s.2))]
abbrev LA(k:Int)(ps:List bG)(ns:List Int):List Bs:=ns.map λn=>(dK k ps n).getD []
def OX{k:Int}{ps:List bG}{ns:List Int}{j:Nat}(h:j<ns.length):LA k ps (ns.take (j+1))=LA k ps (ns.take j)++[(dK k ps (ns.getD j 0)).getD []]:=by grind[bS]
def CK{k:Int}{ps:List bG}{ns:List Int}{j:Nat}(h:j<ns.length)(a:dK k ps (ns.getD j 0)=ae):eK k ps ns=ae:=by unfold eK;rw[aZ];grind
def AP{k:Int}{ps:List bG}{ns:List Int}(h:∀j,j<ns.length->(dK k ps (ns.getD j 0)).isSome=ab):eK k ps ns=aa (LA k ps ns):=by unfold eK;rw[bl];grind[List.mem_iff_getElem]
def AQ(k:Int)(s:gE)(ps:List bG)(I:s.2.length<=4000000)(D:∀x∈s.2,x.2.length<=4000000):
  Ev X 92 [dI k,Nb s,cP.sl ps] [] (Sg ((c9 k s ps).getD []) (c9 k s ps).isSome) []:=by
 refine Ev.bQ Tryz.func92 rfl λJ=>?_;have a:bE X [(48,CG),(132,CJ),(133,Lz),(21,V5)]:=.cons GF (.cons Lw (.cons SV (.cons t21 .nil)));cases hk:cd k with
 |false =>
  refine aW a [(19,ab)] rfl ?_ (AK.bw rfl ?_)
  .simp[hk]
  .simp[c9,hk]
 |true =>
 refine aW a [(19,af),(1000004,ab)] rfl (by simp[hk]) ?_;refine AK.iC 8 76 2 rfl rfl ?_;refine cf a rfl ay ?_;refine AK.cz 2 (λi=>i<=s.2.length/\∀j,j<i->(fileOf k ps (s.2.getD j ([],[]))).isSome=ab) (λi:Nat=>[(0,dI k),(2,cP.sl ps),(4,.e (.one (.ptr 0 0))),(8,.e (.one (.vec 1 2 (dh k ps (s.2.take i)).length (cF.fn (dh k ps (s.2.take i)))))),(9,dI i)]) (λi=>[snB s,.vec 76 2 (dh k ps (s.2.take i)).length (cF.fn (dh k ps (s.2.take i)))]) (λi=>s.2.length-i) 0 rfl (by simp[dh]) rfl (by simp[dh]) rfl ⟨by omega,by omega⟩ ?_;rintro i ⟨hi,B⟩;by_cases h:i<s.2.length
 .have A:=D _ (lR (d:=([],[])) h);have f:=pC (k:=k) (ps:=ps) h;have z:(dh k ps (s.2.take i)).length=i:=by simp[dh];omega
  have b:s.2.getD (i:Int).toNat cL.b5=s.2.getD i ([],[]):=by grind
  have g:=pD (k:=k) (ps:=ps) h;generalize E:s.2.getD i ([],[])=x at A f b g;generalize dh k ps (s.2.take i)=fs at *;refine aW a [(25,ab),(1000008,ab)] rfl (by simp;omega) ?_;refine AK.iC 10 9 1 rfl rfl ?_;refine cf a rfl ay ?_;refine AK.cz 3 (λj=>j<=x.2.length/\∀q,q<j->(dK k ps (x.2.getD q 0)).isSome=ab) (λj:Nat=>[(0,dI k),(2,cP.sl ps),(4,.e (.one (.ptr 0 0))),(8,.e (.one (.vec 1 2 fs.length (cF.fn fs)))),(9,dI i),(10,.e (.one (.vec 2 1 (LA k ps (x.2.take j)).length (cS.fn (LA k ps (x.2.take j)))))),(11,dI j)]) (λj=>[snB s,.vec 76 2 fs.length (cF.fn fs),.vec 9 1 (LA k ps (x.2.take j)).length (cS.fn (LA k ps (x.2.take j)))]) (λj=>x.2.length-j) 0 rfl (by simp) rfl (by simp) rfl ⟨by omega,by omega⟩ ?_;rintro j ⟨H,w⟩;by_cases y:j<x.2.length
  .have c:x.2.getD (j:Int).toNat cI.b5=x.2.getD j 0:=by grind
   cases m:dK k ps (x.2.getD j 0)with
   |none =>
    have e:fileOf k ps x=ae:=by simp[fileOf,CK y m]
    refine aW a [(37,ab),(56,ab)] rfl ?_ (AK.fE (AK.sr (cp.zero rfl ?_)))
    .simp only[az,b,c,m,cP.list_fn,cP.aU];grind
    .rw[g e];simp
   |some q =>
    have l:=OX (k:=k) (ps:=ps) y;rw[m]at l;have o:(LA k ps (x.2.take j)).length=j:=by grind
    have p:=cS.cu (LA k ps (x.2.take j)) q;refine aW a [(37,ab),(56,af)] rfl ?_ (AK.aQ (j+1) rfl ?_ ?_ ⟨y,λr F=>?_⟩ (by omega))
    .simp only[az,b,c,m,cP.list_fn,cP.aU,o,bA,show i9.bytes=16 from rfl];grind
    .rw[l];simp only[az.cat,az,b,c,m,cP.list_fn,cX,jh,aG,aE];and_intros<;>first|exact cv.same|exact p|rfl|omega
    .rw[l];simp only[az.cat,az,b,c,m,cP.list_fn,cX,jh,aG,aE];and_intros<;>first|exact cv.same|exact p|rfl|omega
    grind
  .obtain rfl:j=x.2.length:=by omega
   have u:=AP w;rw[di];have o:(LA k ps x.2).length=x.2.length:=by simp
   refine aW a [(37,af)] rfl (by simp only[az,b];simp[h]) (AK.leaveD rfl rfl ?_);cases n:gv (LA k ps x.2)with
   |none =>
    have e:fileOf k ps x=ae:=by simp[fileOf,u,n]
    refine aW a [(68,ab)] rfl ?_ (AK.fE (cp.zero rfl ?_))
    .simp only[az,cS.list_fn,cS.aU,n];simp
    .rw[g e];simp
   |some t =>
    have e:fileOf k ps x=aa (x.1,t):=by simp[fileOf,u,n]
    rw[e]at f;have C:=cF.cu fs (x.1,t);refine aW a [(68,af)] rfl ?_ (AK.aQ (i+1) rfl ?_ ?_ ⟨h,λr F=>?_⟩ (by omega))
    .simp only[az,b,cS.list_fn,cS.aU,n,z,bA,show i76.bytes=32 from rfl];grind
    .rw[f];simp only[az.cat,az,b,cS.list_fn,n,im,cX,jh,aG,aE];and_intros<;>first|exact cv.same|exact C|rfl|omega
    .rw[f];simp only[az.cat,az,b,cS.list_fn,n,im,cX,jh,aG,aE];and_intros<;>first|exact cv.same|exact C|rfl|omega
    grind
 .obtain rfl:i=s.2.length:=by omega
  rw[di];have G:s.2.all (λx=>(fileOf k ps x).isSome)=ab:=List.all_eq_true.2 λx A=>by grind[List.mem_iff_getElem]
  refine aW a [(25,af)] rfl (by simp) (AK.leaveD rfl rfl ?_);cases v:cw (dh k ps s.2)with
  |false =>
   refine aW a [(83,ab)] rfl ?_ (AK.bw rfl ?_)
   .simp[cF.list_fn,cF.aU,v]
   .simp[c9,v]
  |true =>
   refine aW a [(83,af)] rfl ?_ (AK.bw rfl ?_)
   .simp[cF.list_fn,cF.aU,v]
   .simp[c9,v,hk,G]
abbrev xC:dt:=Gg aI (Eu cL) (aL cP) (λk s ps=>Sg ((c9 k s ps).getD []) (c9 k s ps).isSome) λ_ s _=>[s.2.length<=4000000,∀x∈s.2,x.2.length<=4000000]
def ES:ef X 92 xC:=.Na λk s ps h=>AQ k s ps h.1 h.2
abbrev sK:=Int×Int
def gY(h:sK):Bool:=decide (1<=h.1/\h.1<=2)&&decide (1<=h.2/\h.2<=20)
def k6(l:List sK):Bool:=(bg l.length).all (λi=>gY (l.getD i (0,0)))&&decide (l.length<=9)
abbrev Zd(h:sK):D:=.e (.agg [.c (.int .i64 h.1),.c (.int .i64 h.2)])
def H8(h:sK):Ev X 93 [Zd h] [] (dB (gY h)) []:=by
 refine Ev.bQ Tryz.func93 rfl λb=>?_;have a:bE X [(20,Cu)]:=.cons EJ .nil;by_cases c:1<=h.1/\h.1<=2
 .exact aW a [(6,ab)] rfl (by simp[c]) (AK.bw rfl (by simp[gY,c]))
 .exact aW a [(6,af)] rfl (by simp;omega) (AK.bw rfl (by simp only[az,gY,iP c];simp))
def H9(l:List sK):Ev X 49 [cH.sl l] [] (dB (k6 l)) []:=by
 refine Ev.bQ Tryz.func49 rfl λf=>?_;have e:=f.sl 0 rfl;have b:bE X [(93,kr TQ (λh=>dB (gY h)) λ_=>[])]:=.cons (.pz λh _=>H8 h) .nil;refine cf b rfl ay ?_;unfold k6;refine AK.j3 (λi=>i<=l.length/\∀j,j<i->gY (l.getD j (0,0))=ab) (λi:Nat=>[(0,cH.sl l),(3,dI i)]) (λ_=>[]) (λi=>l.length-i) 0 rfl (by simp) rfl ay ⟨by omega,by omega⟩ ?_;rintro i ⟨hi,a⟩;by_cases h:i<l.length
 .have d:l.getD i cH.b5=l.getD i (0,0):=rfl;cases c:gY (l.getD i (0,0))with
  |false =>
   refine aW b [(7,ab),(15,ab)] rfl ?_ (AK.iD (cp.zero rfl ?_))
   .simp[-aq,d,c,h]
   .rw[iH h c];simp
  |true =>
   refine aW b [(7,ab),(15,af)] rfl ?_ (AK.gf (i+1) rfl (by simp) rfl ay ⟨h,jW a c⟩ (by omega));simp[-aq,d,c,h,bA];omega
 .obtain rfl:i=l.length:=by omega
  refine aW b [(7,af)] rfl (by simp) (AK.leave rfl rfl ?_);exact cf b rfl ay (AK.bw rfl (by rw[dz.2 a];simp;omega))
abbrev sL:dt:=kr (aL cH) (λl=>dB (k6 l)) λ_=>[]
def OY:ef X 49 sL:=.pz λl _=>H9 l
def bX(ps:List bG):List Int:=ps.flatMap λp=>p.2.map (·.1)
def CL{α:Type}(f:α->Int)(d:α)(l:List α)(i:Nat):Bool:=i==0||decide (f (l.getD (i-1) d)<f (l.getD i d))
def ma(k:Int)(ps:List bG)(i:Nat):Bool:=gg k (ps.getD i (0,[]))&&CL (·.1) (0,[]) ps i
def jX(k:Int)(s:bm)(i:Nat):Bool:=decide (1<=(s.2.1.getD i (0,[])).1/\(s.2.1.getD i (0,[])).1<=20)&&CL (·.1) (0,[]) s.2.1 i&&(c9 k (s.2.1.getD i (0,[])) s.1).isSome
def ft(k:Int)(s:bm):Bool:=(bg s.1.length).all (ma k s.1)&&decide (bX s.1).Nodup&&(bg s.2.1.length).all (jX k s)&&cd k&&k6 s.2.2&&decide (s.1.length<=20)
def xE{ps:List bG}{i:Nat}(h:i<ps.length):bX (ps.take (i+1))=bX (ps.take i)++(ps.getD i (0,[])).2.map (·.1):=by rw[bS h (0,[])];simp[bX]
def Ia{ps:List bG}{i:Nat}(h:¬(bX (ps.take i)).Nodup):¬(bX ps).Nodup:=λa=>h (by
 have:bX ps=bX (ps.take i)++bX (ps.drop i):=by unfold bX;grind[List.take_append_drop]
 grind)
end
end Go.AM.R1
