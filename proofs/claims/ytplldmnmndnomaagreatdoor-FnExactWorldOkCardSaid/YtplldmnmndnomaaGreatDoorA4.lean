/-
  Part 4 of a machine of values without memory, proved sound over the model, and of contracts of the functions that the laws reach. Nothing is taken for granted: no condition.
-/
import Derived.Test.YtplldmnmndnomaaGreatDoorA3
import Derived.Sort.Walk13a
import Derived.Conc.CrowdRun
set_option linter.unusedVariables false
set_option linter.unusedSimpArgs false
set_option linter.defProp false
set_option linter.deprecated false
namespace Go.AM.R1
open Go.Proofs
open Go.Sort (swp scanUp scanDown partLoop partEqLoop partition partitionEqual ltInt)
variable {X:Cx Tryz.prog}
theorem jD{p:Int->Bool}{d:Array Int}{j i:Nat}(h:i<=j)(a:p d[i]! = true):scanUp p d j i=scanUp p d j (i+1):=by
 rw[scanUp.eq_1 p d j i,ar (by simp[h,a])]
theorem dz{p:Int->Bool}{d:Array Int}{j i:Nat}(h:i<=j->p d[i]! = false):scanUp p d j i=i:=by
 rw[scanUp,an];intro a;rw[bA,aD] at a;rw[h a.1] at a;cases a.2
theorem gU{p:Int->Bool}{d:Array Int}{j i:Nat}(c:1<=j)(h:i<=j)(b:p d[j]! = true):scanDown p d i j=scanDown p d i (j-1):=by
 obtain⟨j,rfl⟩:∃ a,j=a+1:=⟨j-1,by omega⟩
 rw[scanDown,ar (by simp[h,b]),k6]
theorem dh{p:Int->Bool}{d:Array Int}{j i:Nat}(h:i<=j->p d[j]! = false):scanDown p d i j=j:=by
 cases j with
 |zero=>rfl
 |succ j =>
  rw[scanDown,an];intro a;rw[bA,aD] at a;rw[h a.1] at a;cases a.2
theorem kg{p:Int->Bool}{d:Array Int}{j:Nat}:∀ (m i:Nat),j+1-i<=m->i<=scanUp p d j i/\(scanUp p d j i<=j+1∨scanUp p d j i=i):=by
 intro m
 induction m with
 |zero=>intro i h;rw[dz (λa=>by omega)];omega
 |succ m c =>
  intro i h
  by_cases b:i<=j
  ·cases a:p d[i]! with
   |true=>rw[jD b a];have:=c (i+1) (by omega);omega
   |false=>rw[dz λ_=>a];omega
  ·rw[dz λx=>absurd x b];omega
theorem hJ{p:Int->Bool}{d:Array Int}{i:Nat}:∀ j:Nat,scanDown p d i j<=j/\(i<=scanDown p d i j+1∨scanDown p d i j=j):=by
 intro j
 induction j with
 |zero=>rw[show scanDown p d i 0=0 from rfl];omega
 |succ j c =>
  by_cases a:i<=j+1
  ·cases b:p d[j+1]! with
   |true=>rw[gU (by omega) a b,k6];omega
   |false=>rw[dh λ_=>b];omega
  ·rw[dh λx=>absurd x a];omega
theorem partLoop_eq{a i j:Nat}{d:Array Int}{b c:Nat}(k:1<=i)(hi:b=scanUp (λx=>ltInt x d[a]!) d j i)(e:c=scanDown (λx=>!ltInt x d[a]!) d b j) :
  partLoop ltInt a i j d=if b>c then (c,d) else partLoop ltInt a (b+1) (c-1) (swp d b c):=by
 have f:=kg (p:=λx=>ltInt x d[a]!) (d:=d) (j:=j) (j+1-i) i (aq _)
 have g:=hJ (p:=λx=>!ltInt x d[a]!) (d:=d) (i:=b) j
 rw[<-hi] at f;rw[<-e] at g;rw[partLoop.eq_1,<-hi,<-e]
 by_cases h:b>c
 ·rw[ar h,ar h]
 ·rw[an h,an h,dif_pos (by omega)]
theorem wU{d c:Array Int}{a b v i j:Nat}(e:c=swp d a v)(hi:i=scanUp (λx=>ltInt x c[a]!) c (b-1) (a+1))(f:j=scanDown (λx=>!ltInt x c[a]!) c i (b-1))(h:i>j):partition ltInt d a b v=(j,true,swp c j a):=by
 unfold partition;simp only;rw[<-e,<-hi,<-f,ar h]
theorem wV{d c:Array Int}{a b v i j:Nat}(e:c=swp d a v)(hi:i=scanUp (λx=>ltInt x c[a]!) c (b-1) (a+1))(g:j=scanDown (λx=>!ltInt x c[a]!) c i (b-1))(h:¬i>j){r:Nat×Array Int}(f:partLoop ltInt a (i+1) (j-1) (swp c i j)=r):partition ltInt d a b v=(r.1,false,swp r.2 r.1 a):=by
 subst f;unfold partition;simp only;rw[<-e,<-hi,<-g,an h]
set_option maxHeartbeats 8000000 in
theorem Hy(n:Nat)(d:Array Int)(a b v:Nat)(Q:d.size=n)(R:a<b)(Z:b<=n)(Y:v<n)(hn:n<=4000000) :
  Ev X 123 [gQ n,dI a,dI b,dI v] [bI n d] (.eY [.one (.c (.int .i64 (partition ltInt d a b v).1)),.one (.c (.bool (partition ltInt d a b v).2.1))]) [bI n (partition ltInt d a b v).2.2]:=by
 have l:aM X [(121,oR)]:=.cons rn .nil;refine Ev.body Tryz.func123 rfl rfl rfl λW=>?_
 refine af l [(1000002,true)] 200 rfl ?_ ?_
 ·simp only[aa,ay,az,aB,ai,ah];and_intros <;> omega
 refine AK.norm [bI n (swp d a v)] rfl ?_ ?_
 ·simp only[aa.cat,aa,ay,az,ah,ai];exact eK Q (by omega) (by omega) (λ_ _=>rfl)
 have y:(swp d a v).size=n:=by rw[size_swp];exact Q
 obtain⟨f,K⟩:∃ f,f=swp d a v:=⟨_,rfl⟩;rw[<-K] at y ⊢;refine af l [] 200 rfl ?_ ?_
 ·simp only[aa,aB];and_intros <;> omega
 refine AK.ik (S2:=Unit) 0 rfl rfl (λ_=>True) (λ_=>[(0,gQ n),(1,dI a),(10,dI ((scanUp (λx=>ltInt x f[a]!) f (b-1) (a+1)):Nat)),(11,dI (b-1:Nat))]) (λ_=>[bI n f]) 1 (λk:Nat=>a+1<=k/\k<=n+1/\scanUp (λx=>ltInt x f[a]!) f (b-1) k=scanUp (λx=>ltInt x f[a]!) f (b-1) (a+1)) (λk=>[(0,gQ n),(1,dI a),(10,dI (k:Nat)),(11,dI (b-1:Nat))]) (λ_=>[bI n f]) (λk=>b-1+1-k) (a+1) rfl ?_ rfl ?_ rfl ⟨aq _,by omega,rfl⟩ ?_ ?_
 ·simp[aa.cat,aa,aw] <;> omega
 ·simp[aa.cat,aa,aw]
 ·rintro out k ⟨z,A,g⟩
  by_cases m:k<=b-1
  ·by_cases t:(λx=>ltInt x f[a]!) f[k]! = true
   ·have h:ltInt f[k]! f[a]! = true:=by simpa using t
    refine af l [(32,true),(42,true)] 200 rfl ?_ (AK.aA (k+1) rfl ?_ rfl rfl rfl ?_ rfl ?_ ?_)
    ·simp only[aa,ay,az,h,aB,aD,ai,ah];and_intros <;> omega
    ·simp only[aa.cat,aa,ai,ah];omega
    ·simp[aa.cat,aa,aw]
    ·exact⟨by omega,by omega,by rw[<-g,jD m t]⟩
    ·omega
   ·have h:ltInt f[k]! f[a]! = false:=by simpa using t
    refine af l [(32,true),(42,false)] 200 rfl ?_ (AK.leaveD rfl rfl ?_)
    ·simp only[aa,ay,az,h,aB,aD,ai,ah];and_intros <;> omega
    have e:scanUp (λx=>ltInt x f[a]!) f (b-1) (a+1)=k:=by rw[<-g];exact dz λ_=>by simpa using t
    exact out () ab rfl (by simp only[aa.cat,aa,e,ai,ah]) rfl (by simp[aa.cat,aa,aw])
  ·refine af l [(32,false)] 200 rfl ?_ (AK.leaveD rfl rfl ?_)
   ·simp only[aa,aB,aY,ai,ah];omega
   have e:scanUp (λx=>ltInt x f[a]!) f (b-1) (a+1)=k:=by rw[<-g];exact dz λx=>absurd x m
   exact out () ab rfl (by simp only[aa.cat,aa,e,ai,ah]) rfl (by simp[aa.cat,aa,aw])
 rintro⟨⟩ -;have V:=kg (p:=λx=>ltInt x f[a]!) (d:=f) (j:=b-1) (b-1+1-(a+1)) (a+1) (aq _)
 obtain⟨i,hi⟩:∃ i,i=scanUp (λx=>ltInt x f[a]!) f (b-1) (a+1):=⟨_,rfl⟩
 rw[<-hi] at V ⊢;refine af l [] 200 rfl ab ?_;refine AK.ik (S2:=Unit) 2 rfl rfl (λ_=>True) (λ_=>[(0,gQ n),(1,dI a),(10,dI (i:Nat)),(11,dI ((scanDown (λx=>!ltInt x f[a]!) f (i) (b-1)):Nat))]) (λ_=>[bI n f]) 1 (λk:Nat=>k<=b-1/\k<=n/\scanDown (λx=>!ltInt x f[a]!) f (i) k=scanDown (λx=>!ltInt x f[a]!) f (i) (b-1)) (λk=>[(0,gQ n),(1,dI a),(10,dI (i:Nat)),(11,dI (k:Nat))]) (λ_=>[bI n f]) (λk=>k) (b-1) rfl ?_ rfl ?_ rfl ⟨aq _,by omega,rfl⟩ ?_ ?_
 ·simp[aa.cat,aa,aw] <;> omega
 ·simp[aa.cat,aa,aw]
 ·rintro out k ⟨z,A,g⟩
  by_cases m:i<=k
  ·by_cases t:(λx=>!ltInt x f[a]!) f[k]! = true
   ·have h:ltInt f[k]! f[a]! = false:=by simpa using t
    refine af l [(48,true),(58,false)] 200 rfl ?_ (AK.aA (k-1) rfl ?_ rfl rfl rfl ?_ rfl ?_ ?_)
    ·simp only[aa,ay,az,h,aB,aD,ai,ah];and_intros <;> omega
    ·simp only[aa.cat,aa,ai,ah];omega
    ·simp[aa.cat,aa,aw]
    ·exact⟨by omega,by omega,by rw[<-g,gU (by omega) m t]⟩
    ·omega
   ·have h:ltInt f[k]! f[a]! = true:=by simpa using t
    refine af l [(48,true),(58,true)] 200 rfl ?_ (AK.leaveD rfl rfl ?_)
    ·simp only[aa,ay,az,h,aB,aD,ai,ah];and_intros <;> omega
    have e:scanDown (λx=>!ltInt x f[a]!) f (i) (b-1)=k:=by rw[<-g];exact dh λ_=>by simpa using t
    exact out () ab rfl (by simp only[aa.cat,aa,e,ai,ah]) rfl (by simp[aa.cat,aa,aw])
  ·refine af l [(48,false)] 200 rfl ?_ (AK.leaveD rfl rfl ?_)
   ·simp only[aa,aB,aY,ai,ah];omega
   have e:scanDown (λx=>!ltInt x f[a]!) f (i) (b-1)=k:=by rw[<-g];exact dh λx=>absurd x m
   exact out () ab rfl (by simp only[aa.cat,aa,e,ai,ah]) rfl (by simp[aa.cat,aa,aw])
 rintro⟨⟩ -;have U:=hJ (p:=λx=>!ltInt x f[a]!) (d:=f) (i:=i) (b-1)
 obtain⟨j,O⟩:∃ j,j=scanDown (λx=>!ltInt x f[a]!) f i (b-1):=⟨_,rfl⟩
 rw[<-O] at U ⊢
 by_cases M:j<i
 ·rw[wU K hi O M];refine af l [(65,true),(1000009,true)] 200 rfl ?_ ?_
  ·simp only[aa,ay,az,aB,aD,ai,ah];and_intros <;> omega
  refine AK.norm [bI n (swp f j a)] rfl ?_ ?_
  ·simp only[aa.cat,aa,ay,az,ah,ai];exact eK y (by omega) (by omega) (λ_ _=>rfl)
  refine af l [] 200 rfl ab (AK.eF [0] rfl ?_ rfl rfl rfl gA);simp[aa.cat,aa]
 refine af l [(65,false),(1000011,true)] 200 rfl ?_ ?_
 ·simp only[aa,ay,az,aB,aY,ai,ah];and_intros <;> omega
 refine AK.norm [bI n (swp f i j)] rfl ?_ ?_
 ·simp only[aa.cat,aa,ay,az,ah,ai];exact eK y (by omega) (by omega) (λ_ _=>rfl)
 refine af l [] 200 rfl ?_ ?_
 ·simp only[aa,aB];and_intros <;> omega
 have F:(swp f i j).size=n:=by rw[size_swp];exact y
 obtain⟨r,P⟩:∃ r,partLoop ltInt a (i+1) (j-1) (swp f i j)=r:=⟨_,rfl⟩;rw[wV K hi O (by omega) P]
 obtain⟨d1,N⟩:∃ d1,d1=swp f i j:=⟨_,rfl⟩;rw[<-N] at F P ⊢;refine AK.ik (S2:=Unit) 4 rfl rfl (λ_=>r.1<n/\r.2.size=n) (λ_=>[(0,gQ n),(1,dI a),(11,dI r.1)]) (λ_=>[bI n r.2]) 1 (λs:Nat×Nat×Array Int=>s.2.2.size=n/\a+1<=s.1/\s.1<=n+1/\s.2.1<n/\partLoop ltInt a s.1 s.2.1 s.2.2=r) (λs=>[(0,gQ n),(1,dI a),(10,dI s.1),(11,dI s.2.1)]) (λs=>[bI n s.2.2]) (λs=>s.2.1+1-s.1) (i+1,j-1,d1) rfl ?_ rfl ?_ rfl ⟨F,by simp only;omega,by simp only;omega,by simp only;omega,P⟩ ?_ ?_
 ·simp only[aa.cat,aa,ai,ah];and_intros <;> omega
 ·simp[aa.cat,aa,aw]
 ·rintro D ⟨i3,o,d2⟩ ⟨w,J,H,I,u⟩;simp only at w J H I u;refine af l [] 200 rfl ab ?_;refine AK.ik (S2:=Unit) 6 rfl rfl (λ_=>True) (λ_=>[(0,gQ n),(1,dI a),(10,dI ((scanUp (λx=>ltInt x d2[a]!) d2 (o) (i3)):Nat)),(11,dI (o:Nat))]) (λ_=>[bI n d2]) 1 (λk:Nat=>i3<=k/\k<=n+1/\scanUp (λx=>ltInt x d2[a]!) d2 (o) k=scanUp (λx=>ltInt x d2[a]!) d2 (o) (i3)) (λk=>[(0,gQ n),(1,dI a),(10,dI (k:Nat)),(11,dI (o:Nat))]) (λ_=>[bI n d2]) (λk=>o+1-k) (i3) rfl ?_ rfl ?_ rfl ⟨aq _,by omega,rfl⟩ ?_ ?_
  ·simp[aa.cat,aa,aw] <;> omega
  ·simp[aa.cat,aa,aw]
  ·rintro out k ⟨z,A,g⟩
   by_cases m:k<=o
   ·by_cases t:(λx=>ltInt x d2[a]!) d2[k]! = true
    ·have h:ltInt d2[k]! d2[a]! = true:=by simpa using t
     refine af l [(101,true),(111,true)] 200 rfl ?_ (AK.aA (k+1) rfl ?_ rfl rfl rfl ?_ rfl ?_ ?_)
     ·simp only[aa,ay,az,h,aB,aD,ai,ah];and_intros <;> omega
     ·simp only[aa.cat,aa,ai,ah];omega
     ·simp[aa.cat,aa,aw]
     ·exact⟨by omega,by omega,by rw[<-g,jD m t]⟩
     ·omega
    ·have h:ltInt d2[k]! d2[a]! = false:=by simpa using t
     refine af l [(101,true),(111,false)] 200 rfl ?_ (AK.leaveD rfl rfl ?_)
     ·simp only[aa,ay,az,h,aB,aD,ai,ah];and_intros <;> omega
     have e:scanUp (λx=>ltInt x d2[a]!) d2 (o) (i3)=k:=by rw[<-g];exact dz λ_=>by simpa using t
     exact out () ab rfl (by simp only[aa.cat,aa,e,ai,ah]) rfl (by simp[aa.cat,aa,aw])
   ·refine af l [(101,false)] 200 rfl ?_ (AK.leaveD rfl rfl ?_)
    ·simp only[aa,aB,aY,ai,ah];omega
    have e:scanUp (λx=>ltInt x d2[a]!) d2 (o) (i3)=k:=by rw[<-g];exact dz λx=>absurd x m
    exact out () ab rfl (by simp only[aa.cat,aa,e,ai,ah]) rfl (by simp[aa.cat,aa,aw])
  rintro⟨⟩ -;have T:=kg (p:=λx=>ltInt x d2[a]!) (d:=d2) (j:=o) (o+1-i3) i3 (aq _)
  obtain⟨i4,G⟩:∃ i4,i4=scanUp (λx=>ltInt x d2[a]!) d2 o i3:=⟨_,rfl⟩
  rw[<-G] at T ⊢;refine af l [] 200 rfl ab ?_;refine AK.ik (S2:=Unit) 8 rfl rfl (λ_=>True) (λ_=>[(0,gQ n),(1,dI a),(10,dI (i4:Nat)),(11,dI ((scanDown (λx=>!ltInt x d2[a]!) d2 (i4) (o)):Nat))]) (λ_=>[bI n d2]) 1 (λk:Nat=>k<=o/\k<=n/\scanDown (λx=>!ltInt x d2[a]!) d2 (i4) k=scanDown (λx=>!ltInt x d2[a]!) d2 (i4) (o)) (λk=>[(0,gQ n),(1,dI a),(10,dI (i4:Nat)),(11,dI (k:Nat))]) (λ_=>[bI n d2]) (λk=>k) (o) rfl ?_ rfl ?_ rfl ⟨aq _,by omega,rfl⟩ ?_ ?_
  ·simp[aa.cat,aa,aw] <;> omega
  ·simp[aa.cat,aa,aw]
  ·rintro out k ⟨z,A,g⟩
   by_cases m:i4<=k
   ·by_cases t:(λx=>!ltInt x d2[a]!) d2[k]! = true
    ·have h:ltInt d2[k]! d2[a]! = false:=by simpa using t
     refine af l [(117,true),(127,false)] 200 rfl ?_ (AK.aA (k-1) rfl ?_ rfl rfl rfl ?_ rfl ?_ ?_)
     ·simp only[aa,ay,az,h,aB,aD,ai,ah];and_intros <;> omega
     ·simp only[aa.cat,aa,ai,ah];omega
     ·simp[aa.cat,aa,aw]
     ·exact⟨by omega,by omega,by rw[<-g,gU (by omega) m t]⟩
     ·omega
    ·have h:ltInt d2[k]! d2[a]! = true:=by simpa using t
     refine af l [(117,true),(127,true)] 200 rfl ?_ (AK.leaveD rfl rfl ?_)
     ·simp only[aa,ay,az,h,aB,aD,ai,ah];and_intros <;> omega
     have e:scanDown (λx=>!ltInt x d2[a]!) d2 (i4) (o)=k:=by rw[<-g];exact dh λ_=>by simpa using t
     exact out () ab rfl (by simp only[aa.cat,aa,e,ai,ah]) rfl (by simp[aa.cat,aa,aw])
   ·refine af l [(117,false)] 200 rfl ?_ (AK.leaveD rfl rfl ?_)
    ·simp only[aa,aB,aY,ai,ah];omega
    have e:scanDown (λx=>!ltInt x d2[a]!) d2 (i4) (o)=k:=by rw[<-g];exact dh λx=>absurd x m
    exact out () ab rfl (by simp only[aa.cat,aa,e,ai,ah]) rfl (by simp[aa.cat,aa,aw])
  rintro⟨⟩ -;have c2:=hJ (p:=λx=>!ltInt x d2[a]!) (d:=d2) (i:=i4) o
  obtain⟨B,E⟩:∃ B,B=scanDown (λx=>!ltInt x d2[a]!) d2 i4 o:=⟨_,rfl⟩
  rw[<-E] at c2 ⊢;have q:=partLoop_eq (by omega) G E
  by_cases C:B<i4
  ·have e:=q;rw[u,ar C] at e;refine af l [(134,true)] 200 rfl ?_ (AK.leaveD rfl rfl ?_)
   ·simp only[aa,aB,aD];omega
   exact D () (by rw[e];exact⟨by simp only;omega,w⟩) rfl (by simp only[aa.cat,aa,e,ai,ah]) rfl (by simp[aa.cat,aa,aw,e])
  ·have e:=q;rw[u,an (by omega)] at e
   refine af l [(134,false),(1000019,true)] 200 rfl ?_ ?_
   ·simp only[aa,ay,az,aB,aY,ai,ah];and_intros <;> omega
   refine AK.norm [bI n (swp d2 i4 B)] rfl ?_ ?_
   ·simp only[aa.cat,aa,ay,az,ah,ai];exact eK w (by omega) (by omega) (λ_ _=>rfl)
   refine af l [] 200 rfl ?_ (AK.aA (i4+1,B-1,swp d2 i4 B) rfl ?_ rfl rfl rfl ?_ rfl ?_ ?_)
   ·simp only[aa,aB];and_intros <;> omega
   ·simp only[aa.cat,aa,ai,ah];and_intros <;> omega
   ·simp[aa.cat,aa,aw]
   ·exact⟨by rw[size_swp];exact w,by simp only;omega,by simp only;omega,by simp only;omega,e.symm⟩
   ·simp only;omega
 rintro⟨⟩ ⟨S,L⟩;refine af l [(1000022,true)] 200 rfl ?_ ?_
 ·simp only[aa,ay,az,aB,ai,ah];and_intros <;> omega
 refine AK.norm [bI n (swp r.2 r.1 a)] rfl ?_ ?_
 ·simp only[aa.cat,aa,ay,az,ah,ai];exact eK L (by omega) (by omega) (λ_ _=>rfl)
 refine af l [] 200 rfl ab (AK.eF [0] rfl ?_ rfl rfl rfl gA);simp[aa.cat,aa]
theorem partEqLoop_eq{a i j:Nat}{d:Array Int}{b c:Nat}(k:1<=i)(hi:b=scanUp (λx=>!ltInt d[a]! x) d j i)(e:c=scanDown (λx=>ltInt d[a]! x) d b j) :
  partEqLoop ltInt a i j d=if b>c then (b,d) else partEqLoop ltInt a (b+1) (c-1) (swp d b c):=by
 have f:=kg (p:=λx=>!ltInt d[a]! x) (d:=d) (j:=j) (j+1-i) i (aq _)
 have g:=hJ (p:=λx=>ltInt d[a]! x) (d:=d) (i:=b) j
 rw[<-hi] at f;rw[<-e] at g;rw[partEqLoop.eq_1,<-hi,<-e]
 by_cases h:b>c
 ·rw[ar h,ar h]
 ·rw[an h,an h,dif_pos (by omega)]
set_option maxHeartbeats 8000000 in
theorem BO(n:Nat)(d:Array Int)(a b v:Nat)(H:d.size=n)(J:a<b)(P:b<=n)(O:v<n)(Q:n<=4000000) :
  Ev X 122 [gQ n,dI a,dI b,dI v] [bI n d] (dI (partitionEqual ltInt d a b v).1) [bI n (partitionEqual ltInt d a b v).2]:=by
 have h:aM X [(121,oR)]:=.cons rn .nil;refine Ev.body Tryz.func122 rfl rfl rfl λN=>?_
 refine af h [(1000002,true)] 200 rfl ?_ ?_
 ·simp only[aa,ay,az,aB,ai,ah];and_intros <;> omega
 refine AK.norm [bI n (swp d a v)] rfl ?_ ?_
 ·simp only[aa.cat,aa,ay,az,ah,ai];exact eK H (by omega) (by omega) (λ_ _=>rfl)
 have G:(swp d a v).size=n:=by rw[size_swp];exact H
 unfold partitionEqual;generalize swp d a v=d1 at *;obtain⟨r,I⟩:∃ r,partEqLoop ltInt a (a+1) (b-1) d1=r:=⟨_,rfl⟩;rw[I];refine af h [] 200 rfl ?_ ?_
 ·simp only[aa,aB];and_intros <;> omega
 refine AK.ik (S2:=Unit) 0 rfl rfl (λ_=>r.1<=n+1/\r.2.size=n) (λ_=>[(0,gQ n),(1,dI a),(9,dI r.1)]) (λ_=>[bI n r.2]) 1 (λs:Nat×Nat×Array Int=>s.2.2.size=n/\a+1<=s.1/\s.1<=n+1/\s.2.1<n/\partEqLoop ltInt a s.1 s.2.1 s.2.2=r) (λs=>[(0,gQ n),(1,dI a),(9,dI s.1),(10,dI s.2.1)]) (λs=>[bI n s.2.2]) (λs=>s.2.1+1-s.1) (a+1,b-1,d1) rfl ?_ rfl ?_ rfl ⟨G,by simp only;omega,by simp only;omega,by simp only;omega,I⟩ ?_ ?_
 ·simp only[aa.cat,aa,ai,ah];and_intros <;> omega
 ·simp[aa.cat,aa,aw]
 ·rintro y ⟨i3,c,d2⟩ ⟨t,D,B,C,m⟩;simp only at t D B C m;refine af h [] 200 rfl ab ?_;refine AK.ik (S2:=Unit) 2 rfl rfl (λ_=>True) (λ_=>[(0,gQ n),(1,dI a),(9,dI ((scanUp (λx=>!ltInt d2[a]! x) d2 (c) (i3)):Nat)),(10,dI (c:Nat))]) (λ_=>[bI n d2]) 1 (λk:Nat=>i3<=k/\k<=n+1/\scanUp (λx=>!ltInt d2[a]! x) d2 (c) k=scanUp (λx=>!ltInt d2[a]! x) d2 (c) (i3)) (λk=>[(0,gQ n),(1,dI a),(9,dI (k:Nat)),(10,dI (c:Nat))]) (λ_=>[bI n d2]) (λk=>c+1-k) (i3) rfl ?_ rfl ?_ rfl ⟨aq _,by omega,rfl⟩ ?_ ?_
  ·simp[aa.cat,aa,aw] <;> omega
  ·simp[aa.cat,aa,aw]
  ·rintro out k ⟨E,F,f⟩
   by_cases l:k<=c
   ·by_cases o:(λx=>!ltInt d2[a]! x) d2[k]! = true
    ·have g:ltInt d2[a]! d2[k]! = false:=by simpa using o
     refine af h [(31,true),(41,false)] 200 rfl ?_ (AK.aA (k+1) rfl ?_ rfl rfl rfl ?_ rfl ?_ ?_)
     ·simp only[aa,ay,az,g,aB,aD,ai,ah];and_intros <;> omega
     ·simp only[aa.cat,aa,ai,ah];omega
     ·simp[aa.cat,aa,aw]
     ·exact⟨by omega,by omega,by rw[<-f,jD l o]⟩
     ·omega
    ·have g:ltInt d2[a]! d2[k]! = true:=by simpa using o
     refine af h [(31,true),(41,true)] 200 rfl ?_ (AK.leaveD rfl rfl ?_)
     ·simp only[aa,ay,az,g,aB,aD,ai,ah];and_intros <;> omega
     have e:scanUp (λx=>!ltInt d2[a]! x) d2 (c) (i3)=k:=by rw[<-f];exact dz λ_=>by simpa using o
     exact out () ab rfl (by simp only[aa.cat,aa,e,ai,ah]) rfl (by simp[aa.cat,aa,aw])
   ·refine af h [(31,false)] 200 rfl ?_ (AK.leaveD rfl rfl ?_)
    ·simp only[aa,aB,aY,ai,ah];omega
    have e:scanUp (λx=>!ltInt d2[a]! x) d2 (c) (i3)=k:=by rw[<-f];exact dz λx=>absurd x l
    exact out () ab rfl (by simp only[aa.cat,aa,e,ai,ah]) rfl (by simp[aa.cat,aa,aw])
  rintro⟨⟩ -;have M:=kg (p:=λx=>!ltInt d2[a]! x) (d:=d2) (j:=c) (c+1-i3) i3 (aq _)
  obtain⟨i4,A⟩:∃ i4,i4=scanUp (λx=>!ltInt d2[a]! x) d2 c i3:=⟨_,rfl⟩
  rw[<-A] at M ⊢;refine af h [] 200 rfl ab ?_;refine AK.ik (S2:=Unit) 4 rfl rfl (λ_=>True) (λ_=>[(0,gQ n),(1,dI a),(9,dI (i4:Nat)),(10,dI ((scanDown (λx=>ltInt d2[a]! x) d2 (i4) (c)):Nat))]) (λ_=>[bI n d2]) 1 (λk:Nat=>k<=c/\k<=n/\scanDown (λx=>ltInt d2[a]! x) d2 (i4) k=scanDown (λx=>ltInt d2[a]! x) d2 (i4) (c)) (λk=>[(0,gQ n),(1,dI a),(9,dI (i4:Nat)),(10,dI (k:Nat))]) (λ_=>[bI n d2]) (λk=>k) (c) rfl ?_ rfl ?_ rfl ⟨aq _,by omega,rfl⟩ ?_ ?_
  ·simp[aa.cat,aa,aw] <;> omega
  ·simp[aa.cat,aa,aw]
  ·rintro out k ⟨E,F,f⟩
   by_cases l:i4<=k
   ·by_cases o:(λx=>ltInt d2[a]! x) d2[k]! = true
    ·have g:ltInt d2[a]! d2[k]! = true:=by simpa using o
     refine af h [(48,true),(58,true)] 200 rfl ?_ (AK.aA (k-1) rfl ?_ rfl rfl rfl ?_ rfl ?_ ?_)
     ·simp only[aa,ay,az,g,aB,aD,ai,ah];and_intros <;> omega
     ·simp only[aa.cat,aa,ai,ah];omega
     ·simp[aa.cat,aa,aw]
     ·exact⟨by omega,by omega,by rw[<-f,gU (by omega) l o]⟩
     ·omega
    ·have g:ltInt d2[a]! d2[k]! = false:=by simpa using o
     refine af h [(48,true),(58,false)] 200 rfl ?_ (AK.leaveD rfl rfl ?_)
     ·simp only[aa,ay,az,g,aB,aD,ai,ah];and_intros <;> omega
     have e:scanDown (λx=>ltInt d2[a]! x) d2 (i4) (c)=k:=by rw[<-f];exact dh λ_=>by simpa using o
     exact out () ab rfl (by simp only[aa.cat,aa,e,ai,ah]) rfl (by simp[aa.cat,aa,aw])
   ·refine af h [(48,false)] 200 rfl ?_ (AK.leaveD rfl rfl ?_)
    ·simp only[aa,aB,aY,ai,ah];omega
    have e:scanDown (λx=>ltInt d2[a]! x) d2 (i4) (c)=k:=by rw[<-f];exact dh λx=>absurd x l
    exact out () ab rfl (by simp only[aa.cat,aa,e,ai,ah]) rfl (by simp[aa.cat,aa,aw])
  rintro⟨⟩ -;have c2:=hJ (p:=λx=>ltInt d2[a]! x) (d:=d2) (i:=i4) c
  obtain⟨u,z⟩:∃ u,u=scanDown (λx=>ltInt d2[a]! x) d2 i4 c:=⟨_,rfl⟩
  rw[<-z] at c2 ⊢;have q:=partEqLoop_eq (by omega) A z
  by_cases w:u<i4
  ·have e:=q;rw[m,ar w] at e;refine af h [(64,true)] 200 rfl ?_ (AK.leaveD rfl rfl ?_)
   ·simp only[aa,aB,aD];omega
   exact y () (by rw[e];exact⟨by simp only;omega,t⟩) rfl (by simp only[aa.cat,aa,e,ai,ah]) rfl (by simp[aa.cat,aa,aw,e])
  ·have e:=q;rw[m,an (by omega)] at e
   refine af h [(64,false),(1000009,true)] 200 rfl ?_ ?_
   ·simp only[aa,ay,az,aB,aY,ai,ah];and_intros <;> omega
   refine AK.norm [bI n (swp d2 i4 u)] rfl ?_ ?_
   ·simp only[aa.cat,aa,ay,az,ah,ai];exact eK t (by omega) (by omega) (λ_ _=>rfl)
   refine af h [] 200 rfl ?_ (AK.aA (i4+1,u-1,swp d2 i4 u) rfl ?_ rfl rfl rfl ?_ rfl ?_ ?_)
   ·simp only[aa,aB];and_intros <;> omega
   ·simp only[aa.cat,aa,ai,ah];and_intros <;> omega
   ·simp[aa.cat,aa,aw]
   ·exact⟨by rw[size_swp];exact t,by simp only;omega,by simp only;omega,by simp only;omega,e.symm⟩
   ·simp only;omega
 rintro⟨⟩ ⟨K,L⟩;refine af h [] 200 rfl ab (AK.eF [0] rfl ?_ rfl rfl rfl gA);simp[aa.cat,aa]
end Go.AM.R1
namespace Go.AM.R1
open Go.Proofs
open Go.Sort (swp scanSorted shiftDown shiftUp partialIns partialInsertionSort ltInt)
variable {X:Cx Tryz.prog}
theorem rq{d:Array Int}{b i:Nat}(h:i<b)(a:ltInt d[i]! d[i-1]! = false):scanSorted ltInt d b i=scanSorted ltInt d b (i+1):=by
 rw[scanSorted.eq_1 ltInt d b i,ar (by simp[h,a])]
theorem jb{d:Array Int}{b i:Nat}(h:i<b->ltInt d[i]! d[i-1]! = true):scanSorted ltInt d b i=i:=by
 rw[scanSorted,an];intro a;rw[bA,aD] at a;rw[h a.1] at a;cases a.2
theorem E3{d:Array Int}{b:Nat}:∀ (m i:Nat),b-i<=m->i<=b->i<=scanSorted ltInt d b i/\scanSorted ltInt d b i<=b:=by
 intro m
 induction m with
 |zero=>intro i h e;rw[jb λx=>by omega];omega
 |succ m f =>
  intro i h e
  by_cases a:i<b
  ·cases c:ltInt d[i]! d[i-1]! with
   |false=>rw[rq a c];have:=f (i+1) (by omega) (by omega);omega
   |true=>rw[jb λ_=>c];omega
  ·rw[jb λx=>absurd x a];omega
theorem E4{d:Array Int}{j:Nat}(b:1<=j)(h:ltInt d[j]! d[j-1]! = true):shiftDown ltInt j d=shiftDown ltInt (j-1) (swp d j (j-1)):=by
 obtain⟨j,rfl⟩:∃ a,j=a+1:=⟨j-1,by omega⟩
 simp only[k6] at h ⊢;rw[shiftDown,an (by simp[h])]
theorem wQ{d:Array Int}{j:Nat}(h:1<=j->ltInt d[j]! d[j-1]! = false):shiftDown ltInt j d=d:=by
 cases j with
 |zero=>rfl
 |succ j =>
  have:=h (by omega)
  simp only[k6] at this;rw[shiftDown,ar (by simp[this])]
theorem E5{d:Array Int}{b j:Nat}(a:j<b)(h:ltInt d[j]! d[j-1]! = true):shiftUp ltInt b j d=shiftUp ltInt b (j+1) (swp d j (j-1)):=by
 rw[shiftUp.eq_1 ltInt b j d,ar a,an (by simp[h])]
theorem wR{d:Array Int}{b j:Nat}(h:j<b->ltInt d[j]! d[j-1]! = false):shiftUp ltInt b j d=d:=by
 rw[shiftUp]
 by_cases a:j<b
 ·rw[ar a,ar (by simp[h a])]
 ·rw[an a]
abbrev IC(n a b i s:Nat):Fr:=[(0,gQ n),(1,dI a),(2,dI b),(7,dI i),(8,dI (5-(s:Int)))]
theorem Hv{a b s i:Nat}{d:Array Int}:partialIns ltInt a b (s+1) i d=(if scanSorted ltInt d b i=b then (d,true) else if b-a<50 then (d,false) else
  partialIns ltInt a b s (scanSorted ltInt d b i) (if b-scanSorted ltInt d b i≥2 then shiftUp ltInt b (scanSorted ltInt d b i+1) (if scanSorted ltInt d b i-a≥2 then shiftDown ltInt (scanSorted ltInt d b i-1) (swp d (scanSorted ltInt d b i) (scanSorted ltInt d b i-1)) else swp d (scanSorted ltInt d b i) (scanSorted ltInt d b i-1)) else (if scanSorted ltInt d b i-a≥2 then shiftDown ltInt (scanSorted ltInt d b i-1) (swp d (scanSorted ltInt d b i) (scanSorted ltInt d b i-1)) else swp d (scanSorted ltInt d b i) (scanSorted ltInt d b i-1)))):=rfl
set_option maxHeartbeats 8000000 in
theorem ru(n:Nat)(d:Array Int)(a b:Nat)(V:d.size=n)(R:a<b)(Z:b<=n)(hn:n<=4000000) :
  Ev X 120 [gQ n,dI a,dI b] [bI n d] (dB (partialInsertionSort ltInt d a b).2) [bI n (partialInsertionSort ltInt d a b).1]:=by
 have l:aM X [(121,oR)]:=.cons rn .nil;refine Ev.body Tryz.func120 rfl rfl rfl λY=>?_
 obtain⟨r,O⟩:∃ r,partialIns ltInt a b 5 (a+1) d=r:=⟨_,rfl⟩;have N:partialInsertionSort ltInt d a b=r:=O;rw[N];refine af l [] 200 rfl (by simp only[aa,aB];omega) ?_
 refine AK.ik (S2:=Unit) 0 rfl rfl (λ_=>r.2=false) (λ_=>[(0,gQ n)]) (λ_=>[bI n r.1]) 1 (λs:Nat×Nat×Array Int=>s.2.2.size=n/\s.1<=5/\a+1<=s.2.1/\s.2.1<=b/\partialIns ltInt a b s.1 s.2.1 s.2.2=r) (λs=>IC n a b s.2.1 s.1) (λs=>[bI n s.2.2]) (λs=>s.1) (5,a+1,d) rfl ?_ rfl ?_ rfl ⟨V,by simp only;omega,by simp only;omega,by simp only;omega,O⟩ ?_ ?_
 ·simp[aa.cat,aa]
 ·simp[aa.cat,aa,aw]
 ·rintro D ⟨s,i,d1⟩ ⟨I,z,hi,v,f⟩;simp only at I z hi v f;cases s with
  |zero =>
   rw[partialIns] at f;refine af l [(14,false)] 200 rfl ?_ (AK.leaveD rfl rfl ?_)
   ·simp[aa]
   exact D () (by rw[<-f]) rfl (by simp[aa.cat,aa]) rfl (by simp[aa.cat,aa,aw,<-f])
  |succ s =>
   rw[Hv] at f;refine af l [(14,true)] 200 rfl (by simp only[aa,aD];omega) ?_
   refine AK.ik (S2:=Unit) 2 rfl rfl (λ_=>True) (λ_=>IC n a b (scanSorted ltInt d1 b i) (s+1)) (λ_=>[bI n d1]) 1 (λk:Nat=>i<=k/\k<=b/\scanSorted ltInt d1 b k=scanSorted ltInt d1 b i) (λk=>IC n a b k (s+1)) (λ_=>[bI n d1]) (λk=>b-k) i rfl ?_ rfl ?_ rfl ⟨aq _,v,rfl⟩ ?_ ?_
   ·simp[aa.cat,aa]
   ·simp[aa.cat,aa,aw]
   ·rintro out k ⟨U,W,w⟩
    by_cases B:k<b
    ·have F:((k:Int)-1).toNat=k-1:=by omega
     cases p:ltInt d1[k]! d1[k-1]! with
     |false =>
      refine af l [(19,true),(30,false)] 200 rfl ?_ (AK.aA (k+1) rfl ?_ rfl rfl rfl ?_ rfl ?_ ?_)
      ·simp only[aa,ay,az,F,p,aB,aD,ai,ah];and_intros <;> omega
      ·simp only[aa.cat,aa,ai,ah];omega
      ·simp[aa.cat,aa,aw]
      ·exact⟨by omega,by omega,by rw[<-w,rq B p]⟩
      ·omega
     |true =>
      refine af l [(19,true),(30,true)] 200 rfl ?_ (AK.leaveD rfl rfl ?_)
      ·simp only[aa,ay,az,F,p,aB,aD,ai,ah];and_intros <;> omega
      have e:scanSorted ltInt d1 b i=k:=by rw[<-w];exact jb λ_=>p
      exact out () ab rfl (by simp only[aa.cat,aa,e,ai,ah]) rfl (by simp[aa.cat,aa,aw])
    ·refine af l [(19,false)] 200 rfl ?_ (AK.leaveD rfl rfl ?_)
     ·simp only[aa,aB,aY,ai,ah];omega
     have e:scanSorted ltInt d1 b i=k:=by rw[<-w];exact jb λx=>absurd x B
     exact out () ab rfl (by simp only[aa.cat,aa,e,ai,ah]) rfl (by simp[aa.cat,aa,aw])
   rintro⟨⟩ -;have c:=E3 (d:=d1) (b:=b) (b-i) i (aq _) v;obtain⟨h,M⟩:∃ h,h=scanSorted ltInt d1 b i:=⟨_,rfl⟩;rw[<-M] at c f ⊢
   by_cases A:h=b
   ·rw[ar A] at f;rw[<-f];refine af l [(37,true)] 200 rfl ?_ (AK.cR (aR.mk [0] rfl ?_ rfl rfl rfl gA))
    ·simp[aa,A]
    ·simp[aa,aa.cat]
   rw[an A] at f
   by_cases C:b-a<50
   ·rw[ar C] at f;rw[<-f];refine af l [(37,false),(41,true)] 200 rfl ?_ (AK.cR (aR.mk [0] rfl ?_ rfl rfl rfl gA))
    ·simp[aa,aB];omega
    ·simp[aa,aa.cat]
   rw[an C] at f;have F:((h:Int)-1).toNat=h-1:=by omega
   refine af l [(37,false),(41,false),(1000012,true)] 200 rfl ?_ ?_
   ·simp only[aa,ay,az,F,aB,aY,eU,b9,ai,ah];and_intros <;> omega
   refine AK.norm [bI n (swp d1 h (h-1))] rfl ?_ ?_
   ·simp only[aa.cat,aa,ay,az,F,ah,ai];exact eK I (by omega) (by omega) (λ_ _=>rfl)
   have u:(swp d1 h (h-1)).size=n:=by rw[size_swp];exact I
   obtain⟨d2,J⟩:∃ d2,d2=swp d1 h (h-1):=⟨_,rfl⟩;rw[<-J] at u f ⊢;obtain⟨d3,q⟩:∃ d3,d3=if h-a≥2 then shiftDown ltInt (h-1) d2 else d2:=⟨_,rfl⟩
   rw[<-q] at f;have S:∀ (j:Nat) (d:Array Int),(shiftDown ltInt j d).size=d.size:=by
    intro j
    induction j with
    |zero=>intro d;rfl
    |succ j T =>
     intro d;rw[shiftDown];split;· rfl
     ·rw[T,size_swp]
   have E:d3.size=n:=by
    rw[q];split
    ·rw[S];exact u
    ·exact u
   apply AK.join (IC n a b h (s+1)) [bI n d3]
   ·intro out
    by_cases P:h-a≥2
    ·rw[ar P] at q;refine af l [(61,true)] 200 rfl ?_ ?_
     ·simp only[aa,aB,aD,ai,ah];and_intros <;> omega
     refine AK.ik (S2:=Unit) 4 rfl rfl (λ_=>True) (λ_=>IC n a b h (s+1)) (λ_=>[bI n d3]) 1 (λs:Nat×Array Int=>s.2.size=n/\s.1<b/\shiftDown ltInt s.1 s.2=d3) (λs2=>IC n a b h (s+1)++[(9,dI s2.1)]) (λs=>[bI n s.2]) (λs=>s.1) (h-1,d2) rfl ?_ rfl ?_ rfl ⟨u,by simp only;omega,q.symm⟩ ?_ ?_
     ·simp only[aa.cat,aa,ai,ah];omega
     ·simp[aa.cat,aa,aw]
     ·rintro o ⟨j,d4⟩ ⟨m,L,g⟩;simp only at m L g
      by_cases t:1<=j
      ·have y:((j:Int)-1).toNat=j-1:=by omega
       cases p:ltInt d4[j]! d4[j-1]! with
       |true =>
        refine af l [(65,true),(77,true)] 200 rfl ?_ (AK.aA (j-1,swp d4 j (j-1)) rfl ?_ rfl rfl rfl ?_ rfl ?_ ?_)
        ·simp only[aa,ay,az,y,p,aB,aD,ai,ah];and_intros <;> omega
        ·simp only[aa.cat,aa,ai,ah];omega
        ·simp only[aa.cat,aa,ay,az,y,ah,ai];exact eK m (by omega) (by omega) (λ_ _=>rfl)
        ·exact⟨by rw[size_swp];exact m,by simp only;omega,by rw[<-g,E4 t p]⟩
        ·simp only;omega
       |false =>
        refine af l [(65,true),(77,false)] 200 rfl ?_ (AK.leaveD rfl rfl ?_)
        ·simp only[aa,ay,az,y,p,aB,aD,ai,ah];and_intros <;> omega
        have e:d3=d4:=by rw[<-g];exact wQ λ_=>p
        exact o () ab rfl (by simp[aa.cat,aa]) rfl (by simp[aa.cat,aa,aw,e])
      ·refine af l [(65,false)] 200 rfl ?_ (AK.leaveD rfl rfl ?_)
       ·simp only[aa,aY];omega
       have e:d3=d4:=by rw[<-g];exact wQ λx=>absurd x t
       exact o () ab rfl (by simp[aa.cat,aa]) rfl (by simp[aa.cat,aa,aw,e])
     rintro⟨⟩ -;refine af l [(1000018,true)] 200 rfl ab ?_;exact out _ _ rfl (by simp[aa.cat,aa])
    ·rw[an P] at q;rw[<-q];refine af l [(61,false),(1000018,true)] 200 rfl ?_ ?_
     ·simp only[aa,aB,aY,ai,ah];and_intros <;> omega
     exact out _ _ rfl (by simp[aa.cat,aa])
   by_cases Q:b-h≥2
   ·rw[ar Q] at f;obtain⟨d5,G⟩:∃ d5,shiftUp ltInt b (h+1) d3=d5:=⟨_,rfl⟩;rw[G] at f;refine af l [(98,true)] 200 rfl ?_ ?_
    ·simp only[aa,aB,aD,ai,ah];and_intros <;> omega
    refine AK.ik (S2:=Unit) 6 rfl rfl (λ_=>d5.size=n) (λ_=>IC n a b h (s+1)) (λ_=>[bI n d5]) 1 (λs:Nat×Array Int=>s.2.size=n/\1<=s.1/\s.1<=b/\shiftUp ltInt b s.1 s.2=d5) (λs2=>IC n a b h (s+1)++[(10,dI s2.1)]) (λs=>[bI n s.2]) (λs=>b-s.1) (h+1,d3) rfl ?_ rfl ?_ rfl ⟨E,by simp only;omega,by simp only;omega,G⟩ ?_ ?_
    ·simp only[aa.cat,aa,ai,ah];omega
    ·simp[aa.cat,aa,aw]
    ·rintro o ⟨j,d4⟩ ⟨m,t,L,g⟩;simp only at m t L g
     by_cases H:j<b
     ·have y:((j:Int)-1).toNat=j-1:=by omega
      cases p:ltInt d4[j]! d4[j-1]! with
      |true =>
       refine af l [(103,true),(115,true)] 200 rfl ?_ (AK.aA (j+1,swp d4 j (j-1)) rfl ?_ rfl rfl rfl ?_ rfl ?_ ?_)
       ·simp only[aa,ay,az,y,p,aB,aD,ai,ah];and_intros <;> omega
       ·simp only[aa.cat,aa,ai,ah];omega
       ·simp only[aa.cat,aa,ay,az,y,ah,ai];exact eK m (by omega) (by omega) (λ_ _=>rfl)
       ·exact⟨by rw[size_swp];exact m,by simp only;omega,by simp only;omega,by rw[<-g,E5 H p]⟩
       ·simp only;omega
      |false =>
       refine af l [(103,true),(115,false)] 200 rfl ?_ (AK.leaveD rfl rfl ?_)
       ·simp only[aa,ay,az,y,p,aB,aD,ai,ah];and_intros <;> omega
       have e:d5=d4:=by rw[<-g];exact wR λ_=>p
       exact o () (by rw[e];exact m) rfl (by simp[aa.cat,aa]) rfl (by simp[aa.cat,aa,aw,e])
     ·refine af l [(103,false)] 200 rfl ?_ (AK.leaveD rfl rfl ?_)
      ·simp only[aa,aY];omega
      have e:d5=d4:=by rw[<-g];exact wR λx=>absurd x H
      exact o () (by rw[e];exact m) rfl (by simp[aa.cat,aa]) rfl (by simp[aa.cat,aa,aw,e])
    rintro⟨⟩ z;refine af l [] 200 rfl ?_ (AK.aA (s,h,d5) rfl ?_ rfl rfl rfl ?_ rfl ?_ ?_)
    ·simp only[aa,aB];omega
    ·simp only[aa.cat,aa,ai,ah];omega
    ·simp[aa.cat,aa,aw]
    ·exact⟨z,by simp only;omega,by simp only;omega,by simp only;omega,f⟩
    ·simp only;omega
   ·rw[an Q] at f;refine af l [(98,false)] 200 rfl ?_ (AK.aA (s,h,d3) rfl ?_ rfl rfl rfl ?_ rfl ?_ ?_)
    ·simp only[aa,aB,aY,ai,ah];and_intros <;> omega
    ·simp only[aa.cat,aa,ai,ah];omega
    ·simp[aa.cat,aa,aw]
    ·exact⟨E,by simp only;omega,by simp only;omega,by simp only;omega,f⟩
    ·simp only;omega
 rintro⟨⟩ K;refine af l [] 200 rfl ab (AK.eF [0] rfl ?_ rfl rfl rfl gA);simp[aa,aa.cat,K]
end Go.AM.R1
namespace Go.AM.R1
open Go.Proofs
open Go.Sort (swp pdq rd Rd Below SWO insertionSort heapSort breakPatterns choosePivot reverseRange partialInsertionSort partition partitionEqual Hint ltInt PermIn SortedIn)
variable {X:Cx Tryz.prog}
abbrev M0(n a b c:Nat)(wb wp:Bool):Fr:=[(0,gQ n),(1,dI a),(2,dI b),(3,dI c),(8,dB wb),(9,dB wp)]
theorem tg{h:Hint}:j8 h=2↔h=.decreasing:=by cases h <;> simp[j8]
theorem oy{h:Hint}:j8 h=1↔h=.increasing:=by cases h <;> simp[j8]
structure Uc where
 a:Nat
 b:Nat
 lim:Nat
 wb:Bool
 wp:Bool
 d:Array Int
theorem Hw(n:Nat)(d:Array Int){a b:Nat}(g:d.size=n)(f:b<=n)(e:a<=n)(h:n<=4000000){r:Array Int}(c:r=insertionSort ltInt d a b):Ev X 115 [gQ n,dI a,dI b] [bI n d] (.eY []) [bI n r]:=by
 subst c;exact KA n d a b g f e h
theorem E6(n:Nat)(d:Array Int){a b:Nat}(h:d.size=n)(c:a<=b)(f:1<=b-a)(g:b<=n)(i:n<=4000000){r:Array Int}(e:r=heapSort ltInt d a b):Ev X 116 [gQ n,dI a,dI b] [bI n d] (.eY []) [bI n r]:=by
 subst e;exact Hx n d a b h c f g i
set_option maxHeartbeats 8000000 in
theorem KB(n:Nat)(H:n<=4000000):∀ (m:Nat)(d:Array Int)(a b lim:Nat),b-a<=m->d.size=n->a<=b->b<=n->lim<=100->Below ltInt a b d ->
  ∀ {x y z:Int},x=a->y=b->z=lim->∀ {R:Array Int},R=pdq ltInt d a b lim true true->Ev X 93 [gQ n,dI x,dI y,dI z] [bI n d] (.eY []) [bI n R]:=by
 have k:aM X [(121,oR)]:=.cons rn .nil;have E:SWO ltInt:=Go.Sort.swo_ltInt;have Ud:=Go.Sort.partialInsertionSort_holds (lt:=ltInt);have Ue:=Go.Sort.partition_holds ltInt;have Uf:=Go.Sort.partitionEqual_holds ltInt;have V:=Go.Sort.reverseRange_holds (α:=Int);have W:=Go.Sort.pdq_sorts ltInt;intro m
 induction m using Nat.strongRecOn with
 |_ m ih =>
 intro d a b lim hm hd Ug hb hl hB x y z hx hy hz R hR;subst hx hy hz;refine Ev.body Tryz.func93 rfl rfl rfl λhf=>?_
 refine af k [] 200 rfl ab ?_;refine AK.bU 1 (λs:Uc=>s.d.size=n/\s.a<=s.b/\s.b<=n/\s.lim<=100/\s.b-s.a<=b-a/\Below ltInt s.a s.b s.d/\pdq ltInt s.d s.a s.b s.lim s.wb s.wp=R) (λs=>M0 n s.a s.b s.lim s.wb s.wp) (λs=>[bI n s.d]) (λs=>s.b-s.a) ⟨a,b,lim,true,true,d⟩ rfl ?_ rfl ?_ rfl ⟨hd,Ug,hb,hl,aq _,hB,hR.symm⟩ ?_
 ·simp[aa.cat,aa]
 ·simp[aa.cat,aa,aw]
 clear hf hB hd hR;rintro⟨f,h,t,wb,wp,d1⟩ ⟨M,u,i,LN,KZ,hB,l⟩;simp only at M u i LN KZ hB l
 by_cases B:h-f<=12
 ·rw[Go.Sort.pdq_small B] at l;refine af k [(23,true)] 200 rfl ?_ ?_
  ·simp only[aa,aB,aD];and_intros <;> omega
  refine AK.aO (Hw n d1 (a:=f) (b:=h) M i (by omega) H l.symm) [0] rfl rfl rfl rfl rfl rfl rfl rfl rfl rfl rfl ?_
  refine af k [] 200 rfl ab (AK.cR (aR.mk [0] rfl ab rfl rfl rfl gA))
 by_cases S:t=0
 ·rw[Go.Sort.pdq_heap B S] at l;refine af k [(23,false),(29,true)] 200 rfl ?_ ?_
  ·simp only[aa,aB,aY,gg];and_intros <;> omega
  refine AK.aO (E6 n d1 (a:=f) (b:=h) M u (by omega) i H l.symm) [0] rfl rfl rfl rfl rfl rfl rfl rfl rfl rfl rfl ?_
  refine af k [] 200 rfl ab (AK.cR (aR.mk [0] rfl ab rfl rfl rfl gA))
 have p:f<h:=by omega
 obtain⟨f1,f2,f3,f4,f5,Z,J,f8⟩:=Go.Sort.rd_facts (limit:=t) (wb:=wb) (wp:=wp) E Ud V p (by rw[M];exact i) hB
 have fl:=Go.Sort.rd_lim_le (lt:=ltInt) (d:=d1) (a:=f) (b:=h) (limit:=t) (wb:=wb) (wp:=wp);have Q:=Go.Sort.rd_dec (lt:=ltInt) (d:=d1) (a:=f) (b:=h) (limit:=t) (wb:=wb) (wp:=wp);have Y:=Go.Sort.rd_not (lt:=ltInt) (d:=d1) (a:=f) (b:=h) (limit:=t) (wb:=wb) (wp:=wp);have I:=Go.Sort.rd_pi_yes (lt:=ltInt) (d:=d1) (a:=f) (b:=h) (limit:=t) (wb:=wb) (wp:=wp);have T:=Go.Sort.rd_pi_no (lt:=ltInt) (d:=d1) (a:=f) (b:=h) (limit:=t) (wb:=wb) (wp:=wp);have fc:=Go.Sort.rd_c (lt:=ltInt) (d:=d1) (a:=f) (b:=h) (limit:=t) (wb:=wb) (wp:=wp);have Uh:wb=false->(rd ltInt d1 f h t wb wp).d1=breakPatterns d1 f h/\(rd ltInt d1 f h t wb wp).lim=t-1:=by rintro rfl;exact Go.Sort.rd_false
 have Ui:wb=true->(rd ltInt d1 f h t wb wp).d1=d1/\(rd ltInt d1 f h t wb wp).lim=t:=by rintro rfl;exact Go.Sort.rd_true
 have C:=Go.Sort.pdq_done (lt:=ltInt) (d:=d1) (wb:=wb) (wp:=wp) B S;have geq:=Go.Sort.pdq_eq (lt:=ltInt) (d:=d1) (wb:=wb) (wp:=wp) B S;have F:=Go.Sort.pdq_left (lt:=ltInt) (d:=d1) (wb:=wb) (wp:=wp) B S;have w:=Go.Sort.pdq_right (lt:=ltInt) (d:=d1) (wb:=wb) (wp:=wp) B S;rw[M] at f1 f4 J;rw[l] at C geq F w;generalize rd ltInt d1 f h t wb wp=r at *
 apply AK.join (M0 n f h r.lim wb wp++[(10,dI ((h-f:Nat):Int))]) [bI n r.d1]
 ·intro out;cases wb with
  |false =>
   obtain⟨K,L⟩:=Uh rfl;refine af k [(23,false),(29,false)] 200 rfl ?_ ?_
   ·simp only[aa,aB,aY,eU,b9];and_intros <;> omega
   refine AK.aO (E7 n d1 f h M u i H) [0] rfl rfl rfl rfl rfl rfl rfl rfl rfl rfl rfl ?_;rw[<-K];refine af k [(1000010,true)] 200 rfl ?_ ?_
   ·simp only[aa,aB];and_intros <;> omega
   exact out _ _ rfl (by simp only[aa.cat,aa,L,ai,ah];and_intros <;> omega)
  |true =>
   obtain⟨K,L⟩:=Ui rfl;subst K;refine af k [(23,false),(29,false),(1000010,true)] 200 rfl ?_ ?_
   ·simp only[aa,aB,aY,eU,b9];and_intros <;> omega
   exact out _ _ rfl (by simp only[aa.cat,aa,L,ai,ah];and_intros <;> omega)
 refine af k [] 200 rfl ab ?_;refine AK.aO (BN n r.d1 f h u i (by omega) H) [0] rfl rfl rfl rfl rfl rfl rfl rfl rfl rfl rfl ?_
 rw[<-fc]
 apply AK.join (M0 n f h r.lim wb wp++[(10,dI ((h-f:Nat):Int)),(11,dI r.pivot),(12,dI (j8 r.hint))]) [bI n r.d2]
 ·intro out
  by_cases A:r.c.2=.decreasing
  ·obtain⟨K,L,e3⟩:=Q A;refine af k [(50,true)] 200 rfl ?_ ?_
   ·simp only[aa,gg,tg];exact A
   refine AK.aO (KC n r.d1 f h f1 (by omega) (by omega) i H) [0] rfl rfl rfl rfl rfl rfl rfl rfl rfl rfl rfl ?_
   rw[<-K];refine af k [(1000015,true)] 200 rfl ?_ ?_
   ·simp only[aa,aB];and_intros <;> omega
   exact out _ _ rfl (by simp only[aa.cat,aa,L,e3,j8,ai,ah];and_intros <;> omega)
  ·obtain⟨K,L,e3⟩:=Y A;rw[<-K];refine af k [(50,false),(1000015,true)] 200 rfl ?_ ?_
   ·simp only[aa,eU,b9,tg];exact A
   exact out _ _ rfl (by simp only[aa.cat,aa,L,e3,ai,ah])
 by_cases o:r.pi.2=true
 ·
  have q:(wb&&wp&&decide (r.hint=.increasing))=true:=by
   cases j:(wb&&wp&&decide (r.hint=.increasing)) with
   |true=>rfl
   |false=>rw[T j] at o;cases o
  have e:=I q;simp only[bA,aD] at q;obtain⟨⟨rfl,rfl⟩,D⟩:=q;refine af k [(67,true)] 200 rfl ?_ ?_
  ·simp only[aa,gg,oy];exact D
  refine AK.aO (ru n r.d2 f h f4 p i H) [0] rfl rfl rfl rfl rfl rfl rfl rfl rfl rfl rfl ?_;rw[<-e,o,<-C o];refine af k [] 200 rfl ab (AK.cR (aR.mk [0] rfl ab rfl rfl rfl gA))
 rw[kl] at o
 apply AK.join (M0 n f h r.lim wb wp++[(10,dI ((h-f:Nat):Int)),(11,dI r.pivot)]) [bI n r.pi.1]
 ·intro out;cases j:(wb&&wp&&decide (r.hint=.increasing)) with
  |true =>
   have e:=I j;simp only[bA,aD] at j;obtain⟨⟨rfl,rfl⟩,D⟩:=j;refine af k [(67,true)] 200 rfl ?_ ?_
   ·simp only[aa,gg,oy];exact D
   refine AK.aO (ru n r.d2 f h f4 p i H) [0] rfl rfl rfl rfl rfl rfl rfl rfl rfl rfl rfl ?_;rw[<-e,o];refine af k [(1000017,true)] 200 rfl ab ?_;exact out _ _ rfl (by simp[aa.cat,aa])
  |false =>
   have e:r.d2=r.pi.1:=by rw[T j]
   rw[e];cases wb with
   |false =>
    refine af k [(1000017,true)] 200 rfl ab ?_;exact out _ _ rfl (by simp[aa.cat,aa])
   |true =>
    cases wp with
    |false =>
     refine af k [(1000017,true)] 200 rfl ab ?_;exact out _ _ rfl (by simp[aa.cat,aa])
    |true =>
     refine af k [(67,false),(1000017,true)] 200 rfl ?_ ?_
     ·simp only[aa,eU,b9,oy];simpa using j
     exact out _ _ rfl (by simp[aa.cat,aa])
 have ep:((f:Int)-1).toNat=f-1:=by omega
 cases j:(decide (f>0)&&!ltInt r.pi.1[f-1]! r.pi.1[r.pivot]!) with
 |true =>
  have v:=j;simp only[bA,aD,iC] at v;obtain⟨N,O,G,q4,_⟩:=Go.Sort.round_eq (mid:=(partitionEqual ltInt r.pi.1 f h r.pivot).1) (d4:=(partitionEqual ltInt r.pi.1 f h r.pivot).2) E Uf v.1 Z.1 Z.2 (by rw[J];exact i) f8 v.2 rfl
  have g:=geq o j ⟨N,O⟩;refine af k [(74,true),(85,false)] 200 rfl ?_ ?_
  ·simp only[aa,ay,az,ep,v.2,aB,aD,ai,ah];and_intros <;> omega
  refine AK.aO (BO n r.pi.1 f h r.pivot J p i (by omega) H) [0] rfl rfl rfl rfl rfl rfl rfl rfl rfl rfl rfl ?_
  refine af k [] 200 rfl ab (AK.aA ⟨(partitionEqual ltInt r.pi.1 f h r.pivot).1,h,r.lim,wb,wp,(partitionEqual ltInt r.pi.1 f h r.pivot).2⟩ rfl ?_ rfl rfl rfl ?_ rfl ?_ ?_)
  ·simp[aa.cat,aa]
  ·simp[aa.cat,aa,aw]
  ·exact⟨by simp only;rw[G,J],O,i,by simp only;omega,by simp only;omega,q4,g.symm⟩
  ·simp only;omega
 |false =>
  obtain⟨N,O,G,q4,q5,q6,q7⟩:=Go.Sort.round_part (mid:=(partition ltInt r.pi.1 f h r.pivot).1) (ap:=(partition ltInt r.pi.1 f h r.pivot).2.1) (d4:=(partition ltInt r.pi.1 f h r.pivot).2.2) E Ue Z.1 Z.2 (by rw[J];exact i) f8 rfl
  apply AK.join (M0 n f h r.lim wb wp++[(10,dI ((h-f:Nat):Int)),(11,dI r.pivot)]) [bI n r.pi.1]
  ·intro out
   by_cases Uj:0<f
   ·have tM:ltInt r.pi.1[f-1]! r.pi.1[r.pivot]! = true:=by
     cases hl:ltInt r.pi.1[f-1]! r.pi.1[r.pivot]! with
     |true=>rfl
     |false=>rw[hl] at j;simp[Uj] at j
    refine af k [(74,true),(85,true),(1000020,true)] 200 rfl ?_ ?_
    ·simp only[aa,ay,az,ep,tM,aB,aD,ai,ah];and_intros <;> omega
    exact out _ _ rfl (by simp[aa.cat,aa])
   ·refine af k [(74,false),(1000020,true)] 200 rfl ?_ ?_
    ·simp only[aa,aY];omega
    exact out _ _ rfl (by simp[aa.cat,aa])
  refine af k [] 200 rfl ab ?_;refine AK.aO (Hy n r.pi.1 f h r.pivot J p i (by omega) H) [0] rfl rfl rfl rfl rfl rfl rfl rfl rfl rfl rfl ?_
  have gl:=F o j ⟨N,O⟩;have gr:=w o j ⟨N,O⟩;generalize partition ltInt r.pi.1 f h r.pivot=P at *;rw[J] at G
  by_cases U:P.1-f<h-P.1
  ·have g:=gl U;obtain⟨w1,w2⟩:=W E P.2.2 f P.1 r.lim true true N (by rw[G];omega) q4
   obtain⟨w3,_⟩:=q6 _ w1 w2;refine af k [(113,true)] 200 rfl ?_ ?_
   ·simp only[aa,aB,aD,ai,ah];and_intros <;> omega
   refine AK.aO (ih (P.1-f) (by omega) P.2.2 f P.1 r.lim (aq _) G N (by omega) (by omega) q4 rfl rfl rfl rfl) [0] rfl rfl rfl rfl rfl rfl rfl rfl rfl rfl rfl ?_
   refine af k [] 200 rfl ?_ (AK.aA ⟨P.1+1,h,r.lim,decide (P.1-f≥(h-f) / 8),P.2.1,pdq ltInt P.2.2 f P.1 r.lim true true⟩ rfl ?_ rfl rfl rfl ?_ rfl ?_ ?_)
   ·simp only[aa,aB,ai,ah];and_intros <;> omega
   ·simp only[aa.cat,aa,ai,ah];refine⟨by omega,?_⟩
    rw[decide_eq_decide];omega
   ·simp[aa.cat,aa,aw]
   ·exact⟨by simp only;rw[w1.1,G],by simp only;omega,i,by simp only;omega,by simp only;omega,w3,g.symm⟩
   ·simp only;omega
  ·have g:=gr U;obtain⟨w1,w2⟩:=W E P.2.2 (P.1+1) h r.lim true true (by omega) (by rw[G];omega) q5
   obtain⟨w3,_⟩:=q7 _ w1 w2;refine af k [(113,false)] 200 rfl ?_ ?_
   ·simp only[aa,aB,aY,ai,ah];and_intros <;> omega
   refine AK.aO (ih (h-(P.1+1)) (by omega) P.2.2 (P.1+1) h r.lim (aq _) G (by omega) i (by omega) q5 (x:=(P.1:Int)+1) (by omega) rfl rfl rfl) [0] rfl rfl rfl rfl rfl rfl rfl rfl rfl rfl rfl ?_
   refine af k [] 200 rfl ?_ (AK.aA ⟨f,P.1,r.lim,decide (h-P.1≥(h-f) / 8),P.2.1,pdq ltInt P.2.2 (P.1+1) h r.lim true true⟩ rfl ?_ rfl rfl rfl ?_ rfl ?_ ?_)
   ·trivial
   ·simp only[aa.cat,aa,ai,ah];rw[decide_eq_decide];omega
   ·simp[aa.cat,aa,aw]
   ·exact⟨by simp only;rw[w1.1,G],by simp only;omega,by simp only;omega,by simp only;omega,by simp only;omega,w3,g.symm⟩
   ·simp only;omega
end Go.AM.R1
namespace Go.AM.R1
open Go.Proofs
variable {X:Cx Tryz.prog}
abbrev lF:bE:=fZ aS (λp=>dS (gE p)) λ_=>[]
abbrev uD(r:Option Bs):D:=.eY [.one (.c (.str (r.getD []))),.one (.c (.bool r.isSome))]
theorem yc(c:bO X 148 lF)(b:Bs):Ev X 113 [dS b] [] (uD (cZ b)) []:=by
 refine Ev.body Tryz.func113 rfl rfl rfl λf=>?_
 have e:aM X [(146,Jy),(147,fZ aS (λs=>dB (a9 s)) λ_=>[]),(148,lF)]:=.cons t146 (.cons t147 (.cons c .nil))
 by_cases a:a9 (strip b)=true
 ·by_cases d:gE (strip b)=b
  ·refine af e [(10,false),(15,false)] 100 rfl ?_ (AK.au rfl ?_)
   ·simp[aa,a,d]
   ·simp[aa,aa.cat,cZ,a,d]
  ·refine af e [(10,false),(15,true)] 100 rfl ?_ (AK.au rfl ?_)
   ·simp[aa,a,d]
   ·simp[aa,aa.cat,cZ,a,d]
 ·refine af e [(10,true),(15,true)] 100 rfl ?_ (AK.au rfl ?_)
  ·simp[aa,a]
  ·simp[aa,aa.cat,cZ,a]
theorem Mg(a:bO X 148 lF):bO X 113 (fZ aS (λb=>uD (cZ b)) λ_=>[]):=.je λb _=>yc a b
theorem qO{b p:Bs}(h:cZ b=some p):a9 p=true:=by
 unfold cZ at h;split at h
 ·rename_i a;cases h;exact(bA _ _▸a).1
 ·cases h
abbrev Pc(x:fb):D:=yd.enc x
theorem DT(c:bO X 148 lF)(x:fb) (k:Int)(d:bJ k=true):Ev X 91 [Pc x,dI k] [] (uD (chunk k x)) []:=by
 refine Ev.body Tryz.func91 rfl rfl rfl λh=>?_
 have f:aM X [(113,fZ aS (λb=>uD (cZ b)) λ_=>[]),(114,Ci aI aS aI (λk p n=>dB (lH k p==n)) λk p _=>[bJ k=true,a9 p=true])]:=.cons (Mg c) (.cons t114 .nil)
 cases a:cZ x.2 with
 |none =>
  refine af f [(16,true),(23,true)] 100 rfl ?_ (AK.au rfl ?_)
  ·simp[aa,a]
  ·simp[aa,aa.cat,chunk,a]
 |some p =>
  have g:=qO a
  by_cases e:lH k p=x.1
  ·refine af f [(16,false),(23,false)] 100 rfl ?_ (AK.au rfl ?_)
   ·simp[aa,a,e,d,g]
   ·simp[aa,aa.cat,chunk,a,e,d]
  ·refine af f [(16,false),(23,true)] 100 rfl ?_ (AK.au rfl ?_)
   ·simp[aa,a,e,d,g]
   ·simp[aa,aa.cat,chunk,a,e,d]
theorem DU(a:bO X 148 lF):bO X 91 (gb yd aI (λx k=>uD (chunk k x)) λ_ k=>[bJ k=true]):=.gO λx k h=>DT a x k h
end Go.AM.R1
namespace Go.AM
open Go.Conc (G)
section
variable {P:Program}{X:Cx P}
def Yields{ι:Type}(X:Cx P)(d:Nat)(ds:List D)(σ:List ak)(res:Bool)(σ':ι->List ak):Prop :=
 ∀ s (vs:List Value) (l:Nat),bX σ s vs ds->ag σ s->(∃ L,s.β[d]?=some L/\L.v=.func (.yield l) #[] #[]) ->
  ∃ fn tmps assign body,(Instr.yield l vs.toArray).run P s.w=.ok (.round l fn tmps assign body) s.w/\(Instr.yield l vs.toArray).events P s.w #[]=#[⟨.obj l,false,false⟩] /\
  ∀ (S:Goroutine->St->Prop) (c:Frame) (cs:List Frame),(∀ i s',ag (σ' i) s'->bD σ s (σ' i) s'->dk X S (G (c.finish (.bool res)) cs) s') ->
   dk X S (G (Frame.round l fn tmps assign body .normal) (c::cs)) s
theorem js{w:World}{l:Nat}{r:Loop}(h:w.heap[l]?=some (.loop r)):(Instr.getLoop l).run P w=.ok r w/\∀ es,(Instr.getLoop l).events P w es=es.push ⟨.obj l,false,false⟩:=by
 have c:(getObj l).run P w=.ok (.loop r) w:=by simp only[getObj,Sem.run,h]
 have d:∀ es,(getObj l).events P w es=es.push ⟨.obj l,false,false⟩:=λes=>by simp only[getObj,Sem.events,Sem.runT,h];rfl
 constructor
 ·simp[Instr.getLoop,c]
 ·intro es;simp[Instr.getLoop,c,d]
theorem lz{w:World}{l:Nat}{r r':Loop}(h:w.heap[l]?=some (.loop r)):(setObj l (.loop r')).run P w=.ok () { w with heap:=w.heap.setIfInBounds l (.loop r') }/\∀ es,(setObj l (.loop r')).events P w es=es.push ⟨.obj l,true,false⟩:=by
 constructor
 ·simp only[setObj,Sem.run,h]
 ·intro es;simp only[setObj,Sem.events,Sem.runT,h];rfl
theorem AQ{w:World}{l:Nat}{r:Loop}{args:Array Value}(h:w.heap[l]?=some (.loop r))(d:args.size=r.params.size) :
  (Instr.yield l args).run P w=.ok (.round l r.fn ((r.params.zip args).foldl (λtmps (t,a)=>tmps.setIfInBounds t a) r.tmps) r.assign r.body) w/\(Instr.yield l args).events P w #[]=#[⟨.obj l,false,false⟩]:=by
 obtain⟨c,e⟩:=js (P:=P) h
 constructor
 ·simp[Instr.yield,c,d]
 ·simp[Instr.yield,c,e,d]
theorem AR{w:World}{l:Nat}{r:Loop}(h:w.heap[l]?=some (.loop r))(c:r.state=.ready) :
  (Instr.beginRound l).run P w=.ok () { w with heap:=w.heap.setIfInBounds l (.loop { r with state:=.busy }) }/\(Instr.beginRound l).events P w #[]=#[⟨.obj l,false,false⟩,⟨.obj l,true,false⟩]:=by
 obtain⟨d,f⟩:=js (P:=P) h;obtain⟨e,g⟩:=lz (P:=P) (r':={ r with state:=.busy }) h
 constructor
 ·simp[Instr.beginRound,d,e,c]
 ·simp[Instr.beginRound,d,f,e,g,c]
theorem uh{w:World}{l:Nat}{r:Loop}(h:w.heap[l]?=some (.loop r))(j:Option Code) :
  (Instr.endRound l j).run P w=.ok (.bool j.isNone) { w with heap:=w.heap.setIfInBounds l (.loop { r with state:=if j.isNone then .ready else .done,pending:=j }) }/\(Instr.endRound l j).events P w #[]=#[⟨.obj l,false,false⟩,⟨.obj l,true,false⟩]:=by
 obtain⟨c,e⟩:=js (P:=P) h;obtain⟨d,f⟩:=lz (P:=P) (r':={ r with state:=if j.isNone then .ready else .done,pending:=j }) h
 constructor
 ·simp only[Instr.endRound,aU,c,d,bh,b8]
 ·simp only[Instr.endRound,Sem.events_bind,c,e,d,f,Result.evThen_ok,Sem.events_pure];rfl
theorem vD{w:World}{l:Nat}{r:Loop}(h:w.heap[l]?=some (.loop r))(c:r.state≠.busy) :
  (Instr.endLoop l).run P w=.ok r.pending { w with heap:=w.heap.setIfInBounds l (.loop { r with state:=.exhausted }) }/\(Instr.endLoop l).events P w #[]=#[⟨.obj l,false,false⟩,⟨.obj l,true,false⟩]:=by
 obtain⟨d,e⟩:=js (P:=P) h;obtain⟨g,f⟩:=lz (P:=P) (r':={ r with state:=.exhausted }) h;have i:(r.state==.busy)=false:=by cases j:r.state <;> simp_all
 constructor
 ·simp[Instr.endLoop,d,g,c]
 ·simp[Instr.endLoop,d,e,f,c]
section steps
variable {b:Frame}{a:Act}{k:List Item}{cs:List Frame}{w:World}{main:Bool}
theorem vE{o:Oper}{f:Operand}{xs:Array Operand}{c:Array TypeId}{l:Nat}(e:o.op=.call { callee:=.value f,args:=xs,argTypes:=c })(d:a.eval f=.func (.yield l) #[] #[]) :
  (execOp a.eval o).run P w=(Instr.yield l (xs.toList.map a.eval).toArray).run P w/\(execOp a.eval o).events P w #[]=(Instr.yield l (xs.toList.map a.eval).toArray).events P w #[]:=by
 have g:xs.map a.eval=(xs.toList.map a.eval).toArray:=by apply fH;simp
 constructor
 ·simp[execOp,e,resolve,d,Deferred.ofValue,invoke,g]
 ·simp[execOp,e,resolve,d,Deferred.ofValue,invoke,g]
theorem Dd{ops:Array Oper}{i:Nat}{rest:List Nat}{o:Oper}{l:Nat}{fn:FuncId}{tmps:Array Value}{assign body:Code}{w':World}(j:ops[i]?=some o)(m:Region.wanted o (yielded ops a.tmps)=true)
  (g:b.kind≠.early) (f:(execOp a.eval o).run P w=.ok (.round l fn tmps assign body) w') :
  stepG P main (G (b.aT a (.inRegion ops (i::rest)::k)) cs) w=.go (G (Frame.round l fn tmps assign body .normal) (b.aT a (.inRegion ops (i::rest)::k)::cs)) w' (Go.Conc.listed P b.fn a o w):=by
 have e:(b.kind==CallKind.early)=false:=by simpa using g
 rw[pB j m (λc h=>by obtain⟨d,n⟩:=m5 h f;cases n)]
 simp[stepG.apply,f,G,Frame.aT,e,GStep.after,Go.Conc.listed]
theorem De{l:Nat}{r:Loop}(i:b.roundOf=some l)(d:b.kind≠.early)(h:w.heap[l]?=some (.loop r))(f:r.state=.ready) :
  stepG P main (G (b.aT a (.beginRound::k)) cs) w=.go (G (b.aT a k) cs) { w with heap:=w.heap.setIfInBounds l (.loop { r with state:=.busy }) } (seen P b.fn #[⟨.obj l,false,false⟩,⟨.obj l,true,false⟩]):=by
 obtain⟨g,e⟩:=AR (P:=P) h f;have c:(b.kind==CallKind.early)=false:=by simpa using d
 simp[G,stepG,stepG.exec,stepG.apply,Frame.aT,i,c,g,e,GStep.after,Frame.finish]
theorem vF{l:Nat}{r:Loop}{j:Option Code}{e:List Item}{c:Frame}(i:b.roundOf=some l)(f:b.kind=.normal)(h:w.heap[l]?=some (.loop r))
  (m:(j=none/\e=[])∨(j=some .ret/\∃ k1,e=.code .ret::k1)∨(∃ id k1,j=some (.exit id)/\e=.code (.exit id)::k1/\exitTo id k1=none)) :
  stepG P main (G (b.aT a e) (c::cs)) w=.go (G (c.finish (.bool j.isNone)) cs) { w with heap:=w.heap.setIfInBounds l (.loop { r with state:=if j.isNone then .ready else .done,pending:=j }) } (seen P b.fn #[⟨.obj l,false,false⟩,⟨.obj l,true,false⟩]):=by
 obtain⟨d,g⟩:=uh (P:=P) h j;rcases m with⟨rfl,rfl⟩|⟨rfl,k1,rfl⟩|⟨id,k1,rfl,rfl,n⟩
 ·simp only[Option.isNone_none,aZ] at d;simp[G,stepG,stepG.exec,Frame.aT,i,d,g,GStep.after,doReturn,f]
 ·simp only[Option.isNone_some,aQ,fQ] at d;simp[G,stepG,stepG.exec,Frame.aT,i,d,g,GStep.after,doReturn,f]
 ·simp only[Option.isNone_some,aQ,fQ] at d;simp[G,stepG,stepG.exec,Frame.aT,i,d,g,GStep.after,doReturn,f,n]
theorem xV{l:Nat}{r:Loop}(h:w.heap[l]?=some (.loop r))(d:r.state≠.busy) :
  stepG P main (G (b.aT a (.endRangeFunc l::k)) cs) w=.go (G (b.aT a ((r.pending.map Item.code).toList++k)) cs) { w with heap:=w.heap.setIfInBounds l (.loop { r with state:=.exhausted }) } (seen P b.fn #[⟨.obj l,false,false⟩,⟨.obj l,true,false⟩]):=by
 obtain⟨c,e⟩:=vD (P:=P) h d;simp[G,stepG,stepG.exec,Frame.aT,c,e,GStep.after]
theorem rP{fn:FuncId}{tmps:Array Value}{params:Array Tmp}{assign body:Code} :
  (Instr.enterLoop fn tmps params assign body none).run P w=.ok (w.heap.size+1,[{ target:=.collected w.heap.size,args:=#[] }]) { w with heap:=(w.heap.push (.deferred (some []))).push (.loop { state:=.ready,pending:=none,fn,tmps,params,assign,body,defers:=w.heap.size }) } /\
  (Instr.enterLoop fn tmps params assign body none).events P w #[]=#[]:=by
 have c:∀ (o:Obj) (w:World),(newObj o).run P w=.ok w.heap.size { w with heap:=w.heap.push o }:=λo w=>by simp only[newObj,Sem.run]
 have d:∀ (o:Obj) (w:World) es,(newObj o).events P w es=es:=λo w es=>by simp only[newObj,Sem.events,Sem.runT]
 constructor
 ·simp[Instr.enterLoop,c];rfl
 ·simp[Instr.enterLoop,c,d]
theorem ui{f:Operand}{ps:Array Tmp}{assign body:Code}{F:FuncId}{fn:Func}{c:List Value}(u:b.roundOf=none)(p:b.kind≠.early)(n:P.funcs[F]?=some fn)(j:(fn.name== "runtime.NumGoroutine")=false)(g:fn.body.isNone=false)
  (s:a.eval f=.func (.func F) #[] c.toArray) :
  stepG P main (G (b.aT a (.code (.rangeFunc f ps assign body)::k)) cs) w =
   .go (G (Frame.enter P F (Value.func (.yield (w.heap.size+1)) #[] #[]::c).toArray .normal) (b.aT { a with defers:={ target:=.collected w.heap.size,args:=#[] }::a.defers } (.inRangeFunc (w.heap.size+1)::k)::cs))
    { w with heap:=(w.heap.push (.deferred (some []))).push (.loop { state:=.ready,pending:=none,fn:=b.fn,tmps:=a.tmps,params:=ps,assign,body,defers:=w.heap.size }) } #[]:=by
 obtain⟨r,q⟩:=rP (P:=P) (w:=w) (fn:=b.fn) (tmps:=a.tmps) (params:=ps) (assign:=assign) (body:=body);have l:(b.kind==CallKind.early)=false:=by simpa using p
 have i:fn.name≠ "runtime.NumGoroutine":=by simpa using j
 have h:fn.body≠none:=by intro e;rw[e] at g;cases g
 have o:∀ (d:List Deferred) (t:List Item) (m:FrameMode),({ fn:=b.fn,tmps:=a.tmps,todo:=t,defers:=d,mode:=m,kind:=b.kind,roundOf:=b.roundOf }:Frame).eval f=.func (.func F) #[] c.toArray:=by
  intro d t m;rw[<-s];cases f <;> rfl
 simp only[G,stepG,stepG.exec,Frame.aT,u] at o ⊢;simp[r,q,GStep.after,stepG.apply,resolve,o,Deferred.ofValue,invoke,callFunc,n,i,h,l,seen];rfl
end steps
end
section
variable {P:Program}{X:Cx P}
theorem ag.uj{σ:List ak}{s:St}(hh:ag σ s){b N:Nat}{a:Fr}{r:Loop}(c:σ[b]?=some (.loop N a r)){l:Nat}(hl:∃ L,s.β[b]?=some L/\L.v=.func (.yield l) #[] #[]) :
  ∃ tmps fn df,s.β[b]?=some ⟨.func (.yield l) #[] #[],[l]⟩/\s.w.heap[l]?=some (.loop { r with tmps:=tmps,fn:=fn,defers:=df })/\tmps.size=N/\(∀ t,cd σ s (tmps.getD t undef) (look a t))/\(∀ o,s.M l o=none):=by
 obtain⟨L,h1,h2⟩:=hl;obtain⟨l',tmps,fn,df,e,d,f,g,h⟩:=hh.box b _ L c h1;subst e;simp at h2;subst h2;exact⟨tmps,fn,df,h1,d,f,g,h⟩
theorem ag.uk{σ:List ak}{s:St}(hh:ag σ s){c N:Nat}{a:Fr}{r r':Loop}{B':ak}(y:σ[c]?=some (.loop N a r)){l:Nat}{tmps:Array Value}{fn df:Nat}(g:s.β[c]?=some ⟨.func (.yield l) #[] #[],[l]⟩)
  (E:s.w.heap[l]?=some (.loop { r with tmps:=tmps,fn:=fn,defers:=df })) (D:tmps.size=N) (u:∀ t,cd σ s (tmps.getD t undef) (look a t)) (A:∀ o,s.M l o=none) (q:B'=.dead∨B'=.loop N a r') :
  ag (σ.set c B') { s with w:={ s.w with heap:=s.w.heap.setIfInBounds l (.loop { r' with tmps:=tmps,fn:=fn,defers:=df }) } }/\Step σ s (σ.set c B') { s with w:={ s.w with heap:=s.w.heap.setIfInBounds l (.loop { r' with tmps:=tmps,fn:=fn,defers:=df }) } }:=by
 have m:l<s.w.heap.size:=hh.lt _ (aH g) l (by simp)
 have C:∀ b,b≠l->(s.w.heap.setIfInBounds l (.loop { r' with tmps:=tmps,fn:=fn,defers:=df }))[b]?=s.w.heap[b]?:=λb j=>by rw[hO (λe=>j e.symm)]
 have n:s.β.set c ⟨.func (.yield l) #[] #[],[l]⟩=s.β:=by
  apply k8
  intro i
  by_cases e:c=i
  ·subst e;rw[bo (aF.1 g).1,g]
  ·rw[b7 e]
 have p:c<σ.length:=(aF.1 y).1;have k:fX (.loop N a r) ⟨.func (.yield l) #[] #[],[l]⟩ B' ⟨.func (.yield l) #[] #[],[l]⟩:=by rcases q with rfl|rfl <;> rfl
 have ex:Ext σ s (σ.set c B') { s with w:={ s.w with heap:=s.w.heap.setIfInBounds l (.loop { r' with tmps:=tmps,fn:=fn,defers:=df }) } }:=by
  refine⟨λ_ _ _ h=>h,λi B L d f=>?_⟩
  by_cases e:c=i
  ·subst e;rw[y] at d;cases d;rw[g] at f;cases f;exact⟨B',_,by rw[bo p],g,k⟩
  ·exact⟨B,L,by rw[b7 e];exact d,f,.refl _ _⟩
 have:=hh.jL (M':=s.M) (w':={ s.w with heap:=s.w.heap.setIfInBounds l (.loop { r' with tmps:=tmps,fn:=fn,defers:=df }) }) (B':=B') (L':=⟨.func (.yield l) #[] #[],[l]⟩) y g k (by simp) (λb _ j=>C b (by simpa using j)) (λ_ _ _ _=>rfl) (λ_ _ _ h=>h)
  (λb o v x=>by
   have z:b≠l:=by rintro rfl;rw[A] at x;cases x
   rw[<-hh.mem b o v x];simp only[World.cell?];rw[C b z]) (λb j=>by simp at j;subst j;exact⟨.inl (by simp),by simpa using m⟩) rfl rfl rfl (by
   rcases q with rfl|rfl
   ·trivial
   ·refine⟨l,tmps,fn,df,rfl,?_,D,λt=>?_,A⟩
    ·show (s.w.heap.setIfInBounds l _)[l]?=_;rw[jF m]
    ·have:=(u t).mono ex hh.len;rw[n];exact this)
 rw[n] at this;exact this
theorem AK.yield{ι:Type}{N:Nat}{Qf:Post}{K:List It}{φ:Fr}{σ:List ak}{σ':ι->List ak}{all rest:List Oper}{o:Oper}{x:Operand}{xs:Array Operand}{A:Array TypeId}{m:Nat}{ds:List D}{res:Bool}(U:Yields X m ds σ res σ')
  (Q:o.guard=none) (hN:ij N o.dst=true) (R:o.op=.call { callee:=.value x,args:=xs,argTypes:=A }) {Y:Nat} {y:Fr} {r:Loop} (u:σ[m]?=some (.loop Y y r)) (M:bw φ x=.e (.one (.ref m))) (h:xs.toList.map (bw φ)=ds)
  (k:∀ j,AK X N Qf (.ops all rest::K) .normal (mF o.dst (.e (.one (.c (.bool res)))) φ) (σ' j)):AK X N Qf (.ops all (o::rest)::K) .normal φ σ:=by
 intro s a f hh b kk cs S idx hb lq hQ;cases idx with
 |nil=>exact lq.elim
 |cons j idx =>
 refine .next rfl λi p=>?_
 have B:=X.fC p;have d:=hh.rely B;have n:=f.rely B hh;have G:=fJ n x;rw[M] at G;obtain⟨_,L,v,F,_⟩:=(show fz _ i _ (.ref m) from G)
 obtain⟨l,tmps,fn,df,Z,h4,h5,h6,h7⟩:=d.box m _ L u v;subst Z;have C:bX σ i (xs.toList.map a.eval) ds:=by rw[<-h];exact pC (fJ n) xs.toList
 obtain⟨V,z,assign,body,y1,y2,I⟩:=U i (xs.toList.map a.eval) l C d ⟨_,v,rfl⟩;obtain⟨O,J⟩:=vE (P:=P) (w:=i.w) (a:=a) R F;refine⟨_,i,_,Dd lq.1 (de Q) hb (O.trans y1),⟨⟨σ,σ,d,d,.refl _ _⟩,eP.seen ?_⟩,I S _ _ λH s' md st=>?_⟩
 ·rw[J,y2];exact .one (iP (L:=⟨.func (.yield l) #[] #[],[l]⟩) (aH v) (by simp))
 have g:=jV (b:=b) (a:=a) (k:=kk) all.toArray j idx (.bool res);rw[lq.1] at g;simp only[kr] at g;rw[g];refine k H s' _ ?_ md b kk cs S idx hb lq.2 λE σ2 s2 a2 q W h2 na=>hQ E σ2 s2 a2 q W h2 ((B.stepW.trans st).trans na)
 cases T:o.dst with
 |none=>exact n.mono st d.len
 |some t=>exact(n.mono st d.len).put (gY hN t T) (show cd (σ' H) s' (.bool res) (.e (.one (.c (.bool res)))) from Rd.bool)
def mI:List Tmp->List D->Fr->Fr
 |t::ts,d::ds,φ=>mI ts ds ((t,d)::φ)
 |_,_,φ=>φ
def GB(N:Nat):List Tmp->Bool
 |[]=>true
 |t::ts=>match Nat.ble (t+1) N with|true=>GB N ts|false=>false
theorem zD{N:Nat}{σ:List ak}{s:St}:∀ {ps:List Tmp}{ds:List D}{vs:List Value}{φ:Fr}{a:Act},br N σ s φ a->bX σ s vs ds->GB N ps=true->br N σ s (mI ps ds φ) { a with tmps:=(ps.zip vs).foldl (λtmps (t,v)=>tmps.setIfInBounds t v) a.tmps }
 |[],ds,vs,φ,a,h,_,_=>by simpa[mI] using h
 |_::_,[],[],φ,a,h,_,_=>by simpa[mI] using h
 |_::_,[],_::_,φ,a,h,b,_=>b.elim
 |_::_,_::_,[],φ,a,h,b,_=>b.elim
 |t::ts,d::ds,v::vs,φ,a,h,b,c=>by
  simp only[GB] at c;split at c
  ·rename_i e
   have:=zD (h.put (d:=t) (c6 e) b.1) b.2 c;simpa[mI,Act.put] using this
  ·cases c
def Jc:Exit->Option (Option Code)
 |.normal=>some none
 |.ret=>some (some .ret)
 |.exit id=>some (some (.exit id))
 |_=>none
theorem Yields.intro{ι:Type}{m N:Nat}{f:Fr}{r:Loop}{ds:List D}{σ:List ak}{σ':ι->List ak}{j:Option Code}(p:σ[m]?=some (.loop N f r))(xQ:r.state=.ready)(E:ds.length=r.params.size)(Y:GB N r.params.toList=true)
  (h:AW X N r.assign (λe H σ1=>e=.normal/\σ1[m]?=some (.loop N f r)/\AW X N r.body (λe φ2 σ2=>Jc e=some j/\σ2[m]?=some (.loop N f { r with state:=.busy }) /\
   ∃ i,AS (σ2.set m (.loop N f { r with state:=if j.isNone then .ready else .done,pending:=j })) (σ' i)) H (σ1.set m (.loop N f { r with state:=.busy }))) (mI r.params.toList ds f) σ):Yields X m ds σ j.isNone σ':=by
 intro s vs l M hh hl;obtain⟨tmps,fn,df,h1,h2,h3,h4,h5⟩:=hh.uj p hl;have KY:vs.length=r.params.size:=by rw[<-E];exact(bX.get M).1
 obtain⟨y1,y2⟩:=AQ (P:=P) (args:=vs.toArray) h2 (by simpa using KY)
 refine⟨_,_,_,_,y1,y2,λS c cs hS=>?_⟩
 let b:Frame:={ fn:=fn,tmps:=#[],todo:=[],defers:=[],mode:=.run,kind:=.normal,roundOf:=some l }
 have y:b.kind≠.early:=by simp[b]
 have hf:br N σ s (mI r.params.toList ds f) { tmps:=(r.params.zip vs.toArray).foldl (λtmps (t,a)=>tmps.setIfInBounds t a) tmps,defers:=[] }:=by
  have:=zD (a:={ tmps:=tmps,defers:=[] }) (φ:=f) ⟨h3,⟨[],ab⟩,h4⟩ M Y;have e:(r.params.zip vs.toArray).foldl (λtmps (x:Tmp×Value)=>tmps.setIfInBounds x.1 x.2) tmps=(r.params.toList.zip vs).foldl (λtmps (x:Tmp×Value)=>tmps.setIfInBounds x.1 x.2) tmps:=by
   rw[<-Array.foldl_toList];simp
  show br N σ s _ { tmps:=(r.params.zip vs.toArray).foldl (λtmps (x:Tmp×Value)=>tmps.setIfInBounds x.1 x.2) tmps,defers:=[] }
  rw[e];exact this
 show dk X S (G (b.aT { tmps:=(r.params.zip vs.toArray).foldl (λtmps (t,a)=>tmps.setIfInBounds t a) tmps,defers:=[] } [.code r.assign,.beginRound,.code r.body]) (c::cs)) s
 refine h s _ hf hh b [.beginRound,.code r.body] (c::cs) S y ?_;rintro e H σ1 s1 a1 ⟨rfl,u,q⟩ f1 A I;refine .next rfl λs2 um=>?_
 have R:=X.fC um;have g:=A.rely R;have f2:=f1.rely R A;have U:∃ L,s2.β[m]?=some L/\L.v=.func (.yield l) #[] #[]:=by
  obtain⟨B',L',k1,k2,V⟩:=(I.trans R.stepW).box m _ _ p h1;rw[u] at k1;cases k1;exact⟨L',k2,V⟩
 obtain⟨Z,UH,Nn,g1,g2,g3,g4,g5⟩:=g.uj u U;have Q:=g.uk (r':={ r with state:=.busy }) u g1 g2 g3 g4 g5 (.inr rfl);have B:∀ {s:St} {σ:List ak} {L:Loc},s.β[m]?=some L->L.bs=[l]->eP s #[⟨.obj l,false,false⟩,⟨.obj l,true,false⟩]:=λ{s σ L} hL y =>
  .two (iP (aH hL) (by simp[y])) (iP (aH hL) (by simp[y]))
 refine⟨_,_,_,De (l:=l) rfl y g2 xQ,⟨⟨_,_,g,Q.1,Q.2⟩,eP.seen (B (σ:=σ1) g1 rfl)⟩,?_⟩;have F:=Q.2.mH g;have W:=Q.1;refine q _ a1 (f2.mono F g.len) W b [] (c::cs) S y ?_;rintro e φ3 T s3 a3 ⟨hj,o,ii,K⟩ f3 J Jd;have stA:=((I.trans R.stepW).trans F).trans Jd;have fin:∀ O k,aX s3 k->((j=none/\O=[])∨(j=some .ret/\∃ k1,O=.code .ret::k1)∨(∃ id k1,j=some (.exit id)/\O=.code (.exit id)::k1/\exitTo id k1=none)) ->
   ∃ g' s' es,stepG P X.main (G (b.aT a3 O) (c::cs)) k.w=.go g' s'.w es/\mD k s' es/\dk X S g' s':=by
  intro O k d SH;have n:=J.rely d;have C:∃ L,k.β[m]?=some L/\L.v=.func (.yield l) #[] #[]:=by
   obtain⟨B',L',k1,k2,V⟩:=(stA.trans d.stepW).box m _ _ p h1;rw[o] at k1;cases k1;exact⟨L',k2,V⟩
  obtain⟨QO,UJ,UK,p1,p2,p3,p4,p5⟩:=n.uj o C;have z:=n.uk (r':={ r with state:=if j.isNone then .ready else .done,pending:=j }) o p1 p2 p3 p4 p5 (.inr rfl)
  obtain⟨p7,p8,_⟩:=K _ z.1;exact⟨_,_,_,vF (l:=l) rfl rfl p2 SH,⟨⟨_,_,n,z.1,z.2⟩,eP.seen (B (σ:=T) p1 rfl)⟩,hS ii _ p7 (((stA.trans d.stepW).trans (z.2.mH n)).trans (p8.mH z.1))⟩
 cases e with
 |normal =>
  cases hj;exact .next rfl λk d=>fin [] k (X.fC d) (.inl ⟨rfl,rfl⟩)
 |ret =>
  cases hj;intro pre;exact .next rfl λk d=>fin _ k (X.fC d) (.inr (.inl ⟨rfl,pre,rfl⟩))
 |exit id =>
  cases hj;intro pre hp;refine .next rfl λk d=>fin _ k (X.fC d) (.inr (.inr ⟨id,_,rfl,rfl,?_⟩))
  have:=hp [];simpa[exitTo] using this
 |_=>cases hj
end
def mg{P:Program}(X:Cx P)(N:Nat)(c:Code)(Q:Post)(φ:Fr)(σ:List ak):Prop :=
 ∀ s a,br N σ s φ a->ag σ s->∀ (b:Frame) (k:List Item) (cs:List Frame) (S:Goroutine->St->Prop),b.kind≠.early->b.roundOf=none ->
  (∀ e φ' σ' s' a',Q e φ' σ'->br N σ' s' φ' a'->ag σ' s'->bD σ s σ' s'->ends X S b k cs e a' s')->dk X S (G (b.aT a (.code c::k)) cs) s
section
variable {P:Program}{X:Cx P}{N:Nat}{Q:Post}{φ:Fr}{σ:List ak}
theorem AW.top{c:Code}(h:AW X N c Q φ σ):mg X N c Q φ σ:=λs a f hh b k cs S d _ e=>h s a f hh b k cs S d e
theorem mg.seq{x y:Code}(h:mg X N x (zE (mg X N y Q) Q) φ σ):mg X N (.seq x y) Q φ σ:=by
 intro s a m hh b k cs S j d i;refine .ctl hh rfl (λ_=>kz) λn h1=>?_
 refine h n a (m.rely h1 hh) (hh.rely h1) b (.code y::k) cs S j d ?_;intro e φ' σ' s' a' q l g st;have c:=h1.stepW.trans st;cases e with
 |normal=>exact q s' a' l g b k cs S j d λe f σ2 s2 a2 q2 f2 h2 na=>i e f σ2 s2 a2 q2 f2 h2 (c.trans na)
 |_=>exact ends.cons (λ_ _=>rfl) (by simp) (i _ _ _ _ _ q l g c)
theorem mg.block{id:Nat}{c:Code}(h:mg X N c (uo id Q) φ σ):mg X N (.block id c) Q φ σ:=by
 intro s a o hh b k cs S n m g;refine .ctl hh rfl (λ_=>m4) λp h1=>?_
 refine h p a (o.rely h1 hh) (hh.rely h1) b (.inBlock id::k) cs S n m ?_;intro e φ' σ' s' a' q i f st;have d:=h1.stepW.trans st;cases e with
 |normal =>
  exact .ctl f rfl (λ_=>mE) λs2 h2=>g .normal φ' σ' s2 a' q (i.rely h2 f) (f.rely h2) (d.trans h2.stepW)
 |exit Ch =>
  simp only[uo] at q;split at q
  ·rename_i e
   subst e;intro pre hp;refine .ctl f rfl (λ_=>tN (k':=k) (by rw[hp];simp[exitTo])) λs2 h2=>?_
   exact g .normal φ' σ' s2 a' q (i.rely h2 f) (f.rely h2) (d.trans h2.stepW)
  ·rename_i j
   intro pre hp;have:=g (.exit Ch) φ' σ' s' a' q i f d (pre++[.inBlock id]) (λk'=>by
    rw[dt,hp];have:(id==Ch)=false:=by simp;exactλh=>j h.symm
    simp[exitTo,this])
   simpa using this
 |ret=>exact g _ _ _ _ _ q i f d
 |panic ch=>exact g _ _ _ _ _ q i f d
 |goto l=>exact g _ _ _ _ _ q i f d
 |outgrown=>exact g _ _ _ _ _ q i f d
theorem ag.Je{s:St}(h:ag σ s){o:Nat->Prop}(c:∀ b,o b->b<s.w.heap.size/\∀ L∈s.β,b∉L.bs):ag σ { s with own:=o } :=
 ⟨h.mem,h.len,λl B L a d=>dj.carry (σ:=σ) (s:=s) (σ':=σ) (s':={ s with own:=o }) ⟨λ_ _ _ h=>h,λ_ B L h e=>⟨B,L,h,e,.refl _ _⟩⟩ h.len (λ_ _=>⟨rfl,λ_=>rfl⟩) (h.box l B L a d),h.ez,h.lt,c⟩
theorem ag.lA{s:St}(h:ag σ s){r:Nat}{o:Nat->Prop}(k:s.own r)(p:∀ b,o b->s.own b)(j:¬o r)(u:∀ i,s.M r i=none)(t:s.w.heap[r]?=some (.deferred (some []))) :
  ag (σ++[.nN]) { s with β:=s.β++[⟨.int .i64 r,[r]⟩],own:=o }/\eX s { s with β:=s.β++[⟨.int .i64 r,[r]⟩],own:=o }:=by
 obtain⟨q,n⟩:=h.own r k;have ex:Ext σ s (σ++[.nN]) { s with β:=s.β++[⟨.int .i64 r,[r]⟩],own:=o }:=by
  refine⟨λ_ _ _ h=>h,λl B L e a=>⟨B,L,?_,?_,.refl _ _⟩⟩
  ·rw[bS (aF.1 e).1,e]
  ·show (s.β++_)[l]?=_;rw[bS (aF.1 a).1,a]
 refine⟨⟨h.mem,by simp[h.len],?_,?_,?_,?_⟩,⟨rfl,λ_ _ _ h=>h,λ_ _ _=>rfl,h.mem,?_⟩⟩
 ·intro l B L e a;rcases dG a with f|⟨hl,rfl⟩
  ·have hl:l<σ.length:=by rw[<-h.len];exact(aF.1 f).1
   rw[bS hl] at e;exact(h.box l B L e f).carry ex h.len λ_ _=>⟨rfl,λ_=>rfl⟩
  ·rw[hl,h.len,cv (aq _)] at e;simp at e;subst e;exact⟨r,rfl,t,u⟩
 ·intro l l' L L' a g b c d;rcases dG a with k1|⟨e1,rfl⟩ <;> rcases dG g with m|⟨e2,rfl⟩
  ·exact h.ez l l' L L' k1 m b c d
  ·simp at d;subst d;exact absurd c (n L (aH k1))
  ·simp at c;subst c;exact absurd d (n L' (aH m))
  ·rw[e1,e2]
 ·intro L a b c;simp only[dE,fp] at a;rcases a with a|rfl
  ·exact h.lt L a b c
  ·simp at c;subst c;exact q
 ·intro b c;obtain⟨v,p2⟩:=h.own b (p b c);refine⟨v,λL a=>?_⟩
  simp only[dE,fp] at a;rcases a with a|rfl
  ·exact p2 L a
  ·simp;rintro rfl;exact j c
 ·rintro b (c|⟨L,a,c⟩)
  ·exact .inl (p b c)
  ·simp only[dE,fp] at a;rcases a with a|rfl
   ·exact .inr ⟨L,a,c⟩
   ·simp at c;subst c;exact .inl k
def Df:Option Code->Option Exit
 |none=>some .normal
 |some .ret=>some .ret
 |some (.exit id)=>some (.exit id)
 |_=>none
theorem mg.rangeFunc{ι:Type}{f:Operand}{ps:Array Tmp}{assign body:Code}{F:FuncId}{capD:List D}{res:ι->D}{σ':ι->List ak}{r':ι->Loop}
  (xu:∀ s a,br N σ s φ a->ag σ s->∃ q:List Value,a.eval f=.func (.func F) #[] q.toArray/\bX σ s q capD)
  (OO:fK X F (.e (.one (.ref σ.length))::capD) (σ++[.loop N φ { state:=.ready,pending:=none,fn:=0,tmps:=#[],params:=ps,assign:=assign,body:=body,defers:=0 }]) res σ')
  (hl:∀ i,(σ' i)[σ.length]?=some (.loop N φ (r' i))/\(r' i).state≠.busy)
  (k:∀ i,∃ e,Df (r' i).pending=some e/\Q e φ ((σ' i).set σ.length .dead++[.nN])):mg X N (.rangeFunc f ps assign body) Q φ σ:=by
 intro s a fr hh b kk cs S g LO hQ;obtain⟨⟨fn,OP,OQ,O⟩,J⟩:=OO;refine .next rfl λd zo=>?_
 have hr:=X.fC zo;have m:=hh.rely hr;have f1:=fr.rely hr hh;obtain⟨q,hv,R⟩:=xu d a f1 m;generalize C:d.w.heap.size=r;have y:=λmain=>ui (P:=P) (main:=main) (k:=kk) (cs:=cs) (ps:=ps) (assign:=assign) (body:=body) (b:=b) (w:=d.w) LO g OP OQ O hv
 rw[C] at y
 let w1:World:={ d.w with heap:=d.w.heap.push (.deferred (some [])) }
 let lo:Loop:={ state:=.ready,pending:=none,fn:=b.fn,tmps:=a.tmps,params:=ps,assign:=assign,body:=body,defers:=r }
 let w2:World:={ d.w with heap:=(d.w.heap.push (.deferred (some []))).push (.loop lo) }
 have Cq:w2.heap.size=r+2:=by simp[w2,C]
 have OR:w1.heap.size=r+1:=by simp[w1,C]
 have W:∀ b,b<d.w.heap.size->w1.heap[b]?=d.w.heap[b]?:=λb g=>by
  show (d.w.heap.push _)[b]?=_;rw[mT g,b0 g]
 have x:∀ b,b<w1.heap.size->w2.heap[b]?=w1.heap[b]?:=λb g=>by
  show (w1.heap.push _)[b]?=_;rw[mT g,b0 g]
 have QP:∀ b,b<d.w.heap.size->w2.heap[b]?=d.w.heap[b]?:=λb g=>by rw[x b (by omega),W b g]
 have OS:w2.heap[r]?=some (.deferred (some [])):=by
  rw[x r (by omega)]
  show (d.w.heap.push _)[r]?=_;rw[<-C];simp
 have Y:w2.heap[r+1]?=some (.loop lo):=by
  show (w1.heap.push _)[r+1]?=_;rw[<-OR];simp
 have nM:∀ b,d.w.heap.size<=b->∀ o,d.M b o=none:=λb g o=>by
  cases p:d.M b o with
  |none=>rfl
  |some v=>have:=m.block p;omega
 let L1:Loc:=⟨.func (.yield (r+1)) #[] #[],[r+1]⟩
 let U:Loc:=⟨.int .i64 r,[r]⟩
 let rr:Loop:={ state:=.ready,pending:=none,fn:=0,tmps:=#[],params:=ps,assign:=assign,body:=body,defers:=0 }
 obtain⟨g1,g2⟩:=m.grow (M':=d.M) (w':=w2) (by omega) QP (λ_ _ _=>rfl) (λb g o v p=>by rw[nM b g] at p;cases p) rfl rfl rfl
 have T:Ext σ d (σ++[.loop N φ rr]) ⟨d.β++[L1],d.M,w2,d.own⟩:=by
  refine⟨λ_ _ _ h=>h,λl B L V n=>⟨B,L,?_,?_,.refl _ _⟩⟩
  ·rw[bS (aF.1 V).1,V]
  ·show (d.β++_)[l]?=_;rw[bS (aF.1 n).1,n]
 obtain⟨a1,a2⟩:=g1.hY (B:=.loop N φ rr) (L:=L1) g2 rfl m ⟨r+1,a.tmps,b.fn,r,rfl,Y,f1.size,λt=>(f1.slot t).mono T m.len,λo=>nM _ (by omega) o⟩ (λb g=>by
  simp[L1] at g;subst g;exact⟨by omega,by show r+1<w2.heap.size;omega⟩)
 have hD:=a1.Je (o:=λb=>d.own b∨b=r) (by
  rintro b (g|rfl)
  ·exact a1.own b g
  ·refine⟨by show b<w2.heap.size;omega,λL n=>?_⟩
   simp only[dE,fp] at n;rcases n with n|rfl
   ·intro hc;have:=m.lt L n b hc;omega
   ·simp[L1])
 have d1:=m.kD;obtain⟨e1,e2⟩:=d1.grow (M':=d.M) (w':=w1) (by omega) W (λ_ _ _=>rfl) (λb g o v p=>by rw[nM b g] at p;cases p) rfl rfl rfl
 obtain⟨e3,e4⟩:=e1.hY (B:=.dead) (L:=U) e2 rfl d1 ab (λb g=>by simp[U] at g;subst g;exact⟨by omega,by show b<w1.heap.size;omega⟩)
 obtain⟨e5,e6⟩:=e3.grow (M':=d.M) (w':=w2) (by show w1.heap.size<=_;omega) x (λ_ _ _=>rfl) (λb g o v p=>by
  have g:w1.heap.size<=b:=g;rw[nM b (by omega)] at p;cases p) rfl rfl rfl
 obtain⟨e7,e8⟩:=e5.hY (B:=.dead) (L:=L1) e6 rfl e3 ab (λb g=>by simp[L1] at g;subst g;exact⟨by show w1.heap.size<=_;omega,by show r+1<w2.heap.size;omega⟩)
 have SI:eX ⟨d.β++[U]++[L1],d.M,w2,d.own⟩ ⟨d.β++[L1],d.M,w2,λb=>d.own b∨b=r⟩:=by
  refine⟨rfl,λ_ _ _ h=>h,λ_ _ _=>rfl,a1.mem,?_⟩
  rintro b ((g|rfl)|⟨L,n,g⟩)
  ·exact .inl g
  ·exact .inr ⟨U,by simp,by simp[U]⟩
  ·simp only[dE,fp] at n;rcases n with n|rfl
   ·exact .inr ⟨L,by simp[n],g⟩
   ·exact .inr ⟨L1,by simp,g⟩
 refine⟨_,⟨d.β++[U]++[L1],d.M,w2,d.own⟩,_,y X.main,⟨⟨_,_,d1,e7,e4.trans e8⟩,.nil⟩,.ghost SI (J _ (Value.func (.yield (r+1)) #[] #[]::q) ?_ hD S _ λi IM v s4 H rJ Nt SJ=>?_)⟩
 ·refine⟨⟨λB u=>?_,L1,?_,rfl,rfl⟩,?_⟩
  ·rw[cv (aq _)] at u;simp at u;subst u;rfl
  ·show (d.β++[L1])[σ.length]?=_;rw[<-m.len,cv (aq _)];simp
  ·exact R.mono (σ:=σ) (s:=d) (σ':=σ++[.loop N φ rr]) (s':=⟨d.β++[L1],d.M,w2,λb=>d.own b∨b=r⟩) ⟨T.mem,T.box⟩ m.len
 have OT:(b.aT { a with defers:={ target:=.collected r,args:=#[] }::a.defers } (.inRangeFunc (r+1)::kk)).finish v=b.aT { a with defers:={ target:=.collected r,args:=#[] }::a.defers } (.endRangeFunc (r+1)::kk):=by simp[Frame.finish,Frame.aT]
 refine si (cs:=cs) (c:=b.aT { a with defers:={ target:=.collected r,args:=#[] }::a.defers } (.inRangeFunc (r+1)::kk)) Nt H λs5 Z=>?_
 rw[OT];refine .next rfl λs6 OU=>?_
 have QQ:=X.fC OU;have A:=(Nt.rely Z).rely QQ;have QR:=(SJ.trans Z.stepW).trans QQ.stepW;obtain⟨E,Nu⟩:=hl i;have SK:∃ L,s6.β[σ.length]?=some L/\L.v=.func (.yield (r+1)) #[] #[]:=by
  obtain⟨B',L',k1,k2,k3⟩:=QR.box σ.length (.loop N φ rr) L1 (show (σ++[ak.loop N φ rr])[σ.length]?=_ from List.getElem?_concat_length) (by
   show (d.β++[L1])[σ.length]?=_;rw[<-m.len,cv (aq _)];simp)
  rw[E] at k1;cases k1;exact⟨L',k2,k3⟩
 obtain⟨I,SL,SM,p1,p2,p3,p4,p5⟩:=A.uj E SK;obtain⟨q1,q2⟩:=A.uk (r':={ r' i with state:=.exhausted }) (B':=.dead) E p1 p2 p3 p4 p5 (.inl rfl);refine⟨_,_,_,xV p2 Nu,⟨⟨_,_,A,q1,q2⟩,eP.seen (.two (iP (aH p1) (by simp)) (iP (aH p1) (by simp)))⟩,?_⟩
 have j:=QR.trans (q2.mH A);generalize UL:({ s6 with w:={ s6.w with heap:=s6.w.heap.setIfInBounds (r+1) (.loop { { r' i with state:=.exhausted } with tmps:=I,fn:=SL,defers:=SM }) } }:St)=s7 at q1 q2 j;have SN:s7.own r:=by rw[j.own];exact .inr rfl
 have SO:s7.w.heap[r]?=some (.deferred (some [])):=by rw[j.en r (.inr rfl)];exact OS
 have SP:∀ o,s7.M r o=none:=λo=>by
  rw[j.hZ r (by show r<w2.heap.size;omega) (λL n=>(hD.own r (.inr rfl)).2 L n)]
  exact nM r (by omega) o
 obtain⟨t1,t2⟩:=q1.lA (r:=r) (o:=d.own) SN (λb g=>by rw[j.own];exact .inl g) (λhc=>by have:=(m.own r hc).1;omega) SP SO
 refine .ghost t2 ?_;have K:bD σ d ((σ' i).set σ.length .dead++[.nN]) { s7 with β:=s7.β++[⟨.int .i64 r,[r]⟩],own:=d.own }:=by
  refine⟨?_,λb g=>?_,λb o v p=>j.mem b o v p,λb g hn o=>?_,λL n b g=>?_,λl B L V n=>?_,j.os,j.tape,j.output,rfl⟩
  ·have:w2.heap.size<=s7.w.heap.size:=j.size;show d.w.heap.size<=s7.w.heap.size;omega
  ·show s7.w.heap[b]?=_;rw[j.en b (.inl g)];exact QP b (m.own b g).1
  ·show s7.M b o=_;rw[j.hZ b (by show b<w2.heap.size;omega) (λL n=>?_)]
   simp only[dE,fp] at n;rcases n with n|rfl
   ·exact hn L n
   ·simp[L1];omega
  ·simp only[dE,fp] at n;rcases n with n|rfl
   ·rcases j.rF L n b g with h1|⟨L0,h1,h2⟩
    ·have h1:w2.heap.size<=b:=h1;exact .inl (by omega)
    ·simp only[dE,fp] at h1;rcases h1 with h1|rfl
     ·exact .inr ⟨L0,h1,h2⟩
     ·simp[L1] at h2;exact .inl (by omega)
   ·simp at g;exact .inl (by omega)
  ·have OV:=(aF.1 V).1;have OW:=(aF.1 n).1;obtain⟨B',L',k1,k2,k3⟩:=j.box l B L (by rw[bS OV];exact V) (by show (d.β++[L1])[l]?=_;rw[bS OW];exact n)
   refine⟨B',L',?_,?_,k3⟩
   ·rw[bS (aF.1 k1).1];exact k1
   ·show (s7.β++_)[l]?=_;rw[bS (aF.1 k2).1];exact k2
 have fF:br N ((σ' i).set σ.length .dead++[.nN]) { s7 with β:=s7.β++[⟨.int .i64 r,[r]⟩],own:=d.own } φ { a with defers:={ target:=.collected r,args:=#[] }::a.defers }:=by
  have p:=f1.mono K m.len;obtain⟨ls,Nv⟩:=f1.defers;refine⟨p.size,⟨((σ' i).set σ.length .dead).length::ls,⟨⟨?_,⟨.int .i64 r,[r]⟩,r,?_,rfl,rfl⟩,λhc=>?_,Nv.mono K.ext⟩⟩,p.slot⟩
  ·rw[cv (aq _)];simp
  ·show (s7.β++_)[_]?=_;rw[<-q1.len,cv (aq _)];simp
  ·have h1:=Nv.zF _ hc;have h2:=(aF.1 h1).1;have h3:=(aF.1 E).1;simp at h2;omega
 obtain⟨e,u,hq⟩:=k i;have z:=hQ e φ _ _ _ hq fF t1 (hr.stepW.trans K);revert u;show Df (r' i).pending=some e->dk X S (G (b.aT _ (((r' i).pending.map Item.code).toList++kk)) cs) _;intro u;cases hp:(r' i).pending with
 |none=>rw[hp] at u;cases u;exact z
 |some c =>
  rw[hp] at u;cases c <;> simp only[Df,reduceCtorEq,bG] at u
  ·subst u;exact z [] (λ_=>rfl)
  ·subst u;exact z kk
theorem br.callee{t:Nat}{F:FuncId}{cap:List C}(hl:look φ t=.e (.one (.c (.fn (.func F) [] cap)))):∀ s a,br N σ s φ a->ag σ s->∃ b:List Value,a.eval (.tmp t)=.func (.func F) #[] b.toArray/\bX σ s b (jq cap):=by
 intro s a f _;have h:=f.slot t;rw[hl] at h;have h:=ei h;show ∃ b:List Value,a.tmps.getD t undef=.func (.func F) #[] b.toArray/\_;generalize a.tmps.getD t undef=v at h;cases h with
 |fn fs cs hl xE f1 f2 h1 h2 r1 r2 =>
  have d:fs=[]:=fO hl;subst d;exact⟨cs,rfl,m9 (λj c hj=>⟨f2 j,h2 j (by rw[xE];exact(aF.1 hj).1),r2 j c hj⟩) xE⟩
theorem fK.xX{ι:Type}{f:FuncId}{fn:Func}{c:Code}{args:List D}{σ':ι->List ak}{res:ι->D}(n:P.funcs[f]?=some fn)(d:(fn.name== "runtime.NumGoroutine")=false)(m:fn.body=some c)(g:Nat.ble args.length fn.ntmps=true)
  (h:Fits args σ->mg X fn.ntmps c (λe φ σ1=>∃ j,aR fn σ.length (res j) (σ' j) e φ σ1) (iO 0 args) σ):fK X f args σ res σ':=by
 refine⟨⟨fn,n,d,by rw[m];rfl⟩,λs0 vs hr hh=>?_⟩
 exact(fK.H8 n d m (c6 g) λs a f i b k cs S o l p=>h ⟨s0,vs,hr,hh⟩ s a f i b k cs S o l p).2 s0 vs hr hh
def OX(fn:Func)(res:D)(σ':List ak):Post:=λe φ σ1 =>
 (e=.ret∨e=.normal)/\σ1=σ'/\jZ σ'=true/\∃ ds d ps,rK φ fn.results.toList=some ds/\nb ds=some d/\FQ d res=some ps/\aa ps
theorem fK.Jf{ι:Type}{f:FuncId}{fn:Func}{c:Code}{args:List D}{σ':ι->List ak}{res:ι->D}(q:P.funcs[f]?=some fn)(k:(fn.name== "runtime.NumGoroutine")=false)(y:fn.body=some c)(g:Nat.ble args.length fn.ntmps=true)
  (h:AW X fn.ntmps c (λe φ σ1=>∃ j,OX fn (res j) (σ' j) e φ σ1) (iO 0 args) σ):fK X f args σ res σ':=by
 refine⟨⟨fn,q,k,by rw[y];rfl⟩,λs vs hr hh S cs hS=>?_⟩
 obtain⟨hl,F⟩:=bX.get hr
 let b:Frame:={ fn:=f,tmps:=#[],todo:=[],defers:=[],mode:=.run,kind:=.normal,roundOf:=none }
 have a:Frame.enter P f vs.toArray .normal=b.aT { tmps:=vs.toArray++Array.replicate (fn.ntmps-vs.toArray.size) undef,defers:=[] } [.code c]:=by
  simp[Frame.enter,Frame.aT,q,y,b]
 rw[a];have g:=c6 g;refine h s { tmps:=vs.toArray++Array.replicate (fn.ntmps-vs.toArray.size) undef,defers:=[] } ⟨by simp;omega,⟨[],ab⟩,λt=>?_⟩ hh b [] cs S (by simp[b]) ?_
 ·rw[mG];simp only[lP,aZ,ky];have:=F t;rcases bC t vs.length with p|B
  ·have e:(vs.toArray++Array.replicate (fn.ntmps-vs.toArray.size) undef).getD t undef=(vs[t]?).getD undef:=by
    simp only[bP];rw[Array.getElem?_append_left (by simpa using p)]
    simp
   rw[e];exact this
  ·rw[jI (by omega)]
   trivial
 ·rintro e φ' σ1 s1 a1 ⟨I,n,rfl,r,ds,d,ps,h1,h2,J,C⟩ K m st;have fin:∀ (fr:Frame) s2,aX s1 s2->fr.fn=f->fr.tmps=a1.tmps->fr.defers=a1.defers->fr.mode=.returning->fr.kind=.normal->dk X S (G fr cs) s2:=by
   intro fr s2 um e1 e2 e3 e4 e5;have x:=K.rely um m;obtain⟨v,A,z,E⟩:=oC (P:=P) x h1 h2;obtain⟨u,i⟩:=x.defers;have o:a1.defers=[]:=by
    cases u with
    |nil=>cases H:a1.defers with
     |nil=>rfl
     |cons d ds=>rw[H] at i;exact i.elim
    |cons l u=>exact absurd rfl (lY r _ (aH (i.zF l (by simp))))
   refine hS I fr v _ ⟨e1,e4,by rw[e3];exact o,e5,fn,by rw[e1];exact q,λw _=>?_⟩ (uq J C z) (m.rely um) (st.trans um.stepW)
   rw[e2];exact⟨A w,λe n=>by rw[E w #[]] at n;simp at n⟩
  rcases n with rfl|rfl
  ·intro pre;exact .ctl m rfl (λ_=>Cm rfl) λs2 um=>fin _ s2 um rfl rfl (iE _) rfl rfl
  ·exact .ctl m rfl (λ_=>Cn rfl) λs2 um=>fin _ s2 um rfl rfl (iE _) rfl rfl
end
end Go.AM
namespace Go.AM.R1
open Go.Proofs
variable {X:Cx Tryz.prog}
theorem JB(x:fb) (n:Int):Ev X 198 [Pc x,.e (.one (.c (.rp [.int .i64 n])))] [] (dB (x.1==n)) []:=by
 refine Ev.body Tryz.func198 rfl rfl rfl λa=>?_
 refine bq rfl ab (AK.au rfl ?_);simp[aa]
def JC:bE:=λargs σ=>match args,σ with
 |[.e (.agg [.c (.int .i64 a0),.c (.str a1)]),.e (.one (.c (.rp [.int .i64 n])))],[]=>some (dB (a0==n),[],[a1=a1])
 |_,_=>none
theorem t198:bO X 198 JC:=by
 intro args σ res σ' obs h c;unfold JC at h;split at h
 ·rename_i a b n
  cases h;exact JB (a,b) n
 ·cases h
abbrev DV(n:Int):D:=.e (.one (.c (.fn (.func 198) [] [.rp [.int .i64 n]])))
def uE(l:List fb) (n:Int):Int:=match l.findIdx? (λx=>x.1==n) with|some i=>i|none=>-1
theorem GR{t:List fb}{n:Int}{i:Nat}(hi:i<t.length)(h:(t.getD i (0,[])).1=n)(a:∀ j,j<i->(t.getD j (0,[])).1≠n):uE t n=i:=by
 have:t.findIdx? (λf=>f.1==n)=some i:=by
  rw[tq];refine⟨hi,?_,λj c=>?_⟩
  ·simpa[List.getD_eq_getElem?_getD,aj hi] using h
  ·have b:j<t.length:=by omega
   simpa[List.getD_eq_getElem?_getD,aj b] using a j c
 rw[uE,this]
theorem A2{t:List fb}{n:Int}(a:∀ j,j<t.length->(t.getD j (0,[])).1≠n):uE t n=-1:=by
 have:t.findIdx? (λf=>f.1==n)=none:=by
  rw[mr];intro f c;obtain⟨j,b,rfl⟩:=dV c;simpa[List.getD_eq_getElem?_getD,aj b] using a j b
 rw[uE,this]
theorem GS(t:List fb) (n:Int):Ev X 197 [cG.sl t,DV n] [] (dI (uE t n)) []:=by
 refine Ev.body Tryz.func197 rfl rfl rfl λf=>?_
 have e:=f.sl 0 rfl;have b:aM X [(198,JC)]:=.cons t198 .nil;refine af b [] 100 rfl ab ?_;refine AK.dX (λi=>i<=t.length/\∀ j,j<i->(t.getD j (0,[])).1≠n) (λi:Nat=>[(0,cG.sl t),(1,DV n),(7,dI t.length),(8,dI i)]) (λ_=>[]) (λi=>t.length-i) 0 rfl ?_ rfl ab ⟨by omega,by omega⟩ ?_
 ·simp[aa.cat,aa,aw.same]
 rintro i ⟨hi,a⟩
 by_cases h:i<t.length
 ·by_cases c:(t.getD i (0,[])).1=n
  ·refine af b [(9,true),(16,true)] 100 rfl ?_ (AK.dN (aR.zero rfl ?_))
   ·simp only[aa,az];exact⟨ab,gg.2 c,by omega,by omega,aP (by omega)⟩
   ·simp[aa,GR h c a]
  ·refine af b [(9,true),(16,false)] 100 rfl ?_ (AK.cN (i+1) rfl ?_ rfl ab ?_ ?_)
   ·simp only[aa,az];exact⟨by simp only[aB];omega,ab,eU.2 c,by omega,by omega,aP (by omega)⟩
   ·simp[aa.cat,aa,aw.same]
   ·refine⟨by omega,λj d=>?_⟩
    rcases dC.1 d with d|rfl
    ·exact a j d
    ·exact c
   ·omega
 ·refine af b [(9,false)] 100 rfl (by simp[aa];omega) (AK.leave rfl rfl ?_)
  refine af b [] 100 rfl ab (AK.au rfl ?_);simp[aa,A2 (λj d=>a j (by omega))]
def JD:bE:=λargs σ=>match args,σ with
 |[d,.e (.one (.c (.fn (.func 198) [] [.rp [.int .i64 n]])))],[]=>match jz 2 d with
  |none=>none
  |some (m,es)=>some (dI (uE (cG.list m es) n),[],[cG.fits m es])
 |_,_=>none
theorem t197:bO X 197 JD:=by
 intro args σ res σ' obs h a;unfold JD at h;split at h
 ·rename_i d n
  split at h
  ·cases h
  rename_i m es hd
  cases h;exact(GS _ n).args (λ_ vs=>bX.imp (λ_=>cG.iW hd a) (bX.imp (λ_ r=>r) (λ_ r=>r)) vs)
 ·cases h
theorem ye(t:List fb) (n:Int):(uE t n=-1/\t.find? (λx=>x.1==n)=none)∨∃ i:Nat,i<t.length/\uE t n=i/\t.find? (λx=>x.1==n)=some (t.getD i (0,[])):=by
 unfold uE;cases h:t.findIdx? (λx=>x.1==n) with
 |none =>
  refine .inl ⟨rfl,?_⟩;rw[mr] at h;exact List.find?_eq_none.2 λx c=>by simp[h x c]
 |some i =>
  rw[tq] at h;obtain⟨hi,a,b⟩:=h;refine .inr ⟨i,hi,rfl,?_⟩;rw[List.find?_eq_some_iff_getElem];refine⟨?_,i,hi,?_,λj d=>?_⟩
  ·simpa[List.getD_eq_getElem?_getD,aj hi] using a
  ·simp[List.getD_eq_getElem?_getD,aj hi]
  ·have:=b j d;simpa using this
theorem yf(a:bO X 148 lF) (k:Int)(p:aV) (n:Int)(g:bJ k=true):Ev X 169 [dI k,Ii p,dI n] [] (uD (cj k p n)) []:=by
 refine Ev.body Tryz.func169 rfl rfl rfl λh=>?_
 have f:aM X [(197,JD),(91,gb yd aI (λx k=>uD (chunk k x)) λ_ k=>[bJ k=true])]:=.cons t197 (.cons (DU a) .nil)
 have d:cG.list p.2.length (cG.fn p.2)=p.2:=cG.list_fn _;refine aE [] 7 rfl ab ?_;refine AK.freeze 5 1 rfl rfl rfl ?_;rcases ye p.2 n with⟨b,c⟩|⟨i,hi,b,c⟩
 ·refine af f [(14,true)] 100 rfl ?_ (AK.au rfl ?_)
  ·simp only[aa,d,b];exact⟨rfl,cG.ae _⟩
  ·simp[aa.cat,aa,cj,c]
 ·refine af f [(14,false)] 100 rfl ?_ (AK.au rfl ?_)
  ·simp only[aa,d,b];exact⟨g,by omega,by omega,bR (by omega),cG.ae _⟩
  ·have e:cj k p n=chunk k (p.2.getD i (0,[])):=by simp only[cj,c]
   rw[e,d,b];simp only[az];exact aa.cat.2 ⟨rfl,aa.cat.2 ⟨rfl,ab⟩⟩
theorem JE(a:bO X 148 lF):bO X 169 (Ci aI (mS cG) aI (λk p n=>uD (cj k p n)) λk _ _=>[bJ k=true]):=.Ih λk p n h=>yf a k p n h
end Go.AM.R1
namespace Go.AM
open Go.Conc
inductive Rk where
 |leaf
 |node (f:St->Rk)
def Rk.lt:Rk->Rk->Prop
 |_,.leaf=>False
 |x,.node f=>∃ s,x=f s∨Rk.lt x (f s)
theorem Rk.acc:∀ r:Rk,Acc Rk.lt r
 |.leaf=>⟨_,λ_ h=>h.elim⟩
 |.node f=>⟨_,λ_ ⟨s,e⟩=>e.elim (λe=>e▸Rk.acc (f s)) λh=>(Rk.acc (f s)).inv h⟩
def Rk.nat:Nat->Rk
 |0=>.leaf
 |n+1=>.node λ_=>Rk.nat n
theorem Rk.xO(n:Nat)(s:St):Rk.lt (Rk.nat n) (Rk.nat (n+1)):=⟨s,.inl rfl⟩
def Vec(j:Nat)(a D:Nat->Rk):Prop:=∃ i,i<j/\Rk.lt (a i) (D i)/\∀ k,k≠i->a k=D k
theorem C0:∀ j,WellFounded (Vec j)
 |0=>⟨λ_=>⟨_,λ_ ⟨i,h,_⟩=>absurd h (fR i)⟩⟩
 |j+1=>by
  have m:=C0 j;have key:∀ a:Rk,∀ D:Nat->Rk,D j=a->Acc (Vec (j+1)) D:=by
   intro a
   induction Rk.acc a with
   |intro a _ e =>
    intro D
    induction m.apply D with
    |intro D _ d =>
     intro k;refine⟨_,λl h=>?_⟩
     obtain⟨i,hi,b,f⟩:=h;rcases bC i j with g|g
     ·exact d l ⟨i,g,b,f⟩ (by rw[f j (by omega),k])
     ·obtain rfl:i=j:=by omega
      exact e _ (k▸b) l rfl
  exact⟨λD=>key _ D rfl⟩
section
variable {P:Program}
def gH(X:Cx P)(E:St->St->Array Event->Prop)(S:Goroutine->St->Prop):Rk->Goroutine->St->Prop
 |.leaf,g,s=>S g s
 |.node f,g,s=>S g s∨(∃ s',(eX s s'∨(X.vh/\lj s s'))/\gH X E S (f s) g s') ∨
   (g.status=.running/\∀ a,X.rely s a->∃ g' s' es,stepG P X.main g a.w=.go g' s'.w es/\(mD a s' es∨E a s' es)/\gH X E S (f a) g' s')
variable {X:Cx P}{E:St->St->Array Event->Prop}{S c:Goroutine->St->Prop}
def cz(X:Cx P)(E:St->St->Array Event->Prop)(S:Goroutine->St->Prop)(g:Goroutine)(s:St):Prop:=∃ r,gH X E S r g s
theorem cz.ghost{g:Goroutine}{s s':St}(h:eX s s')(k:cz X E S g s'):cz X E S g s:=by
 obtain⟨r,k⟩:=k;exact⟨.node λ_=>r,.inr (.inl ⟨s',.inl h,k⟩)⟩
theorem cz.forget{g:Goroutine}{s s':St}(hl:X.vh)(h:lj s s')(k:cz X E S g s'):cz X E S g s:=by
 obtain⟨r,k⟩:=k;exact⟨.node λ_=>r,.inr (.inl ⟨s',.inr ⟨hl,h⟩,k⟩)⟩
theorem cz.step{g:Goroutine}{s:St}(d:g.status=.running)(h:∀ a,X.rely s a->∃ g' s' es,stepG P X.main g a.w=.go g' s'.w es/\(mD a s' es∨E a s' es)/\cz X E S g' s'):cz X E S g s:=by
 classical
 have hh:∀ a,∃ r:Rk,X.rely s a->∃ g' s' es,stepG P X.main g a.w=.go g' s'.w es/\(mD a s' es∨E a s' es)/\gH X E S r g' s':=by
  intro a
  by_cases b:X.rely s a
  ·obtain⟨g',s',es,h1,h2,r,e⟩:=h a b;exact⟨r,λ_=>⟨g',s',es,h1,h2,e⟩⟩
  ·exact⟨.leaf,λh=>absurd h b⟩
 exact⟨.node λa=>Classical.choose (hh a),.inr (.inr ⟨d,λa b=>nP (hh a) b⟩)⟩
theorem cz.bind{g:Goroutine}{s:St}(h:cz X E S g s)(k:∀ g s,S g s->cz X E c g s):cz X E c g s:=by
 obtain⟨r,h⟩:=h
 induction r generalizing g s with
 |leaf=>exact k g s h
 |node f a =>
  rcases h with h|⟨s',h1,h2⟩|⟨b,h⟩
  ·exact k g s h
  ·rcases h1 with h1|⟨hl,h1⟩
   ·exact .ghost h1 (a _ h2)
   ·exact .forget hl h1 (a _ h2)
  ·exact .step b λi d=>by
    obtain⟨g',s',es,h1,h2,e⟩:=h i d;exact⟨g',s',es,h1,h2,a _ e⟩
theorem dk.Sg{g:Goroutine}{s:St}(hj:∀ g s T,¬X.rG g s T)(h:dk X S g s):cz X E S g s:=by
 induction h with
 |stop h=>exact⟨.leaf,h⟩
 |step ng ns ne hr h1 h2 _ a=>exact .step hr λd b=>⟨_,_,_,h1 d b,.inl (h2 d b),a d b⟩
 |ghost hg _ a=>exact .ghost hg a
 |forget hl hg _ a=>exact .forget hl hg a
 |rG Si _ _=>exact absurd Si (hj _ _ _)
theorem gH.norm(I:St->Prop)(l:∀ s s',eX s s'->I s->I s')(m:X.vh->∀ s s',lj s s'->I s->I s'):∀ {r:Rk}{g:Goroutine}{s:St},gH X E S r g s->I s ->
  (∃ s',I s'/\S g s')∨(g.status=.running/\∃ s',I s'/\∀ a,X.rely s' a->∃ g' s2 es r',stepG P X.main g a.w=.go g' s2.w es/\(mD a s2 es∨E a s2 es)/\gH X E S r' g' s2/\Rk.lt r' r)
 |.leaf,_,s,h,hi=>.inl ⟨s,hi,h⟩
 |.node f,g,s,h,hi=>by
  rcases h with h|⟨s',h1,h2⟩|⟨n,h⟩
  ·exact .inl ⟨s,hi,h⟩
  ·have d:I s':=h1.elim (λx=>l s s' x hi) λx=>m x.1 s s' x.2 hi
   rcases gH.norm I l m h2 d with j|⟨j,s2,o,p⟩
   ·exact .inl j
   ·refine .inr ⟨j,s2,o,λa b=>?_⟩
    obtain⟨g',e,es,r',k1,i,k,q⟩:=p a b;exact⟨g',e,es,r',k1,i,k,s,.inr q⟩
  ·refine .inr ⟨n,s,hi,λa b=>?_⟩
   obtain⟨g',e,es,k1,i,k⟩:=h a b;exact⟨g',e,es,f a,k1,i,k,a,.inl rfl⟩
theorem cz.goes{R:World->World->Prop}{D:World->World->Array Event->Prop}{Stop:Goroutine->World->Prop}(I:St->Prop)(l:∀ s a,I s->X.rely s a->I a)(e:∀ s a,I s->X.rely s a->R s.w a.w)
  (m:∀ s es,I s->∀ w',D s.w w' es->w'=s.w/\(mD s s es∨E s s es)) (f:∀ s,I s->X.rely s s) (k:∀ g s,I s->Stop g s.w->cz X E S g s) :
  ∀ (n:Nat) (g:Goroutine) (s:St),I s->Goes P X.main R D Stop n g s.w->cz X E S g s
 |0,g,s,hi,h=>k g s hi (h s.w (e s s hi (f s hi)))
 |n+1,g,s,hi,h=>by
  rcases h with h|⟨o,h⟩
  ·exact k g s hi (h s.w (e s s hi (f s hi)))
  ·refine .step o λa j=>?_
   have h1:=h a.w (e s a hi j);have d:=l s a hi j;cases b:stepG P X.main g a.w with
   |go g' w' es =>
    rw[b,goes_go] at h1;obtain⟨q,p⟩:=h1;obtain⟨rfl,i⟩:=m a es d w' q;exact⟨g',a,es,rfl,i,cz.goes I l e m f k n g' a d p⟩
   |_=>rw[b] at h1;exact h1.elim
end
theorem aX.ghost{s s':St}{w:World}(h:aX s { s with w:=w })(k:eX s s'):aX s' { s' with w:=w }:=by
 refine⟨rfl,rfl,rfl,by rw[k.w];exact h.size,λb a=>by rw[k.w];exact h.en b (k.blk b a),λb o v f=>?_,by rw[k.w];exact h.os,by rw[k.w];exact h.tape,by rw[k.w];exact h.output⟩
 have e:=k.cell b o v f
 by_cases a:∃ L∈s.β,b∈L.bs
 ·have:=h.en b (.inr a);simp only[World.cell?] at e ⊢;simp only at this;rw[this];exact e
 ·have:s.M b o=some v:=by
   rw[<-k.hZ b (λL g d=>a ⟨L,g,d⟩)];exact f
  exact h.mem b o v this
theorem aX.forget{s s':St}{w:World}(h:aX s { s with w:=w })(k:lj s s'):aX s' { s' with w:=w } :=
 ⟨rfl,rfl,rfl,by rw[k.w];exact h.size,λb a=>by rw[k.w];exact h.en b (by rw[<-k.own,<-k.β];exact a),λb o v d=>h.mem b o v (k.less b o v d),by rw[k.w];exact h.os,by rw[k.w];exact h.tape,by rw[k.w];exact h.output⟩
theorem aX.qn{s:St}(h:ee s):aX s s:=⟨rfl,rfl,rfl,aq _,λ_ _=>rfl,h,rfl,rfl,rfl⟩
theorem aX.trans'{s:St}{w:World}(h:aX s { s with w:=w }):aX { s with w:=w } { s with w:=w }:=aX.qn h.mem
theorem aX.trans{s d s2:St}(h:aX s d)(k:aX d s2):aX s s2 :=
 ⟨k.β.trans h.β,k.M.trans h.M,k.own.trans h.own,gf h.size k.size,λb a=>by rw[k.en b (by rw[h.own,h.β];exact a),h.en b a],λb o v e=>k.mem b o v (by rw[h.M];exact e),k.os.trans h.os,k.tape.trans h.tape,k.output.trans h.output⟩
end Go.AM
namespace Go.AM
open Go.Conc
open Go.ConcN (fork_knows RelBy)
open Go.ConcR (stA smA)
def iS:Go.Loc->Option Nat
 |.cell a=>some a.block
 |.obj r=>some r
 |_=>none
theorem vv{l:Go.Loc}(h:l.isMemory=true):∃ b,iS l=some b:=by
 cases l <;> simp[Go.Loc.isMemory] at h <;> exact⟨_,rfl⟩
theorem AH{x:MemAct}{a:Touch}{B b:Nat}(h:x.touch?=some a)(g:x.low B)(c:iS a.loc=some b):b<B:=by
 cases x with
 |access e =>
  simp[MemAct.touch?] at h;subst h;simp only at c;obtain⟨loc,wr,i⟩:=e;cases loc <;> simp[iS] at c <;> subst c <;> exact g
 |mark m =>
  cases m <;> simp[MemAct.touch?] at h <;> subst h <;> simp[iS] at c <;> subst c <;> exact g
 |_=>simp[MemAct.touch?] at h
structure Lay where
 Sh:Nat->Prop
 T0:Nat
 Wg:Nat
 C:Nat
 base:Nat
 kc:Nat
def nv(Y:Lay)(d:Nat->Nat)(a:Touch):Prop :=
 (∃ ad,a.loc=.cell ad/\ad.block=Y.Wg/\a.kind≠.plain)∨(∃ b,iS a.loc=some b/\d b=0/\b≠Y.Wg/\b≠Y.C/\¬Y.Sh b/\a.kind=.plain)
def mi(Y:Lay)(d:Nat->Nat)(f:Mem)(x:Nat)(a:Touch):Prop :=
 (∃ ad,a.loc=.cell ad/\ad.block=Y.Wg/\a.kind=.atomic) ∨
 (a.kind=.plain/\((∃ b,iS a.loc=some b/\d b=Y.base+x)∨(∃ o,a.loc=.cell ⟨Y.C,o,none⟩/\Y.kc*x<=o/\o<Y.kc*x+Y.kc)∨(a.write=false/\∃ b o v,a.loc=.cell ⟨b,o,none⟩/\f b o=some v)))
structure TL (Y:Lay)(d:Nat->Nat)(f:Nat->Mem)(t:Trace)(j B:Nat):Prop where
 base:1<=Y.base
 Ce:d Y.Wg=0
 hC:d Y.C=0
 ne:Y.C≠Y.Wg
 HZ:¬Y.Sh Y.Wg
 I4:¬Y.Sh Y.C
 Cf:∀ b,Y.Sh b->d b=0
 ms:∀ x,x<j->∀ b o v,f x b o=some v->d b=0/\b≠Y.C/\b≠Y.Wg/\¬Y.Sh b
 T0:Y.T0<=t.size
 nr:∀ said,¬Race said t
 seen:∀ op∈t,op.act.low B
 old:∀ i a,i<Y.T0->touchAt t i=some a->a.loc.isMemory=true->Knows t 0 i∨(iK Y.Sh a.loc/\a.kind=.atomic)
 I5:∀ x,x<j->∀ i a,i<Y.T0->touchAt t i=some a->a.loc.isMemory=true->Knows t (Y.base+x) i∨(iK Y.Sh a.loc/\a.kind=.atomic)
 AI:∀ i a b,i<Y.T0->touchAt t i=some a->iS a.loc=some b->d b=0
 new:∀ i a,Y.T0<=i->touchAt t i=some a->a.loc.isMemory=true->(t.g? i=some 0/\nv Y d a)∨(∃ x,x<j/\t.g? i=some (Y.base+x)/\mi Y d (f x) x a)
 mw:∀ x,x<j->∀ i a,Y.T0<=i->touchAt t i=some a->t.g? i=some 0->a.write=true->∀ b o v,a.loc=.cell ⟨b,o,none⟩->f x b o=some v->Knows t (Y.base+x) i
 over:∀ i g,i<Y.T0->t.g? i=some g->g≠0->t.counts i->∃ k,t.g? k=some 0/\HappensBefore t i k
section
variable {Y:Lay}{d hm':Nat->Nat}{f:Nat->Mem}{t u:Trace}{j B B':Nat}
theorem pH{i:Nat}{a:Touch}{g:Nat}(h:touchAt t i=some a)(c:t.g? i=some g):Knows t g i:=by
 obtain⟨x,b,_⟩:=touch_of h;have:x.g=g:=by simpa[Trace.g?,b] using c
 rw[<-this];exact knows_own b
theorem TL.low(h:TL Y d f t j B){i:Nat}{a:Touch}{b:Nat}(k:touchAt t i=some a)(e:iS a.loc=some b):b<B:=by
 obtain⟨x,g,c⟩:=touch_of k;exact AH c (h.seen x (nQ g)) e
theorem TL.n5(h:TL Y d f t j B)(hh:∀ b,b<B->hm' b=d b)(q:B<=B')(r:Y.Wg<B)(hC:Y.C<B)(s:∀ b,Y.Sh b->b<B)(w:∀ x,x<j->∀ b o v,f x b o=some v->b<B):TL Y hm' f t j B':=by
 have e:∀ i a,touchAt t i=some a->nv Y d a->nv Y hm' a:=λi a c h1=>by
  rcases h1 with h1|⟨b,h1,h2,l⟩
  ·exact .inl h1
  ·exact .inr ⟨b,h1,by rw[hh b (h.low c h1)];exact h2,l⟩
 have g:∀ x i a,touchAt t i=some a->mi Y d (f x) x a->mi Y hm' (f x) x a:=λx i a c h1=>by
  rcases h1 with h1|⟨m,⟨b,h1,h2⟩|h1⟩
  ·exact .inl h1
  ·exact .inr ⟨m,.inl ⟨b,h1,by rw[hh b (h.low c h1)];exact h2⟩⟩
  ·exact .inr ⟨m,.inr h1⟩
 refine⟨h.base,by rw[hh _ r];exact h.Ce,by rw[hh _ hC];exact h.hC,h.ne,h.HZ,h.I4,λb k=>by rw[hh b (s b k)];exact h.Cf b k,λx p b o v n=>by rw[hh b (w x p b o v n)];exact h.ms x p b o v n,
  h.T0,h.nr,λop eC=>MemAct.low_mono q (h.seen op eC),h.old,h.I5,λi a b hi c k=>by rw[hh b (h.low c k)];exact h.AI i a b hi c k,λi a hi c d=>?_,h.mw,h.over⟩
 rcases h.new i a hi c d with⟨h1,h2⟩|⟨x,h1,h2,l⟩
 ·exact .inl ⟨h1,e i a c h2⟩
 ·exact .inr ⟨x,h1,h2,g x i a c l⟩
theorem TL.Gt(h:TL Y d f t j B):Y.T0<=(t++u).size:=gf h.T0 (by simp)
theorem gM{i:Nat}(h:i<t.size):(t++u).g? i=t.g? i:=by simp[Trace.g?,getElem?_append_old h]
theorem TL.nw(h:TL Y d f t j B)(u:Trace):∀ i g,i<Y.T0->(t++u).g? i=some g->g≠0->(t++u).counts i->∃ k,(t++u).g? k=some 0/\HappensBefore (t++u) i k:=by
 intro i g hi hg sj hc;have a:=bk hi h.T0;rw[gM a] at hg;obtain⟨k,b,l⟩:=h.over i g hi hg sj ((counts_old a).1 hc);have c:k<t.size:=by
  unfold Trace.g? at b;obtain⟨z,e,_⟩:=mx.1 b;exact lt_size_of_getElem? e
 exact⟨k,by rw[gM c];exact b,hb_app u l⟩
theorem vw{a:Nat->Prop}{l:Go.Loc}{b:Nat}(h:iK a l)(c:iS l=some b):a b:=by
 cases l <;> simp[iS] at c <;> subst c <;> exact h
theorem TL.apart(h:TL Y d f t j B){x:Nat}(y:x<j){a b:Touch}{said:Bool}(p:nv Y d b)(q:mi Y d (f x) x a)(hl:a.loc=b.loc)(l:a.kind=.plain∨b.kind=.plain∨(said=true/\a.kind=.said/\b.kind=.said))
  (A:b.kind=.plain->b.write=true->∀ n o v,b.loc=.cell ⟨n,o,none⟩->f x n o≠some v) (g:a.write=true∨b.write=true):False:=by
 have z:=h.base;rcases q with⟨ad,e1,e2,e3⟩|⟨F,⟨c,e1,e2⟩|⟨o,e1,_⟩|⟨e1,n,o,v,e2,e3⟩⟩
 ·rcases p with⟨m,e,i,k⟩|⟨c,e,i,k,_⟩
  ·rw[e3] at l;rcases l with l|l|⟨_,l,_⟩
   ·cases l
   ·exact k l
   ·cases l
  ·rw[<-hl,e1] at e;simp only[iS,bG] at e;exact k (e.symm.trans e2)
 ·rcases p with⟨m,e,i,k⟩|⟨r,e,i,k,_⟩
  ·rw[hl,e] at e1;simp only[iS,bG] at e1;rw[<-e1,i,h.Ce] at e2;omega
  ·rw[hl,e] at e1;simp only[bG] at e1;rw[<-e1,i] at e2;omega
 ·rcases p with⟨m,e,i,k⟩|⟨r,e,i,k,s,_⟩
  ·rw[<-hl,e1] at e;cases e;exact h.ne i
  ·rw[<-hl,e1] at e;simp only[iS,bG] at e;exact s e.symm
 ·obtain⟨G,E,w,D⟩:=h.ms x y n o v e3;rcases p with⟨m,e,i,k⟩|⟨r,e,i,k,s,_,C⟩
  ·rw[<-hl,e2] at e;cases e;exact w i
  ·rcases g with g|g
   ·rw[e1] at g;cases g
   ·exact A C g n o v (by rw[<-hl];exact e2) e3
theorem TL.app0(h:TL Y d f t j B)(K:∀ op∈u,op.g=0)(hl:∀ op∈u,op.act.low B)(F:∀ op∈u,∀ a,op.act.touch?=some a->a.loc.isMemory=true->nv Y d a)
  (L:∀ op∈u,∀ a,op.act.touch?=some a->a.kind=.plain->a.write=true->∀ x,x<j->∀ b o v,a.loc=.cell ⟨b,o,none⟩->f x b o≠some v):TL Y d f (t++u) j B:=by
 have l:∀ {i:Nat} {a:Touch},touchAt (t++u) i=some a->(i<t.size/\touchAt t i=some a)∨(t.size<=i/\(t++u).g? i=some 0/\∃ op∈u,op.act.touch?=some a):=by
  intro i a e;obtain⟨x,p,y⟩:=touch_of e;rcases getElem?_append_cases p with⟨hi,H⟩|⟨hi,A⟩
  ·exact .inl ⟨hi,by rw[touchAt_of H];exact y⟩
  ·exact .inr ⟨hi,by simp[Trace.g?,p,K x A],x,A,y⟩
 refine⟨h.base,h.Ce,h.hC,h.ne,h.HZ,h.I4,h.Cf,h.ms,h.Gt,λsaid=>?_,seen_app h.seen hl,λi a hi e d=>?_,λx p i a hi e d=>?_,λi a b hi e C=>?_,λi a hi e d=>?_,λx p i a hi e w z b o v m E=>?_,h.nw u⟩
 ·refine noRace_append (h.nr said) K λi a e op eC b C r=>?_
  have D:b.loc.isMemory=true:=by rw[<-r.1];exact r.2.1
  have J:=F op eC b C D;rcases bC i Y.T0 with hi|hi
  ·rcases h.old i a hi e r.2.1 with P|⟨N,Q⟩
   ·exact P
   ·exfalso;obtain⟨c,k⟩:=vv r.2.1;have s:=vw N k;rcases J with⟨ad,e1,e2,e3⟩|⟨O,e1,e2,e3,R,I,M⟩
    ·rw[r.1,e1] at k;simp only[iS,bG] at k;rw[<-k,e2] at s;exact h.HZ s
    ·rw[r.1,e1] at k;simp only[bG] at k;rw[k] at I;exact I s
  ·rcases h.new i a hi e r.2.1 with⟨w,_⟩|⟨x,p,w,G⟩
   ·exact pH e w
   ·exact(h.apart p J G r.1 r.2.2.2 (λh1 h2=>L op eC b C h1 h2 x p) r.2.2.1).elim
 ·have q:touchAt t i=some a:=by rw[<-touchAt_old (u:=u) (bk hi h.T0)];exact e
  exact(h.old i a hi q d).imp (·.app u) id
 ·have q:touchAt t i=some a:=by rw[<-touchAt_old (u:=u) (bk hi h.T0)];exact e
  exact(h.I5 x p i a hi q d).imp (·.app u) id
 ·have q:touchAt t i=some a:=by rw[<-touchAt_old (u:=u) (bk hi h.T0)];exact e
  exact h.AI i a b hi q C
 ·rcases l e with⟨h1,h2⟩|⟨_,h2,op,eC,n⟩
  ·rw[gM h1];exact h.new i a hi h2 d
  ·exact .inl ⟨h2,F op eC a n d⟩
 ·rcases l e with⟨h1,h2⟩|⟨_,h2,op,eC,n⟩
  ·rw[gM h1] at w;exact(h.mw x p i a hi h2 w z b o v m E).app u
  ·exfalso;rcases F op eC a n (by rw[m];rfl) with⟨ad,e1,e2,e3⟩|⟨O,_,_,_,_,_,M⟩
   ·rw[m] at e1;cases e1;exact(h.ms x p b o v E).2.2.1 e2
   ·exact L op eC a n M z x p b o v m E
theorem TL.appW(h:TL Y d f t j B){x:Nat}(E:x<j)(hu:∀ op∈u,op.g=Y.base+x)(hl:∀ op∈u,op.act.low B)(ht:∀ op∈u,∀ a,op.act.touch?=some a->a.loc.isMemory=true->mi Y d (f x) x a):TL Y d f (t++u) j B:=by
 have Uz:=h.base;have r:∀ {i:Nat} {a:Touch},touchAt (t++u) i=some a->(i<t.size/\touchAt t i=some a)∨(t.size<=i/\(t++u).g? i=some (Y.base+x)/\∃ op∈u,op.act.touch?=some a):=by
  intro i a q;obtain⟨y,A,J⟩:=touch_of q;rcases getElem?_append_cases A with⟨hi,T⟩|⟨hi,L⟩
  ·exact .inl ⟨hi,by rw[touchAt_of T];exact J⟩
  ·exact .inr ⟨hi,by simp[Trace.g?,A,hu y L],y,L,J⟩
 refine⟨h.base,h.Ce,h.hC,h.ne,h.HZ,h.I4,h.Cf,h.ms,h.Gt,λsaid=>?_,seen_app h.seen hl,λi a hi q d=>?_,λy A i a hi q d=>?_,λi a b hi q Z=>?_,λi a hi q d=>?_,λy A i a hi q F D b o v M S=>?_,h.nw u⟩
 ·refine noRace_append (h.nr said) hu λi a q op eC b Z C=>?_
  have Q:b.loc.isMemory=true:=by rw[<-C.1];exact C.2.1
  have H:=ht op eC b Z Q;obtain⟨c,l⟩:=vv C.2.1;rcases bC i Y.T0 with hi|hi
  ·rcases h.I5 x E i a hi q C.2.1 with I|⟨hs,UA⟩
   ·exact I
   ·exfalso;have n:=vw hs l;rw[C.1] at l;rcases H with⟨ad,e1,e2,e3⟩|⟨e0,⟨c',e1,e2⟩|⟨o,e1,_⟩|⟨e1,p,o,v,e2,e3⟩⟩
    ·rw[e1] at l;simp only[iS,bG] at l;rw[<-l,e2] at n;exact h.HZ n
    ·rw[e1] at l;simp only[bG] at l;rw[<-l] at n;rw[h.Cf _ n] at e2;omega
    ·rw[e1] at l;simp only[iS,bG] at l;rw[<-l] at n;exact h.I4 n
    ·rw[e2] at l;simp only[iS,bG] at l;rw[<-l] at n;exact(h.ms x E p o v e3).2.2.2 n
  ·rcases h.new i a hi q C.2.1 with⟨F,W⟩|⟨y,A,F,V⟩
   ·
    by_cases K:a.write=true/\∃ p o v,a.loc=.cell ⟨p,o,none⟩/\f x p o=some v
    ·obtain⟨h1,p,o,v,h2,h3⟩:=K;exact h.mw x E i a hi q F h1 p o v h2 h3
    ·exfalso;refine h.apart (said:=said) E W H C.1.symm ?_ (λ_ R p o v k S=>K ⟨R,p,o,v,k,S⟩) C.2.2.1.symm
     rcases C.2.2.2 with I|I|⟨h1,h2,h3⟩
     ·exact .inr (.inl I)
     ·exact .inl I
     ·exact .inr (.inr ⟨h1,h3,h2⟩)
   ·by_cases O:y=x
    ·subst O;exact pH q F
    ·exfalso;obtain⟨k,_,D,w⟩:=C;rcases V with⟨ad,e1,e2,e3⟩|⟨e0,⟨c1,e1,e2⟩|⟨o,e1,UB,UC⟩|⟨e1,p,o,v,e2,e3⟩⟩
     ·rcases H with⟨G,e,m,s⟩|⟨P,⟨c2,e,m⟩|⟨o,e,_⟩|⟨e,p,o,v,m,s⟩⟩
      ·rw[e3,s] at w;simp at w
      ·rw[<-k,e1] at e;simp only[iS,bG] at e;rw[<-e,e2,h.Ce] at m;omega
      ·rw[<-k,e1] at e;cases e;exact h.ne e2
      ·rw[<-k,e1] at m;cases m;exact(h.ms x E p o v s).2.2.1 e2
     ·rcases H with⟨G,e,m,s⟩|⟨P,⟨c2,e,m⟩|⟨o,e,_⟩|⟨e,p,o,v,m,s⟩⟩
      ·rw[k,e] at e1;simp only[iS,bG] at e1;rw[<-e1,m,h.Ce] at e2;omega
      ·rw[k,e] at e1;simp only[bG] at e1;rw[e1] at m;omega
      ·rw[k,e] at e1;simp only[iS,bG] at e1;rw[<-e1,h.hC] at e2;omega
      ·rw[k,m] at e1;simp only[iS,bG] at e1;rw[<-e1,(h.ms x E p o v s).1] at e2;omega
     ·rcases H with⟨G,e,m,s⟩|⟨P,⟨c2,e,m⟩|⟨X,e,U,Sj⟩|⟨e,p,X,v,m,s⟩⟩
      ·rw[<-k,e1] at e;cases e;exact h.ne m
      ·rw[<-k,e1] at e;simp only[iS,bG] at e;rw[<-e,h.hC] at m;omega
      ·rw[<-k,e1] at e;cases e;rcases Nat.lt_or_gt_of_ne O with h1|h1
       ·have:=po Y.kc (show y+1<=x from h1)
        rw[Nat.mul_add,lR] at this;omega
       ·have:=po Y.kc (show x+1<=y from h1)
        rw[Nat.mul_add,lR] at this;omega
      ·rw[<-k,e1] at m;cases m;exact(h.ms x E _ _ v s).2.1 rfl
     ·rcases H with⟨G,e,m,s⟩|⟨P,⟨c2,e,m⟩|⟨X,e,U,Sj⟩|⟨e,b2,X,v',m,s⟩⟩
      ·rw[<-k,e2] at e;cases e;exact(h.ms y A p o v e3).2.2.1 m
      ·rw[<-k,e2] at e;simp only[iS,bG] at e;rw[<-e,(h.ms y A p o v e3).1] at m;omega
      ·rw[<-k,e2] at e;cases e;exact(h.ms y A _ _ v e3).2.1 rfl
      ·rw[e1,e] at D;simp at D
 ·have z:touchAt t i=some a:=by rw[<-touchAt_old (u:=u) (bk hi h.T0)];exact q
  exact(h.old i a hi z d).imp (·.app u) id
 ·have z:touchAt t i=some a:=by rw[<-touchAt_old (u:=u) (bk hi h.T0)];exact q
  exact(h.I5 y A i a hi z d).imp (·.app u) id
 ·have z:touchAt t i=some a:=by rw[<-touchAt_old (u:=u) (bk hi h.T0)];exact q
  exact h.AI i a b hi z Z
 ·rcases r q with⟨h1,h2⟩|⟨_,h2,op,eC,N⟩
  ·rw[gM h1];exact h.new i a hi h2 d
  ·exact .inr ⟨x,E,h2,ht op eC a N d⟩
 ·rcases r q with⟨h1,h2⟩|⟨_,h2,_⟩
  ·rw[gM h1] at F;exact(h.mw y A i a hi h2 F D b o v M S).app u
  ·rw[F] at h2;simp only[bG] at h2;omega
theorem TL.mute(h:TL Y d f t j B){g:Nat}(w:∀ op∈u,op.g=g)(hl:∀ op∈u,op.act.low B)(s:∀ op∈u,op.act.touch?=none):TL Y d f (t++u) j B:=by
 have old:∀ {i:Nat} {a:Touch},touchAt (t++u) i=some a->i<t.size/\touchAt t i=some a:=by
  intro i a c;obtain⟨y,A,e⟩:=touch_of c;rcases getElem?_append_cases A with⟨hi,n⟩|⟨hi,m⟩
  ·exact⟨hi,by rw[touchAt_of n];exact e⟩
  ·rw[s y m] at e;cases e
 refine⟨h.base,h.Ce,h.hC,h.ne,h.HZ,h.I4,h.Cf,h.ms,h.Gt,λsaid=>noRace_append (h.nr said) w λi a _ op eC b l _=>(by rw[s op eC] at l;cases l),seen_app h.seen hl,λi a hi c d=>(h.old i a hi (old c).2 d).imp (·.app u) id,
  λx q i a hi c d=>(h.I5 x q i a hi (old c).2 d).imp (·.app u) id,λi a b hi c l=>h.AI i a b hi (old c).2 l,λi a hi c d=>?_,λx q i a hi c r p b o v k z=>?_,h.nw u⟩
 ·rw[gM (old c).1];exact h.new i a hi (old c).2 d
 ·rw[gM (old c).1] at r;exact(h.mw x q i a hi (old c).2 r p b o v k z).app u
theorem TL.fork(h:TL Y d f t j B){x y:MemOp}(r:x.g=0/\x.act=.go (Y.base+j))(q:y.g=Y.base+j/\y.act=.start)(H:Deaf t 0=0)(I:Deaf t (Y.base+j)=0)
  (J:∀ b o v,f j b o=some v->d b=0/\b≠Y.C/\b≠Y.Wg/\¬Y.Sh b):TL Y d f (t++#[x,y]) (j+1) B:=by
 have k:∀ op∈#[x,y],op.act.touch?=none:=by
  intro op eC;simp only[List.mem_toArray,dF,pt,or_false] at eC;rcases eC with rfl|rfl
  ·rw[r.2];rfl
  ·rw[q.2];rfl
 have n:∀ op∈#[x,y],op.act.low B:=by
  intro op eC;simp only[List.mem_toArray,dF,pt,or_false] at eC;rcases eC with rfl|rfl
  ·rw[r.2];trivial
  ·rw[q.2];trivial
 have old:∀ {i:Nat} {a:Touch},touchAt (t++#[x,y]) i=some a->i<t.size/\touchAt t i=some a:=by
  intro i a c;obtain⟨z,w,m⟩:=touch_of c;rcases getElem?_append_cases w with⟨hi,G⟩|⟨_,E⟩
  ·exact⟨hi,by rw[touchAt_of G];exact m⟩
  ·rw[k z E] at m;cases m
 have A:∀ z,z<j+1->∀ b o v,f z b o=some v->d b=0/\b≠Y.C/\b≠Y.Wg/\¬Y.Sh b:=λz w b o v s=>by
  rcases bC z j with h1|h1
  ·exact h.ms z h1 b o v s
  ·obtain rfl:z=j:=by omega
   exact J b o v s
 refine⟨h.base,h.Ce,h.hC,h.ne,h.HZ,h.I4,h.Cf,A,h.Gt,λsaid=>?_,seen_app h.seen n,λi a hi c d=>(h.old i a hi (old c).2 d).imp (·.app _) id,
  λz w i a hi c d=>?_,λi a b hi c l=>h.AI i a b hi (old c).2 l,λi a hi c d=>?_,λz w i a hi c D F b o v p s=>?_,h.nw _⟩
 ·have e:t++#[x,y]=(t++#[x])++#[y]:=by apply fH;simp
  rw[e];refine noRace_append (g:=Y.base+j) (noRace_append (g:=0) (h.nr said) (λop eC=>by simp at eC;rw[eC];exact r.1) (λi a _ op eC b l _=>?_)) (λop eC=>by simp at eC;rw[eC];exact q.1) (λi a _ op eC b l _=>?_)
  ·rw[k op (by simp at eC ⊢;exact .inl eC)] at l;cases l
  ·rw[k op (by simp at eC ⊢;exact .inr eC)] at l;cases l
 ·rcases bC z j with h1|h1
  ·exact(h.I5 z h1 i a hi (old c).2 d).imp (·.app _) id
  ·obtain rfl:z=j:=by omega
   exact(h.old i a hi (old c).2 d).imp (fork_knows r q H I) id
 ·rw[gM (old c).1];rcases h.new i a hi (old c).2 d with h1|⟨z,h1,h2⟩
  ·exact .inl h1
  ·exact .inr ⟨z,by omega,h2⟩
 ·rw[gM (old c).1] at D;rcases bC z j with h1|h1
  ·exact(h.mw z h1 i a hi (old c).2 D F b o v p s).app _
  ·obtain rfl:z=j:=by omega
   exact fork_knows r q H I (pH (old c).2 D)
theorem TL.Oo(h:TL Y d f t j B)(J:Deaf t 0=0)(P:NoRelease (stA Y.Wg) t){q:Nat}(O:t.act? q=some (.mark (.acquire (stA Y.Wg))))(y:t.g? q=some 0)(E:t.heard q)
  (N:∀ x,x<j->∃ r,RelBy (stA Y.Wg) t (Y.base+x) r/\r<q):Past (iK λb=>Y.Sh b∨b=Y.Wg) B t:=by
 have m:∀ x,x<j->∀ i,t.g? i=some (Y.base+x)->t.counts i->HappensBefore t i q:=by
  intro x w i p v;obtain⟨r,c,C⟩:=N x w;have e:HappensBefore t r q:=.single (.inr ⟨.marked C (.inr c.act) O (λk _ _=>P k),c.heard,E⟩)
  have H:i<=r:=Nat.le_of_not_lt λo=>c.after i o p v
  rcases bC i r with o|K
  ·exact .trans (.single (.inl ⟨o,_,p,c.g⟩)) e
  ·obtain rfl:i=r:=by omega
   exact e
 have n:∀ {l:Go.Loc},iK Y.Sh l->iK (λb=>Y.Sh b∨b=Y.Wg) l:=λ{l} hl=>by cases l <;> first|exact .inl hl|exact hl
 refine⟨h.nr,λi a s d=>?_,λi g p A v=>?_,J,h.seen⟩
 ·rcases bC i Y.T0 with hi|hi
  ·exact(h.old i a hi s d).imp id λ⟨h1,h2⟩=>⟨n h1,h2⟩
  ·rcases h.new i a hi s d with⟨h1,_⟩|⟨x,w,p,G⟩
   ·exact .inl (pH s h1)
   ·rcases G with⟨ad,e1,e2,e3⟩|⟨L,_⟩
    ·exact .inr ⟨by rw[e1];exact .inr e2,e3⟩
    ·left
     have v:t.counts i:=⟨a,s,d,.inl (by rw[L];simp)⟩
     obtain⟨z,I,F⟩:=mx.1 y;exact⟨q,z,I,F,.inr (m x w i p v)⟩
 ·rcases bC i Y.T0 with hi|hi
  ·exact h.over i g hi p A v
  ·obtain⟨a,s,d,M⟩:=v;rcases h.new i a hi s d with⟨h1,_⟩|⟨x,w,D,G⟩
   ·rw[p] at h1;exact absurd (lb h1) A
   ·exact⟨q,y,m x w i D ⟨a,s,d,M⟩⟩
theorem TL.start{Y:Lay}{t:Trace}{B:Nat}{f:Nat->Mem}(e:Past (iK Y.Sh) B t)(p:Y.T0=t.size)(o:1<=Y.base)(b:Y.C≠Y.Wg)(l:¬Y.Sh Y.Wg)(h:¬Y.Sh Y.C):TL Y (λ_=>0) f t 0 B :=
 ⟨o,rfl,rfl,b,l,h,λ_ _=>rfl,λx c=>absurd c (fR x),by omega,e.clean,e.seen,λi a _ k d=>e.known i a k d,λx c=>absurd c (fR x),λ_ _ _ _ _ _=>rfl,
  λi a hi k _=>by
   obtain⟨x,c,_⟩:=touch_of k;have:=lt_size_of_getElem? c;omega,λx c=>absurd c (fR x),λi g _ n b m=>e.over i g n b m⟩
end
end Go.AM
namespace Go.AM
open Go.Conc
open Go.ConcN (WD CTag Mode Vc Ssum pend phi cnt WgLive PayAt Has RW DWs WSit RelBy sumTo upd upd_same upd_ne AtR0 get_map_set get_map_set_same norel_of Deaf_still)
open Go.ConcR (KK WgAt stA smA rd wr mk Payload g_of_ofEvents)
def Cx.work(P:Program):Cx P:={ main:=false,rely:=aX,rG:=λ_ _ _=>False,fC:=id,vh:=True }
def Cx.lead(P:Program)(ty:TypeId)(Wg:Nat):Cx P:={ main:=true,rely:=λs s'=>aX s s'/\(WgLive ty Wg s.w->WgLive ty Wg s'.w),rG:=λ_ _ _=>False,fC:=λh=>h.1,vh:=False }
instance (P:Program):(Cx.work P).sc:=⟨ab⟩
def E0:St->St->Array Event->Prop:=λ_ _ _=>False
def Es(Wg:Nat):St->St->Array Event->Prop:=λs s' es=>s'=s/\∃ a:Addr,a.block=Wg/\(es=#[mk (.read a)]∨es=#[mk (.write a)])
def H0:Nat->Go.Loc->Prop:=λ_ _=>False
variable [Payload]
structure Lz (C N lo k:Nat)(vs:Nat->Value)(w w':World):Prop where
 tape:w'.tape=w.tape
 os:w'.os=w.os
 output:w'.output=w.output
 size:w'.heap.size=w.heap.size
 block:∀ b,b≠C->w'.heap[b]?=w.heap[b]?
 pay:PayAt C N w'
 out:∀ o,(o<lo∨lo+k<=o)->w'.cell? ⟨C,o,none⟩=w.cell? ⟨C,o,none⟩
 new:∀ i,i<k->w'.cell? ⟨C,lo+i,none⟩=some (vs i)
section
variable (P:Program)(ty:TypeId)(Y:Lay)(N:Nat)(val:Nat->Nat->Value)
def C1(x:Nat)(g:Goroutine)(s:St):Prop :=
 g.status=.running/\∀ w1,aX s { s with w:=w1 }->PayAt Y.C N w1->WgLive ty Y.Wg w1 ->
  ∃ g' w2 es,stepG P false g w1=.go g' w2 es/\Lz Y.C N (Y.kc*x) Y.kc (val x) w1 w2/\(∀ e∈es,∃ o,e=⟨.cell ⟨Y.C,o,none⟩,true,false⟩/\Y.kc*x<=o/\o<Y.kc*x+Y.kc) /\
   ∃ m,Goes P false (RW ty Y.Wg Y.C N 0 (Y.kc*x)) Go.ConcR.DC0 (AtR0 P ty Y.Wg Y.C N 0 (Y.kc*x+1) (val x 0)) m g' w2
end
structure iT (l:Nat->Nat)(t:Mem)(g:Nat)(s:St):Prop where
 blk:∀ b,(s.own b∨∃ L∈s.β,b∈L.bs)->l b=g/\b<s.w.heap.size
 M:∀ b o v,s.M b o=some v->(l b=g∨t b o=some v)/\b<s.w.heap.size
structure gk (Y:Lay)(l:Nat->Nat)(E:Nat->Mem)(j:Nat)(s:St):Prop where
 blk:∀ b,(s.own b∨∃ L∈s.β,b∈L.bs)->l b=0/\b≠Y.C/\b≠Y.Wg/\¬Y.Sh b/\b<s.w.heap.size
 M:∀ b o v,s.M b o=some v->l b=0/\b≠Y.C/\b≠Y.Wg/\¬Y.Sh b/\b<s.w.heap.size
 ms:∀ x,x<j->∀ b o v,E x b o=some v->s.M b o=some v
structure AJ (Y:Lay)(l:Nat->Nat)(t:Mem)(y:Nat)(w w':World):Prop where
 size:w.heap.size<=w'.heap.size
 blk:∀ b,b<w.heap.size->l b=Y.base+y->w'.heap[b]?=w.heap[b]?
 cell:∀ b o v,t b o=some v->w.cell? ⟨b,o,none⟩=some v->w'.cell? ⟨b,o,none⟩=some v
 pay:∀ o,Y.kc*y<=o->o<Y.kc*y+Y.kc->w'.cell? ⟨Y.C,o,none⟩=w.cell? ⟨Y.C,o,none⟩
 os:w'.os=w.os
 tape:w'.tape=w.tape
 output:w'.output=w.output
omit [Payload] in
theorem AJ.refl(Y:Lay)(l:Nat->Nat)(t:Mem)(y:Nat)(w:World):AJ Y l t y w w:=⟨aq _,λ_ _ _=>rfl,λ_ _ _ _ h=>h,λ_ _ _=>rfl,rfl,rfl,rfl⟩
omit [Payload] in
theorem AJ.at(Y:Lay)(l:Nat->Nat)(t:Mem)(y:Nat)(w:World)(d:Nat):AJ Y l t y w (w.at d):=⟨aq _,λ_ _ _=>rfl,λ_ _ _ _ h=>h,λ_ _ _=>rfl,rfl,rfl,rfl⟩
structure xP (Y:Lay)(l:Nat->Nat)(w w':World):Prop where
 size:w.heap.size<=w'.heap.size
 blk:∀ b,b<w.heap.size->l b=0->b≠Y.C->b≠Y.Wg->w'.heap[b]?=w.heap[b]?
 os:w'.os=w.os
 tape:w'.tape=w.tape
 output:w'.output=w.output
omit [Payload] in
theorem gm{w w':World}{b:Nat}(h:w'.heap[b]?=w.heap[b]?)(o:Nat):w'.cell? ⟨b,o,none⟩=w.cell? ⟨b,o,none⟩:=by simp[World.cell?,h]
omit [Payload] in
theorem aX.more{s:St}{w w':World}(h:aX s { s with w:=w })(z:w.heap.size<=w'.heap.size)(f:∀ b,(s.own b∨∃ L∈s.β,b∈L.bs)->w'.heap[b]?=w.heap[b]?)
  (X:∀ b o v,s.M b o=some v->w.cell? ⟨b,o,none⟩=some v->w'.cell? ⟨b,o,none⟩=some v) (c:w'.os=w.os) (p:w'.tape=w.tape) (D:w'.output=w.output):aX s { s with w:=w' } :=
 ⟨rfl,rfl,rfl,gf h.size z,λb R=>by show w'.heap[b]?=_;rw[f b R];exact h.en b R,λb o v q=>X b o v q (h.mem b o v q),c.trans h.os,p.trans h.tape,D.trans h.output⟩
section
variable {Y:Lay}{l hm':Nat->Nat}{E:Nat->Mem}{j y:Nat}{s:St}{w w':World}
omit [Payload] in
theorem iT.C2(n:iT l (E y) (Y.base+y) s)(h:aX s { s with w:=w })(k:AJ Y l (E y) y w w'):aX s { s with w:=w' }:=by
 have z:=h.size;refine h.more k.size (λb f=>?_) (λb o v q U=>?_) k.os k.tape k.output
 ·obtain⟨c,p⟩:=n.blk b f;exact k.blk b (bk p z) c
 ·obtain⟨c,p⟩:=n.M b o v q;rcases c with c|c
  ·rw[gm (k.blk b (bk p z) c) o];exact U
  ·exact k.cell b o v c U
omit [Payload] in
theorem iT.n5{t:Mem}{g:Nat}(n:iT l t g s)(h:s.w.heap.size<=w.heap.size)(T:∀ b,b<w.heap.size->hm' b=l b):iT hm' t g s :=
 ⟨λb f=>let ⟨c,p⟩:=n.blk b f;⟨by rw[T b (bk p h)];exact c,p⟩,λb o v q=>let ⟨c,p⟩:=n.M b o v q;⟨by rw[T b (bk p h)];exact c,p⟩⟩
omit [Payload] in
theorem gk.C2(n:gk Y l E j s)(h:aX s { s with w:=w })(k:xP Y l w w'):aX s { s with w:=w' }:=by
 have z:=h.size;refine h.more k.size (λb f=>?_) (λb o v q U=>?_) k.os k.tape k.output
 ·obtain⟨c,p,D,G,u⟩:=n.blk b f;exact k.blk b (bk u z) c p D
 ·obtain⟨c,p,D,G,u⟩:=n.M b o v q;rw[gm (k.blk b (bk u z) c p D) o];exact U
omit [Payload] in
theorem gk.n5(n:gk Y l E j s)(h:s.w.heap.size<=w.heap.size)(T:∀ b,b<w.heap.size->hm' b=l b):gk Y hm' E j s :=
 ⟨λb f=>let ⟨c,p,D,G,u⟩:=n.blk b f;⟨by rw[T b (bk u h)];exact c,p,D,G,u⟩,
  λb o v q=>let ⟨c,p,D,G,u⟩:=n.M b o v q;⟨by rw[T b (bk u h)];exact c,p,D,G,u⟩,n.ms⟩
omit [Payload] in
theorem iT.rely{t:Mem}{g:Nat}(n:iT l t g s)(h:s.w.heap.size<=w.heap.size):iT l t g { s with w:=w } :=
 ⟨λb f=>let ⟨c,p⟩:=n.blk b f;⟨c,bk p h⟩,λb o v q=>let ⟨c,p⟩:=n.M b o v q;⟨c,bk p h⟩⟩
omit [Payload] in
theorem gk.rely(n:gk Y l E j s)(h:s.w.heap.size<=w.heap.size):gk Y l E j { s with w:=w } :=
 ⟨λb f=>let ⟨c,p,D,G,u⟩:=n.blk b f;⟨c,p,D,G,bk u h⟩,λb o v q=>let ⟨c,p,D,G,u⟩:=n.M b o v q;⟨c,p,D,G,bk u h⟩,n.ms⟩
omit [Payload] in
theorem iT.ghost{t:Mem}{g:Nat}{s':St}(n:iT l t g s)(k:eX s s'):iT l t g s':=by
 refine⟨λb f=>by rw[k.w];exact n.blk b (k.blk b f),λb o v q=>?_⟩
 rw[k.w]
 by_cases f:∃ L∈s.β,b∈L.bs
 ·obtain⟨c,p⟩:=n.blk b (.inr f);exact⟨.inl c,p⟩
 ·exact n.M b o v (by rw[<-k.hZ b (λL F A=>f ⟨L,F,A⟩)];exact q)
omit [Payload] in
theorem iT.forget{t:Mem}{g:Nat}{s':St}(n:iT l t g s)(k:lj s s'):iT l t g s' :=
 ⟨λb f=>by rw[k.w];exact n.blk b (by rw[<-k.own,<-k.β];exact f),λb o v q=>by rw[k.w];exact n.M b o v (k.less b o v q)⟩
omit [Payload] in
theorem gk.ghost{s':St}(n:gk Y l E j s)(k:eX s s'):gk Y l E j s':=by
 refine⟨λb f=>by rw[k.w];exact n.blk b (k.blk b f),λb o v q=>?_,λx W b o v q=>k.mem _ _ _ (n.ms x W b o v q)⟩
 rw[k.w]
 by_cases f:∃ L∈s.β,b∈L.bs
 ·exact n.blk b (.inr f)
 ·exact n.M b o v (by rw[<-k.hZ b (λL F A=>f ⟨L,F,A⟩)];exact q)
def j3(l:Nat->Nat)(B g:Nat):Nat->Nat:=λb=>if b<B then l b else g
omit [Payload] in
theorem cY{l:Nat->Nat}{B g b:Nat}(h:b<B):j3 l B g b=l b:=by simp[j3,h]
omit [Payload] in
theorem n6{l:Nat->Nat}{B g b:Nat}(h:B<=b):j3 l B g b=g:=by simp[j3,Nat.not_lt.2 h]
omit [Payload] in
theorem iT.step{t:Mem}{g:Nat}{s':St}{σ σ':List ak}(n:iT l t g s)(H:ag σ' s')(st:Step σ s σ' s'):iT (j3 l s.w.heap.size g) t g s':=by
 refine⟨λb f=>?_,λb o v q=>?_⟩
 ·rcases f with f|⟨L,F,f⟩
  ·rw[st.own] at f;obtain⟨c,p⟩:=n.blk b (.inl f);exact⟨by rw[cY p];exact c,bk p st.size⟩
  ·have r:=H.lt L F b f;rcases st.rF L F b f with c|⟨V,J,c⟩
   ·exact⟨n6 c,r⟩
   ·obtain⟨k1,K⟩:=n.blk b (.inr ⟨V,J,c⟩);exact⟨by rw[cY K];exact k1,r⟩
 ·have r:=ee.lt H.mem q;rcases bC b s.w.heap.size with c|c
  ·rw[cY c]
   by_cases f:∃ L∈s.β,b∈L.bs
   ·exact⟨.inl (n.blk b (.inr f)).1,r⟩
   ·rw[st.hZ b c (λL F A=>f ⟨L,F,A⟩)] at q
    exact⟨(n.M b o v q).1,r⟩
  ·exact⟨.inl (n6 c),r⟩
omit [Payload] in
theorem gk.step{s':St}{σ σ':List ak}(n:gk Y l E j s)(H:ag σ' s')(st:Step σ s σ' s')(hW:Y.Wg<s.w.heap.size)(hC:Y.C<s.w.heap.size)(Z:∀ b,Y.Sh b->b<s.w.heap.size):gk Y (j3 l s.w.heap.size 0) E j s':=by
 have I:∀ b,s.w.heap.size<=b->b<s'.w.heap.size->j3 l s.w.heap.size 0 b=0/\b≠Y.C/\b≠Y.Wg/\¬Y.Sh b/\b<s'.w.heap.size:=λb c p =>
  ⟨n6 c,by omega,by omega,λh=>by have:=Z b h;omega,p⟩
 refine⟨λb f=>?_,λb o v q=>?_,λx W b o v q=>st.mem _ _ _ (n.ms x W b o v q)⟩
 ·rcases f with f|⟨L,F,f⟩
  ·rw[st.own] at f;obtain⟨c,p,D,G,u⟩:=n.blk b (.inl f);exact⟨by rw[cY u];exact c,p,D,G,bk u st.size⟩
  ·have r:=H.lt L F b f;rcases st.rF L F b f with c|⟨V,J,c⟩
   ·exact I b c r
   ·obtain⟨k1,K,O,S,Q⟩:=n.blk b (.inr ⟨V,J,c⟩);exact⟨by rw[cY Q];exact k1,K,O,S,r⟩
 ·have r:=ee.lt H.mem q;rcases bC b s.w.heap.size with c|c
  ·by_cases f:∃ L∈s.β,b∈L.bs
   ·obtain⟨k1,K,O,S,Q⟩:=n.blk b (.inr f);exact⟨by rw[cY Q];exact k1,K,O,S,r⟩
   ·rw[st.hZ b c (λL F A=>f ⟨L,F,A⟩)] at q
    obtain⟨k1,K,O,S,Q⟩:=n.M b o v q;exact⟨by rw[cY Q];exact k1,K,O,S,r⟩
  ·exact I b c r
end
end Go.AM
namespace Go.AM
open Go.Conc
open Go.ConcN (WD CTag Mode Vc Ssum pend phi cnt WgLive PayAt Has RW DWs WSit RelBy sumTo upd upd_same upd_ne AtR0 get_map_set get_map_set_same norel_of Deaf_still)
open Go.ConcR (KK WgAt stA smA rd wr mk Payload g_of_ofEvents)
variable [Payload]
section
variable (P:Program)(ty:TypeId)(Y:Lay)(N:Nat)(val:Nat->Nat->Value)(l:Nat->Nat)(c:Nat->Mem)
inductive WS (x:Nat):Nat->Nat->Rk->Nat->Goroutine->World->Prop
 |am {r:Rk} {g:Goroutine} {s:St} {w:World}:gH (Cx.work P) E0 (C1 P ty Y N val x) r g s->aX s { s with w:=w }->iT l (c x) (Y.base+x) s->WS x 1 7 r 0 g w
 |rel {m:Nat} {g:Goroutine} {w:World}:Goes P false (RW ty Y.Wg Y.C N 0 (Y.kc*x)) Go.ConcR.DC0 (AtR0 P ty Y.Wg Y.C N 0 (Y.kc*x+1) (val x 0)) m g w->WS x 0 7 (Rk.nat m) 0 g w
 |tail {st m d:Nat} {g:Goroutine} {w:World}:st<=6->WSit P ty Y.Wg Y.C N H0 H0 0 (Y.kc*x+1) (val x 0) st m d g w->WS x 0 st (Rk.nat m) d g w
structure Com (j:Nat)(n:Array Goroutine)(w:World)(t:Trace)(D:Nat->WD)(A:Nat->Nat)(K:Nat->Rk)(p:Nat):Prop where
 size:n.size=Y.base+j
 lv:∀ i g,0<i->i<Y.base->n[i]?=some g->∃ m,K i=Rk.nat m/\QuitsD P m (Deaf t i) g
 above:∀ i,Y.base+j<=i->Deaf t i=0
 wk:∀ x,x<j->∃ g,n[Y.base+x]?=some g/\WS P ty Y N val l c x (A x) (D x).stage (K (Y.base+x)) (D x).deaf g w
 tl:TL Y l c t j w.heap.size
 norel:m6 t
 deaf0:Deaf t 0=p
 deafW:∀ x,x<j->Deaf t (Y.base+x)=(D x).deaf
 rel:∀ x,x<j->(D x).stage<=6->∃ r,RelBy (stA Y.Wg) t (Y.base+x) r
 rO:∀ x,x<j->A x=0->∀ i,1<=i->i<Y.kc->w.cell? ⟨Y.C,Y.kc*x+i,none⟩=some (val x i)
 vA:∀ x,x<j->(D x).stage<=6->Has Y.C (Y.kc*x) (val x 0) w
 pay:PayAt Y.C N w
 live:WgLive ty Y.Wg w
 uf:Y.Wg<w.heap.size
 vB:Y.C<w.heap.size
 FU:∀ b,Y.Sh b->b<w.heap.size
 kc:0<Y.kc
 Gu:∀ y,y<j->∀ b o v,c y b o=some v->b<w.heap.size
end
section
variable {P:Program}{ty:TypeId}{Y:Lay}{N:Nat}{val:Nat->Nat->Value}{l hm':Nat->Nat}{c:Nat->Mem}{j x:Nat}{n:Array Goroutine}{w w':World}{t:Trace}{D:Nat->WD}{A:Nat->Nat}{K:Nat->Rk}{p:Nat}
theorem RW.C2(k:AJ Y l (c x) x w w')(hl:WgLive ty Y.Wg w')(a:PayAt Y.C N w')(e:0<Y.kc):RW ty Y.Wg Y.C N 0 (Y.kc*x+1-1) w w' :=
 ⟨λb d=>absurd d (fR b),λ_=>hl,λ_=>a,k.pay _ (aq _) (by simp;omega)⟩
theorem WS.C2{a st d:Nat}{r:Rk}{g:Goroutine}(h:WS P ty Y N val l c x a st r d g w)(k:AJ Y l (c x) x w w')(hl:WgLive ty Y.Wg w')(e:PayAt Y.C N w')(i:0<Y.kc)(hh:∀ b,b<w.heap.size->hm' b=l b) :
  WS P ty Y N val hm' c x a st r d g w':=by
 cases h with
 |am h1 h2 h3=>exact .am h1 (h3.C2 h2 k) (h3.n5 h2.size hh)
 |rel h1=>exact .rel (Goes.rely (λ_ _ _ h1 h2=>h1.trans h2) h1 (RW.C2 k hl e i))
 |tail h0 h1=>exact .tail h0 (h1.rely (RW.C2 k hl e i))
omit [Payload] in
theorem gH.run{X:Cx P}{E:St->St->Array Event->Prop}{S:Goroutine->St->Prop}(q:∀ g s,S g s->g.status=.running):∀ {r:Rk}{g:Goroutine}{s:St},gH X E S r g s->g.status=.running
 |.leaf,_,_,h=>q _ _ h
 |.node f,g,s,h=>by
  rcases h with h|⟨s',_,h⟩|⟨h,_⟩
  ·exact q _ _ h
  ·exact gH.run q (r:=f s) h
  ·exact h
theorem WS.status{a st d:Nat}{r:Rk}{g:Goroutine}(h:WS P ty Y N val l c x a st r d g w):g.status=.running∨g.status=.finished:=by
 cases h with
 |am h1 _ _=>exact .inl (h1.run λg s h=>h.1)
 |rel h1=>exact .inl (Goes.running (λ_ _ x=>x.1) w (Go.ConcN.RW.refl w) h1)
 |tail _ h1=>exact h1.status
theorem WS.woken{a st d:Nat}{r:Rk}{g:Goroutine}(h:WS P ty Y N val l c x a st r d g w)(b e:Goroutine)(w':World):woken P b e w' g=g:=by
 unfold Go.Conc.woken;split
 ·exact again_running _ h.status
 ·rfl
theorem Com.at(h:Com P ty Y N val l c j n w t D A K p)(d:Nat):Com P ty Y N val l c j n (w.at d) t D A K p :=
 ⟨h.size,h.lv,h.above,λx a=>let ⟨g,h1,h2⟩:=h.wk x a;⟨g,h1,h2.C2 (.at ..) h.live h.pay h.kc λ_ _=>rfl⟩,h.tl,h.norel,h.deaf0,h.deafW,h.rel,h.rO,h.vA,h.pay,h.live,h.uf,h.vB,h.FU,h.kc,h.Gu⟩
theorem Com.stepW(h:Com P ty Y N val l c j n w t D A K p)(hx:x<j){g g':Goroutine}{fn:FuncId}{pos:String}{es:Array Event}{a' kF d':Nat}{r':Rk}
  (hh:∀ b,b<w.heap.size->hm' b=l b) (F:w.heap.size<=w'.heap.size) (u:∀ y,y<j->y≠x->AJ Y l (c y) y w w')
  (Z:WS P ty Y N val hm' c x a' kF r' d' g' w') (R:∀ e∈es,(MemAct.ofEvent e).low w'.heap.size) (U:∀ e∈es,∀ a,(MemAct.ofEvent e).touch?=some a->a.loc.isMemory=true->mi Y hm' (c x) x a)
  (V:∀ e∈es,∀ a,e.loc≠.mark (.release a)) (J:deafBehind (D x).deaf es=d')
  (Q:kF<=6->∃ r,RelBy (stA Y.Wg) (t++MemOp.ofEvents (Y.base+x) fn pos es) (Y.base+x) r)
  (h1:a'=0->∀ i,1<=i->i<Y.kc->w'.cell? ⟨Y.C,Y.kc*x+i,none⟩=some (val x i)) (h0:kF<=6->Has Y.C (Y.kc*x) (val x 0) w') (H:PayAt Y.C N w') (B:WgLive ty Y.Wg w') :
  Com P ty Y N val hm' c j ((n.map (woken P g g' w')).setIfInBounds (Y.base+x) g') w' (t++MemOp.ofEvents (Y.base+x) fn pos es) (upd D x ⟨kF,0,d'⟩) (upd A x a') (upd K (Y.base+x) r') p:=by
 have hb:=h.tl.base;have G:∀ y,y≠x->Y.base+x≠Y.base+y:=λy d e=>d (by omega)
 have I6:∀ i I,0<i->i<Y.base->((n.map (Go.Conc.woken P g g' w')).setIfInBounds (Y.base+x) g')[i]?=some I->n[i]?=some I:=by
  intro i I hi H2 zy;rw[get_map_set _ _ _ _ (by omega)] at zy
  obtain⟨z,hz,rfl⟩:=mx.1 zy;obtain⟨m,_,hq⟩:=h.lv i z hi H2 hz;rw[woken_quitsD hq];exact hz
 refine⟨by simp[h.size],λi I hi H2 zy=>?_,λi hi=>?_,λy d=>?_,?_,h.norel.app V,by rw[Deaf_other t (by omega) _ g_of_ofEvents,h.deaf0],λy d=>?_,λy d k=>?_,λy d L i M O=>?_,λy d k=>?_,H,B,bk h.uf F,bk h.vB F,λb hb=>bk (h.FU b hb) F,h.kc,λy d b o v W=>bk (h.Gu y d b o v W) F⟩
 ·obtain⟨m,KZ,I7⟩:=h.lv i I hi H2 (I6 i I hi H2 zy);refine⟨m,by rw[upd_ne K _ (by omega)];exact KZ,?_⟩
  rw[Deaf_other t (by omega) _ g_of_ofEvents];exact I7
 ·rw[Deaf_other t (by omega) _ g_of_ofEvents];exact h.above i hi
 ·by_cases e:y=x
  ·subst e;exact⟨g',get_map_set_same _ _ _ (by rw[h.size];omega),by rw[upd_same,upd_same,upd_same];exact Z⟩
  ·obtain⟨I,zy,T⟩:=h.wk y d;refine⟨I,by rw[get_map_set _ _ _ _ (G y e),zy,gG,T.woken],?_⟩
   rw[upd_ne A _ e,upd_ne D _ e,upd_ne K _ (G y e).symm];exact T.C2 (u y d e) B H h.kc hh
 ·refine(h.tl.n5 hh F h.uf h.vB h.FU λy d b o v W=>?_).appW hx (λop eC=>by obtain⟨e,_,rfl⟩:=Go.Conc.mem_ofEvents eC;rfl) (λop eC=>?_) (λop eC a L Sk=>?_)
  ·exact h.Gu y d b o v W
  ·obtain⟨e,he,rfl⟩:=Go.Conc.mem_ofEvents eC;exact R e he
  ·obtain⟨e,he,rfl⟩:=Go.Conc.mem_ofEvents eC;exact U e he a L Sk
 ·by_cases e:y=x
  ·subst e;rw[Deaf_own,h.deafW y d,upd_same];exact J
  ·rw[Deaf_other t (G y e) _ g_of_ofEvents,h.deafW y d,upd_ne D _ e]
 ·by_cases e:y=x
  ·subst e;rw[upd_same] at k;exact Q k
  ·rw[upd_ne D _ e] at k;obtain⟨r,hr⟩:=h.rel y d k;exact⟨r,hr.appOther g_of_ofEvents (G y e)⟩
 ·by_cases e:y=x
  ·subst e;rw[upd_same] at L;exact h1 L i M O
  ·rw[upd_ne A _ e] at L;rw[(u y d e).pay _ (by omega) (by omega)]
   exact h.rO y d L i M O
 ·by_cases e:y=x
  ·subst e;rw[upd_same] at k;exact h0 k
  ·rw[upd_ne D _ e] at k;have:=h.vA y d k;have hk:=h.kc;simp only[Has] at this ⊢;rw[(u y d e).pay _ (by omega) (by omega)]
   exact this
theorem Com.step0(h:Com P ty Y N val l c j n w t D A K p){g g':Goroutine}{fn:FuncId}{pos:String}{es:Array Event}
  (hh:∀ b,b<w.heap.size->hm' b=l b) (B:w.heap.size<=w'.heap.size) (k:∀ y,y<j->AJ Y l (c y) y w w')
  (L:∀ e∈es,(MemAct.ofEvent e).low w'.heap.size) (V:∀ e∈es,∀ a,(MemAct.ofEvent e).touch?=some a->a.loc.isMemory=true->nv Y hm' a)
  (O:∀ e∈es,∀ a,(MemAct.ofEvent e).touch?=some a->a.kind=.plain->a.write=true->∀ x,x<j->∀ b o v,a.loc=.cell ⟨b,o,none⟩->c x b o≠some v)
  (Q:∀ e∈es,∀ a,e.loc≠.mark (.release a)) (F:PayAt Y.C N w') (u:WgLive ty Y.Wg w') :
  Com P ty Y N val hm' c j ((n.map (woken P g g' w')).setIfInBounds 0 g') w' (t++MemOp.ofEvents 0 fn pos es) D A K (deafBehind p es):=by
 have Z:=h.tl.base;have hk:=h.kc;refine⟨by simp[h.size],λi g0 hi H2 zy=>?_,λi hi=>?_,λy d=>?_,?_,h.norel.app Q,by rw[Deaf_own,h.deaf0],λy d=>by rw[Deaf_other t (by omega) _ g_of_ofEvents,h.deafW y d],λy d G=>?_,λy d I i R U=>?_,λy d G=>?_,F,u,bk h.uf B,bk h.vB B,λb Z=>bk (h.FU b Z) B,h.kc,λy d b o v hv=>bk (h.Gu y d b o v hv) B⟩
 ·rw[get_map_set _ _ _ _ (by omega)] at zy
  obtain⟨z,hz,rfl⟩:=mx.1 zy;obtain⟨m,T,H⟩:=h.lv i z hi H2 hz;exact⟨m,T,by rw[woken_quitsD H,Deaf_other t (by omega) _ g_of_ofEvents];exact H⟩
 ·rw[Deaf_other t (by omega) _ g_of_ofEvents];exact h.above i hi
 ·obtain⟨g0,zy,M⟩:=h.wk y d;exact⟨g0,by rw[get_map_set _ _ _ _ (by omega),zy,gG,M.woken],M.C2 (k y d) u F h.kc hh⟩
 ·refine(h.tl.n5 hh B h.uf h.vB h.FU h.Gu).app0 (λop eC=>by obtain⟨e,_,rfl⟩:=Go.Conc.mem_ofEvents eC;rfl) (λop eC=>?_) (λop eC a I W=>?_) (λop eC a I=>?_)
  ·obtain⟨e,J,rfl⟩:=Go.Conc.mem_ofEvents eC;exact L e J
  ·obtain⟨e,J,rfl⟩:=Go.Conc.mem_ofEvents eC;exact V e J a I W
  ·obtain⟨e,J,rfl⟩:=Go.Conc.mem_ofEvents eC;exact O e J a I
 ·obtain⟨r,hr⟩:=h.rel y d G;exact⟨r,hr.appOther g_of_ofEvents (by omega)⟩
 ·rw[(k y d).pay _ (by omega) (by omega)]
  exact h.rO y d I i R U
 ·have:=h.vA y d G;simp only[Has] at this ⊢;rw[(k y d).pay _ (by omega) (by omega)]
  exact this
theorem Com.leave(h:Com P ty Y N val l c j n w t D A K p){i m:Nat}(hi:0<i)(O:i<Y.base){g g':Goroutine}{fn:FuncId}{pos:String}{es:Array Event}
  (d:∀ e∈es,e.mute=true) (R:QuitsD P m (deafBehind (Deaf t i) es) g') :
  Com P ty Y N val l c j ((n.map (woken P g g' w)).setIfInBounds i g') w (t++MemOp.ofEvents i fn pos es) D A (upd K i (Rk.nat m)) p:=by
 have T:=h.tl.base;have F:∀ e∈es,∀ a,e.loc≠.mark (.release a):=λe u a=>pZ (d e u) a
 refine⟨by simp[h.size],λk J C H b=>?_,λk C=>?_,λy v=>?_,?_,h.norel.app F,by rw[Deaf_other t (by omega) _ g_of_ofEvents,h.deaf0],λy v=>by rw[Deaf_other t (by omega) _ g_of_ofEvents,h.deafW y v],λy v I=>?_,h.rO,h.vA,h.pay,h.live,h.uf,h.vB,h.FU,h.kc,h.Gu⟩
 ·by_cases e:k=i
  ·subst e;rw[get_map_set_same _ _ _ (by rw[h.size];omega)] at b
   cases b;exact⟨m,by rw[upd_same],by rw[Deaf_own];exact R⟩
  ·rw[get_map_set _ _ _ _ (Ne.symm e)] at b;obtain⟨z,Q,rfl⟩:=mx.1 b;obtain⟨L,G,o⟩:=h.lv k z C H Q;exact⟨L,by rw[upd_ne K _ e];exact G,by rw[woken_quitsD o,Deaf_other t (Ne.symm e) _ g_of_ofEvents];exact o⟩
 ·rw[Deaf_other t (by omega) _ g_of_ofEvents];exact h.above k C
 ·obtain⟨J,b,B⟩:=h.wk y v;exact⟨J,by rw[get_map_set _ _ _ _ (by omega),b,gG,B.woken],by rw[upd_ne K _ (by omega)];exact B⟩
 ·exact h.tl.mute (g:=i) (λop eC=>by obtain⟨e,_,rfl⟩:=Go.Conc.mem_ofEvents eC;rfl) (λop eC=>by obtain⟨e,u,rfl⟩:=Go.Conc.mem_ofEvents eC;exact low_mute (d e u) _) (λop eC=>by obtain⟨e,u,rfl⟩:=Go.Conc.mem_ofEvents eC;exact touch_mute (d e u))
 ·obtain⟨r,M⟩:=h.rel y v I;exact⟨r,M.appOther g_of_ofEvents (by omega)⟩
theorem Com.spawn(h:Com P ty Y N val l c j n w t D A K 0){a' child:Goroutine}{x y:MemOp}{r:Rk}{s:St}(I:x.g=0/\x.act=.go (Y.base+j))(F:y.g=Y.base+j/\y.act=.start)
  (M:∀ b o v,c j b o=some v->l b=0/\b≠Y.C/\b≠Y.Wg/\¬Y.Sh b/\b<w.heap.size)
  (O:gH (Cx.work P) E0 (C1 P ty Y N val j) r child s) (J:aX s { s with w:=w }) (T:iT l (c j) (Y.base+j) s) :
  Com P ty Y N val l c (j+1) ((n.setIfInBounds 0 a').push child) w (t++#[x,y]) (upd D j ⟨7,0,0⟩) (upd A j 1) (upd K (Y.base+j) r) 0:=by
 have U:=h.tl.base;have u:∀ op∈#[x,y],op=x∨op=y:=by intro op eC;simpa using eC
 have e:∀ op∈#[x,y],op.act≠.mark .disable/\op.act≠.mark .enable:=by
  intro op eC;rcases u op eC with rfl|rfl
  ·rw[I.2];exact⟨by simp,by simp⟩
  ·rw[F.2];exact⟨by simp,by simp⟩
 have k:∀ i,0<i->i<Y.base+j->((n.setIfInBounds 0 a').push child)[i]?=n[i]?:=λi hi tM=>by
  rw[mT (by simp[h.size];omega),<-b0,hO (by omega)]
 refine⟨by simp[h.size];omega,λi g hi H2 hg=>?_,λi hi=>?_,λz B=>?_,h.tl.fork I F h.deaf0 (h.above _ (aq _)) λb o v G=>let ⟨h1,h2,R,Q,_⟩:=M b o v G;⟨h1,h2,R,Q⟩,λad=>(h.norel ad).app λop eC=>?_,by rw[Deaf_still t 0 _ e,h.deaf0],λz B=>?_,λz B d=>?_,λz B H=>?_,λz B d=>?_,h.pay,h.live,h.uf,h.vB,h.FU,h.kc,λz B b o v G=>?_⟩
 ·rw[k i hi (by omega)] at hg
  obtain⟨m,h1,h2⟩:=h.lv i g hi H2 hg;exact⟨m,by rw[upd_ne K _ (by omega)];exact h1,by rw[Deaf_still t _ _ e];exact h2⟩
 ·rw[Deaf_still t _ _ e];exact h.above i (by omega)
 ·rcases bC z j with tM|a
  ·obtain⟨g,hg,L⟩:=h.wk z tM;exact⟨g,by rw[k _ (by omega) (by omega)];exact hg,by rw[upd_ne D _ (by omega),upd_ne A _ (by omega),upd_ne K _ (by omega)];exact L⟩
  ·obtain rfl:z=j:=by omega
   refine⟨child,?_,by rw[upd_same,upd_same,upd_same];exact .am O J T⟩
   rw[show Y.base+z=(n.setIfInBounds 0 a').size by simp[h.size],Array.getElem?_push_size]
 ·rcases u op eC with rfl|rfl
  ·rw[I.2];simp
  ·rw[F.2];simp
 ·rw[Deaf_still t _ _ e];rcases bC z j with tM|a
  ·rw[h.deafW z tM,upd_ne D _ (by omega)]
  ·obtain rfl:z=j:=by omega
   rw[upd_same];exact h.above _ (aq _)
 ·rcases bC z j with tM|a
  ·rw[upd_ne D _ (by omega)] at d
   obtain⟨r,J⟩:=h.rel z tM d;refine⟨r,J.appNot λop eC=>?_⟩
   rcases u op eC with rfl|rfl
   ·rw[I.1];omega
   ·rw[F.1];omega
  ·obtain rfl:z=j:=by omega
   rw[upd_same] at d;simp at d
 ·rcases bC z j with tM|a
  ·rw[upd_ne A _ (by omega)] at H
   exact h.rO z tM H
  ·obtain rfl:z=j:=by omega
   rw[upd_same] at H;simp at H
 ·rcases bC z j with tM|a
  ·rw[upd_ne D _ (by omega)] at d
   exact h.vA z tM d
  ·obtain rfl:z=j:=by omega
   rw[upd_same] at d;simp at d
 ·rcases bC z j with tM|a
  ·exact h.Gu z tM b o v G
  ·obtain rfl:z=j:=by omega
   exact(M b o v G).2.2.2.2
end
end Go.AM
namespace Go.AM
open Go.Conc
open Go.ConcN (WD CTag Mode Vc Ssum pend phi cnt WgLive PayAt Has RW DWs WSit RelBy sumTo upd upd_same upd_ne AtR0)
open Go.ConcR (KK WgAt stA smA rd wr mk Payload g_of_ofEvents again_blocked)
variable [Payload]
section
variable (P:Program)(ty:TypeId)(Y:Lay)(N:Nat)(val:Nat->Nat->Value)(n:Nat)(T l:Goroutine->St->Prop)
def AtAcq(g:Goroutine)(s:St):Prop:=g.status=.running/\∃ g',(∀ w,stepG P true g w=.go g' w #[mk (.acquire (stA Y.Wg))])/\∀ c,(Cx.lead P ty Y.Wg).rely s c->T g' c
def AtKe(g:Goroutine)(s:St):Prop:=g.status=.running/\∃ g',(∀ w,stepG P true g w=.go g' w #[mk .enable])/\∀ c,(Cx.lead P ty Y.Wg).rely s c->(cz (Cx.lead P ty Y.Wg) (Es Y.Wg)) (AtAcq P ty Y T) g' c
def AtW4(g:Goroutine)(s:St):Prop:=g.status=.running/\∀ c,(Cx.lead P ty Y.Wg).rely s c->WgAt ty Y.Wg c.w 0 0->∃ g',stepG P true g c.w=.go g' c.w #[rd (stA Y.Wg)]/\(cz (Cx.lead P ty Y.Wg) (Es Y.Wg)) (AtKe P ty Y T) g' c
def AtW3(g:Goroutine)(s:St):Prop:=g.status=.running/\g.offers=none/\∀ c,(Cx.lead P ty Y.Wg).rely s c ->
 ((∃ st,WgAt ty Y.Wg c.w st 0)->stepG P true g c.w=.go { g with status:=.blocked } c.w #[]) /\
 (WgAt ty Y.Wg c.w 0 1->∃ g',stepG P true g c.w=.go g' (c.w.setCell (smA Y.Wg) (.int .u32 0)) (semEvents (smA Y.Wg))/\(cz (Cx.lead P ty Y.Wg) (Es Y.Wg)) (AtW4 P ty Y T) g' { c with w:=c.w.setCell (smA Y.Wg) (.int .u32 0) })
def AtW2(vs:Nat)(g:Goroutine)(s:St):Prop:=g.status=.running/\∀ c,(Cx.lead P ty Y.Wg).rely s c->∀ v:Nat,v<2147483648->WgAt ty Y.Wg c.w (v*KK) 0 ->
 (v=vs->∃ g',stepG P true g c.w=.go g' (c.w.setCell (stA Y.Wg) (.int .u64 (v*KK+1))) #[rd (stA Y.Wg),wr (stA Y.Wg)]/\(cz (Cx.lead P ty Y.Wg) (Es Y.Wg)) (AtW3 P ty Y T) g' { c with w:=c.w.setCell (stA Y.Wg) (.int .u64 (v*KK+1)) }) /\
 (v≠vs->∃ g',stepG P true g c.w=.go g' c.w #[rd (stA Y.Wg)]/\l g' c)
def AtW1(g:Goroutine)(s:St):Prop:=g.status=.running/\∀ c,(Cx.lead P ty Y.Wg).rely s c->∀ v:Nat,v<2147483648->WgAt ty Y.Wg c.w (v*KK) 0 ->
 ∃ g',stepG P true g c.w=.go g' c.w #[rd (stA Y.Wg)]/\(v=0->(cz (Cx.lead P ty Y.Wg) (Es Y.Wg)) (AtKe P ty Y T) g' c)/\(v≠0->(cz (Cx.lead P ty Y.Wg) (Es Y.Wg)) (AtW2 P ty Y T l v) g' c)
def AtKd(g:Goroutine)(s:St):Prop:=g.status=.running/\∃ g',(∀ w,stepG P true g w=.go g' w #[mk .disable])/\∀ c,(Cx.lead P ty Y.Wg).rely s c->l g' c
def St.child(s:St):St:={ β:=[],M:=s.M,w:=s.w,own:=λ_=>False }
def AtGo(j:Nat)(Next:Goroutine->St->Prop)(g:Goroutine)(s:St):Prop:=g.status=.running/\∀ c,(Cx.lead P ty Y.Wg).rely s c ->
 ∃ g' child,stepG P true g c.w=.spawn g' child c.w #[]/\child.status=.running/\cz (Cx.work P) E0 (C1 P ty Y N val j) child c.child/\Next g' c
def AtKeS(j:Nat)(Next:Goroutine->St->Prop)(g:Goroutine)(s:St):Prop:=g.status=.running/\∃ g',(∀ w,stepG P true g w=.go g' w #[mk .enable])/\∀ c,(Cx.lead P ty Y.Wg).rely s c->(cz (Cx.lead P ty Y.Wg) (Es Y.Wg)) (AtGo P ty Y N val j Next) g' c
def AtA1(j:Nat)(Next:Goroutine->St->Prop)(g:Goroutine)(s:St):Prop:=g.status=.running/\∀ c,(Cx.lead P ty Y.Wg).rely s c->∀ v:Nat,v<2147483647->WgAt ty Y.Wg c.w (v*KK) 0 ->
 ∃ g',stepG P true g c.w=.go g' (c.w.setCell (stA Y.Wg) (.int .u64 ((v+1)*KK))) #[rd (stA Y.Wg),wr (stA Y.Wg)]/\(cz (Cx.lead P ty Y.Wg) (Es Y.Wg)) (AtKeS P ty Y N val j Next) g' { c with w:=c.w.setCell (stA Y.Wg) (.int .u64 ((v+1)*KK)) }
def AtKdS(j:Nat)(Next:Goroutine->St->Prop)(g:Goroutine)(s:St):Prop:=g.status=.running/\∃ g',(∀ w,stepG P true g w=.go g' w #[mk .disable])/\∀ c,(Cx.lead P ty Y.Wg).rely s c->(cz (Cx.lead P ty Y.Wg) (Es Y.Wg)) (AtA1 P ty Y N val j Next) g' c
def Spawns:Nat->Goroutine->St->Prop
 |0,g,s=>(cz (Cx.lead P ty Y.Wg) (Es Y.Wg)) (AtKd P ty Y l) g s
 |r+1,g,s=>(cz (Cx.lead P ty Y.Wg) (Es Y.Wg)) (AtKdS P ty Y N val (n-(r+1)) (Spawns r)) g s
def Rk.lift:Rk->Rk
 |.leaf=>.node λ_=>.leaf
 |.node f=>.node λs=>Rk.lift (f s)
omit [Payload] in
theorem Rk.zz:∀ {x r:Rk},Rk.lt x r->Rk.lt x.lift r.lift
 |_,.leaf,h=>h.elim
 |_,.node _,⟨s,h⟩=>⟨s,h.elim (λe=>.inl (by rw[e])) λh=>.inr (Rk.zz h)⟩
omit [Payload] in
theorem Rk.C3(s:St):∀ r:Rk,∃ x,Rk.lt x r.lift
 |.leaf=>⟨.leaf,s,.inl rfl⟩
 |.node f=>⟨(f s).lift,s,.inl rfl⟩
inductive CS:CTag->Nat->Rk->Nat->Goroutine->St->Prop
 |skd {r:Nat} {rk:Rk} {g:Goroutine} {s:St}:r<n->(gH (Cx.lead P ty Y.Wg) (Es Y.Wg)) (AtKdS P ty Y N val (n-(r+1)) (Spawns P ty Y N val n l r)) rk g s->CS (.sp r 5) (n-(r+1)) rk 0 g s
 |sa1 {r:Nat} {rk:Rk} {g:Goroutine} {s:St}:r<n->(gH (Cx.lead P ty Y.Wg) (Es Y.Wg)) (AtA1 P ty Y N val (n-(r+1)) (Spawns P ty Y N val n l r)) rk g s->CS (.sp r 4) (n-(r+1)) rk 1 g s
 |ske {r:Nat} {rk:Rk} {g:Goroutine} {s:St}:r<n->(gH (Cx.lead P ty Y.Wg) (Es Y.Wg)) (AtKeS P ty Y N val (n-(r+1)) (Spawns P ty Y N val n l r)) rk g s->CS (.sp r 3) (n-(r+1)) rk 1 g s
 |sgo {r:Nat} {rk:Rk} {g:Goroutine} {s:St}:r<n->(gH (Cx.lead P ty Y.Wg) (Es Y.Wg)) (AtGo P ty Y N val (n-(r+1)) (Spawns P ty Y N val n l r)) rk g s->CS (.sp r 2) (n-(r+1)) rk 0 g s
 |kd {rk:Rk} {g:Goroutine} {s:St}:(gH (Cx.lead P ty Y.Wg) (Es Y.Wg)) (AtKd P ty Y l) rk g s->CS .kd n rk 0 g s
 |w1 {rk:Rk} {g:Goroutine} {s:St}:(gH (Cx.lead P ty Y.Wg) (Es Y.Wg)) (AtW1 P ty Y T l) rk g s->CS .w1 n rk 1 g s
 |w2 {vs:Nat} {rk:Rk} {g:Goroutine} {s:St}:(gH (Cx.lead P ty Y.Wg) (Es Y.Wg)) (AtW2 P ty Y T l vs) rk g s->CS (.w2 vs) n rk 1 g s
 |w3 {rk:Rk} {g:Goroutine} {s:St}:(gH (Cx.lead P ty Y.Wg) (Es Y.Wg)) (AtW3 P ty Y T) rk g s->CS .w3 n rk.lift 1 g s
 |blk {rk:Rk} {g:Goroutine} {s:St}:AtW3 P ty Y T g s->CS .blk n rk 1 { g with status:=.blocked } s
 |w4 {rk:Rk} {g:Goroutine} {s:St}:(gH (Cx.lead P ty Y.Wg) (Es Y.Wg)) (AtW4 P ty Y T) rk g s->CS .w4 n rk 1 g s
 |ke {rk:Rk} {g:Goroutine} {s:St}:(gH (Cx.lead P ty Y.Wg) (Es Y.Wg)) (AtKe P ty Y T) rk g s->CS .ke n rk 1 g s
 |acq {rk:Rk} {g:Goroutine} {s:St}:(gH (Cx.lead P ty Y.Wg) (Es Y.Wg)) (AtAcq P ty Y T) rk g s->CS .acq n rk 0 g s
structure Fin (p:Nat->Nat)(o:Nat->Mem)(m:Machine)(t:Trace):Prop where
 out:∃ (gs:Array Goroutine) (w:World) (sl:Option (Nat×Nat)) (a:Goroutine) (s:St) (q:Nat->Nat),m=crowd gs w sl/\gs[0]?=some a/\gs.size=Y.base+n/\T a { s with w:=w }/\aX s { s with w:=w }/\gk Y p o n s /\
  Leavers P t gs q/\Past (iK λb=>Y.Sh b∨b=Y.Wg) w.heap.size t/\m6 t/\PayAt Y.C N w/\(∀ x,x<n->∀ i,i<Y.kc->w.cell? ⟨Y.C,Y.kc*x+i,none⟩=some (val x i))/\Y.C<w.heap.size/\Y.Wg<w.heap.size/\∀ b,Y.Sh b->b<w.heap.size
abbrev Mu:=Nat×((Nat->Rk)×Rk)
def zA(M:Nat):Mu->Mu->Prop:=Prod.Lex (· < ·) (Prod.Lex (Vec M) Rk.lt)
omit [Payload] in
theorem I8(M:Nat):WellFounded (zA M):=(Prod.lex Nat.lt_wfRel ⟨_,(Prod.lex ⟨Vec M,C0 M⟩ ⟨Rk.lt,⟨Rk.acc⟩⟩).wf⟩).wf
structure n7 (μ:Mu)(gs:Array Goroutine)(w:World)(t:Trace)(p:Nat->Nat)(o:Nat->Mem)(j:Nat)(D:Nat->WD)(A:Nat->Nat)(K:Nat->Rk)(d0:Nat)(tag:CTag)(rk:Rk)(a:Goroutine)(s:St) (st sm:Int):Prop where
 a0:gs[0]?=some a
 cs:CS P ty Y N val n T l tag j rk d0 a s
 rely:aX s { s with w:=w }
 lead:gk Y p o j s
 dM:Com P ty Y N val p o j gs w t D A K d0
 wg:WgAt ty Y.Wg w st sm
 mode:Go.ConcN.Mode j D tag st sm
 mu:μ=(phi n (Vc j D) tag+Ssum j D+sumTo j A,(K,rk))
def Inv(i:Mu)(m:Machine)(t:Trace):Prop :=
 ∃ (b:Array Goroutine) (w:World) (sl:Option (Nat×Nat)) (p:Nat->Nat) (o:Nat->Mem) (j:Nat) (D:Nat->WD) (A:Nat->Nat) (K:Nat->Rk) (k:Nat) (tag:CTag) (rk:Rk) (a:Goroutine) (s:St) (st sm:Int),
  m=crowd b w sl/\n7 P ty Y N val n T l i b w t p o j D A K k tag rk a s st sm
end
section
variable {P:Program}{ty:TypeId}{Y:Lay}{N:Nat}{val:Nat->Nat->Value}{n:Nat}{T l:Goroutine->St->Prop}{p hm':Nat->Nat}{o:Nat->Mem}{j:Nat}{tag:CTag}{rk:Rk}{d:Nat}{a:Goroutine}{s:St}{w w':World}
omit [Payload] in
theorem dw{s:St}(h:aX s { s with w:=w })(B:WgLive ty Y.Wg w):(Cx.lead P ty Y.Wg).rely s { s with w:=w }:=⟨h,λ_=>B⟩
omit [Payload] in
theorem AtW3.rely{g:Goroutine}{c:St}(h:AtW3 P ty Y T g s)(z:(Cx.lead P ty Y.Wg).rely s c):AtW3 P ty Y T g c :=
 ⟨h.1,h.2.1,λs2 u=>h.2.2 s2 ⟨z.1.trans u.1,λx=>u.2 (z.2 x)⟩⟩
theorem CS.status(h:CS P ty Y N val n T l tag j rk d a s):(a.status=.running/\tag≠.blk)∨(a.status=.blocked/\tag=.blk):=by
 cases h with
 |skd _ h=>exact .inl ⟨h.run λ_ _ x=>x.1,by simp⟩
 |sa1 _ h=>exact .inl ⟨h.run λ_ _ x=>x.1,by simp⟩
 |ske _ h=>exact .inl ⟨h.run λ_ _ x=>x.1,by simp⟩
 |sgo _ h=>exact .inl ⟨h.run λ_ _ x=>x.1,by simp⟩
 |kd h=>exact .inl ⟨h.run λ_ _ x=>x.1,by simp⟩
 |w1 h=>exact .inl ⟨h.run λ_ _ x=>x.1,by simp⟩
 |w2 h=>exact .inl ⟨h.run λ_ _ x=>x.1,by simp⟩
 |w3 h=>exact .inl ⟨h.run λ_ _ x=>x.1,by simp⟩
 |blk h=>exact .inr ⟨rfl,rfl⟩
 |w4 h=>exact .inl ⟨h.run λ_ _ x=>x.1,by simp⟩
 |ke h=>exact .inl ⟨h.run λ_ _ x=>x.1,by simp⟩
 |acq h=>exact .inl ⟨h.run λ_ _ x=>x.1,by simp⟩
theorem CS.wokenBy(h:CS P ty Y N val n T l tag j rk d a s)(g g':Goroutine)(w':World) :
  ∃ tag' rk',CS P ty Y N val n T l tag' j rk' d (woken P g g' w' a) s/\(tag'=tag∨(tag=.blk/\tag'=.w3))/\(mayWake P g=true->g'.status=.running->tag'≠.blk):=by
 unfold Go.Conc.woken;split
 ·rcases h.status with⟨k,b⟩|⟨_,rfl⟩
  ·exact⟨tag,rk,by rw[again_running _ (.inl k)];exact h,.inl rfl,λ_ _=>b⟩
  ·cases h with
   |blk hb=>exact⟨.w3,Rk.lift .leaf,by rw[again_blocked hb.1 hb.2.1];exact .w3 (show gH _ _ _ .leaf _ _ from hb),.inr ⟨rfl,rfl⟩,λ_ _=>by simp⟩
 ·rename_i i
  exact⟨tag,rk,h,.inl rfl,λh1 u=>absurd (by simp[h1,u]) i⟩
theorem g6{μ:Mu}{gs:Array Goroutine}{sl:Option (Nat×Nat)}{t:Trace}{D:Nat->WD}{A:Nat->Nat}{K:Nat->Rk}{st sm:Int}(I:n7 P ty Y N val n T l μ gs w t p o j D A K d tag rk a s st sm)
  {x:Nat} (W:x<j) {g g':Goroutine} {es:Array Event} {a' s' d':Nat} {r':Rk} {J G:Int} (hg:gs[Y.base+x]?=some g) (Z:stepG P false g w=.go g' w' es)
  (hh:∀ b,b<w.heap.size->hm' b=p b) (Cq:w.heap.size<=w'.heap.size) (R:∀ y,y<j->y≠x->AJ Y p (o y) y w w') (H:xP Y p w w')
  (Sl:WS P ty Y N val hm' o x a' s' r' d' g' w') (V:∀ e∈es,(MemAct.ofEvent e).low w'.heap.size) (Oq:∀ e∈es,∀ a,(MemAct.ofEvent e).touch?=some a->a.loc.isMemory=true->mi Y hm' (o x) x a)
  (LA:∀ e∈es,∀ a,e.loc≠.mark (.release a)) (F:deafBehind (D x).deaf es=d')
  (U:s'<=6->∃ r,RelBy (stA Y.Wg) (t++MemOp.ofEvents (Y.base+x) g.frame.fn g.frame.place es) (Y.base+x) r)
  (h1:a'=0->∀ i,1<=i->i<Y.kc->w'.cell? ⟨Y.C,Y.kc*x+i,none⟩=some (val x i)) (h0:s'<=6->Has Y.C (Y.kc*x) (val x 0) w') (O:PayAt Y.C N w') (S:WgAt ty Y.Wg w' J G)
  (E:∀ tag',(tag'=tag∨(tag=.blk/\tag'=.w3))->(mayWake P g=true->g'.status=.running->tag'≠.blk)->Go.ConcN.Mode j (upd D x ⟨s',0,d'⟩) tag' J G)
  (X:(s'+a'<(D x).stage+A x/\cnt ⟨s',0,d'⟩<=cnt (D x))∨(s'=(D x).stage/\a'=A x/\Rk.lt r' (K (Y.base+x)))) (Nd:Y.base+j<=Y.base+n) :
  ∃ q ops μ',runT P (crowd gs w sl) (Y.base+x)=(.next q,ops)/\zA (Y.base+n) μ' μ/\Inv P ty Y N val n T l μ' q (t++ops):=by
 have hb:=I.dM.tl.base;obtain⟨tag',rk',L,m,Ot⟩:=I.cs.wokenBy g g' w';have NM:(Y.base+x==0)=false:=by simp;omega
 have Q:=runT_crowd_go (P:=P) (sl:=sl) (i:=Y.base+x) hg (by rw[NM];exact Z)
 have e1:=Go.ConcN.sumTo_upd D (⟨s',0,d'⟩:WD) cnt W;have e2:=Go.ConcN.sumTo_upd D (⟨s',0,d'⟩:WD) WD.stage W;have e3:sumTo j (upd A x a')+A x=sumTo j A+a':=Go.ConcN.sumTo_upd A a' id W;refine⟨_,_,(phi n (Vc j (upd D x ⟨s',0,d'⟩)) tag'+Ssum j (upd D x ⟨s',0,d'⟩)+sumTo j (upd A x a'),(upd K (Y.base+x) r',rk')),Q,?_,
  _,w',sl,hm',o,j,_,_,_,d,tag',rk',woken P g g' w' a,s,J,G,rfl,⟨by rw[Go.ConcN.get_map_set _ _ _ _ (by omega),I.a0];rfl,L,I.lead.C2 I.rely H,I.lead.n5 I.rely.size hh,
   I.dM.stepW W hh Cq R Sl V Oq LA F U h1 h0 O ⟨_,_,S⟩,S,E tag' m Ot,rfl⟩⟩
 rw[I.mu,Go.ConcN.phi_retag n _ m];simp only[Vc,Ssum] at *;rcases X with⟨q1,q2⟩|⟨q1,q2,q3⟩
 ·refine Prod.Lex.left _ _ ?_;have:=Go.ConcN.phi_mono n (v':=sumTo j λa=>cnt (upd D x ⟨s',0,d'⟩ a)) (v:=sumTo j λa=>cnt (D a)) (by omega) tag
  omega
 ·have ec:cnt (⟨s',0,d'⟩:WD)=cnt (D x):=by simp only[cnt,q1]
  have ev:(sumTo j λa=>cnt (upd D x ⟨s',0,d'⟩ a))=sumTo j λa=>cnt (D a):=by omega
  have es':(sumTo j λa=>(upd D x ⟨s',0,d'⟩ a).stage)=sumTo j λa=>(D a).stage:=by omega
  have ea:sumTo j (upd A x a')=sumTo j A:=by omega
  rw[ev,es',ea];exact Prod.Lex.right _ (Prod.Lex.left _ _ ⟨Y.base+x,by omega,by rw[upd_same];exact q3,λk hk=>upd_ne K _ hk⟩)
end
end Go.AM
namespace Go.AM
open Go.Conc
open Go.ConcN (WD CTag Vc Ssum pend phi cnt WgLive PayAt Has RW DWs WSit RelBy sumTo upd upd_same upd_ne AtR0 isW3 isOpen OpenSt deafBehind_idle bk_cell okW_none Vc_upd Vc_le le_sumTo others_uncounted)
open Go.ConcR (KK WgAt stA smA rd wr mk Payload g_of_ofEvents Bk bk_of_mute ofEvent_loc_mark ofEvent_cell)
variable [Payload]
section
variable {P:Program}{ty:TypeId}{Y:Lay}{N:Nat}{val:Nat->Nat->Value}{n:Nat}{T G:Goroutine->St->Prop}{F hm':Nat->Nat}{O:Nat->Mem}{j:Nat}{tag:CTag}{rk:Rk}{d:Nat}{a:Goroutine}{s:St}{w w':World}
omit [Payload] in
theorem AJ.wg(h:Aside Y.Wg w w')(E:F Y.Wg=0)(k:1<=Y.base)(hM:∀ b o v,O j b o=some v->b≠Y.Wg)(hC:Y.C≠Y.Wg):AJ Y F (O j) j w w' :=
 ⟨by rw[h.size];exact aq _,λb _ Z=>h.block b (λe=>by rw[e,E] at Z;omega),λb o v J V=>by rw[gm (h.block b (hM b o v J))];exact V,λo _ _=>gm (h.block _ hC) o,h.os,h.tape,h.output⟩
omit [Payload] in
theorem xP.wg(h:Aside Y.Wg w w'):xP Y F w w':=⟨by rw[h.size];exact aq _,λb _ _ _ z=>h.block b z,h.os,h.tape,h.output⟩
omit [Payload] in
theorem xP.refl(w:World):xP Y F w w:=⟨aq _,λ_ _ _ _ _=>rfl,rfl,rfl,rfl⟩
omit [Payload] in
theorem C4{B:Nat}{es:Array Event}(h:∀ e∈es,Bk Y.Wg e)(E:Y.Wg<B):∀ e∈es,(MemAct.ofEvent e).low B:=by
 intro e c;rcases h e c with p|p|⟨ad,wr,rfl,H⟩
 ·rw[ofEvent_loc_mark p];trivial
 ·rw[ofEvent_loc_mark p];trivial
 ·rw[ofEvent_cell];show ad.block<B;rw[H];exact E
omit [Payload] in
theorem Gv{x:Nat}{es:Array Event}(h:∀ e∈es,Bk Y.Wg e):∀ e∈es,∀ a,(MemAct.ofEvent e).touch?=some a->a.loc.isMemory=true->mi Y F (O x) x a:=by
 intro e c b k _;rcases h e c with p|p|⟨ad,wr,rfl,H⟩
 ·rw[ofEvent_loc_mark p] at k;cases k
 ·rw[ofEvent_loc_mark p] at k;cases k
 ·rw[ofEvent_cell] at k;simp only[MemAct.touch?,bG] at k;subst k;exact .inl ⟨ad,rfl,H,rfl⟩
omit [Payload] in
theorem vC{es:Array Event}(h:∀ e∈es,Bk Y.Wg e):∀ e∈es,∀ a,e.loc≠.mark (.release a):=by
 intro e c a S;rcases h e c with p|p|⟨ad,wr,rfl,_⟩
 ·rw[p] at S;cases S
 ·rw[p] at S;cases S
 ·cases S
omit [Payload] in
theorem Gw{x:Nat}{σ σ':List ak}{s2:St}{es:Array Event}(U:iT F (O x) (Y.base+x) s)(W:ag σ s)(R:eP s es)(st:Step σ s σ' s2) :
  (∀ e∈es,(MemAct.ofEvent e).low s2.w.heap.size)/\(∀ e∈es,∀ a,(MemAct.ofEvent e).touch?=some a->a.loc.isMemory=true->mi Y (j3 F s.w.heap.size (Y.base+x)) (O x) x a) /\
  (∀ e∈es,e.loc≠.mark .disable/\e.loc≠.mark .enable)/\∀ e∈es,∀ a,e.loc≠.mark (.release a):=by
 have key:∀ e∈es,(MemAct.ofEvent e).low s2.w.heap.size/\(∀ a,(MemAct.ofEvent e).touch?=some a->a.loc.isMemory=true->mi Y (j3 F s.w.heap.size (Y.base+x)) (O x) x a)/\(e.loc≠.mark .disable/\e.loc≠.mark .enable)/\∀ a,e.loc≠.mark (.release a):=by
  intro e c;have h:=R e c;obtain⟨loc,wr,sy⟩:=e;cases loc with
  |cell ad =>
   obtain⟨p,z,u⟩:=h;simp only at p z u;subst p;have l:ad.block<s.w.heap.size:=by
    rcases u with u|⟨⟨L,Q,u⟩,_⟩|⟨_,v,u⟩
    ·exact u.elim
    ·exact W.lt L Q _ u
    ·exact ee.lt W.mem u
   refine⟨by rw[ofEvent_cell];exact bk l st.size,λb k _=>?_,⟨by simp,by simp⟩,by simp⟩
   rw[ofEvent_cell] at k;simp only[MemAct.touch?,bG] at k;subst k;refine .inr ⟨rfl,?_⟩;rcases u with u|⟨⟨L,Q,u⟩,_⟩|⟨h4,v,u⟩
   ·exact u.elim
   ·exact .inl ⟨ad.block,rfl,by rw[cY l];exact(U.blk _ (.inr ⟨L,Q,u⟩)).1⟩
   ·rcases(U.M _ _ _ u).1 with X|X
    ·exact .inl ⟨ad.block,rfl,by rw[cY l];exact X⟩
    ·refine .inr (.inr ⟨h4,ad.block,ad.off,v,?_,X⟩);obtain⟨b,o,sp⟩:=ad;simp only at z;subst z;rfl
  |obj r =>
   obtain⟨p,z⟩:=h;simp only at p z;subst p;obtain⟨L,Q,u⟩:=z.resolve_left id;have l:=W.lt L Q _ u;refine⟨?_,λb k _=>?_,⟨by simp,by simp⟩,by simp⟩
   ·simp[MemAct.ofEvent,MemAct.low,Loc.low];exact bk l st.size
   ·simp[MemAct.ofEvent,MemAct.touch?] at k;subst k;exact .inr ⟨rfl,.inl ⟨r,rfl,by rw[cY l];exact(U.blk _ (.inr ⟨L,Q,u⟩)).1⟩⟩
  |mark m =>
   simp only[lf] at h;rcases h with rfl|⟨f,rfl⟩
   ·exact⟨by simp[MemAct.ofEvent,MemAct.low],λb k=>by simp[MemAct.ofEvent,MemAct.touch?] at k,⟨by simp,by simp⟩,by simp⟩
   ·exact⟨by simp[MemAct.ofEvent,MemAct.low],λb k=>by simp[MemAct.ofEvent,MemAct.touch?] at k,⟨by simp,by simp⟩,by simp⟩
  |_=>exact h.elim
 exact⟨λe c=>(key e c).1,λe c=>(key e c).2.1,λe c=>(key e c).2.2.1,λe c=>(key e c).2.2.2⟩
set_option maxHeartbeats 1600000 in
theorem stepWorker{μ:Mu}{gs:Array Goroutine}{sl:Option (Nat×Nat)}{t:Trace}{D:Nat->WD}{A:Nat->Nat}{K:Nat->Rk}{st sm:Int}(I:n7 P ty Y N val n T G μ gs w t F O j D A K d tag rk a s st sm)(hn:n<2147483648)(hj:j<=n)
  (UD:j+pend tag<=n) {x:Nat} (hx:x<j) {g:Goroutine} (hg:gs[Y.base+x]?=some g) (o4:g.status=.running) :
  ∃ m₁ ops μ',runT P (crowd gs w sl) (Y.base+x)=(.next m₁,ops)/\zA (Y.base+n) μ' μ/\Inv P ty Y N val n T G μ' m₁ (t++ops):=by
 have C5:=I.dM.tl.base;obtain⟨g₁,H3,hs⟩:=I.dM.wk x hx;obtain rfl:g=g₁:=by rw[hg] at H3;exact lb H3
 generalize xQ:(D x).stage=sg at hs;generalize Ov:K (Y.base+x)=r at hs;generalize KP:(D x).deaf=dd at hs;generalize hA:A x=ax at hs;have QG:Deaf t (Y.base+x)=dd:=by rw[I.dM.deafW x hx,KP]
 have Sm:=Vc_le j D;have same:∀ m' zB,Go.ConcN.Mode j (upd D x ⟨sg,m',zB⟩) tag st sm:=λm' zB=>by have:=I.mode.same (i:=x) m' zB;rwa [xQ] at this
 cases hs with
 |@am r g s0 w p z u =>
  rcases p.norm (λs0=>aX s0 { s0 with w:=w }/\iT F (O x) (Y.base+x) s0) (λs0 s' LB hi=>⟨hi.1.ghost LB,hi.2.ghost LB⟩) (λ_ s0 s' LB hi=>⟨hi.1.forget LB,hi.2.forget LB⟩) ⟨z,u⟩ with⟨s',⟨k1,k2⟩,iU⟩|⟨_,s',⟨k1,k2⟩,gD⟩
  ·
   obtain⟨g',w2,es,hgo,E,KQ,m,hk⟩:=iU.2 w k1 I.dM.pay I.dM.live;have QH:=I.dM.kc;refine g6 I hx hg hgo (hm':=F) (λ_ _=>rfl) (by rw[E.size];exact aq _) (λy hy QI=>⟨by rw[E.size];exact aq _,λb _ k=>E.block b (λe=>by rw[e,I.dM.tl.hC] at k;omega),λb o v J V=>?_,λo QJ QK=>E.out o ?_,E.os,E.tape,E.output⟩)
    ⟨by rw[E.size];exact aq _,λb _ _ z _=>E.block b z,E.os,E.tape,E.output⟩ (.rel hk) (λe c=>?_) (λe c b k _=>?_) (λe c=>?_) ?_ (λh=>absurd h (by decide)) (λ_ i _ hi=>E.new i hi) (λh=>absurd h (by decide)) E.pay
    (I.wg.of_block (E.block _ (Ne.symm I.dM.tl.ne))) (λ_ ht _=>(same _ _).retag ht) (.inl ⟨by omega,by simp[cnt,xQ]⟩) (by omega)
   ·rw[gm (E.block b (I.dM.tl.ms y hy b o v J).2.1)];exact V
   ·rcases Nat.lt_or_gt_of_ne QI with h|h
    ·have:=po Y.kc (show y+1<=x from h)
     rw[Nat.mul_add,lR] at this;omega
    ·have:=po Y.kc (show x+1<=y from h)
     rw[Nat.mul_add,lR] at this;omega
   ·obtain⟨o,rfl,_⟩:=KQ e c;rw[ofEvent_cell];show Y.C<_;rw[E.size];exact I.dM.vB
   ·obtain⟨o,rfl,QJ,QK⟩:=KQ e c;rw[ofEvent_cell] at k;simp only[MemAct.touch?,bG] at k;subst k;exact .inr ⟨rfl,.inr (.inl ⟨o,rfl,QJ,QK⟩)⟩
   ·obtain⟨o,rfl,_⟩:=KQ e c;simp
   ·rw[KP];exact deafBehind_idle (λe c=>by obtain⟨o,rfl,_⟩:=KQ e c;exact⟨by simp,by simp⟩) 0
  ·
   obtain⟨g',s2,es,r',hgo,Ow,Gc,l⟩:=gD _ k1;obtain⟨⟨σ,σ',W,md,Cg⟩,R⟩:=Ow.resolve_right id;have k3:iT F (O x) (Y.base+x) { s' with w:=w }:=k2.rely k1.size;obtain⟨e1,e2,e3,e4⟩:=Gw k3 W R Cg;have qo:∀ b,b<w.heap.size->F b≠Y.base+x->s2.w.heap[b]?=w.heap[b]?:=λb k sj=>Cg.en b k λL Q Cl=>sj (k3.blk b (.inr ⟨L,Q,Cl⟩)).1
   refine g6 I hx hg hgo (hm':=j3 F w.heap.size (Y.base+x)) (λb k=>cY k) Cg.size (λy hy QI=>⟨Cg.size,λb k Sn=>qo b k (by omega),λb o v J V=>?_,λo _ _=>gm (qo _ I.dM.vB (by rw[I.dM.tl.hC];omega)) o,Cg.os,Cg.tape,Cg.output⟩)
    ⟨Cg.size,λb k h0 _ _=>qo b k (by omega),Cg.os,Cg.tape,Cg.output⟩ (.am Gc (aX.qn md.mem) (k3.step md Cg)) e1 e2 e4 (by rw[KP];exact deafBehind_idle e3 0) (λh=>absurd h (by decide)) (λh=>absurd h (by decide)) (λh=>absurd h (by decide)) ?_
    (I.wg.of_block (qo _ I.dM.uf (by rw[I.dM.tl.Ce];omega))) (λ_ ht _=>(same _ _).retag ht) (.inr ⟨xQ.symm,hA.symm,by rw[Ov];exact l⟩) (by omega)
   ·rw[gm (qo b (I.dM.Gu y hy b o v J) (by rw[(I.dM.tl.ms y hy b o v J).1];omega))];exact V
   ·obtain⟨cs,c1,c2⟩:=I.dM.pay;exact⟨cs,(qo _ I.dM.vB (by rw[I.dM.tl.hC];omega)).trans c1,c2⟩
 |@rel m g w h =>
  rcases Goes.cases h with iU|⟨m',rfl,gD⟩
  ·
   obtain⟨_,Ox,g',hgo,m₂,hk⟩:=iU w (Go.ConcN.RW.refl w);refine g6 I hx hg hgo (hm':=F) (λ_ _=>rfl) (aq _) (λy _ _=>.refl ..) (.refl w) (.tail (by decide) (.k1 hk)) (λe c=>?_) (λe c b k _=>?_) (λe c=>?_) (by rw[KP];rfl) (λ_=>⟨t.size,RelBy.new QG _ _⟩) (λ_=>I.dM.rO x hx hA) (λ_=>by simpa using Ox) I.dM.pay I.wg
    (λ_ ht _=>(I.mode.counted hx (by omega) (.inl rfl) _ _).retag ht) (.inl ⟨by omega,by simp[cnt,xQ]⟩) (by omega)
   ·simp at c;subst c;exact I.dM.uf
   ·simp at c;subst c;simp[mk,MemAct.ofEvent,MemAct.touch?] at k
   ·simp at c;subst c;simp[mk]
  ·obtain⟨g',w',es,hgo,⟨rfl,rfl⟩,xR⟩:=gD w (Go.ConcN.RW.refl w);exact g6 I hx hg hgo (hm':=F) (λ_ _=>rfl) (aq _) (λy _ _=>.refl ..) (.refl w') (.rel xR) (by simp) (by simp) (by simp) (by rw[KP];rfl) (λh=>absurd h (by decide)) (λ_=>I.dM.rO x hx hA) (λh=>absurd h (by decide)) I.dM.pay I.wg (λ_ ht _=>(same _ _).retag ht)
    (.inr ⟨xQ.symm,hA.symm,by rw[Ov];exact Rk.xO _ s⟩) (by omega)
 |@tail sg m dd g w h6 h =>
  have H4:∀ {g':Goroutine} {w':World} {es:Array Event} {s' m' zB:Nat} {kF AL:Int},stepG P false g w=.go g' w' es->Aside Y.Wg w w'->WgAt ty Y.Wg w' kF AL->(∀ e∈es,Bk Y.Wg e) ->
    (∀ jx e,es[jx]?=some e->(MemAct.ofEvent e).touch?=none∨0<deafBehind dd (es.extract 0 jx))->s'<=6->WSit P ty Y.Wg Y.C N H0 H0 0 (Y.kc*x+1) (val x 0) s' m' zB g' w'->deafBehind dd es=zB ->
    (∀ tag',(tag'=tag∨(tag=.blk/\tag'=.w3))->(mayWake P g=true->g'.status=.running->tag'≠.blk)->Go.ConcN.Mode j (upd D x ⟨s',0,zB⟩) tag' kF AL)->((s'<sg/\cnt ⟨s',0,zB⟩<=cnt (D x))∨(s'=sg/\m'+1=m)) ->
    ∃ m₁ ops μ',runT P (crowd gs w sl) (Y.base+x)=(.next m₁,ops)/\zA (Y.base+n) μ' μ/\Inv P ty Y N val n T G μ' m₁ (t++ops):=by
   intro g' w' es s' m' zB kF AL hgo Gx C6 AN hd Oy LC Oz qp l;obtain⟨cs,OB,OC⟩:=I.dM.pay;refine g6 I hx hg hgo (hm':=F) (λ_ _=>rfl) (by rw[Gx.size];exact aq _) (λy hy _=>.wg Gx I.dM.tl.Ce C5 (λb o v J=>(I.dM.tl.ms y hy b o v J).2.2.1) I.dM.tl.ne) (.wg Gx) (.tail Oy LC) (C4 AN (by rw[Gx.size];exact I.dM.uf)) (Gv AN) (vC AN) (by rw[KP];exact Oz)
    (λ_=>let ⟨r,hr⟩:=I.dM.rel x hx (by omega);⟨r,hr.book QG _ _ AN hd⟩) (λ_ i So Sp=>(gm (Gx.block _ I.dM.tl.ne) _).trans (I.dM.rO x hx hA i So Sp)) (λ_=>(gm (Gx.block _ I.dM.tl.ne) _).trans (I.dM.vA x hx (by omega))) ⟨cs,(Gx.block _ I.dM.tl.ne).trans OB,OC⟩ C6 qp
    (l.imp (λh=>⟨by omega,h.2⟩) λh=>⟨by omega,hA.symm,by rw[Ov,<-h.2];exact Rk.xO _ s⟩) (by omega)
  have book:∀ {g':Goroutine} {w':World} {es:Array Event} {s' m' zB:Nat} {kF AL:Int},stepG P false g w=.go g' w' es->Aside Y.Wg w w'->WgAt ty Y.Wg w' kF AL->(∀ e∈es,Bk Y.Wg e) ->
    (∀ jx e,es[jx]?=some e->(MemAct.ofEvent e).touch?=none∨0<deafBehind dd (es.extract 0 jx))->s'<=6->WSit P ty Y.Wg Y.C N H0 H0 0 (Y.kc*x+1) (val x 0) s' m' zB g' w'->deafBehind dd es=zB ->
    Go.ConcN.Mode j (upd D x ⟨s',0,zB⟩) tag kF AL->((s'<sg/\cnt ⟨s',0,zB⟩<=cnt (D x))∨(s'=sg/\m'+1=m)) ->
    ∃ m₁ ops μ',runT P (crowd gs w sl) (Y.base+x)=(.next m₁,ops)/\zA (Y.base+n) μ' μ/\Inv P ty Y N val n T G μ' m₁ (t++ops) :=
   λhgo Gx C6 AN hd Oy LC Oz qp l=>H4 hgo Gx C6 AN hd Oy LC Oz (λ_ ht _=>qp.retag ht) l
  have idle:∀ {g':Goroutine} {m':Nat},stepG P false g w=.go g' w #[]->WSit P ty Y.Wg Y.C N H0 H0 0 (Y.kc*x+1) (val x 0) sg m' dd g' w->m'+1=m ->
    ∃ m₁ ops μ',runT P (crowd gs w sl) (Y.base+x)=(.next m₁,ops)/\zA (Y.base+n) μ' μ/\Inv P ty Y N val n T G μ' m₁ (t++ops):=by
   intro g' m' hgo LC F;exact book hgo (.refl Y.Wg w) I.wg (by simp) (by simp) h6 LC rfl (same _ _) (.inr ⟨rfl,F⟩)
  cases h with
  |r0 h=>omega
  |k1 h =>
   rcases Goes.cases h with iU|⟨m',rfl,gD⟩
   ·obtain⟨_,g',hgo,m₂,hk⟩:=iU w (Go.ConcN.RW.refl w);exact book hgo (.refl Y.Wg w) I.wg (by intro e c;simp at c;subst c;exact .inl rfl) (by intro jx e c;exact .inl (by have:=nQ c;simp at this;subst this;rfl)) (by decide) (.d1 hk) rfl (I.mode.counted hx (by omega) (.inr rfl) _ _) (.inl ⟨by omega,by simp[cnt,xQ]⟩)
   ·obtain⟨g',w',es,hgo,⟨rfl,rfl⟩,xR⟩:=gD w (Go.ConcN.RW.refl w);exact idle hgo (.k1 xR) rfl
  |d1 h =>
   rcases Goes.cases h with iU|⟨m',rfl,gD⟩
   ·obtain⟨_,LD⟩:=iU w (Go.ConcN.RW.refl w);have pI:=I.wg;have C7:=I.mode;have Ng:cnt (D x)=1:=by simp[cnt,xQ]
    have UE:1<=Vc j D:=by have:=le_sumTo (f:=λx=>cnt (D x)) hx;simp only[Vc];omega
    have bk2:∀ e∈#[rd (stA Y.Wg),wr (stA Y.Wg)],Bk Y.Wg e:=by intro e c;simp at c;rcases c with rfl|rfl <;> exact bk_cell _ _ rfl
    have Nn:∀ jx e,(#[rd (stA Y.Wg),wr (stA Y.Wg)]:Array Event)[jx]?=some e->(MemAct.ofEvent e).touch?=none∨0<deafBehind 1 ((#[rd (stA Y.Wg),wr (stA Y.Wg)]:Array Event).extract 0 jx):=by
     intro jx e c
     match jx,c with
     |0,_=>exact .inr (by simp[deafBehind])
     |1,_=>exact .inr (by simp[deafBehind,rd])
     |jx+2,c=>simp at c
    have QL:∀ q,cnt (⟨1,q,1⟩:WD)=0:=λ_=>rfl
    have eB:∀ q,OpenSt j D->OpenSt j (upd D x ⟨1,q,1⟩):=λq h a H=>by
     by_cases e:a=x
     ·subst e;rw[upd_same];simp
     ·rw[upd_ne D _ e];exact h a H
    generalize Sq:st=Sr at C7 pI;generalize Ss:sm=Su at C7 pI;cases C7 with
    |opn p z u =>
     obtain⟨v,J⟩:∃ v,Vc j D+pend tag=v+1:=⟨Vc j D+pend tag-1,by omega⟩
     rw[J] at pI;have LF:WgAt ty Y.Wg w (((v:Nat)+1)*KK+((0:Nat):Int)) 0:=by simpa using pI
     obtain⟨g',hgo,_,hq⟩:=LD v 0 (by omega) (by omega) LF
     obtain⟨q,hq⟩:=hq (by omega)
     have No:Vc j (upd D x ⟨1,0,1⟩)+pend tag=v:=by have:=Vc_upd D (⟨1,0,1⟩:WD) hx;have:=QL 0;omega
     refine book hgo (aside_setCell w (stA Y.Wg) _) (pI.setSt _) bk2 Nn (by decide) (.quit hq) rfl ?_ (.inl ⟨by omega,by simp[cnt]⟩)
     have e:((v:Nat):Int)*KK+((0:Nat):Int)=((Vc j (upd D x ⟨1,0,1⟩)+pend tag:Nat):Int)*KK:=by rw[No];simp
     rw[e];exact .opn p (eB 0 z) (λvs ev=>by have:=u vs ev;omega)
    |reg p z u =>
     obtain⟨v,J⟩:∃ v,Vc j D=v+1:=⟨Vc j D-1,by omega⟩
     rw[J] at pI;have hp:pend tag=0:=by cases tag <;> first|rfl|exact p.elim
     have LF:WgAt ty Y.Wg w (((v:Nat)+1)*KK+((1:Nat):Int)) 0:=by simpa using pI
     obtain⟨g',hgo,S,hq⟩:=LD v 1 (by omega) (by omega) LF
     by_cases KW:v=0
     ·subst KW;obtain⟨m₂,hk⟩:=S ⟨rfl,rfl⟩;refine book hgo (aside_setCell w (stA Y.Wg) _) (pI.setSt _) bk2 Nn (by decide) (.d2 hk) rfl ?_ (.inl ⟨by omega,by simp[cnt]⟩)
      have xS:∀ a,a<j->a≠x->(D a).stage=1:=λa H e=>by
       have c0:=others_uncounted hx J Ng a H e;have:=z a H;simp only[cnt] at c0;split at c0 <;> omega
      have:=Go.ConcN.Mode.last (j:=j) (D:=upd D x ⟨4,0,1⟩) (tag:=tag) x p hx (by rw[upd_same];simp) (λa H e=>by rw[upd_ne D _ e];exact xS a H e)
      rw[upd_same] at this;simpa using this
     ·obtain⟨q,hq⟩:=hq (by omega)
      have No:Vc j (upd D x ⟨1,0,1⟩)=v:=by have:=Vc_upd D (⟨1,0,1⟩:WD) hx;have:=QL 0;omega
      refine book hgo (aside_setCell w (stA Y.Wg) _) (pI.setSt _) bk2 Nn (by decide) (.quit hq) rfl ?_ (.inl ⟨by omega,by simp[cnt]⟩)
      have e:((v:Nat):Int)*KK+((1:Nat):Int)=((Vc j (upd D x ⟨1,0,1⟩):Nat):Int)*KK+1:=by rw[No];simp
      rw[e];exact .reg p (eB 0 z) (by omega)
    |last L _ z u h4 =>
     by_cases e:x=L
     ·subst e;omega
     ·have:=h4 x hx e;omega
    |sema z=>have:=z x hx;omega
    |fin _ z=>have:=z x hx;omega
   ·obtain⟨g',w',es,hgo,⟨rfl,rfl⟩,xR⟩:=gD w (Go.ConcN.RW.refl w);exact idle hgo (.d1 xR) rfl
  |d2 h =>
   rcases Goes.cases h with iU|⟨m',rfl,gD⟩
   ·obtain⟨_,FV⟩:=iU w (Go.ConcN.RW.refl w);obtain⟨LG,xS,e1,e2⟩:=I.mode.isLast hx (by omega)
    have pI:=I.wg;rw[e1,e2,xQ] at pI;obtain⟨g',hgo,m₂,hk⟩:=FV (by simpa using pI)
    refine book hgo (.refl Y.Wg w) pI (by intro e c;simp at c;subst c;exact bk_cell _ _ rfl) (by intro jx e c;match jx,c with|0,_=>exact .inr (by simp[deafBehind])|jx+1,c=>simp at c) (by decide) (.d3 hk) rfl ?_ (.inl ⟨by omega,by simp[cnt]⟩)
    have:=Go.ConcN.Mode.last (j:=j) (D:=upd D x ⟨3,0,1⟩) (tag:=tag) x LG hx (by rw[upd_same];simp) (λa H e=>by rw[upd_ne D _ e];exact xS a H e)
    rw[upd_same] at this;simpa using this
   ·obtain⟨g',w',es,hgo,⟨rfl,rfl⟩,xR⟩:=gD w (Go.ConcN.RW.refl w);exact idle hgo (.d2 xR) rfl
  |d3 h =>
   rcases Goes.cases h with iU|⟨m',rfl,gD⟩
   ·obtain⟨_,FV⟩:=iU w (Go.ConcN.RW.refl w);obtain⟨LG,xS,e1,e2⟩:=I.mode.isLast hx (by omega)
    have pI:=I.wg;rw[e1,e2,xQ] at pI;obtain⟨g',hgo,m₂,hk⟩:=FV (by simpa using pI)
    refine book hgo (aside_setCell w (stA Y.Wg) _) (pI.setSt 0) (by intro e c;simp at c;subst c;exact bk_cell _ _ rfl) (by intro jx e c;match jx,c with|0,_=>exact .inr (by simp[deafBehind])|jx+1,c=>simp at c) (by decide) (.d4 hk) rfl ?_ (.inl ⟨by omega,by simp[cnt]⟩)
    have:=Go.ConcN.Mode.last (j:=j) (D:=upd D x ⟨2,0,1⟩) (tag:=tag) x LG hx (by rw[upd_same];simp) (λa H e=>by rw[upd_ne D _ e];exact xS a H e)
    rw[upd_same] at this;simpa using this
   ·obtain⟨g',w',es,hgo,⟨rfl,rfl⟩,xR⟩:=gD w (Go.ConcN.RW.refl w);exact idle hgo (.d3 xR) rfl
  |d4 h =>
   rcases Goes.cases h with iU|⟨m',rfl,gD⟩
   ·obtain⟨_,Sv,FV⟩:=iU w (Go.ConcN.RW.refl w);obtain⟨LG,xS,e1,e2⟩:=I.mode.isLast hx (by omega)
    have pI:=I.wg;rw[e1,e2,xQ] at pI;obtain⟨g',hgo,q,hq⟩:=FV (by simpa using pI)
    have qq:g'.status=.running:=by
     cases q with
     |zero=>exact absurd hq.2 (by decide)
     |succ q=>exact hq.elim (λx=>absurd x.2 (by decide)) (λx=>x.1)
    refine H4 hgo (aside_setCell w (smA Y.Wg) _) (pI.setSm 1) (es:=semEvents (smA Y.Wg)) ?_ ?_ (by decide) (.quit hq) (by simp[deafBehind,semEvents]) ?_ (.inl ⟨by omega,by simp[cnt]⟩)
    ·intro e c;simp[semEvents] at c;rcases c with rfl|rfl|rfl|rfl
     ·exact .inl rfl
     ·exact bk_cell _ _ rfl
     ·exact bk_cell _ _ rfl
     ·exact .inr (.inl rfl)
    ·intro jx e c
     match jx,c with
     |0,c=>simp[semEvents] at c;subst c;exact .inl rfl
     |1,_=>exact .inr (by simp[deafBehind,semEvents])
     |2,_=>exact .inr (by simp[deafBehind,semEvents])
     |3,c=>simp[semEvents] at c;subst c;exact .inl rfl
     |jx+4,c=>simp[semEvents] at c
    ·intro tag' ht U;have Sw:=U Sv qq;have e3:tag'=.w3:=by
      rcases ht with rfl|⟨_,rfl⟩
      ·cases tag' <;> first|rfl|exact LG.elim|exact absurd rfl Sw
      ·rfl
     subst e3;simp only[aZ];exact .sema λa H=>by
      by_cases e:a=x
      ·subst e;rw[upd_same]
      ·rw[upd_ne D _ e];exact xS a H e
   ·obtain⟨g',w',es,hgo,⟨rfl,rfl⟩,xR⟩:=gD w (Go.ConcN.RW.refl w);exact idle hgo (.d4 xR) rfl
  |quit h =>
   cases m with
   |zero=>rw[h.1] at o4;cases o4
   |succ q =>
    rcases h with⟨hf,_⟩|⟨_,g',es,H5,gD,hq⟩
    ·rw[hf] at o4;cases o4
    ·have AN:∀ e∈es,Bk Y.Wg e:=λe c=>bk_of_mute (H5 e c)
     have Lr:∀ jx e,es[jx]?=some e->(MemAct.ofEvent e).touch?=none∨0<deafBehind dd (es.extract 0 jx):=λjx e c=>.inl (touch_mute (H5 e (nQ c)))
     exact book (gD w) (.refl Y.Wg w) I.wg AN Lr (by decide) (.quit hq) rfl (same _ _) (.inr ⟨rfl,rfl⟩)
end
end Go.AM
namespace Go.AM
open Go.Conc
open Go.ConcN (WD CTag Vc Ssum pend phi cnt WgLive PayAt Has RW DWs WSit RelBy sumTo upd upd_same upd_ne AtR0 isW3 isOpen OpenSt deafBehind_idle bk_cell okW_none Vc_upd Vc_le le_sumTo others_uncounted sumTo_upd_out bk_dis bk_en bk_rd bk_rw bk_sem allQuit_of exists_counted)
open Go.ConcR (KK WgAt stA smA rd wr mk Payload g_of_ofEvents Bk bk_of_mute ofEvent_loc_mark ofEvent_cell ofEvent_mk)
variable [Payload]
section
variable {P:Program}{ty:TypeId}{Y:Lay}{N:Nat}{val:Nat->Nat->Value}{n:Nat}{T l:Goroutine->St->Prop}{u hm':Nat->Nat}{E J:Nat->Mem}{j:Nat}{tag:CTag}{rk:Rk}{d:Nat}{a:Goroutine}{s:St}{w w':World}
 {V:Mu} {R:Array Goroutine} {sl:Option (Nat×Nat)} {t:Trace} {D:Nat->WD} {A:Nat->Nat} {K:Nat->Rk} {st sm:Int}
omit [Payload] in
theorem TL.congr{B:Nat}(h:TL Y u E t j B)(e:∀ y,y<j->J y=E y):TL Y u J t j B :=
 ⟨h.base,h.Ce,h.hC,h.ne,h.HZ,h.I4,h.Cf,λx H=>by rw[e x H];exact h.ms x H,h.T0,h.nr,h.seen,h.old,h.I5,h.AI,λi a hi ha u=>(h.new i a hi ha u).imp id λ⟨x,H,z,G⟩=>⟨x,H,z,by rw[e x H];exact G⟩,
  λx H=>by rw[e x H];exact h.mw x H,h.over⟩
theorem WS.congr{x a st d:Nat}{r:Rk}{g:Goroutine}(h:WS P ty Y N val u E x a st r d g w)(e:J x=E x):WS P ty Y N val u J x a st r d g w:=by
 cases h with
 |am z G F=>exact .am z G (by rw[e];exact F)
 |rel z=>exact .rel z
 |tail h0 z=>exact .tail h0 z
theorem Com.congr{q:Nat}(h:Com P ty Y N val u E j R w t D A K q)(e:∀ y,y<j->J y=E y):Com P ty Y N val u J j R w t D A K q :=
 ⟨h.size,h.lv,h.above,λx H=>let ⟨g,z,G⟩:=h.wk x H;⟨g,z,G.congr (e x H)⟩,h.tl.congr e,h.norel,h.deaf0,h.deafW,h.rel,h.rO,h.vA,h.pay,h.live,h.uf,h.vB,h.FU,h.kc,λy I=>by rw[e y I];exact h.Gu y I⟩
omit [Payload] in
theorem Gy{σ σ':List ak}{s2:St}{es:Array Event}(hw:gk Y u E j s)(hh:ag σ s)(S:eP s es)(st:Step σ s σ' s2) :
  (∀ e∈es,(MemAct.ofEvent e).low s2.w.heap.size)/\(∀ e∈es,∀ a,(MemAct.ofEvent e).touch?=some a->a.loc.isMemory=true->nv Y (j3 u s.w.heap.size 0) a) /\
  (∀ e∈es,∀ a,(MemAct.ofEvent e).touch?=some a->a.kind=.plain->a.write=true->∀ x,x<j->∀ b o v,a.loc=.cell ⟨b,o,none⟩->E x b o≠some v) /\
  (∀ e∈es,e.loc≠.mark .disable/\e.loc≠.mark .enable)/\∀ e∈es,∀ a,e.loc≠.mark (.release a):=by
 have key:∀ e∈es,(MemAct.ofEvent e).low s2.w.heap.size/\(∀ a,(MemAct.ofEvent e).touch?=some a->a.loc.isMemory=true->nv Y (j3 u s.w.heap.size 0) a) /\
   (∀ a,(MemAct.ofEvent e).touch?=some a->a.kind=.plain->a.write=true->∀ x,x<j->∀ b o v,a.loc=.cell ⟨b,o,none⟩->E x b o≠some v)/\(e.loc≠.mark .disable/\e.loc≠.mark .enable)/\∀ a,e.loc≠.mark (.release a):=by
  intro e k;have h:=S e k;obtain⟨loc,wr,sy⟩:=e;cases loc with
  |cell ad =>
   obtain⟨z,G,F⟩:=h;simp only at z G F;subst z;have p:ad.block<s.w.heap.size/\u ad.block=0/\ad.block≠Y.C/\ad.block≠Y.Wg/\¬Y.Sh ad.block:=by
    rcases F with F|⟨⟨L,W,F⟩,_⟩|⟨_,v,F⟩
    ·exact F.elim
    ·obtain⟨k1,k2,Q,Z,U⟩:=hw.blk _ (.inr ⟨L,W,F⟩);exact⟨U,k1,k2,Q,Z⟩
    ·obtain⟨k1,k2,Q,Z,U⟩:=hw.M _ _ _ F;exact⟨U,k1,k2,Q,Z⟩
   refine⟨by rw[ofEvent_cell];exact bk p.1 st.size,λb c _=>?_,λb c _ O x H b' o v hl X=>?_,⟨by simp,by simp⟩,by simp⟩
   ·rw[ofEvent_cell] at c;simp only[MemAct.touch?,bG] at c;subst c;exact .inr ⟨ad.block,rfl,by rw[cY p.1];exact p.2.1,p.2.2.2.1,p.2.2.1,p.2.2.2.2,rfl⟩
   ·rw[ofEvent_cell] at c;simp only[MemAct.touch?,bG] at c;subst c;simp only at O hl;have hM:=hw.ms x H b' o v X;cases hl;rcases F with F|⟨_,F⟩|⟨F,_⟩
    ·exact F.elim
    ·rw[F O] at hM;cases hM
    ·rw[F] at O;cases O
  |obj r =>
   obtain⟨z,G⟩:=h;simp only at z G;subst z;obtain⟨L,W,F⟩:=G.resolve_left id;obtain⟨k1,k2,Q,Z,U⟩:=hw.blk _ (.inr ⟨L,W,F⟩);refine⟨?_,λb c _=>?_,λb c _ _ x _ b' o v hl=>?_,⟨by simp,by simp⟩,by simp⟩
   ·simp[MemAct.ofEvent,MemAct.low,Loc.low];exact bk U st.size
   ·simp[MemAct.ofEvent,MemAct.touch?] at c;subst c;exact .inr ⟨r,rfl,by rw[cY U];exact k1,Q,k2,Z,rfl⟩
   ·simp[MemAct.ofEvent,MemAct.touch?] at c;subst c;cases hl
  |mark m =>
   simp only[lf] at h;rcases h with rfl|⟨f,rfl⟩
   ·exact⟨by simp[MemAct.ofEvent,MemAct.low],λb c=>by simp[MemAct.ofEvent,MemAct.touch?] at c,λb c=>by simp[MemAct.ofEvent,MemAct.touch?] at c,⟨by simp,by simp⟩,by simp⟩
   ·exact⟨by simp[MemAct.ofEvent,MemAct.low],λb c=>by simp[MemAct.ofEvent,MemAct.touch?] at c,λb c=>by simp[MemAct.ofEvent,MemAct.touch?] at c,⟨by simp,by simp⟩,by simp⟩
  |_=>exact h.elim
 exact⟨λe k=>(key e k).1,λe k=>(key e k).2.1,λe k=>(key e k).2.2.1,λe k=>(key e k).2.2.2.1,λe k=>(key e k).2.2.2.2⟩
theorem n8(I:n7 P ty Y N val n T l V R w t u E j D A K d tag rk a s st sm){a':Goroutine}{es:Array Event}{tag':CTag}{rk':Rk}{kF AL:Int}{s':St}(hgo:stepG P true a w=.go a' w' es)
  (hh:∀ b,b<w.heap.size->hm' b=u b) (Cq:w.heap.size<=w'.heap.size) (OD:∀ y,y<j->AJ Y u (E y) y w w')
  (OE:∀ e∈es,(MemAct.ofEvent e).low w'.heap.size) (Sx:∀ e∈es,∀ a,(MemAct.ofEvent e).touch?=some a->a.loc.isMemory=true->nv Y hm' a)
  (Oq:∀ e∈es,∀ a,(MemAct.ofEvent e).touch?=some a->a.kind=.plain->a.write=true->∀ x,x<j->∀ b o v,a.loc=.cell ⟨b,o,none⟩->E x b o≠some v)
  (LA:∀ e∈es,∀ a,e.loc≠.mark (.release a)) (C8:PayAt Y.C N w') (pI:WgAt ty Y.Wg w' kF AL)
  (AO:CS P ty Y N val n T l tag' j rk' (deafBehind d es) a' s') (LH:aX s' { s' with w:=w' }) (g:gk Y hm' E j s') (q:Go.ConcN.Mode j D tag' kF AL)
  (p:phi n (Vc j D) tag'<phi n (Vc j D) tag∨(phi n (Vc j D) tag'=phi n (Vc j D) tag/\Rk.lt rk' rk)) :
  ∃ m₁ ops μ',runT P (crowd R w sl) 0=(.next m₁,ops)/\zA (Y.base+n) μ' V/\Inv P ty Y N val n T l μ' m₁ (t++ops):=by
 have c:=I.dM.tl.base;have o4:=runT_crowd_go (P:=P) (sl:=sl) (i:=0) I.a0 (by simpa using hgo)
 refine⟨_,_,(phi n (Vc j D) tag'+Ssum j D+sumTo j A,(K,rk')),o4,?_,_,w',sl,hm',E,j,D,A,K,deafBehind d es,tag',rk',a',s',kF,AL,rfl,
  ⟨Go.ConcN.get_map_set_same _ _ _ (by rw[I.dM.size];omega),AO,LH,g,I.dM.step0 hh Cq OD OE Sx Oq LA C8 ⟨_,_,pI⟩,pI,q,rfl⟩⟩
 rw[I.mu];rcases p with h|⟨z,G⟩
 ·exact Prod.Lex.left _ _ (by omega)
 ·rw[z];exact Prod.Lex.right _ (Prod.Lex.right _ G)
theorem e9(I:n7 P ty Y N val n T l V R w t u E j D A K d tag rk a s st sm){a':Goroutine}{es:Array Event}{rk':Rk}{s1 s':St}(z:aX s1 { s1 with w:=w })(q:gk Y u E j s1)(hgo:stepG P true a w=.go a' s'.w es)
  (Ow:mD { s1 with w:=w } s' es∨Es Y.Wg { s1 with w:=w } s' es) (AO:CS P ty Y N val n T l tag j rk' d a' s') (p:Rk.lt rk' rk) :
  ∃ m₁ ops μ',runT P (crowd R w sl) 0=(.next m₁,ops)/\zA (Y.base+n) μ' V/\Inv P ty Y N val n T l μ' m₁ (t++ops):=by
 rcases Ow with⟨⟨σ,σ',hh,md,g⟩,S⟩|⟨rfl,ad,QM,KQ⟩
 ·have Q:gk Y u E j { s1 with w:=w }:=q.rely z.size;obtain⟨e1,e2,e3,e4,e5⟩:=Gy Q hh S g;have qo:∀ b,b<w.heap.size->(u b≠0∨b=Y.C∨b=Y.Wg)->s'.w.heap[b]?=w.heap[b]?:=λb c sj=>g.en b c λL W Cl=>by
   obtain⟨q1,q2,q3,_⟩:=Q.blk b (.inr ⟨L,W,Cl⟩);rcases sj with h|h|h
   ·exact h q1
   ·exact q2 h
   ·exact q3 h
  have C5:=I.dM.tl.base;refine n8 I hgo (hm':=j3 u w.heap.size 0) (λb c=>cY c) g.size (λy hy=>⟨g.size,λb c Sn=>qo b c (.inl (by omega)),λb o v X _=>md.mem b o v (g.mem _ _ _ (q.ms y hy b o v X)),λo _ _=>gm (qo _ I.dM.vB (.inr (.inl rfl))) o,g.os,g.tape,g.output⟩) e1 e2 e3 e5 ?_
   (I.wg.of_block (qo _ I.dM.uf (.inr (.inr rfl)))) (s':=s') (tag':=tag) (rk':=rk') (by rw[deafBehind_idle e4];exact AO) (aX.qn md.mem) (Q.step md g I.dM.uf I.dM.vB I.dM.FU) I.mode (.inr ⟨rfl,p⟩)
  obtain⟨cs,c1,c2⟩:=I.dM.pay;exact⟨cs,(qo _ I.dM.vB (.inr (.inl rfl))).trans c1,c2⟩
 ·have H6:∀ e∈es,e=mk (.read ad)∨e=mk (.write ad):=by
   intro e k;rcases KQ with rfl|rfl
   ·simp at k;exact .inl k
   ·simp at k;exact .inr k
  refine n8 I hgo (hm':=u) (λb c=>rfl) (aq _) (λy hy=>.refl ..) (λe k=>?_) (λe k b c _=>?_) (λe k b c hk=>?_) (λe k=>?_) I.dM.pay I.wg (s':={ s1 with w:=w }) (tag':=tag) (rk':=rk') ?_ (z.trans' ) (q.rely z.size) I.mode (.inr ⟨rfl,p⟩)
  ·have hW:=I.dM.uf;rcases H6 e k with rfl|rfl <;> (rw[ofEvent_mk];show ad.block<_;rw[QM];exact hW)
  ·rcases H6 e k with rfl|rfl <;> (rw[ofEvent_mk] at c;simp[MemAct.touch?] at c;subst c;exact .inl ⟨ad,rfl,QM,by simp⟩)
  ·rcases H6 e k with rfl|rfl <;> (rw[ofEvent_mk] at c;simp[MemAct.touch?] at c;subst c;cases hk)
  ·rcases H6 e k with rfl|rfl <;> simp[mk]
  ·rw[deafBehind_idle (λe k=>by rcases H6 e k with rfl|rfl <;> simp[mk])];exact AO
theorem dW(I:n7 P ty Y N val n T l V R w t u E j D A K d tag rk a s st sm){a':Goroutine}{es:Array Event}{tag':CTag}{rk':Rk}{kF AL:Int}{s1:St}(z:aX s1 { s1 with w:=w })(H7:gk Y u E j s1)
  (hgo:stepG P true a w=.go a' w' es) (g:Aside Y.Wg w w') (C6:WgAt ty Y.Wg w' kF AL) (AN:∀ e∈es,Bk Y.Wg e) (AO:CS P ty Y N val n T l tag' j rk' (deafBehind d es) a' { s1 with w:=w' }) (qp:Go.ConcN.Mode j D tag' kF AL)
  (p:phi n (Vc j D) tag'<phi n (Vc j D) tag∨(phi n (Vc j D) tag'=phi n (Vc j D) tag/\Rk.lt rk' rk)) :
  ∃ m₁ ops μ',runT P (crowd R w sl) 0=(.next m₁,ops)/\zA (Y.base+n) μ' V/\Inv P ty Y N val n T l μ' m₁ (t++ops):=by
 obtain⟨cs,Ng,Lh⟩:=I.dM.pay;have G:aX s1 { s1 with w:=w' }:=H7.C2 z (xP.wg g);refine n8 I hgo (hm':=u) (λb c=>rfl) (by rw[g.size];exact aq _) (λy hy=>.wg g I.dM.tl.Ce I.dM.tl.base (λb o v X=>(I.dM.tl.ms y hy b o v X).2.2.1) I.dM.tl.ne) (C4 AN (by rw[g.size];exact I.dM.uf)) (λe k b c u=>?_) (λe k b c hk=>?_) (vC AN)
  ⟨cs,(g.block _ I.dM.tl.ne).trans Ng,Lh⟩ C6 AO G.trans' (H7.rely G.size) qp p
 ·rcases AN e k with q|q|⟨ad,wr,rfl,ha⟩
  ·rw[ofEvent_loc_mark q] at c;cases c
  ·rw[ofEvent_loc_mark q] at c;cases c
  ·rw[ofEvent_cell] at c;simp only[MemAct.touch?,bG] at c;subst c;exact .inl ⟨ad,rfl,ha,by simp⟩
 ·rcases AN e k with q|q|⟨ad,wr,rfl,ha⟩
  ·rw[ofEvent_loc_mark q] at c;cases c
  ·rw[ofEvent_loc_mark q] at c;cases c
  ·rw[ofEvent_cell] at c;simp only[MemAct.touch?,bG] at c;subst c;cases hk
end
section
variable {P:Program}{ty:TypeId}{Y:Lay}{N:Nat}{val:Nat->Nat->Value}{n:Nat}{T k:Goroutine->St->Prop}{l hm':Nat->Nat}{u f:Nat->Mem}{j:Nat}{tag:CTag}{rk:Rk}{d:Nat}{a:Goroutine}{s:St}{w w':World}
 {E:Mu} {z:Array Goroutine} {sl:Option (Nat×Nat)} {t:Trace} {D:Nat->WD} {A:Nat->Nat} {K:Nat->Rk} {st F:Int}
theorem CS.bound(h:CS P ty Y N val n T k tag j rk d a s):j+pend tag<=n:=by
 cases h <;> simp only[pend] <;> (try simp) <;> omega
omit [Payload] in
theorem fa{S:Goroutine->St->Prop}(h:gH (Cx.lead P ty Y.Wg) (Es Y.Wg) S rk a s)(p:aX s { s with w:=w })(H:gk Y l u j s)(live:WgLive ty Y.Wg w) :
  (∃ s',aX s' { s' with w:=w }/\gk Y l u j s'/\S a s')∨∃ s',aX s' { s' with w:=w }/\gk Y l u j s'/\∃ g' s2 es r',stepG P true a w=.go g' s2.w es/\(mD { s' with w:=w } s2 es∨Es Y.Wg { s' with w:=w } s2 es)/\gH (Cx.lead P ty Y.Wg) (Es Y.Wg) S r' g' s2/\Rk.lt r' rk:=by
 rcases h.norm (λs0=>aX s0 { s0 with w:=w }/\gk Y l u j s0) (λs0 s' C hi=>⟨hi.1.ghost C,hi.2.ghost C⟩) (λG=>False.elim G) ⟨p,H⟩ with⟨s',⟨k1,c⟩,B⟩|⟨_,s',⟨k1,c⟩,B⟩
 ·exact .inl ⟨s',k1,c,B⟩
 ·exact .inr ⟨s',k1,c,B _ ⟨k1,λ_=>live⟩⟩
theorem WS.quits{x a st d:Nat}{r:Rk}{g:Goroutine}(h:WS P ty Y N val l u x a st r d g w)(b:st=1):∃ m,QuitsD P m d g:=by
 cases h with
 |am _ _ _=>cases b
 |rel _=>cases b
 |tail _ h=>exact⟨_,h.quits b⟩
theorem WS.small{x a st d:Nat}{r:Rk}{g:Goroutine}(h:WS P ty Y N val l u x a st r d g w)(b:st=1):a=0:=by
 cases h with
 |am _ _ _=>cases b
 |rel _=>rfl
 |tail _ h=>rfl
set_option maxHeartbeats 1600000 in
theorem C9(I:n7 P ty Y N val n T k E z w t l u j D A K d tag rk a s st F)(hn:n<2147483648)(Np:∀ g s,k g s->cz (Cx.lead P ty Y.Wg) (Es Y.Wg) (AtW1 P ty Y T k) g s)(o4:a.status=.running) :
  ∃ Z ops,runT P (crowd z w sl) 0=(.next Z,ops)/\((∃ hm' f,Fin P Y N val n T hm' f Z (t++ops))∨∃ μ',zA (Y.base+n) μ' E/\Inv P ty Y N val n T k μ' Z (t++ops)):=by
 have Sm:=Vc_le j D;have C5:=I.dM.tl.base;have live:=I.dM.live;have fin:∀ {X:Prop},(∃ Z ops μ',runT P (crowd z w sl) 0=(.next Z,ops)/\zA (Y.base+n) μ' E/\Inv P ty Y N val n T k μ' Z (t++ops)) ->
   ∃ Z ops,runT P (crowd z w sl) 0=(.next Z,ops)/\((∃ hm' f,Fin P Y N val n T hm' f Z (t++ops))∨∃ μ',zA (Y.base+n) μ' E/\Inv P ty Y N val n T k μ' Z (t++ops)) :=
  λ{_} ⟨Z,ops,μ',p,h2,h3⟩=>⟨Z,ops,p,.inr ⟨μ',h2,h3⟩⟩
 have hbound:=I.cs.bound;have cs:=I.cs;have Q:=I.wg;have O:=I.mode;cases cs with
 |@skd r rk g s hr h =>
  rcases fa h I.rely I.lead live with⟨s',k1,c,_,g',J,R⟩|⟨s',k1,c,g',s2,es,r',J,V,R,U⟩
  ·obtain⟨r2,R⟩:=R { s' with w:=w } (dw k1 live);exact fin (X:=True) (dW I k1 c (J w) (.refl Y.Wg w) Q bk_dis (.sa1 hr R) (O.reopen ab ab rfl (by simp)) (.inl (by simp only[phi];omega)))
  ·exact fin (X:=True) (e9 I k1 c J V (.skd hr R) U)
 |@sa1 r rk g s hr h =>
  rcases fa h I.rely I.lead live with⟨s',k1,c,_,W⟩|⟨s',k1,c,g',s2,es,r',J,V,R,U⟩
  ·obtain⟨ho,e1,e2,_⟩:=O.open_inv ab;rw[e1,e2] at Q;obtain⟨a',J,r2,R⟩:=W { s' with w:=w } (dw k1 live) (Vc (n-(r+1)) D) (by omega) (by simpa[pend] using Q)
   refine fin (X:=True) (dW I k1 c J (aside_setCell w (stA Y.Wg) _) (Q.setSt _) bk_rw (.ske hr R) ?_ (.inl (by simp only[phi];omega)))
   have e:(((Vc (n-(r+1)) D:Nat):Int)+1)*KK=((Vc (n-(r+1)) D+pend (.sp r 3):Nat):Int)*KK:=by simp[pend]
   rw[e];exact .opn ab ho (by simp)
  ·exact fin (X:=True) (e9 I k1 c J V (.sa1 hr R) U)
 |@ske r rk g s hr h =>
  rcases fa h I.rely I.lead live with⟨s',k1,c,_,g',J,R⟩|⟨s',k1,c,g',s2,es,r',J,V,R,U⟩
  ·obtain⟨r2,R⟩:=R { s' with w:=w } (dw k1 live);exact fin (X:=True) (dW I k1 c (J w) (.refl Y.Wg w) Q bk_en (.sgo hr R) (O.reopen ab ab rfl (by simp)) (.inl (by simp only[phi];omega)))
  ·exact fin (X:=True) (e9 I k1 c J V (.ske hr R) U)
 |@sgo r rk g s hr h =>
  rcases fa h I.rely I.lead live with⟨s',k1,c,_,W⟩|⟨s',k1,c,g',s2,es,r',J,V,R,U⟩
  ·obtain⟨a',child,Sy,_,⟨rc,Ot⟩,zp⟩:=W { s' with w:=w } (dw k1 live);obtain⟨ho,e1,e2,_⟩:=O.open_inv ab;rw[e1,e2] at Q;have qq:=runT_crowd_spawn (P:=P) (sl:=sl) (i:=0) I.a0 (by simpa using Sy)
   rw[I.dM.size] at qq;have B:gk Y l u (n-(r+1)) { s' with w:=w }:=c.rely k1.size
   let f:=upd u (n-(r+1)) s'.M
   have QN:∀ y,y<n-(r+1)->f y=u y:=λy hy=>upd_ne u _ (by omega)
   have OF:f (n-(r+1))=s'.M:=upd_same u _ _;have I9:aX (St.child { s' with w:=w }) { St.child { s' with w:=w } with w:=w }:=aX.qn k1.mem;have LI:iT l (f (n-(r+1))) (Y.base+(n-(r+1))) (St.child { s' with w:=w }):=by
    refine⟨λb hb=>?_,λb o v hv=>⟨.inr (by rw[OF];exact hv),(B.M b o v hv).2.2.2.2⟩⟩
    rcases hb with hb|⟨L,hL,_⟩
    ·exact hb.elim
    ·simp[St.child] at hL
   have zC:=(I.dM.congr QN).spawn (a':=a') (x:={ g:=0,fn:=a.frame.fn,pos:=a.frame.place,act:=.go (Y.base+(n-(r+1))) }) (y:={ g:=Y.base+(n-(r+1)),fn:=child.frame.fn,pos:=a.frame.place,act:=.start }) ⟨rfl,rfl⟩ ⟨rfl,rfl⟩
    (λb o v hv=>by rw[OF] at hv;exact B.M b o v hv) Ot I9 LI
   have eV:Vc (n-(r+1)+1) (upd D (n-(r+1)) ⟨7,0,0⟩)=Vc (n-(r+1)) D+1:=by
    simp only[Vc,sumTo,upd_same];rw[sumTo_upd_out D _ cnt (aq _)];rfl
   have eS:Ssum (n-(r+1)+1) (upd D (n-(r+1)) ⟨7,0,0⟩)=Ssum (n-(r+1)) D+7:=by
    simp only[Ssum,sumTo,upd_same];rw[sumTo_upd_out D _ WD.stage (aq _)]
   have eA:sumTo (n-(r+1)+1) (upd A (n-(r+1)) 1)=sumTo (n-(r+1)) A+1:=by
    have:sumTo (n-(r+1)) (upd A (n-(r+1)) 1)=sumTo (n-(r+1)) A:=sumTo_upd_out A 1 id (i:=n-(r+1)) (j:=n-(r+1)) (aq _);show sumTo (n-(r+1)) (upd A (n-(r+1)) 1)+upd A (n-(r+1)) 1 (n-(r+1))=_;rw[upd_same];exact b5 (·+1) this
   have Nq:OpenSt (n-(r+1)+1) (upd D (n-(r+1)) ⟨7,0,0⟩):=λi hi=>by
    by_cases e:i=n-(r+1)
    ·subst e;rw[upd_same];simp
    ·rw[upd_ne D _ e];exact ho i (by omega)
   have Nr:((z.setIfInBounds 0 a').push child)[0]?=some a':=by
    have h0:0<z.size:=by rw[I.dM.size];omega
    rw[mT (by simpa using h0),<-b0,jF h0]
   have ug:gk Y l f (n-(r+1)+1) { s' with w:=w }:=⟨B.blk,B.M,λy hy b o v hv=>by
    rcases bC y (n-(r+1)) with p|p
    ·rw[QN y p] at hv;exact B.ms y p b o v hv
    ·obtain rfl:y=n-(r+1):=by omega
     rw[OF] at hv;exact hv⟩
   have ej:n-(r+1)+1=n-r:=by omega
   rw[ej] at zC eV eS eA Nq ug;have OG:∀ tag',pend tag'=0->((Vc (n-(r+1)) D+pend (.sp r 2):Nat):Int)*KK=((Vc (n-r) (upd D (n-(r+1)) ⟨7,0,0⟩)+pend tag':Nat):Int)*KK:=λtag' hp=>by rw[eV,hp];simp[pend]
   cases r with
   |zero =>
    obtain⟨r3,R⟩:=zp;simp only[ky] at zC eV eS eA Nq OG ug;refine⟨_,_,qq,.inr ⟨(phi n (Vc n (upd D (n-(0+1)) ⟨7,0,0⟩)) .kd+Ssum n (upd D (n-(0+1)) ⟨7,0,0⟩)+sumTo n (upd A (n-(0+1)) 1),(upd K (Y.base+(n-(0+1))) rc,r3)),by rw[I.mu];exact Prod.Lex.left _ _ (by simp only[phi];omega),
     _,w,sl,l,f,n,_,_,_,0,.kd,r3,a',{ s' with w:=w },_,_,rfl,⟨Nr,.kd R,k1.trans',ug,zC,Q,?_,rfl⟩⟩⟩
    rw[OG .kd rfl];exact .opn ab Nq (by simp)
   |succ r' =>
    obtain⟨r3,R⟩:=zp;refine⟨_,_,qq,.inr ⟨(phi n (Vc (n-(r'+1)) (upd D (n-(r'+1+1)) ⟨7,0,0⟩)) (.sp r' 5)+Ssum (n-(r'+1)) (upd D (n-(r'+1+1)) ⟨7,0,0⟩)+sumTo (n-(r'+1)) (upd A (n-(r'+1+1)) 1),(upd K (Y.base+(n-(r'+1+1))) rc,r3)),by rw[I.mu];exact Prod.Lex.left _ _ (by simp only[phi];omega),
     _,w,sl,l,f,n-(r'+1),_,_,_,0,.sp r' 5,r3,a',{ s' with w:=w },_,_,rfl,⟨Nr,.skd (by omega) R,k1.trans',ug,zC,Q,?_,rfl⟩⟩⟩
    rw[OG (.sp r' 5) rfl];exact .opn ab Nq (by simp)
  ·exact fin (X:=True) (e9 I k1 c J V (.sgo hr R) U)
 |kd h =>
  rcases fa h I.rely I.lead live with⟨s',k1,c,_,g',J,R⟩|⟨s',k1,c,g',s2,es,r',J,V,R,U⟩
  ·obtain⟨r2,R⟩:=Np _ _ (R { s' with w:=w } (dw k1 live));exact fin (X:=True) (dW I k1 c (J w) (.refl Y.Wg w) Q bk_dis (.w1 R) (O.reopen ab ab rfl (by simp)) (.inl (by simp only[phi];omega)))
  ·exact fin (X:=True) (e9 I k1 c J V (.kd R) U)
 |w1 h =>
  rcases fa h I.rely I.lead live with⟨s',k1,c,_,W⟩|⟨s',k1,c,g',s2,es,r',J,V,R,U⟩
  ·obtain⟨ho,e1,e2,_⟩:=O.open_inv ab;rw[e1,e2] at Q;have hV:=Vc_le n D;obtain⟨a',J,h0,sj⟩:=W { s' with w:=w } (dw k1 live) (Vc n D) (by omega) (by simpa[pend] using Q)
   by_cases hv:Vc n D=0
   ·obtain⟨r2,R⟩:=h0 hv;refine fin (X:=True) (dW I k1 c J (.refl Y.Wg w) Q bk_rd (.ke R) ?_ (.inl (by simp only[phi];omega)))
    have e:((Vc n D+pend .w1:Nat):Int)*KK=0:=by rw[hv];simp[pend]
    rw[e];exact .fin ab (allQuit_of ho hv)
   ·obtain⟨r2,R⟩:=sj hv;refine fin (X:=True) (dW I k1 c J (.refl Y.Wg w) Q bk_rd (.w2 R) ?_ (.inl (by simp only[phi];omega)))
    have:=O.reopen (tag':=.w2 (Vc n D)) ab ab rfl (λvs e=>by cases e;omega)
    rwa [e1,e2] at this
  ·exact fin (X:=True) (e9 I k1 c J V (.w1 R) U)
 |@w2 vs rk g s h =>
  rcases fa h I.rely I.lead live with⟨s',k1,c,_,W⟩|⟨s',k1,c,g',s2,es,r',J,V,R,U⟩
  ·obtain⟨ho,e1,e2,Ja⟩:=O.open_inv ab;rw[e1,e2] at Q;obtain⟨hle,p⟩:=Ja vs rfl;obtain⟨OH,LJ⟩:=W { s' with w:=w } (dw k1 live) (Vc n D) (by omega) (by simpa[pend] using Q)
   by_cases e:Vc n D=vs
   ·obtain⟨a',J,r2,R⟩:=OH e;exact fin (X:=True) (dW I k1 c J (aside_setCell w (stA Y.Wg) _) (Q.setSt _) bk_rw (.w3 R) (.reg ab ho (by omega)) (.inl (by simp only[phi];omega)))
   ·obtain⟨a',J,R⟩:=LJ e;obtain⟨r2,R⟩:=Np _ _ R;refine fin (X:=True) (dW I k1 c J (.refl Y.Wg w) Q bk_rd (.w1 R) ?_ (.inl (by simp only[phi];omega)))
    have:=O.reopen (tag':=.w1) ab ab rfl (by simp)
    rwa [e1,e2] at this
  ·exact fin (X:=True) (e9 I k1 c J V (.w2 R) U)
 |@w3 rk g s h =>
  rcases fa h I.rely I.lead live with⟨s',k1,c,iU⟩|⟨s',k1,c,g',s2,es,r',J,V,R,U⟩
  ·obtain⟨_,OI,W⟩:=iU;obtain⟨Gz,LK⟩:=W { s' with w:=w } (dw k1 live);obtain⟨x,hx⟩:=Rk.C3 s rk;have LL:AtW3 P ty Y T a { s' with w:=w }:=AtW3.rely ⟨o4,OI,W⟩ (dw k1 live);generalize st=Sr at O Q;generalize F=Su at O Q;cases O with
   |opn p _ _=>exact p.elim
   |reg p h2 h3=>exact fin (X:=True) (dW I k1 c (Gz ⟨_,Q⟩) (.refl Y.Wg w) Q (by simp) (.blk (rk:=x) LL) (.reg ab h2 h3) (.inr ⟨rfl,hx⟩))
   |last L p h2 h3 h4=>exact fin (X:=True) (dW I k1 c (Gz ⟨_,Q⟩) (.refl Y.Wg w) Q (by simp) (.blk (rk:=x) LL) (.last L ab h2 h3 h4) (.inr ⟨rfl,hx⟩))
   |sema h2 =>
    obtain⟨a',J,r2,R⟩:=LK Q;exact fin (X:=True) (dW I k1 c J (aside_setCell w (smA Y.Wg) _) (Q.setSm 0) bk_sem (.w4 R) (.fin ab h2) (.inl (by simp only[phi];omega)))
   |fin p _=>exact p.elim
  ·exact fin (X:=True) (e9 I k1 c J V (.w3 R) (Rk.zz U))
 |blk h=>simp at o4
 |w4 h =>
  rcases fa h I.rely I.lead live with⟨s',k1,c,_,W⟩|⟨s',k1,c,g',s2,es,r',J,V,R,U⟩
  ·obtain⟨hq,e1,e2⟩:=O.fin_inv ab;rw[e1,e2] at Q;obtain⟨a',J,r2,R⟩:=W { s' with w:=w } (dw k1 live) Q;exact fin (X:=True) (dW I k1 c J (.refl Y.Wg w) Q bk_rd (.ke R) (.fin ab hq) (.inl (by simp only[phi];omega)))
  ·exact fin (X:=True) (e9 I k1 c J V (.w4 R) U)
 |ke h =>
  rcases fa h I.rely I.lead live with⟨s',k1,c,_,g',J,R⟩|⟨s',k1,c,g',s2,es,r',J,V,R,U⟩
  ·obtain⟨r2,R⟩:=R { s' with w:=w } (dw k1 live);obtain⟨hq,e1,e2⟩:=O.fin_inv ab;rw[e1,e2] at Q;exact fin (X:=True) (dW I k1 c (J w) (.refl Y.Wg w) Q bk_en (.acq R) (.fin ab hq) (.inl (by simp only[phi];omega)))
  ·exact fin (X:=True) (e9 I k1 c J V (.ke R) U)
 |acq h =>
  rcases fa h I.rely I.lead live with⟨s',k1,c,_,a',J,R⟩|⟨s',k1,c,g',s2,es,r',J,V,R,U⟩
  ·obtain⟨hq,e1,e2⟩:=O.fin_inv ab;have qq:=runT_crowd_go (P:=P) (sl:=sl) (i:=0) I.a0 (by simpa using J w)
   have ev:MemOp.ofEvents 0 a.frame.fn a.frame.place #[mk (.acquire (stA Y.Wg))]=#[{ g:=0,fn:=a.frame.fn,pos:=a.frame.place,act:=.mark (.acquire (stA Y.Wg)) }]:=by rw[ofEvents_eq];simp[ofEvent_mk]
   have qt:=I.dM.step0 (g:=a) (g':=a') (fn:=a.frame.fn) (pos:=a.frame.place) (es:=#[mk (.acquire (stA Y.Wg))]) (hm':=l) (w':=w) (λ_ _=>rfl) (aq _) (λy _=>.refl ..) (by simp;exact I.dM.uf) (by intro e he b hb;simp at he;subst he;simp[mk,MemAct.ofEvent,MemAct.touch?] at hb) (by intro e he b hb;simp at he;subst he;simp[mk,MemAct.ofEvent,MemAct.touch?] at hb) (by intro e he;simp at he;subst he;simp[mk]) I.dM.pay live
   have UF:deafBehind 0 #[mk (.acquire (stA Y.Wg))]=0:=rfl;have hy:(t++#[({ g:=0,fn:=a.frame.fn,pos:=a.frame.place,act:=.mark (.acquire (stA Y.Wg)) }:MemOp)])[t.size]?=some { g:=0,fn:=a.frame.fn,pos:=a.frame.place,act:=.mark (.acquire (stA Y.Wg)) }:=by simp
   have LM:=qt.tl.Oo (by rw[qt.deaf0];rfl) (qt.norel _) (q:=t.size) (by rw[ev,act?_of hy]) (by rw[ev];simp[Trace.g?]) (by rw[ev];exact⟨0,by simp[Trace.g?],by rw[deaf_old (aq _)];exact I.dM.deaf0⟩) (λx hx=>by
    obtain⟨r,hr⟩:=I.dM.rel x hx (by rw[hq x hx];omega)
    exact⟨r,hr.appOther g_of_ofEvents (by omega),lt_of_act? hr.act⟩)
   have I6:∃ q,Leavers P (t++MemOp.ofEvents 0 a.frame.fn a.frame.place #[mk (.acquire (stA Y.Wg))]) ((z.map (woken P a a' w)).setIfInBounds 0 a') q:=by
    have each:∀ i,∃ m,∀ g,0<i->((z.map (woken P a a' w)).setIfInBounds 0 a')[i]?=some g->QuitsD P m (Deaf (t++MemOp.ofEvents 0 a.frame.fn a.frame.place #[mk (.acquire (stA Y.Wg))]) i) g:=by
     intro i;cases HT:((z.map (woken P a a' w)).setIfInBounds 0 a')[i]? with
     |none=>exact⟨0,λg _ C=>by cases C⟩
     |some g =>
      rcases hU i with e|Da
      ·exact⟨0,λg' h=>by omega⟩
      ·rcases bC i Y.base with U|M8
       ·obtain⟨m,_,I7⟩:=qt.lv i g Da U HT;exact⟨m,λg' _ xR=>by cases xR;exact I7⟩
       ·obtain⟨x,rfl⟩:∃ x,i=Y.base+x:=⟨i-Y.base,by omega⟩
        have hx:x<n:=by
         have:=(ey.1 HT).1;rw[qt.size] at this;omega
        obtain⟨g0,zy,OJ⟩:=qt.wk x hx;rw[HT] at zy;cases zy;obtain⟨m,I7⟩:=OJ.quits (hq x hx);refine⟨m,λg' _ xR=>?_⟩
        cases xR;rw[qt.deafW x hx];exact I7
    exact⟨λi=>Classical.choose (each i),λi g hi C=>nP (each i) g hi C,λi hi=>qt.above i (by rw[qt.size] at hi;exact hi)⟩
   obtain⟨q,I6⟩:=I6;refine⟨_,_,qq,.inl ⟨l,u,⟨_,w,sl,a',s',q,rfl,Go.ConcN.get_map_set_same _ _ _ (by rw[I.dM.size];omega),qt.size,R { s' with w:=w } (dw k1 live),k1,c,I6,LM,qt.norel,I.dM.pay,λx hx i hi=>?_,I.dM.vB,I.dM.uf,I.dM.FU⟩⟩⟩
   obtain⟨g0,_,OJ⟩:=I.dM.wk x hx;rcases hU i with e|Da
   ·subst e;exact I.dM.vA x hx (by rw[hq x hx];omega)
   ·exact I.dM.rO x hx (OJ.small (hq x hx)) i Da hi
  ·exact fin (X:=True) (e9 I k1 c J V (.acq R) U)
end
end Go.AM
namespace Go.AM
open Go.Conc
open Go.ConcN (WD CTag Vc Ssum pend phi cnt WgLive PayAt Has WSit RelBy sumTo upd upd_same upd_ne exists_counted)
open Go.ConcR (KK WgAt stA smA Payload)
variable [Payload]
section
variable {P:Program}{ty:TypeId}{Y:Lay}{N:Nat}{val:Nat->Nat->Value}{n:Nat}{T c:Goroutine->St->Prop}{p:Nat->Nat}{u:Nat->Mem}{j:Nat}{tag:CTag}{rk:Rk}{d:Nat}{a:Goroutine}{s:St}{w:World}
 {l:Mu} {f:Array Goroutine} {sl:Option (Nat×Nat)} {t:Trace} {D:Nat->WD} {A:Nat->Nat} {K:Nat->Rk} {st y:Int}
theorem WS.running_of{x a st d:Nat}{r:Rk}{g:Goroutine}(h:WS P ty Y N val p u x a st r d g w)(b:st≠1):g.status=.running:=by
 cases h with
 |am h1 _ _=>exact h1.run λ_ _ x=>x.1
 |rel h1=>exact Goes.running (λ_ _ x=>x.1) w (Go.ConcN.RW.refl w) h1
 |tail _ h1=>exact h1.running_of b
theorem someone_runs(I:n7 P ty Y N val n T c l f w t p u j D A K d tag rk a s st y):∃ (i:Nat)(g:Goroutine),f[i]?=some g/\g.status=.running:=by
 rcases I.cs.status with⟨e,_⟩|⟨_,rfl⟩
 ·exact⟨0,a,I.a0,e⟩
 ·have b:=I.mode;cases b with
  |opn h1 _ _=>exact h1.elim
  |reg _ _ k =>
   obtain⟨i,hi,o⟩:=exists_counted k;obtain⟨g,h,e⟩:=I.dM.wk i hi;exact⟨_,g,h,e.running_of (by omega)⟩
  |last L _ m k _ =>
   obtain⟨g,h,e⟩:=I.dM.wk L m;exact⟨_,g,h,e.running_of (by omega)⟩
  |fin h1 _=>exact h1.elim
theorem all_awake(I:n7 P ty Y N val n T c l f w t p u j D A K d tag rk a s st y):∀ g∈f,awake g:=by
 intro g r B;obtain⟨i,hi⟩:=Array.mem_iff_getElem?.1 r;rcases hU i with rfl|b
 ·rw[I.a0] at hi;cases hi;rcases I.cs.status with⟨k,_⟩|⟨k,_⟩ <;> rw[k] <;> simp
 ·rcases bC i Y.base with o|q
  ·obtain⟨m,_,v⟩:=I.dM.lv i g b o hi;rcases v.status with h|h <;> rw[h] <;> simp
  ·obtain⟨x,rfl⟩:∃ x,i=Y.base+x:=⟨i-Y.base,by omega⟩
   have z:x<j:=by
    have:=(ey.1 hi).1;rw[I.dM.size] at this;omega
   obtain⟨g',e,k⟩:=I.dM.wk x z;rw[hi] at e;cases e;rcases k.status with h|h <;> rw[h] <;> simp
theorem n7.at(I:n7 P ty Y N val n T c l f w t p u j D A K d tag rk a s st y)(b:Nat):n7 P ty Y N val n T c l f (w.at b) t p u j D A K d tag rk a s st y :=
 ⟨I.a0,I.cs,I.rely.more (aq _) (λ_ _=>rfl) (λ_ _ _ _ h=>h) rfl rfl rfl,I.lead,I.dM.at b,I.wg,I.mode,I.mu⟩
theorem xT(I:n7 P ty Y N val n T c l f w t p u j D A K d tag rk a s st y){i:Nat}(hi:0<i)(v:i<Y.base){g:Goroutine}(E:f[i]?=some g)(b:g.status=.running) :
  ∃ o ops μ',runT P (crowd f w sl) i=(.next o,ops)/\zA (Y.base+n) μ' l/\Inv P ty Y N val n T c μ' o (t++ops):=by
 obtain⟨m,J,F⟩:=I.dM.lv i g hi v E;cases m with
 |zero=>rw[F.1] at b;cases b
 |succ m =>
  rcases F with⟨L,_⟩|⟨_,g',es,B,r,z⟩
  ·rw[L] at b;cases b
  ·have C:(i==0)=false:=by simp;omega
   have q:=runT_crowd_go (P:=P) (sl:=sl) (i:=i) E (by rw[C];exact r w)
   obtain⟨tag',rk',x,h,H⟩:=I.cs.wokenBy g g' w;have e:Go.ConcN.Mode j D tag' st y:=I.mode.retag h;refine⟨_,_,(phi n (Vc j D) tag'+Ssum j D+sumTo j A,(upd K i (Rk.nat m),rk')),q,?_,_,w,sl,p,u,j,D,A,_,d,tag',rk',woken P g g' w a,s,st,y,rfl,
    ⟨by rw[Go.ConcN.get_map_set _ _ _ _ (by omega),I.a0];rfl,x,I.rely,I.lead,I.dM.leave hi v B z,I.wg,e,rfl⟩⟩
   rw[I.mu,Go.ConcN.phi_retag n _ h];exact Prod.Lex.right _ (Prod.Lex.left _ _ ⟨i,by omega,by rw[upd_same,J];exact Rk.xO _ s,λk G=>upd_ne K _ G⟩)
theorem Db(H:n<2147483648)(F:∀ g s,c g s->cz (Cx.lead P ty Y.Wg) (Es Y.Wg) (AtW1 P ty Y T c) g s){m:Machine}(h:Inv P ty Y N val n T c l m t) :
  ∃ b ops,stepT P m=(.next b,ops)/\((∃ hm' GA,Fin P Y N val n T hm' GA b (t++ops))∨∃ e,zA (Y.base+n) e l/\Inv P ty Y N val n T c e b (t++ops)):=by
 obtain⟨f,w,sl,p,u,j,D,A,K,Q,tag,rk,a,s,st,y,rfl,I⟩:=h;obtain⟨i,g,O,q,v,k,o⟩:=crowd_pick (P:=P) (w:=w) (sl:=sl) (all_awake I) (someone_runs I);rw[o];have B:=I.at O;have M:j<=n:=by have:=I.cs.bound;omega
 rcases hU i with rfl|r
 ·rw[I.a0] at v;cases v;exact C9 (sl:=q) B H F k
 ·rcases bC i Y.base with z|L
  ·obtain⟨b,ops,e,C,E,G⟩:=xT (sl:=q) B r z v k;exact⟨b,ops,C,.inr ⟨e,E,G⟩⟩
  ·obtain⟨x,rfl⟩:∃ x,i=Y.base+x:=⟨i-Y.base,by omega⟩
   have J:x<j:=by
    have:=(ey.1 v).1;rw[I.dM.size] at this;omega
   obtain⟨b,ops,e,C,E,G⟩:=stepWorker (sl:=q) B H M I.cs.bound J v k;exact⟨b,ops,C,.inr ⟨e,E,G⟩⟩
theorem AP(z:n<2147483648)(o:∀ g s,c g s->cz (Cx.lead P ty Y.Wg) (Es Y.Wg) (AtW1 P ty Y T c) g s):∀ (l:Mu)(m:Machine)(t:Trace),Inv P ty Y N val n T c l m t ->
  ∃ M i k hm' GA,runNT P M m t=(.next i,k)/\Fin P Y N val n T hm' GA i k:=by
 intro l
 induction (I8 (Y.base+n)).apply l with
 |intro l _ B =>
  intro m t h;obtain⟨b,ops,r,e⟩:=Db z o h;rcases e with⟨hm',GA,e⟩|⟨q,e,x⟩
  ·exact⟨1,b,t++ops,hm',GA,by simp[runNT,r],e⟩
  ·obtain⟨M,i,k,hm',GA,k1,v⟩:=B q e b (t++ops) x;exact⟨M+1,i,k,hm',GA,by simp only[runNT,r];exact k1,v⟩
theorem K2.fork{g:Goroutine}{s s0:St}{T':Goroutine->St->Prop}(kc:Nat)(QH:0<kc)(Wg C:Nat)(hn:n<2147483648)(sj:C≠Wg)(hg:eX s s0)(o4:g.status=.running)
  (hC:∃ L∈s.β,C∈L.bs) (hW:∃ L∈s.β,Wg∈L.bs) (H:∀ b,(s.own b∨∃ L∈s.β,b∈L.bs)->b<s.w.heap.size)
  (h0:∀ b,(b=C∨b=Wg)->¬s0.own b/\(∀ L∈s0.β,b∉L.bs)/\∀ o,s0.M b o=none) (W:WgAt ty Wg s.w 0 0) (C8:PayAt C N s.w)
  (h:∀ Y:Lay,Y.Wg=Wg->Y.C=C->Y.kc=kc->∃ T c,(∀ g s,c g s->cz (Cx.lead P ty Y.Wg) (Es Y.Wg) (AtW1 P ty Y T c) g s)/\Spawns P ty Y N val n c n g s0 /\
   ∀ g' s',T g' s'->ee s'->PayAt C N s'.w->(∀ x,x<n->∀ i,i<kc->s'.w.cell? ⟨C,kc*x+i,none⟩=some (val x i))->C<s'.w.heap.size->(∀ b,(b=C∨b=Wg)->¬s'.own b/\(∀ L∈s'.β,b∉L.bs)/\∀ o,s'.M b o=none) ->
    ∃ s2,T' g' s2/\s2.w=s'.w/\ee s2/\∀ Sh:Nat->Prop,Clear Sh s'->¬Sh C->Clear Sh s2):K2 P g s T':=by
 intro Sh f sl t q p ha z hP hc LA;have U:¬Sh C:=λhs=>let ⟨L,z,m⟩:=hC;hc.β C hs L z m
 have OK:¬Sh Wg:=λhs=>let ⟨L,z,m⟩:=hW;hc.β Wg hs L z m
 have Jb:=H C (.inr hC);have OL:=H Wg (.inr hW);have Da:1<=f.size:=(ey.1 ha).1
 let Y:Lay:={ Sh:=Sh,T0:=t.size,Wg:=Wg,C:=C,base:=f.size,kc:=kc }
 obtain⟨T,c,Np,E,OM⟩:=h Y rfl rfl rfl;have X:=hc.ghost hg;have H6:ee s0:=.ghost hg;have I:gk Y (λ_=>0) (λ_ _ _=>none) 0 s0:=by
  refine⟨λb m=>⟨rfl,λe=>?_,λe=>?_,λe=>?_,by rw[hg.w];exact H b (hg.blk b m)⟩,λb o v Q=>⟨rfl,λe=>?_,λe=>?_,λe=>?_,ee.lt H6 Q⟩,λx B=>absurd B (fR x)⟩
  ·obtain⟨q1,q2,_⟩:=h0 b (.inl e);rcases m with m|⟨L,z,m⟩
   ·exact q1 m
   ·exact q2 L z m
  ·obtain⟨q1,q2,_⟩:=h0 b (.inr e);rcases m with m|⟨L,z,m⟩
   ·exact q1 m
   ·exact q2 L z m
  ·rcases m with m|⟨L,z,m⟩
   ·exact X.own b e m
   ·exact X.β b e L z m
  ·rw[(h0 b (.inl e)).2.2 o] at Q;cases Q
  ·rw[(h0 b (.inr e)).2.2 o] at Q;cases Q
  ·rw[X.M b e o] at Q;cases Q
 have R:Com P ty Y N val (λ_=>0) (λ_ _ _=>none) 0 f s.w t (λ_=>⟨0,0,0⟩) (λ_=>0) (λi=>Rk.nat (q i)) 0 :=
  ⟨rfl,λi g hi _ HT=>⟨q i,rfl,z.old i g hi HT⟩,z.above,λx B=>absurd B (fR x),TL.start hP rfl Da sj OK U,LA,hP.hears,λx B=>absurd B (fR x),λx B=>absurd B (fR x),λx B=>absurd B (fR x),λx B=>absurd B (fR x),
   C8,⟨_,_,W⟩,OL,Jb,hc.lt,QH,λx B=>absurd B (fR x)⟩
 have S:aX s0 { s0 with w:=s.w }:=by
  have:=aX.qn H6;rw[<-hg.w];exact this
 have G:∃ l,Inv P ty Y N val n T c l (crowd f s.w sl) t:=by
  cases n with
  |zero =>
   obtain⟨r,E⟩:=E;exact⟨_,f,s.w,sl,_,_,0,_,_,_,0,.kd,r,g,s0,_,_,rfl,⟨ha,.kd E,S,I,R,W,by have:=Go.ConcN.Mode.opn (j:=0) (D:=λ_=>(⟨0,0,0⟩:WD)) (tag:=.kd) ab (λi hi=>absurd hi (fR i)) (by simp);simpa[Vc,sumTo,pend] using this,rfl⟩⟩
  |succ n =>
   obtain⟨r,E⟩:=E;have Ns:CS P ty Y N val (n+1) T c (.sp n 5) (n+1-(n+1)) r 0 g s0:=.skd (Nat.lt_succ_self n) E;rw[Nat.sub_self] at Ns;exact⟨_,f,s.w,sl,_,_,0,_,_,_,0,.sp n 5,r,g,s0,_,_,rfl,⟨ha,Ns,S,I,R,W,by have:=Go.ConcN.Mode.opn (j:=0) (D:=λ_=>(⟨0,0,0⟩:WD)) (tag:=.sp n 5) ab (λi hi=>absurd hi (fR i)) (by simp);simpa[Vc,sumTo,pend] using this,rfl⟩⟩
 obtain⟨l,G⟩:=G;obtain⟨M,m',t',hm',GA,V,⟨Sz,w',SA,a',J,q',rfl,Nr,_,hT,zo,LN,eR,SB,ON,SC,O,SD,SE,SF⟩⟩:=AP hn Np l _ _ G;have Z:gk Y hm' GA n { J with w:=w' }:=LN.rely zo.size;have F:∀ b,(b=C∨b=Wg∨Sh b)->¬J.own b/\(∀ L∈J.β,b∉L.bs)/\∀ o,J.M b o=none:=by
  intro b m;have key:∀ x,(hm' x=0/\x≠Y.C/\x≠Y.Wg/\¬Y.Sh x/\x<w'.heap.size)->x≠b:=by
   rintro x ⟨_,h1,h2,h3,_⟩ rfl;rcases m with e|e|e
   ·exact h1 e
   ·exact h2 e
   ·exact h3 e
  refine⟨λho=>key b (Z.blk b (.inl ho)) rfl,λL z Cl=>key b (Z.blk b (.inr ⟨L,z,Cl⟩)) rfl,λo=>?_⟩
  cases hM:J.M b o with
  |none=>rfl
  |some v=>exact absurd rfl (key b (Z.M b o v hM))
 obtain⟨s2,SG,Ja,I7,Lh⟩:=OM a' { J with w:=w' } hT (λb o v Q=>zo.mem b o v Q) SC O SD (λb m=>F b (m.elim .inl λe=>.inr (.inl e)))
 have xu:Clear (λb=>Sh b∨b=Wg) { J with w:=w' }:=by
  have k:∀ b,(Sh b∨b=Wg)->¬J.own b/\(∀ L∈J.β,b∉L.bs)/\∀ o,J.M b o=none:=λb m=>F b (m.elim (λe=>.inr (.inr e)) λe=>.inr (.inl e))
  exact⟨λb m=>(k b m).1,λb m=>(k b m).2.1,λb m=>(k b m).2.2,λb m=>m.elim (SF b) λe=>by rw[e];exact SE⟩
 refine⟨M,_,Sz,a',s2,SA,t',q',by rw[Ja];exact V,I7,Nr,eR,by rw[Ja];exact SB,Lh _ xu (λe=>e.elim U λe=>sj e),ON,SG⟩
end
end Go.AM
