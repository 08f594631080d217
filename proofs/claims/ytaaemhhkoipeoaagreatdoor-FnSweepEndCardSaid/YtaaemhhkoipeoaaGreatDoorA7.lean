/- Part 7. No condition. -/
import Derived.Test.YtaaemhhkoipeoaaGreatDoorA6
set_option linter.all false
set_option maxHeartbeats 8000000
open Go.Proofs
open Go renaming Value → aj, TypeId → av, Frame → aU, Operand → aE, World → aA, Program → aK, Oper → aD, Goroutine → ak
open Bool renaming true → ab, false → ae
open Go.Proofs.Tryz renaming prog → ag
namespace Go.AM
variable {n k l b i j:Nat}{E:av}{L:Array Bool}{M:Mem}{N:Nat}{P:aK}{S:ak->St->Prop}{c:Code}{g:ak}{o:aD}{s:St}{t:av}{v:aj}{w:aA}{x y:aE}{α:Type}{η:aE->D}{ι:Type}{σ:List bm}{φ:Fr}{all:List aD}{jN:Array av}{cap:List C}{cy:List D}{cs:List aU}{ds:List (Nat×Bool)}{es:Nat->List C}{fo:aE}{gs:Array ak}{obs:List Prop}{off:Nat}{op:BinOp}{ops:Array aD}{ps:List Prop}{rest:List aD}{s':St}{tx:Bool}{ty:av}{val:Nat->Nat->aj}{vs:List aj}{w':aA}{xs:Array aE}{σ' σs:List bm}{res:ι->D}{σ1:ι->List bm}
variable {CT:List (Nat×dv)}{K:List It}{Qf:Post}{T:List (Nat×TI)}{ie:TI}
namespace R1
def Dk.kK{w:br}(h:Dk w):∀j,Dk (kK w j)
 |0=>h
 |j+1=>(h.kK j).step
def Gx{w:br}(j:Nat):kK w (j+1)=eC (kK w j):=rfl
section
variable {X:Cx ag}
abbrev enS(w x:br):List bm:=[n9 x,.cells 27 [iN,iN,iN]]
def AU(k:Int)(w:br)(t:Dk w):Ev X 16 [dI k,nu w] [] (R7 (E7 k w).1 (E7 k w).2) []:=by
 refine Ev.mb Tryz.func16 rfl rfl rfl λF=>?_;have o:bR X [(10,gR)]:=.cons iz .nil;have u:=t.sz;have i:=u.m;have c:(w.1,w.2.1,w.2.2)=w:=rfl;unfold E7;cases g:dz k w with
 |false =>
  refine aZ o [(11,ab)] rfl ?_ ?_
  .simp only[ar,cP.list_fn,cP.au,cX.list_fn,cX.au,cH.list_fn,cH.au,cI.list_fn,cI.au,c,g,i,fE,aC,aB]
  refine AK.freeze 4 1 rfl rfl rfl ?_;exact AK.lD tok [] rfl (by simp) rfl rfl rfl jF
 |true =>
  rw[bc rfl];refine aZ o [(11,ae)] rfl ?_ ?_
  .simp only[ar,cP.list_fn,cP.au,cX.list_fn,cX.au,cH.list_fn,cH.au,cI.list_fn,cI.au,c,g,i,er,aC,aB]
  refine AK.bS 2 (λj=>j<=w.2.2.length) (λ_:Nat=>[(3,.e (.one (.ptr 0 0))),(4,.e (.one (.ptr 1 0)))]) (λj=>enS w (kK w j)) (λj=>w.2.2.length-j) 0 rfl ?_ rfl ?_ rfl (by omega) ?_
  .simp
  .simp[kK]
  intro j v;have A:=t.kK j;have b:=A.sz;obtain⟨D,C,p,E⟩:=tF (w:=w) (j:=j) v;by_cases h:j<w.2.2.length
  .have d:0<(kK w j).2.2.length:=by rw[p];simp;omega
   have z:x4 (kK w j)=ab:=by unfold x4;cases B:(kK w j).2.2 with
    |nil=>rw[B]at d;simp at d
    |cons a r=>rfl
   have f:=yV (X:=X) (kK w j) b.s b.n b.l;rw[<-Gx]at f;obtain⟨y,q⟩:∃y,y=kK w (j+1):=⟨_,rfl⟩;rw[<-q]at f;generalize kK w j=x at *;refine bE [(16,ab)] rfl (by simp;omega) ?_
   refine AK.cQ f [] rfl ?_;refine c6 rfl aq (AK.aQ (j+1) rfl (by simp) (by rw[q];simp) h (by omega))
  obtain rfl:j=w.2.2.length:=by omega
  have d:(kK w w.2.2.length).2.2.length=0:=by rw[p];simp
  have c2:bR X [(32,sD)]:=.cons vg .nil;generalize kK w w.2.2.length=x at *;refine bE [(16,ae)] rfl (by simp[d]) (AK.leaveD rfl rfl ?_);refine cu c2 rfl ?_ ?_
  .simp only[ar,cP.list_fn,cP.au,cX.list_fn,cX.au,cH.list_fn,cH.au,b.s,aC,aB]
  refine AK.freeze 4 1 rfl rfl rfl ?_;exact AK.lD tok [] rfl (by simp[cP.list_fn,cX.list_fn,cH.list_fn]) rfl rfl rfl jF
end
abbrev Xt:bw:=([],[],[])
abbrev Xu(w x:br)(e:bw):List bm:=[n9 w,th e,th e,n9 x]
def w6(m:Nat)(b:Nat->Int)(J:Bytes b)(_:m<=9223372036854775807):Ev (Cx.beside ag) 4 [.e (.one (.c (.sl ae 1 m (uz b))))] [] (dB ab) []:=by
 refine Ev.bQ Tryz.func4 rfl λR=>?_;by_cases O:1048576<m
 .refine aY [(15,ab)] rfl (by simp;omega) (AK.bq rfl ?_);simp
 refine aY [(15,ae)] rfl (by simp;omega) ?_;refine AK.cP (E5 m b J (by omega)) [] rfl (λ_=>rfl) ?_;rintro⟨w,t⟩;have E:=t.sz;have k:=AU (X:=Cx.beside ag) 7 w t;have n:=AV 7 w t.Sd E.s;unfold E7 at k n;refine bA rfl aq ?_;cases z:dz 7 w with
 |false =>
  rw[z,aW (by simp)]at k n;refine AK.cQ k [] rfl ?_;refine bA rfl aq ?_;refine AK.cQ n [] rfl ?_;have c1:bR (Cx.beside ag) [(18,mH [l4 Xt,l4 Xt] (dB ab))]:=.cons (nZ (n7 Xt ⟨by simp,by simp,by simp,λx h=>absurd h (by simp),by simp⟩)) .nil;refine aZ c1 [(36,ae),(42,ae),(45,ab),(49,ab)] rfl ?_ (AK.bq rfl ?_)
  .simp
  .simp
 |true =>
  have C:=gf.1 z;rw[z,bc rfl]at k n;have f:=t.kK w.2.2.length;have o:=C.kK w.2.2.length;obtain⟨_,_,g,_⟩:=tF (w:=w) (j:=w.2.2.length) (ba _);rw[pA]at g;obtain⟨d,q⟩:∃x,x=kK w w.2.2.length:=⟨_,rfl⟩;rw[<-q]at k n f o g;have p:=f.sz.s;have v:=uf.2 o.toAH;refine AK.cQ k [] rfl ?_;refine bA rfl aq ?_;refine AK.cQ n [] rfl ?_;have c1:bR (Cx.beside ag) [(18,mH [l4 d.1,l4 d.1] (dB ab))]:=.cons (nZ (n7 d.1 p)) .nil;refine aZ c1 [(36,ae),(42,ae),(45,ae)] rfl (by simp) ?_
  have M:=E.l;refine AK.bS 4 (λi=>i<=w.2.2.length) (λi:Nat=>[(3,dI 7),(4,.e (.one (.ptr 0 0))),(7,.e (.one (.ptr 2 0))),(9,.e (.one (.ptr 3 0))),(10,dI i)])
   (λi=>Xu w (kK w i) d.1) (λi=>w.2.2.length-i) 0 rfl ?_ rfl ?_ rfl (by omega) ?_
  .simp
  .simp[kK]
  intro j K;have H:=t.kK j;obtain⟨P,N,I,Q⟩:=tF (w:=w) (j:=j) K;by_cases h:j<w.2.2.length
  .have D:0<(kK w j).2.2.length:=by rw[I];simp;omega
   have B:x4 (kK w j)=ab:=by unfold x4;cases L:(kK w j).2.2 with
    |nil=>rw[L]at D;simp at D
    |cons a r=>rfl
   have A:=mM 7 (kK w j) H.Sd H.sz.s;have G:stepW 7 (kK w j)=(kK w (j+1),ab):=by unfold stepW;rw[bc (gf.2 (C.kK j)),B,Gx]
   rw[G]at A;obtain⟨y,F⟩:∃y,y=kK w (j+1):=⟨_,rfl⟩;rw[<-F]at A;clear G;generalize kK w j=x at *;refine bE [(59,ab)] rfl (by simp;omega) ?_
   refine AK.cQ A [] rfl ?_;refine bE [(69,ae)] rfl ?_ (AK.aQ (j+1) rfl (by simp) (by rw[F];simp) h (by omega));simp[bt];omega
  obtain rfl:j=w.2.2.length:=by omega
  rw[<-q];have c2:bR (Cx.beside ag) [(18,mH [l4 d.1,l4 d.1] (dB ab)),(19,tu)]:=.cons (nZ (n7 d.1 p)) (.cons yL .nil);refine bE [(59,ae)] rfl (by simp) (AK.leaveD rfl rfl ?_);have u:(d.1.1,d.1.2.1,d.1.2.2)=d.1:=rfl;refine aZ c2 [(75,ab),(81,ab)] rfl ?_ (AK.bq rfl ?_)
  .simp only[ar,cP.list_fn,cP.au,cX.list_fn,cX.au,cH.list_fn,cH.au,u,v,g,f.Sd.toPc,aC,aB];and_intros<;>first|rfl|simp
  .simp only[ar,cP.list_fn,cX.list_fn,cH.list_fn,u,v]
end R1
end Go.AM
