/-
  Part 5: a machine of values without memory, sound over the model, and contracts of functions. No condition.
-/
import Derived.Test.YtemefbgdmkionaaGreatDoorA4
import Derived.Maps.RangeRun
import Derived.Lib.Bytealg
import Derived.Conc.DeferLaws
set_option linter.unusedVariables false
set_option linter.unusedSimpArgs false
set_option linter.defProp false
set_option linter.deprecated false
open Go renaming Value → ak
open Option renaming some → aa
open Go renaming Program → an
open Go renaming TypeId → ar
open Bool renaming true → ab
open Option renaming none → af
open Go renaming Oper → av
open Bool renaming false → ae
open Go renaming undef → aj
open Go.World renaming cell? → aY
open List renaming length_take → bn
open List renaming getD_eq_getElem?_getD → ag
open Go.Sem renaming events_bind → aP
open Go.Result renaming evThen_ok → aV
open Go renaming execOp → aw
open Go renaming World → az
open Go renaming Goroutine → au
open Go renaming stepG → aK
open Go renaming Frame → aQ
open List renaming range → bc
open Go renaming FuncId → aX
open Nat renaming beq → aA
open Nat renaming ble → bw
open Go.Op renaming bytesLess → bj
open Go.Proofs.Tryz renaming prog → ah
open List renaming all_eq_true → bq
open Go.Conc renaming stepG_seq → aD
open Go.Conc renaming stepG_region_end → aC
namespace Go.AM
theorem qM{B:aW}{r:List aW}(h:B≠.rC)(k:nj r=ab):nj (B::r)=ab:=by
 cases B <;> first|exact k|exact absurd rfl h
section
variable {P:an}{X:Cx P}{N:Nat}{Qf:Post}{φ:Fr}{σ:List aW}
theorem AK.jc{Q a:Post}(h:∀ e φ σ,Q e φ σ->a e φ σ):∀ {K:List It}{e:Exit}{φ:Fr}{σ:List aW},AK X N Q K e φ σ->AK X N a K e φ σ
 |[],e,φ,σ,q=>h e φ σ q
 |.code c::K,.normal,φ,σ,q=>AW.mono q λ_ _ _ q=>AK.jc h q
 |.code c::K,.exit _,φ,σ,q=>AK.jc (K:=K) h q
 |.code c::K,.ret,φ,σ,q=>AK.jc (K:=K) h q
 |.code c::K,.panic _,φ,σ,q=>AK.jc (K:=K) h q
 |.code c::K,.goto _,φ,σ,q=>AK.jc (K:=K) h q
 |.code c::K,.outgrown,φ,σ,q=>AK.jc (K:=K) h q
 |.blk id::K,.exit HY,φ,σ,q=>by
  simp only[AK] at q ⊢;split
  .rename_i e;rw[aU e] at q;exact AK.jc (K:=K) h q
  .rename_i e;rw[aO e] at q;exact AK.jc (K:=K) h q
 |.blk id::K,.normal,φ,σ,q=>AK.jc (K:=K) h q
 |.blk id::K,.ret,φ,σ,q=>AK.jc (K:=K) h q
 |.blk id::K,.panic _,φ,σ,q=>AK.jc (K:=K) h q
 |.blk id::K,.goto _,φ,σ,q=>AK.jc (K:=K) h q
 |.blk id::K,.outgrown,φ,σ,q=>AK.jc (K:=K) h q
 |.ops all rest::K,.normal,φ,σ,q=>jE.mono q λ_ _ q=>AK.jc h q
 |.ops all rest::K,.exit _,φ,σ,q=>AK.jc (K:=K) h q
 |.ops all rest::K,.ret,φ,σ,q=>AK.jc (K:=K) h q
 |.ops all rest::K,.panic _,φ,σ,q=>AK.jc (K:=K) h q
 |.ops all rest::K,.goto _,φ,σ,q=>AK.jc (K:=K) h q
 |.ops all rest::K,.outgrown,φ,σ,q=>AK.jc (K:=K) h q
theorem AK.Qp{id:Nat}{A:Fr->List aW->Prop}{b a c:List It}(h1:kO id b=af)(h2:kO id a=aa c)(k:AK X N Qf c .normal φ σ) :
  AK X N (Fi A (AK X N Qf a)) (.code (.exit id)::b) .normal φ σ :=
 AK.jc (λe d σ' q=>by cases e <;> exact q) (AK.leave (X:=X) (N:=N) (Qr:=Qf) (A:=A) (φ:=φ) (σ:=σ) h1 h2 k)
end
end Go.AM
namespace Go.AM.R1
open Go.Proofs
variable {X:Cx ah}
abbrev OZ(t:Bs):C:=.fn (.func 220) [] [.rp [.str t]]
theorem Nl(t:Bs):Ev X 196 [dS t] [] (.e (.one (.c (OZ t)))) []:=by
 refine Ev.body Tryz.func196 rfl rfl rfl λa=>?_
 refine bd [] 5 rfl ay ?_;refine AK.freeze 1 0 rfl rfl rfl ?_;refine bP rfl ay (AK.br rfl ?_);simp[ai]
theorem GH{T:Type}(text:Bs)(r:ck text=ab)(v:text.length<=4000000){j:Nat}{a:Fr}{k:Loop}(g B1 B2:T->aW)(R:Nat->T->Prop)(l:T)(u:R 0 l)(p:∀ t,g t≠.rC/\B1 t≠.rC/\B2 t≠.rC)
  (b:∀ f t,f<text.length->R f t->Yields (ι:={ d:T // R (cutAt text f) d }) X 3 [dI f,dI (cutAt text f)] [g t,B1 t,B2 t,.loop j a k] ab (λd=>[g d.1,B1 d.1,B2 d.1,.loop j a k])) :
  dZ (ι:={ t:T // R text.length t }) X 220 [.e (.one (.ref 3)),.e (.one (.c (.rp [.str text])))] [g l,B1 l,B2 l,.loop j a k] (λ_=>.fW []) (λi=>[g i.1,B1 i.1,B2 i.1,.loop j a k]):=by
 refine dZ.Qm Tryz.func220 rfl rfl rfl (AK.of_code ?_);have m:b5 X [(221,qb aS aI (λs i=>dI (cutAt s i.toNat)) λs i=>[ck s=ab,0<=i,i<=s.length,s.length<=4000000])]:=.cons QY .nil
 refine aE m [] 100 rfl ay ?_;show AW X _ (.loop _) _ _ _;refine AW.loop (S:=T×Nat) (λx=>x.2<=text.length/\R x.2 x.1) (λx=>[(0,.e (.one (.ref 3))),(1,.e (.one (.c (.rp [.str text])))),(3,dI x.2)]) (λx=>[g x.1,B1 x.1,B2 x.1,.loop j a k]) (λx=>text.length-x.2) (l,0) ⟨iK _,u⟩ (dK rfl (by simp[ai,ai.cat])) rfl ?_
 rintro⟨t,f⟩ ⟨q,o⟩;simp only at q o;refine AK.of_code ?_
 by_cases h:f<text.length
 .have n:=nz text f h;refine aE m [(8,ab)] 100 rfl ?_ ?_
  .simp only[ai,r,bh,eq_self,aG,aF];omega
  refine AK.yield (b f t h o) rfl rfl rfl rfl rfl rfl λd=>?_
  refine aE m [(16,ae)] 100 rfl ?_ ?_
  .simp[ai]
  refine⟨(d.1,cutAt text f),⟨n.2.1,d.2⟩,?_,dK rfl (by simp[ai,ai.cat]),rfl⟩
  simp only;omega
 .have e:f=text.length:=by omega
  subst e;refine aE m [(8,ae)] 100 rfl ?_ ?_
  .simp[ai]
  refine AK.Qp rfl rfl ?_;exact⟨⟨t,o⟩,.inr rfl,rfl,qM (p t).1 (qM (p t).2.1 (qM (p t).2.2 rfl)),[],.fW [],[],rfl,rfl,rfl,ay⟩
theorem vk{l:List Bs}{i:Nat}(h:i<l.length):l.getD i []=l[i]:=by simp[ag,aR h]
theorem QQ(a b:List Bs):Ev X 146 [cS.sl a,cS.sl b] [] (dB (a==b)) []:=by
 refine Ev.body Tryz.func146 rfl rfl rfl λm=>?_
 have k:=m.sl 0 rfl
 by_cases f:a.length=b.length
 .refine bd [(10,ae)] 100 rfl (by simp[ai,f]) ?_
  refine AK.j4 (λi=>i<=a.length/\∀ j,j<i->a.getD j []=b.getD j []) (λi:Nat=>[(0,cS.sl a),(1,cS.sl b),(12,dI a.length),(13,dI i)]) (λ_=>[]) (λi=>a.length-i) 0 rfl ?_ rfl ay ⟨by omega,by omega⟩ ?_
  .simp[ai.cat,ai,a9.same]
  rintro i ⟨hi,c⟩
  by_cases h:i<a.length
  .by_cases d:a.getD i []=b.getD i []
   .refine bd [(14,ab),(24,ae)] 100 rfl ?_ (AK.gw (i+1) rfl ?_ rfl ay ?_ ?_)
    .simp only[ai,bu];have e:(a.getD i cS.bU==b.getD i cS.bU)=ab:=fJ.2 d;exact⟨by simp only[bD];omega,by rw[e];rfl,by omega,by omega,by omega,by omega,b9 (by omega)⟩
    .simp[ai.cat,ai,a9.same]
    .refine⟨by omega,λj g=>?_⟩
     rcases fU.1 g with g|rfl
     .exact c j g
     .exact d
    .omega
   .refine bd [(14,ab),(24,ab)] 100 rfl ?_ (AK.iq (cn.zero rfl ?_))
    .simp only[ai,bu];have e:(a.getD i cS.bU==b.getD i cS.bU)=ae:=dx.2 d;exact⟨by rw[e];rfl,by omega,by omega,by omega,by omega,b9 (by omega)⟩
    .have:(a==b)=ae:=dx.2 (by rintro rfl;exact d rfl)
     simp[ai,this]
  .refine bd [(14,ae)] 100 rfl (by simp[ai];omega) (AK.leave rfl rfl ?_)
   refine bP rfl ay (AK.br rfl ?_);have:a=b:=pF f λj d l=>by rw[<-vk d,<-vk l];exact c j (by omega)
   simp[ai,this]
 .refine bd [(10,ab)] 100 rfl ?_ (AK.br rfl ?_)
  .simp[ai];omega
  .have:(a==b)=ae:=dx.2 (by rintro rfl;exact f rfl)
   simp[ai,this]
theorem lE:∀ (l:List UInt8)(c:UInt8),Lib.indexByte l c<l.length∨Lib.indexByte l c=-1
 |[],c=>.inr (by rw[Lib.indexByte.eq_def])
 |b::l,c=>by
  have d:=lE l c;rw[Lib.indexByte.eq_def];simp only[db];split
  .left;omega
  .split
   .right;rfl
   .rename_i e a
    left
    simp at a;omega
set_option maxRecDepth 20000 in
theorem AO(s:Bs)(c:UInt8):Ev X 239 [dS s,dU c.toNat] [] (dI (Lib.indexByte s c)) []:=by
 refine Ev.body Tryz.func239 rfl rfl rfl λq=>?_
 have t:=q.str 0 rfl;refine bP rfl ay ?_;refine AK.one (x:=dI (Lib.indexByte s c)) (σ':=[]) ?_ rfl ?_
 .refine OA.lJ (λ_ _ _ _=>dJ (by rfl)) ?_
  refine bR.n5 λst ρ z l=>?_
  have n:=ga (l (.tmp 5));have p:=ga (l (.tmp 6));generalize g:ρ (.tmp 5)=v1 at n;generalize i:ρ (.tmp 6)=v2 at p;cases n with
  |str e1 l1 =>
  cases p with
  |int l2 =>
  have j:ρ (.func 246)=.func (.func 246) #[] #[]:=by
   have:=ga (l (.func 246));generalize ρ (.func 246)=v at this;cases this with
   |fn fs cs a b u C B c2 d1 d2 =>
    have:fs=[]:=gh a;subst this;have:cs=[]:=gh b;subst this;rfl
  have f:(callFunc 246 #[.string ‹ByteArray›,.int .u8 c.toNat]).run ah st.w=.ok (.value (.int .i64 (Lib.indexByte s c))) st.w:=by
   rw[run_callFunc_extern Tryz.func246 (by kernel_rfl) (by kernel_rfl) (by kernel_rfl) (e:=Extern.BytealgIndexByte.indexByte) (by kernel_rfl),Lib.run_indexByteString]
   subst e1;simp
  have k:cR ah (Extern.BytealgIndexByte.indexByte #[.string ‹ByteArray›,.int .u8 c.toNat]):=by
   refine cR.bind (m:=Extern.Bytes.bytesOf (.string ‹ByteArray›)) (λ_ _=>rfl) λb=>cR.bind (m:=Extern.Bytes.asByte (.int .u8 c.toNat)) (λ_ _=>?_) λd=>?_
   .simp[Extern.Bytes.asByte]
   .skip
    split <;> exact .pure
  have h:=lR Tryz.func246 (by kernel_rfl) (by kernel_rfl) (by kernel_rfl) (e:=Extern.BytealgIndexByte.indexByte) (by kernel_rfl) _ k st.w #[]
  refine⟨.int .i64 (Lib.indexByte s c),?_,Rd.int ?_,?_⟩
  rotate_left 2
  .intro y o;simp[aw,resolve,Deferred.ofValue,invoke,g,i,j,h] at o;subst o;exact .inr ⟨_,rfl⟩
  .simp[aw,resolve,Deferred.ofValue,invoke,g,i,j,f]
  .have A:=Lib.indexByte_ge s c;have r:=lE s c;simp only[bD];omega
 .refine bP rfl ay (AK.br rfl ?_);simp[ai]
end Go.AM.R1
namespace Go.AM
abbrev N7(a b:Bs)(c:Bool):D:=.fW [.one (.c (.str a)),.one (.c (.str b)),.one (.c (.bool c))]
namespace R1
open Go.Proofs
variable {X:Cx ah}
theorem xP(s:Bs) (c:Int)(h:0<=c/\c<=255):Ev X 239 [dS s,dU c] [] (dI (Lib.indexByte s (UInt8.ofNat (Int.toNat c)))) []:=by
 have e:c=((UInt8.ofNat c.toNat).toNat:Int):=by
  rw[UInt8.toNat_ofNat'];omega
 have:=AO (X:=X) s (UInt8.ofNat c.toNat);rw[<-e] at this;exact this
def RY:dC:=λargs σ=>match args,σ with
 |[.e (.one (.c (.str a))),.e (.one (.c (.int .u8 b)))],[]=>aa (dI (Lib.indexByte a (UInt8.ofNat (Int.toNat b))),[],[0<=b/\b<=255])
 |_,_=>af
theorem t239:eb X 239 RY:=by
 intro args σ res σ' obs h a;unfold RY at h;split at h
 .cases h;exact(xP _ _ (a)).args (λ_ _ r=>r)
 .cases h
def U3:List (Nat×dC):=(239,RY)::ct7
theorem Lc:b5 X U3:=b5.cons t239 (YJ)
def iG(s:Bs):Int:=Lib.indexByte s 47
theorem Ld(s:Bs):Ev X 232 [dS s,dS [47]] [] (dI (iG s)) []:=by
 refine Ev.body Tryz.func232 rfl rfl rfl λa=>?_
 by_cases h:s=[47]
 .subst h;refine aE Lc [(18,ae),(22,ab)] 100 rfl ?_ (AK.br rfl ?_)
  .simp[ai]
  .simp[ai,iG,Lib.indexByte.eq_def]
 .refine aE Lc [(18,ae),(22,ae),(26,ab)] 100 rfl ?_ (AK.br rfl ?_)
  .simp[ai,cA,cv];exactλe=>h e.symm
  .simp[ai,iG,iV]
def RZ:dC:=λargs σ=>match args,σ with
 |[.e (.one (.c (.str a))),.e (.one (.c (.str [47])))],[]=>aa (dI (iG a),[],[])
 |_,_=>af
theorem t232:eb X 232 RZ:=by
 intro args σ res σ' obs h a;unfold RZ at h;split at h
 .cases h;exact Ld _
 .cases h
def U4:List (Nat×dC):=(232,RZ)::U3
theorem Le:b5 X U4:=b5.cons t232 (Lc)
def jC(s:Bs):Bs:=if 0<=iG s then s.take (iG s).toNat else s
def mK(s:Bs):Bs:=if 0<=iG s then s.drop ((iG s).toNat+1) else []
def j6(s:Bs):Bool:=decide (0<=iG s)
theorem Lf(s:Bs):Ev X 222 [dS s,dS [47]] [] (N7 (jC s) (mK s) (j6 s)) []:=by
 refine Ev.body Tryz.func222 rfl rfl rfl λb=>?_
 have d:=b.str 0 rfl;have a:=lE s 47
 change iG s<s.length∨iG s=-1 at a
 by_cases h:0<=iG s
 .have c:(iG s+1).toNat=(iG s).toNat+1:=by omega
  refine aE Le [(12,ab)] 100 rfl ?_ (AK.br rfl ?_)
  .simp[ai,h,bD];omega
  .simp[ai,ai.cat,jC,mK,j6,h,rT,c]
 .refine aE Le [(12,ae)] 100 rfl ?_ (AK.br rfl ?_)
  .simp[ai];omega
  .simp[ai,ai.cat,jC,mK,j6,h]
def R0:dC:=λargs σ=>match args,σ with
 |[.e (.one (.c (.str a))),.e (.one (.c (.str [47])))],[]=>aa (N7 (jC a) (mK a) (j6 a),[],[])
 |_,_=>af
theorem t222:eb X 222 R0:=by
 intro args σ res σ' obs h a;unfold R0 at h;split at h
 .cases h;exact Lf _
 .cases h
def U5:List (Nat×dC):=(222,R0)::U4
theorem Ph:b5 X U5:=b5.cons t222 (Le)
theorem R2(s:Bs):Ev X 197 [dS s,dS [47]] [] (N7 (jC s) (mK s) (j6 s)) []:=by
 refine Ev.body Tryz.func197 rfl rfl rfl λa=>?_
 refine aE Ph [] 100 rfl ay (AK.br rfl ?_);simp[ai,ai.cat]
def R3:dC:=λargs σ=>match args,σ with
 |[.e (.one (.c (.str a))),.e (.one (.c (.str [47])))],[]=>aa (N7 (jC a) (mK a) (j6 a),[],[])
 |_,_=>af
theorem t197:eb X 197 R3:=by
 intro args σ res σ' obs h a;unfold R3 at h;split at h
 .cases h;exact R2 _
 .cases h
def cy(s:Bs):Bool:=decide (s.length=1)&&decide (97<=cv s 0)&&decide (cv s 0<=101)
theorem uI(s:Bs):Ev X 198 [dS s] [] (dB (cy s)) []:=by
 refine Ev.body Tryz.func198 rfl rfl rfl λc=>?_
 by_cases a:s.length=1
 .by_cases b:97<=cv s 0
  .refine bd [(5,ab),(9,ab)] 100 rfl ?_ (AK.br rfl ?_)
   .simp only[ai,bh];simp[a,cA,b]
   .show decide (cv s 0<=101)=cy s;simp[cy,a,b]
  .refine bd [(5,ab),(9,ae)] 100 rfl ?_ (AK.br rfl ?_)
   .simp only[ai,bY];simp[a,cA];omega
   .simp[ai,cy,b]
 .refine bd [(5,ae)] 100 rfl ?_ (AK.br rfl ?_)
  .simp[ai];omega
  .simp[ai,cy,a]
def R4:dC:=λargs σ=>match args,σ with
 |[.e (.one (.c (.str a)))],[]=>aa (dB (cy a),[],[])
 |_,_=>af
theorem t198:eb X 198 R4:=by
 intro args σ res σ' obs h a;unfold R4 at h;split at h
 .cases h;have _:=a;exact(uI _ ).args (λ_ _ r=>r)
 .cases h
def U6:List (Nat×dC):=(197,R3)::(198,R4)::U5
theorem FW:b5 X U6:=b5.cons t197 (b5.cons t198 (Ph))
def eT(s:Bs):Bool:=cy (jC s)&&(!j6 s||cy (mK s))
theorem ED(s:Bs):Ev X 148 [dS s] [] (dB (eT s)) []:=by
 refine Ev.body Tryz.func148 rfl rfl rfl λc=>?_
 cases a:cy (jC s) with
 |false =>
  refine aE FW [(13,ae)] 100 rfl ?_ (AK.br rfl ?_)
  .simp[ai,a]
  .simp[ai,eT,a]
 |true =>
  cases b:j6 s with
  |false =>
   refine aE FW [(13,ab),(15,ae)] 100 rfl ?_ (AK.br rfl ?_)
   .simp[ai,a,b]
   .simp[ai,eT,a,b]
  |true =>
   refine aE FW [(13,ab),(15,ab)] 100 rfl ?_ (AK.br rfl ?_)
   .simp[ai,a,b]
   .simp[ai,eT,a,b]
def R5:dC:=λargs σ=>match args,σ with
 |[.e (.one (.c (.str a)))],[]=>aa (dB (eT a),[],[])
 |_,_=>af
theorem t148:eb X 148 R5:=by
 intro args σ res σ' obs h a;unfold R5 at h;split at h
 .cases h;have _:=a;exact(ED _ ).args (λ_ _ r=>r)
 .cases h
theorem CL(s:Bs):Ev X 195 [dS s] [] (dB (ck s)) []:=by
 refine Ev.body Tryz.func195 rfl rfl rfl λe=>?_
 have g:=e.str 0 rfl;refine bP rfl ay ?_;refine AK.j4 (λi=>i<=s.length/\∀ j,j<i->eR (s.getD j 0)=ab) (λi:Nat=>[(0,dS s),(5,dI s.length),(6,dI i)]) (λ_=>[]) (λi=>s.length-i) 0 rfl ?_ rfl ay ⟨by omega,by omega⟩ ?_
 .simp[ai.cat,ai]
 rintro i ⟨hi,a⟩
 by_cases h:i<s.length
 .generalize c:s.getD i 0=b
  by_cases k:b.toNat<97
  .refine bd [(7,ab),(12,ab)] 100 rfl ?_ (AK.iq (cn.zero rfl ?_))
   .simp only[ai,ku,bh,c];omega
   .rw[ai,kH h (by rw[c];simp only[eR,rf,bY];omega)]
  .by_cases f:b.toNat>122
   .refine bd [(7,ab),(12,ae),(17,ab)] 100 rfl ?_ (AK.iq (cn.zero rfl ?_))
    .simp only[ai,ku,bh,bY,c];omega
    .rw[ai,kH h (by rw[c];simp only[eR,rf,bY];omega)]
   .refine bd [(7,ab),(12,ae),(17,ae)] 100 rfl ?_ (AK.gw (i+1) rfl ?_ rfl ay ?_ ?_)
    .simp only[ai,ku,bh,bY,c,bD];omega
    .simp[ai.cat,ai]
    .refine⟨by omega,λj d=>?_⟩
     rcases fU.1 d with d|rfl
     .exact a j d
     .rw[c];simp only[eR,bG,bh];omega
    .omega
 .refine bd [(7,ae)] 100 rfl (by simp[ai];omega) (AK.leave rfl rfl ?_)
  refine bP rfl ay (AK.br rfl ?_);rw[ai,sA (λj d=>a j (by omega))]
def R6:dC:=λargs σ=>match args,σ with
 |[.e (.one (.c (.str a)))],[]=>aa (dB (ck a),[],[])
 |_,_=>af
theorem t195:eb X 195 R6:=by
 intro args σ res σ' obs h a;unfold R6 at h;split at h
 .cases h;have _:=a;exact(CL _ ).args (λ_ _ r=>r)
 .cases h
def U7:List (Nat×dC):=(148,R5)::(195,R6)::U6
theorem Lg:b5 X U7:=b5.cons t148 (b5.cons t195 (FW))
theorem wG(s:Bs):Ev X 145 [dS s] [] (dB (ef s)) []:=by
 refine Ev.body Tryz.func145 rfl rfl rfl λb=>?_
 by_cases a:s.length<=40
 .refine aE Lg [(5,ab)] 100 rfl ?_ (AK.br rfl ?_)
  .simp[ai];omega
  .simp[ai,ef,a]
 .refine aE Lg [(5,ae)] 100 rfl ?_ (AK.br rfl ?_)
  .simp[ai];omega
  .simp[ai,ef,a]
def R7:dC:=λargs σ=>match args,σ with
 |[.e (.one (.c (.str a)))],[]=>aa (dB (ef a),[],[])
 |_,_=>af
theorem t145:eb X 145 R7:=by
 intro args σ res σ' obs h a;unfold R7 at h;split at h
 .cases h;have _:=a;exact(wG _ ).args (λ_ _ r=>r)
 .cases h
def k9(s p:Bs):Bool:=decide (p.length<=s.length)&&(s.take p.length==p)
theorem CM(s p:Bs):Ev X 200 [dS s,dS p] [] (dB (k9 s p)) []:=by
 refine Ev.body Tryz.func200 rfl rfl rfl λb=>?_
 by_cases a:p.length<=s.length
 .refine bd [(9,ab)] 100 rfl ?_ (AK.br rfl ?_)
  .simp[ai,a]
  .simp[ai,k9,a,rT]
 .refine bd [(9,ae)] 100 rfl ?_ (AK.br rfl ?_)
  .simp[ai];omega
  .simp[ai,k9,a]
def R8:dC:=λargs σ=>match args,σ with
 |[.e (.one (.c (.str a))),.e (.one (.c (.str b)))],[]=>aa (dB (k9 a b),[],[])
 |_,_=>af
theorem t200:eb X 200 R8:=by
 intro args σ res σ' obs h a;unfold R8 at h;split at h
 .cases h;have _:=a;exact(CM _ _ ).args (λ_ _ r=>r)
 .cases h
def U8:List (Nat×dC):=(145,R7)::(200,R8)::U7
theorem Pj:b5 X U8:=b5.cons t145 (b5.cons t200 (Lg))
theorem Hy(s p:Bs):Ev X 151 [dS s,dS p] [] (dB (k9 s p)) []:=by
 refine Ev.body Tryz.func151 rfl rfl rfl λa=>?_
 refine aE Pj [] 100 rfl ay (AK.br rfl ?_);simp[ai]
def R9:dC:=λargs σ=>match args,σ with
 |[.e (.one (.c (.str a))),.e (.one (.c (.str b)))],[]=>aa (dB (k9 a b),[],[])
 |_,_=>af
theorem t151:eb X 151 R9:=by
 intro args σ res σ' obs h a;unfold R9 at h;split at h
 .cases h;have _:=a;exact(Hy _ _ ).args (λ_ _ r=>r)
 .cases h
def U9:List (Nat×dC):=(151,R9)::U8
theorem Pk:b5 X U9:=b5.cons t151 (Pj)
end R1
theorem iv.Lh{α:Type}(c:iv α)(l:List α)(k n:Nat)(h:k+n<=l.length):c.list n (jb k (c.fn l))=(l.drop k).take n:=by
 apply pF
 .simp[iv.list];omega
 .intro i h1 h2;have hi:i<n:=by simpa[iv.list] using h1
  simp[iv.list,jb,iv.fn,vm,ag,aR (by omega:k+i<l.length),c.inv]
theorem iv.Li{α:Type}(c:iv α)(l:List α){k n:Nat}:c.fits n (jb k (c.fn l)):=λi _=>by simp[jb,iv.fn,vm,c.inv]
abbrev dR(p x:Bs):D:=.e (.one (.c (.rp [.str p,.str x])))
namespace R1
open Go.Proofs
variable {X:Cx ah}
def under(p q:Bs):Bool:=k9 p (q++[47])
theorem Lj(a:bJ)(p x:Bs)(h:a.1.length<=4000000):Ev X 150 [dP a,dR p x] [] (dB (under p a.1)) []:=by
 refine Ev.body Tryz.func150 rfl rfl rfl λb=>?_
 refine aE Pk [] 100 rfl ?_ (AK.br rfl ?_)
 .simp[ai];omega
 .simp[ai,under]
def Sa:dC:=λargs σ=>match args,σ with
 |[.e (.agg [.c (.str a0),.c (.str a1)]),.e (.one (.c (.rp [.str p,.str x])))],[]=>aa (dB (under p a0),[],[a0.length<=4000000/\a1=a1/\x=x])
 |_,_=>af
theorem t150:eb X 150 Sa:=by
 intro args σ res σ' obs h b;unfold Sa at h;split at h
 .rename_i c a p x
  cases h;exact Lj (c,a) p x b.1
 .cases h
def Va:List (Nat×dC):=(150,Sa)::U9
theorem yU:b5 X Va:=b5.cons t150 (Pk)
abbrev Lk(p x:Bs):D:=.e (.one (.c (.fn (.func 150) [] [.rp [.str p,.str x]])))
def tE(t:List bJ)(p:Bs):Int:=match t.findIdx? (λf=>under p f.1) with|some i=>i|none=>-1
theorem N8{t:List bJ}{p:Bs}{i:Nat}(hi:i<t.length)(h:under p (fj t i)=ab)(a:∀ j,j<i->under p (fj t j)=ae):tE t p=i:=by
 have:t.findIdx? (λf=>under p f.1)=aa i:=by
  rw[uJ];refine⟨hi,?_,λj b=>?_⟩
  .rw[fileAt hi];exact h
  .rw[fileAt (by omega:j<t.length)];simp[a j b]
 rw[tE,this]
theorem yV{t:List bJ}{p:Bs}(a:∀ j,j<t.length->under p (fj t j)=ae):tE t p=-1:=by
 have:t.findIdx? (λf=>under p f.1)=af:=by
  rw[qD];intro f c;obtain⟨j,b,rfl⟩:=dN c;rw[fileAt b];exact a j b
 rw[tE,this]
theorem N9(t:List bJ)(p x:Bs)(g:∀ j,j<t.length->(fj t j).length<=4000000):Ev X 199 [cF.sl t,Lk p x] [] (dI (tE t p)) []:=by
 refine Ev.body Tryz.func199 rfl rfl rfl λe=>?_
 have d:=e.sl 0 rfl;refine aE yU [] 100 rfl ay ?_;refine AK.j4 (λi=>i<=t.length/\∀ j,j<i->under p (fj t j)=ae) (λi:Nat=>[(0,cF.sl t),(1,Lk p x),(7,dI t.length),(8,dI i)]) (λ_=>[]) (λi=>t.length-i) 0 rfl ?_ rfl ay ⟨by omega,by omega⟩ ?_
 .simp[ai.cat,ai,a9.same]
 rintro i ⟨hi,a⟩
 by_cases h:i<t.length
 .have f:=g i h;cases c:under p (fj t i) with
  |true =>
   refine aE yU [(9,ab),(16,ab)] 100 rfl ?_ (AK.iq (cn.zero rfl ?_))
   .simp[-ag,ai,h,ic,c];omega
   .simp[ai,N8 h c a]
  |false =>
   refine aE yU [(9,ab),(16,ae)] 100 rfl ?_ (AK.gw (i+1) rfl ?_ rfl ay ?_ ?_)
   .simp[-ag,ai,h,ic,c,bD];omega
   .simp[ai.cat,ai,a9.same]
   .refine⟨by omega,λj b=>?_⟩
    rcases fU.1 b with b|rfl
    .exact a j b
    .exact c
   .omega
 .refine aE yU [(9,ae)] 100 rfl (by simp[ai];omega) (AK.leave rfl rfl ?_)
  refine aE yU [] 100 rfl ay (AK.br rfl ?_);simp[ai,yV (λj b=>a j (by omega))]
def AP(t:List bJ):Prop:=∀ j,j<t.length->(fj t j).length<=4000000
def Sb:dC:=λargs σ=>match args,σ with
 |[d,.e (.one (.c (.fn (.func 150) [] [.rp [.str p,.str x]])))],[]=>match lg 2 d with
  |none=>af
  |some (n,es)=>aa (dI (tE (cF.list n es) p),[],[cF.fits n es,AP (cF.list n es),x=x])
 |_,_=>af
theorem t199:eb X 199 Sb:=by
 intro args σ res σ' obs h a;unfold Sb at h;split at h
 .rename_i d p x
  split at h
  .cases h
  rename_i n es hd
  cases h;exact(N9 _ p x a.2.1).args (λ_ vs=>cG.imp (λ_=>cF.ko hd a.1) (cG.imp (λ_ r=>r) (λ_ r=>r)) vs)
 .cases h
def Vb:List (Nat×dC):=(199,Sb)::Va
theorem Pl:b5 X Vb:=b5.cons t199 (yU)
theorem Oa(t:List bJ)(p x:Bs)(a:AP t):Ev X 149 [cF.sl t,Lk p x] [] (dB (decide (0<=tE t p))) []:=by
 refine Ev.body Tryz.func149 rfl rfl rfl λb=>?_
 refine aE Pl [] 100 rfl ?_ (AK.br rfl ?_)
 .simp[ai,cF.aH,cF.list_fn,a]
 .simp[ai,cF.list_fn]
def Sc:dC:=λargs σ=>match args,σ with
 |[d,.e (.one (.c (.fn (.func 150) [] [.rp [.str p,.str x]])))],[]=>match lg 2 d with
  |none=>af
  |some (n,es)=>aa (dB (decide (0<=tE (cF.list n es) p)),[],[cF.fits n es,AP (cF.list n es),x=x])
 |_,_=>af
theorem t149:eb X 149 Sc:=by
 intro args σ res σ' obs h a;unfold Sc at h;split at h
 .rename_i d p x
  split at h
  .cases h
  rename_i n es hd
  cases h;exact(Oa _ p x a.2.1).args (λ_ vs=>cG.imp (λ_=>cF.ko hd a.1) (cG.imp (λ_ r=>r) (λ_ r=>r)) vs)
 .cases h
def YK:List (Nat×dC):=(149,Sc)::Vb
theorem qC:b5 X YK:=b5.cons t149 (Pl)
def ji(t:List bJ)(i:Nat):Bool :=
 eT (fj t i)&&ef (Aq t i)&&(i==0||!(bj (fj t i) (fj t (i-1))||fj t i==fj t (i-1)))&&(bc i).all λj=>!under (fj t i) (fj t j)
def ow(t:List bJ):Bool:=(bc t.length).all (ji t)&&decide (t.length<=6)
theorem kI{t:List bJ}{i:Nat}(hi:i<t.length)(h:ji t i=ae):ow t=ae:=by
 cases a:ow t with
 |false=>rfl
 |true =>
  simp only[ow,bG] at a;rw[bX.1 a.1 i hi] at h;cases h
theorem uf{s:Bs}(h:eT s=ab):s.length<=3:=by
 simp only[eT,cy,bG,lN,bh,iS] at h;obtain⟨⟨⟨d,_⟩,_⟩,a⟩:=h;have c:=lE s 47
 change iG s<s.length∨iG s=-1 at c
 by_cases b:0<=iG s
 .simp only[jC,b,bO,bn] at d;rcases a with a|a
  .simp[j6,b] at a
  .have:=a.1.1;simp only[mK,b,bO,gF] at this;omega
 .simp only[jC,b,bH] at d;omega
theorem EE{t:List bJ}{p:Bs}{i:Nat}(hi:i<=t.length):decide (0<=tE (t.take i) p)=!(bc i).all λj=>!under p (fj t j):=by
 have e:∀ j,j<i->fj (t.take i) j=fj t j:=by
  intro j a;simp[fj,ag,a]
 cases m:(bc i).all λj=>!under p (fj t j) with
 |true =>
  have:=bX.1 m;rw[yV (λj a=>by
   have b:j<i:=by simp at a;omega
   rw[e j b];simpa using this j b)]
  simp
 |false =>
  have d:∃ j,j<i/\under p (fj t j)=ab:=by
   cases Classical.em (∃ j,j<i/\under p (fj t j)=ab) with
   |inl h=>exact h
   |inr h =>
    have:(bc i).all (λj=>!under p (fj t j))=ab:=bX.2 (λj a=>by
     cases g:under p (fj t j) with
     |false=>rfl
     |true=>exact absurd ⟨j,a,g⟩ h)
    rw[m] at this;cases this
  have:∃ k:Nat,tE (t.take i) p=k:=by
   unfold tE;cases l:(t.take i).findIdx? (λf=>under p f.1) with
   |some k=>exact⟨k,rfl⟩
   |none =>
    obtain⟨j,a,g⟩:=d;rw[qD] at l;have c:j<(t.take i).length:=by simp;omega
    have:=l _ (dy c);rw[fileAt c] at this;simp only at this;rw[e j a,g] at this;cases this
  obtain⟨k,n⟩:=this;rw[n];simp
theorem D4(t:List bJ):Ev X 116 [cF.sl t] [] (dB (ow t)) []:=by
 refine Ev.body Tryz.func116 rfl rfl rfl λz=>?_
 have w:=z.sl 0 rfl;refine aE qC [] 100 rfl ay ?_;refine AK.cd 0 (λi=>i<=t.length/\∀ j,j<i->ji t j=ab) (λi:Nat=>[(0,cF.sl t),(5,cF.sl t),(6,dI t.length),(7,dI i)]) (λ_=>[]) (λi=>t.length-i) 0 rfl ?_ rfl ay rfl ⟨by omega,by omega⟩ ?_
 .simp[ai.cat,ai,a9.same]
 rintro i ⟨hi,b⟩
 by_cases h:i<t.length
 .cases g:eT (fj t i) with
  |false =>
   refine aE qC [(8,ab),(14,ae)] 200 rfl ?_ (AK.eC (cn.zero rfl ?_))
   .simp[-ag,ai,h,ic,g]
   .simp[ai,kI h (by simp[ji,g])]
  |true =>
   cases o:ef (Aq t i) with
   |false =>
    refine aE qC [(8,ab),(14,ab),(19,ae)] 200 rfl ?_ (AK.eC (cn.zero rfl ?_))
    .simp[-ag,ai,h,ic,px,g,o]
    .simp[ai,kI h (by simp[ji,o])]
   |true =>
    have r:AP (t.take i):=by
     intro j m;simp only[bn] at m;have e:fj (t.take i) j=fj t j:=by simp[fj,ag,(by omega:j<i)]
     rw[e];have:=b j (by omega)
     simp only[ji,bG] at this;have:=uf this.1.1.1;omega
    have d:cF.list ((i:Int).toNat-0) (jb 0 (cF.fn t))=t.take i:=by rw[cF.Lh t 0 _ (by simp;omega)];simp
    cases l:(i==0||!(bj (fj t i) (fj t (i-1))||fj t i==fj t (i-1))) with
    |false =>
     have a:ji t i=ae:=by simp only[ji,l];simp
     have q:i≠0:=by rintro rfl;simp at l
     have v:(bj (fj t i) (fj t (i-1))||fj t i==fj t (i-1))=ab:=by
      simp only[Bool.or_eq_false_iff,pC] at l;exact l.2
     have k:bD .i64 ((i:Int)-1):=by simp only[bD];omega
     have u:((i:Int)-1).toNat=i-1:=by omega
     refine aE qC [(8,ab),(14,ab),(19,ab),(24,ab),(34,ab)] 200 rfl ?_ (AK.eC (cn.zero rfl ?_))
     .simp only[ai,ic,px,bu,u,v,g,o,bh,k];simp;omega
     .simp[ai,kI h a]
    |true =>
     have a:ji t i=(bc i).all λj=>!under (fj t i) (fj t j):=by simp only[ji,l,g,o];simp
     apply AK.join [(0,cF.sl t),(3,dI i),(5,cF.sl t),(6,dI t.length),(7,dI i),(4,.e (.one (.ptr 0 0)))] [.cells 129 [.c (.str (fj t i)),.c (.str (Aq t i))]]
     .intro y
      by_cases q:i=0
      .refine aE qC [(8,ab),(14,ab),(19,ab),(24,ae),(1000006,ab)] 200 rfl ?_ (y _ _ rfl ?_)
       .simp only[ai,ic,px,bu,g,o,bh,bY];simp;omega
       .simp[ai.cat,ai,a9.same]
      .have v:(bj (fj t i) (fj t (i-1))||fj t i==fj t (i-1))=ae:=by
        simp only[lN,iS,fJ] at l;exact l.resolve_left q
       have k:bD .i64 ((i:Int)-1):=by simp only[bD];omega
       have u:((i:Int)-1).toNat=i-1:=by omega
       refine aE qC [(8,ab),(14,ab),(19,ab),(24,ab),(34,ae),(1000006,ab)] 200 rfl ?_ (y _ _ rfl ?_)
       .simp only[ai,ic,px,bu,u,v,g,o,bh,k];simp;omega
       .simp[ai.cat,ai,a9.same]
     .refine AK.freeze 4 0 rfl rfl rfl ?_;have s:=EE (t:=t) (p:=fj t i) (i:=i) hi;have f:cF.fits ((i:Int).toNat-0) (jb 0 (cF.fn t)):=cF.Li t;cases x:(bc i).all λj=>!under (fj t i) (fj t j) with
      |false =>
       rw[x] at s a;refine aE qC [(41,ab)] 200 rfl ?_ (AK.eC (cn.zero rfl ?_))
       .simp only[ai,cE];have n:decide (0<=tE (cF.list ((i:Int).toNat-0) (jb 0 (cF.fn t))) (fj t i))=ab:=by rw[d];exact s
        exact⟨f,by rw[d];exact r,ay,n,by omega,by omega⟩
       .simp[ai,kI h a]
      |true =>
       rw[x] at s a;refine aE qC [(41,ae)] 200 rfl ?_ (AK.bg (i+1) rfl ?_ rfl rfl rfl ?_ rfl ?_ ?_)
       .simp only[ai,cE];have n:decide (0<=tE (cF.list ((i:Int).toNat-0) (jb 0 (cF.fn t))) (fj t i))=ae:=by rw[d];exact s
        exact⟨by simp only[bD];omega,f,by rw[d];exact r,ay,n,by omega,by omega⟩
       .simp[ai.cat,ai,a9.same]
       .trivial
       .refine⟨by omega,λj m=>?_⟩
        rcases fU.1 m with m|rfl
        .exact b j m
        .exact a
       .omega
 .have:i=t.length:=by omega
  subst this;refine aE qC [(8,ae)] 100 rfl (by simp[ai]) (AK.leaveD rfl rfl ?_)
  refine aE qC [] 100 rfl ay (AK.br rfl ?_);simp only[ai,ow];rw[bX.2 (λj m=>b j m)]
  simp;omega
end R1
end Go.AM
namespace Go.AM.R1
open Go.Proofs
variable {X:Cx ah}
def lA(t:Bs):List Bs:=if ef t then pieces t else []
def O0(t:Bs)(f:Nat)(acc:List Bs):Prop:=∃ k,fw t t.length 0=acc++fw t k f/\t.length<=f+k/\acc.length<=f
theorem Fz:eb X 145 (k6 aS (λs=>dB (ef s)) λ_=>[]):=.pf λs _=>wG s
def JZ:dC:=λargs σ=>match args,σ with
 |[.e (.one (.c (.str t)))],[]=>aa (.e (.one (.c (OZ t))),[],[])
 |_,_=>af
theorem QZ:eb X 196 JZ:=by
 intro args σ res σ' obs h a;unfold JZ at h;split at h
 .cases h;exact Nl _
 .cases h
theorem GI(t:Bs):Ev X 147 [dS t] [] (cS.sl (lA t)) []:=by
 refine(dZ.DC (ι:=Unit) (σ':=λ_=>[]) (res:=λ_=>cS.sl (lA t)) Tryz.func147 rfl rfl rfl λr=>?_).Di
 have l:b5 X [(145,k6 aS (λs=>dB (ef s)) λ_=>[])]:=.cons Fz .nil
 refine qo.seq (AW.top (AK.of_code ?_));refine aE l [] 100 rfl ay ?_;refine qo.seq (AW.top (AK.of_code ?_));cases g:ef t with
 |false =>
  refine aE l [(8,ab)] 100 rfl ?_ (AK.ret ⟨(),cn.zero rfl ?_⟩)
  .simp[ai,g]
  .simp[ai,ai.cat,lA,g]
 |true =>
  have h:=g;simp only[ef,bG,bh] at h;refine aE l [(8,ae)] 100 rfl ?_ ?_
  .simp[ai,g]
  refine qo.seq (AW.top (AK.of_code ?_));refine aE l [] 100 rfl ay ?_;refine qo.seq (qo.seq (AW.top (AK.of_code (AK.gV 1 0 9 1 (cS.fn []) rfl rfl ?_))));refine aE (.cons QZ .nil) [] 100 rfl ay ?_;refine qo.block ?_;refine qo.rangeFunc (capD:=iz [.rp [.str t]]) (cw.callee rfl) (GH (T:=List Bs) t h.2 (by omega) (λ_=>.cells 9 [.c (.str t)]) (λacc=>.cells 139 [.vec 2 1 acc.length (cS.fn acc)]) (λacc=>.vec 9 1 acc.length (cS.fn acc)) (O0 t) [] ?_ (λt=>⟨by simp,by simp,by simp⟩) ?_) (λi=>⟨rfl,by simp⟩) λi=>⟨.normal,rfl,?_⟩
  .exact⟨t.length,by simp,by omega,by simp⟩
  .rintro f acc hf hR;have b:=nz t f hf;refine Yields.intro (j:=af) rfl rfl rfl rfl (AK.of_code ?_);refine bP rfl ay ?_;refine⟨rfl,rfl,AK.of_code ?_⟩;refine bP rfl ?_ ?_
   .obtain⟨k,_,_,p⟩:=hR;have v:=b.1;have u:=b.2.1;refine⟨rfl,rfl,?_,Int.natCast_nonneg _,Int.ofNat_le.2 (Nat.le_of_lt v),Int.ofNat_le.2 u⟩;show (acc.length+1)*16<=_;omega
   have n:O0 t (cutAt t f) (acc++[(t.drop f).take (cutAt t f-f)]):=by
    obtain⟨k,m,q,p⟩:=hR;obtain⟨k',rfl⟩:∃ k',k=k'+1:=⟨k-1,by omega⟩
    refine⟨k',?_,by omega,by simp only[bF,dw];omega⟩
    rw[m];simp only[fw];rw[aU hf];simp
   refine⟨rfl,rfl,⟨_,n⟩,mF rfl ?_⟩;have e:rT t (aa (f:Int)) (aa (cutAt t f:Int))=(t.drop f).take (cutAt t f-f):=by simp[rT,List.drop_take]
   have o:a9 (acc.length+1) (cX acc.length (cS.fn acc) λi=>[[C.str (rT t (aa (f:Int)) (aa (cutAt t f:Int)))]].getD i []) (cS.fn (acc++[(t.drop f).take (cutAt t f-f)])):=by
    rw[e];exact iv.cu cS acc _
   have a:acc.length+1=(acc++[(t.drop f).take (cutAt t f-f)]).length:=by simp
   refine ai.cat.2 ⟨by simp[ai,ai.cat],ai.cat.2 ⟨ai.cat.2 ⟨⟨a,o⟩,ay⟩,ai.cat.2 ⟨⟨a,o⟩,ai.cat.2 ⟨rfl,ay⟩⟩⟩⟩
  .obtain⟨acc,k,m,q,p⟩:=i;have d:fw t k t.length=[]:=by cases k <;> simp[fw]
   rw[d,hJ] at m;have e:lA t=acc:=by simp only[lA,g,bO,pieces,m]
   rw[e];show qo X _ _ _ _ _;refine AW.top (AK.of_code ?_);refine bP rfl ay ?_;refine AK.ret ⟨(),cn.zero rfl ?_⟩;exact⟨rfl,a9.same⟩
theorem Nm:eb X 147 (k6 aS (λs=>cS.sl (lA s)) λ_=>[]):=.pf λs _=>GI s
theorem Ui:eb X 144 (qb (aL cS) aS (λl _=>dS l.flatten) λl s=>[s=[],l.flatten.length<=140737488355328]):=.te λl s h=>by
 obtain⟨rfl,h⟩:=h;exact Nf l h
def Nn:dC:=qb (aL cS) (aL cS) (λa b=>dB (a==b)) λ_ _=>[]
theorem XM:eb X 146 Nn:=.te λa b _=>QQ a b
theorem D3(l:List Bs)(h:l.flatten.length<=140737488355328):Ev X 115 [cS.sl l] [] (Ae (gd l)) []:=by
 refine Ev.body Tryz.func115 rfl rfl rfl λd=>?_
 have c:b5 X [(144,qb (aL cS) aS (λl _=>dS l.flatten) λl s=>[s=[],l.flatten.length<=140737488355328]),(145,k6 aS (λs=>dB (ef s)) λ_=>[]),(146,Nn),(147,k6 aS (λs=>cS.sl (lA s)) λ_=>[])]:=.cons Ui (.cons Fz (.cons XM (.cons Nm .nil)))
 have el:cS.list l.length (cS.fn l)=l:=cS.list_fn l;cases a:ef l.flatten with
 |false =>
  refine aE c [(8,ae),(9,ab),(16,ab)] 100 rfl ?_ (AK.br rfl ?_)
  .simp only[ai,el,a,cS.aH,eq_self,aG,aF];simp[h,-List.length_flatten]
  .simp[ai,ai.cat,gd,a]
 |true =>
  cases b:(pieces l.flatten==l) with
  |false =>
   refine aE c [(8,ab),(9,ae),(14,ae),(16,ab)] 100 rfl ?_ (AK.br rfl ?_)
   .simp only[ai,el,cS.list_fn,a,cS.aH];simp[h,lA,a,b,-List.length_flatten]
   .simp[ai,ai.cat,gd,b]
  |true =>
   refine aE c [(8,ab),(9,ae),(14,ab),(16,ae)] 100 rfl ?_ (AK.br rfl ?_)
   .simp only[ai,el,cS.list_fn,a,cS.aH];simp[h,lA,a,b,-List.length_flatten]
   .simp[ai,ai.cat,gd,a,b,el]
end Go.AM.R1
namespace Go.AM.R1
open Go.Proofs Go.Conc Go.Conc.Lib Go.ConcR.Gen
open Go.ConcN (WgLive PayAt Has RW AtR0)
open Go.ConcN.Gen
open Go.ConcR (KK WgAt stA smA rd wr mk Payload DC0)
theorem J3:J0=#[{ dst:=af,op:=.defer { callee:=.value (.func 141),args:=#[.tmp 0],argTypes:=#[190] },type:=0,pos:= "l12_snap.go:81",after:=#[],guard:=af }]:=by kernel_rfl
def bW(a:ak):aQ:={ baseD 140 with defers:=[dcall 141 #[a]] }
abbrev tW(v0 v1 v2 v3 v4 v5:ak):Array ak:=#[v0,v1,v2,v3,v4,v5,aj,aj,aj,aj,aj,aj,aj]
theorem Q1(v0 v1 v2 v3 v4 v5:ak)(w:az):Goes ah ae (λ_ _=>True) DC0 (λg _=>g=G ((bW v0).aT ⟨tW v0 v1 v2 v3 v4 v5,[]⟩ [.code (.region 1 J1 ab)]) [uE]) 8 (born ah (wH #[v0,v1,v2,v3,v4,v5])) w:=by
 have b:True:=ay;have a:True->True->True:=λ_ _=>trivial
 refine Goes.step rfl (λw1 h1=>?_)
 rw[GM];simp only[goes_go];refine⟨⟨rfl,rfl⟩,?_⟩;clear h1;rw[J3]
 u_c aD a b
 u_reg a b
 u_defer a b
 u_c aC a b
 exact Goes.stop λ_ _=>rfl
theorem XN(T:Array ak):QuitsD ah 2 0 (G { (baseD 140).at ⟨T,[]⟩ [] with mode:=.returning } [uE]):=by
 have a:Tryz.f140.results=#[]:=by kernel_rfl
 refine QuitsD.ctl (g':=G uE []) rfl (λw=>?_) ?_
 .simp[G,aK,unwind,doReturn,results,Frame.at,baseD,uE,Tryz.func140,a,seen,GStep.after,goexitEntry]
 refine QuitsD.ctl (g':={ G uE [] with status:=.finished }) rfl (λw=>?_) ⟨rfl,rfl⟩
 simp[G,aK,unwind,uE,goexitEntry,Frame.catches];rfl
section
variable {Y:Lay}{n:Nat}{val:Nat->Nat->ak}
theorem tailW(x:Nat)(b:Y.kc=2)(T:Array ak)(w:az)(a:WgLive 190 Y.Wg w/\Has Y.C (Y.kc*x+1-1) (val x 0) w) :
  ∃ m,Goes ah ae (RW 190 Y.Wg Y.C (2*n) 0 (Y.kc*x+1-1)) DC0 (AtR0 ah 190 Y.Wg Y.C (2*n) 0 (Y.kc*x+1) (val x 0)) m (G ((bW (.pointer (aa ⟨Y.Wg,0,af⟩))).aT ⟨T,[]⟩ [.inRegion uD.toArray []]) [uE]) w:=by
 refine⟨26,?_⟩;have e:(bW (.pointer (aa ⟨Y.Wg,0,af⟩))).aT ⟨T,[]⟩ [.inRegion uD.toArray []]=(baseD 140).at ⟨T,[dcall 141 #[.pointer (aa ⟨Y.Wg,0,af⟩)]]⟩ [.inRegion uD.toArray []]:=rfl;rw[e]
 u_c aC kn_rely a
 u_c stepG_end kn_rely a
 u_in kn_rely a
 rw[stepG_unwind_enter (c:=body_done O1) rfl BW.f_done (by kernel_rfl) (by kernel_rfl)]
 simp only[goes_go];refine⟨by u_nil,?_⟩
 have d:=Ul (P:=ah) (L:=O1) (Wg:=Y.Wg) (C:=Y.C) (n:=2*n) (Low:=0) (x:=Y.kc*x+1) (val:=val x 0) (c:={ (baseD 140).at ⟨T,[]⟩ [] with mode:=.returning }) (cs:=[uE]) BW rfl (XN T) _ a;exact d
theorem rd_str{M:Mem}{v:ak}{l:Bs}(h:Rd M v (.str l)):v=.string ⟨l.toArray⟩:=by
 cases h with
 |str h1 h2=>rw[<-h1]
theorem rd_bool{M:Mem}{v:ak}{b:Bool}(h:Rd M v (.bool b)):v=.bool b:=by cases h;rfl
def SG:av:=oW af (.store 193 (.tmp 12) (.tmp 11)) 0 #[⟨6,.data⟩,⟨5,.data⟩,⟨5,.chain⟩,⟨0,.phase⟩,⟨1,.phase⟩,⟨2,.phase⟩,⟨3,.phase⟩,⟨4,.phase⟩,⟨5,.phase⟩]
set_option maxHeartbeats 1000000 in
theorem Um{x:Nat}(hx:x<n)(w:Y.kc=2){k:Int}{ps:List bC}{N:Int}(E:val x 0=.string ⟨((dF k ps N).getD []).toArray⟩)(F:val x 1=.bool (dF k ps N).isSome){s:St}{T:Array ak}
  (p:dh [] s (T.getD 12 aj) (xW k ps N n x Y.C 6)) (r:dh [] s (T.getD 11 aj) (VM (dF k ps N))) :
  I0 ah 190 Y (2*n) val x (G ((bW (.pointer (aa ⟨Y.Wg,0,af⟩))).aT ⟨T,[]⟩ [.inRegion uD.toArray [7]]) [uE]) s:=by
 have p:T.getD 12 aj=.pointer (aa ⟨Y.C,x*2,af⟩):=Rd.gm p;have r:T.getD 11 aj=.agg #[val x 0,val x 1]:=by
  obtain⟨vs,Z,g⟩:=r
  match vs,g with
  |[],g=>exact g.elim
  |[_],g=>exact g.2.elim
  |_::_::_::_,g=>exact g.2.2.elim
  |[u0,u1],g =>
   rw[Z,rd_str g.1,rd_bool g.2.1,E,F]
 refine⟨rfl,λw1 hr I8 J4=>?_⟩
 obtain⟨cs,c,Q⟩:=I8;have A:Y.kc*x=x*2:=by rw[w];omega
 have J:∀ v∈[val x 0,val x 1],v.oneCell'=ab:=by
  intro v W;simp only[ew,rl,or_false] at W;rcases W with rfl|rfl
  .rw[E];rfl
  .rw[F];rfl
 have d:x*2+0+[val x 0,val x 1].length<=cs.size:=by simp;omega
 have q:=run_storeCells_at ah Y.C (x*2) 193 [val x 0,val x 1] 0 cs w1 c d J;simp only[gG,db,eu,bm] at q;generalize m:(cs.toList.take (x*2)++[val x 0,val x 1]++cs.toList.drop (x*2+2)).toArray=new at q;have P:new.size=cs.size:=by
  rw[<-m];simp;simp at d;omega
 have z:=setRow_heap w1 Y.C cs new 193 (0,0) c;have f:∀ o,(w1.setRow Y.C new).cell? ⟨Y.C,o,af⟩=new[o]?:=λo=>cell_setRow_same w1 Y.C o cs new 193 (0,0) c
 have u:∀ o,w1.cell? ⟨Y.C,o,af⟩=cs[o]?:=λo=>by simp[aY,c]
 have I:∀ i,i<2->new[x*2+i]?=aa (val x i):=by
  intro i hi;rw[<-m];have R:(cs.toList.take (x*2)).length=x*2:=by simp;simp at d;omega
  rw[dq];simp only[iR];rw[dg (by omega),R]
  match i,hi with
  |0,_=>simp
  |1,_=>simp
 have L:∀ o,(o<x*2∨x*2+2<=o)->new[o]?=cs[o]?:=by
  intro o D;rw[<-m];have R:(cs.toList.take (x*2)).length=x*2:=by simp;simp at d;omega
  rw[dq];simp only[iR];rcases D with D|D
  .rw[b7 (by omega),et]
   simp[D]
  .rw[dg (by omega),R,dg (by simp;omega)]
   simp only[db,eu,mR];rw[show x*2+2+(o-x*2-(0+1+1))=o by omega]
   simp
 have H:(Value.agg #[val x 0,val x 1]).cells=#[val x 0,val x 1]:=rfl;have M:(aw (⟨T,[]⟩:Act).eval SG).run ah w1=.ok .skip (w1.setRow Y.C new):=by
  have y:(⟨T,[]⟩:Act).eval (.tmp 12)=.pointer (aa ⟨Y.C,x*2,af⟩):=p;have B:(⟨T,[]⟩:Act).eval (.tmp 11)=.agg #[val x 0,val x 1]:=r;simp[aw,SG,oW,y,B,Instr.storeAt,Instr.sureAddr,storeVar,(tok 193 i193 rfl).run_sizeOf,i193,H,q]
 have l:∀ e∈(aw (⟨T,[]⟩:Act).eval SG).events ah w1 #[],∃ j,j<2/\e=F6 Y.C (x*2+j):=by
  intro S l;have y:(⟨T,[]⟩:Act).eval (.tmp 12)=.pointer (aa ⟨Y.C,x*2,af⟩):=p;have B:(⟨T,[]⟩:Act).eval (.tmp 11)=.agg #[val x 0,val x 1]:=r;have e:aw (⟨T,[]⟩:Act).eval SG=(do storeVar 193 ⟨Y.C,x*2,af⟩ (.agg #[val x 0,val x 1]);pure .skip):=by simp[aw,SG,oW,y,B,Instr.storeAt,Instr.sureAddr]
  rw[e] at l;have K:S∈(storeCells ⟨Y.C,x*2,af⟩ [val x 0,val x 1]).events ah w1 #[]:=by
   simp only[storeVar,aP,(tok 193 i193 rfl).run_sizeOf,i193,H,aV,events_sizeOf,cW,bH,bZ,cg,Sem.events_pure] at l;simpa[q] using l
  rcases eN [val x 0,val x 1] 0 cs w1 #[] c d J S K with O|⟨j,_,V,rfl⟩
  .simp at O
  .exact⟨j,by simpa using V,rfl⟩
 have t:WgLive 190 Y.Wg (w1.setRow Y.C new):=by
  obtain⟨st,U,h⟩:=J4;refine⟨st,U,?_⟩;show (w1.setRow Y.C new).heap[Y.Wg]?=_;rw[setRow_other w1 Y.C Y.Wg new ?_]
  .exact h
  .intro e;have g:w1.heap[Y.Wg]?=aa (Go.ConcR.wgBlock 190 st U):=h;rw[e,c] at g;simp[Go.ConcR.wgBlock] at g;exact absurd g.2 (by decide)
 refine⟨_,w1.setRow Y.C new,_,EN (b:=bW (.pointer (aa ⟨Y.Wg,0,af⟩))) (a:=⟨T,[]⟩) (k:=[]) (ops:=uD.toArray) (i:=7) (rest:=[]) (o:=SG) rfl rfl (by simp[bW,baseD]) M,?_,?_,?_⟩
 .refine⟨rfl,rfl,rfl,by simp,λb X=>setRow_other w1 Y.C b new X,⟨new,z,by rw[P,Q]⟩,λo D=>?_,λi hi=>?_⟩
  .rw[f,u];rw[A,w] at D;exact L o D
  .rw[w] at hi;rw[f,A];exact I i hi
 .intro e he;obtain⟨j,V,rfl⟩:=l e (Go.Conc.mem_seen he);exact⟨x*2+j,rfl,by omega,by omega⟩
 .exact tailW x w T _ ⟨t,by show (w1.setRow Y.C new).cell? _=_;rw[f,md,A];exact I 0 (by omega)⟩
theorem worker{k:Int}(j:eb (Cx.work ah) 142 (l4 k)){x:Nat}(u:x<n)(l:Y.kc=2){ps:List bC}{d:Int}(e:val x 0=.string ⟨((dF k ps d).getD []).toArray⟩)(f:val x 1=.bool (dF k ps d).isSome)
  {s:St} (A:aJ [] s) (F:s.β=[]) {v1 v2 v3 v4 v5:ak} (p:Rd s.M v1 (.rp [.int .i64 k])) (v:Rd s.M v2 (.rp [.sl ae 2 ps.length (cP.fn ps)])) (r:Rd s.M v3 (.rp [.int .i64 d]))
  (m:Rd s.M v4 (.rp [.val (.slice (aa ⟨Y.C,0,af⟩) n n)])) (o:Rd s.M v5 (.rp [.int .i64 x])) :
  eg (Cx.work ah) E0 (I0 ah 190 Y (2*n) val x) (born ah (wH #[.pointer (aa ⟨Y.Wg,0,af⟩),v1,v2,v3,v4,v5])) s:=by
 refine eg.goes (X:=Cx.work ah) (R:=λ_ _=>True) (D:=DC0) (Stop:=λg _=>g=G ((bW (.pointer (aa ⟨Y.Wg,0,af⟩))).aT ⟨tW (.pointer (aa ⟨Y.Wg,0,af⟩)) v1 v2 v3 v4 v5,[]⟩ [.code (.region 1 J1 ab)]) [uE])
  (λb=>aJ [] b/\b.M=s.M) (λb s2 h q=>⟨h.1.rely q,q.M.trans h.2⟩) (λ_ _ _ _=>trivial) ?_ (λb h=>cm.vW h.1.mem) ?_ 8 _ s ⟨A,rfl⟩ (Q1 _ _ _ _ _ _ _)
 .rintro b es h w' ⟨rfl,rfl⟩;exact⟨rfl,.inl (.quiet h.1)⟩
 .rintro g b ⟨i,w⟩ rfl;rw[Nr];refine fG.toE (λ_ _ _ h=>h) ?_
  refine(Uk j ps d n x Y.C u (.pointer (aa ⟨Y.Wg,0,af⟩))).region (by kernel_rfl) (by simp[bW,baseD]) ⟨by simp[tW],⟨[],ay⟩,λt=>?_⟩ rfl i λs2 a z c E B st=>.stop ?_
  .rw[<-w] at p v r m o
   match t with
   |0=>exact Rd.val rfl
   |1=>exact p
   |2=>exact v
   |3=>exact r
   |4=>exact m
   |5=>exact o
   |t+6=>trivial
  .obtain⟨T,y⟩:=a;obtain rfl:y=[]:=E;exact Um u l e f (c 12) (c 11)
end
end Go.AM.R1
namespace Go.AM.R1
open Go.Proofs Go.Conc Go.Conc.Lib
open Go.ConcN (WgLive PayAt Has RW AtR0)
open Go.ConcR (KK WgAt stA smA rd wr mk Payload DC0)
def wI:Code->Code|.seq a _=>a|c=>c
def kR:Code->Code|.seq _ a=>a|c=>c
def Un:Code->Code|.block _ a=>a|c=>c
def XO:Code->Code|.loop a=>a|c=>c
def Q2:Code->Array av|.region _ o _=>o|_=>#[]
noncomputable def D6:Code:=(Tryz.f114.body).getD .skip
noncomputable def iF:Code:=XO (Un (kR (wI (kR (kR (kR D6))))))
noncomputable def ZS:Code:=wI iF
noncomputable def Q3:Code:=Un (wI (kR (kR iF)))
noncomputable def ZT:Code:=wI Q3
noncomputable def Ai:Array av:=Q2 (wI (kR Q3))
noncomputable def xI:Array av:=Q2 (kR (kR Q3))
noncomputable def L9:Code:=kR (kR (kR iF))
noncomputable def nA:Code:=kR (kR (kR (kR D6)))
noncomputable def xJ:Array av:=Q2 (wI nA)
noncomputable def qA:Code:=kR nA
theorem BX:iF=.seq ZS (.seq (.cond (.tmp 21) .skip (.exit 0)) (.seq (.block 1 (.seq ZT (.seq (.region 6 Ai ae) (.region 7 xI ae)))) L9)):=by kernel_rfl
theorem J5:nA=.seq (.region 9 xJ ae) qA:=by kernel_rfl
def NQ(j:Fr)(σ1:List aW):Post:=λe φ σ=>e=.normal/\r7 φ j/\σ=σ1
structure At (σ0:List aW)(s0:St)(φ:Fr)(σ:List aW)(a:Act)(s:St):Prop where
 fr:cw 45 σ s φ a
 hh:aJ σ s
 st:cC σ0 s0 σ s
section
variable {σ0:List aW}{s0:St}{φ j:Fr}{σ σ1:List aW}{a:Act}{s:St}
theorem At.rely(h:At σ0 s0 φ σ a s){d:St}(c:cm s d):At σ0 s0 φ σ a d:=⟨h.fr.rely c h.hh,h.hh.rely c,h.st.trans c.stepW⟩
structure Ma (b:Nat)(s:St):Prop where
 own:¬s.own b
 β:∀ L∈s.β,b∉L.bs
 M:∀ o,s.M b o=af
 lt:b<s.w.heap.size
theorem Ma.step{b:Nat}(h:Ma b s0)(st:cC σ0 s0 σ s):Ma b s :=
 ⟨by rw[st.own];exact h.own,λL d hb=>by
  rcases st.tK L d b hb with h1|⟨c,e,h1⟩
  .have:=h.lt;omega
  .exact h.β c e h1,λo=>by rw[st.jq b h.lt h.β];exact h.M o,cz h.lt st.size⟩
theorem At.apart{Wg:Nat}(d:Ma Wg s0):Apart Wg (At σ0 s0 φ σ a) :=
 ⟨λ_ _ h e=>h.rely e,λ_ h=>⟨σ,h.hh⟩,λ_ h=>let c:=d.step h.st;⟨c.own,c.β,c.M⟩⟩
variable {X:Cx ah}{S:au->St->Prop}{b:aQ}{k:List Item}{cs:List aQ}
theorem At.ctl(h:At σ0 s0 φ σ a s){g g':au}(d:g.status=.running)(e:∀ w,aK ah X.main g w=.go g' w #[])(kk:∀ c,At σ0 s0 φ σ a c->fG X S g' c):fG X S g s :=
 .ctl h.hh d e λc h1=>kk c (h.rely h1)
theorem At.code(h:At σ0 s0 φ σ a s)(hb:b.kind≠.early){c:Code}(f:AW X 45 c (NQ j σ1) φ σ)(kk:∀ a1 s1,At σ0 s0 j σ1 a1 s1->fG X S (G (b.aT a1 k) cs) s1):fG X S (G (b.aT a (.code c::k)) cs) s:=by
 refine f s a h.fr h.hh b k cs S hb ?_;rintro e i σ' s' a' ⟨rfl,hl,rfl⟩ l g d;exact kk a' s' ⟨l.le hl,g,h.st.trans d⟩
end
theorem fG.live{Wg:Nat}{E:St->St->Array Event->Prop}{S:au->St->Prop}{g:au}{s:St}(h:fG (Cx.lead ah 190 Wg) S g s)(f:Clear (λb=>b=Wg) s)(hl:WgLive 190 Wg s.w) :
  eg (Cx.lead ah 190 Wg) E (λg s=>S g s/\WgLive 190 Wg s.w) g s:=by
 induction h with
 |stop h=>exact⟨.leaf,h,hl⟩
 |@step g s q ns ne hr h1 h2 _ n =>
  refine .step hr λe c=>?_
  have l:=c.2 hl;have d:Clear (λb=>b=Wg) e:=⟨λb hb=>by rw[c.1.own];exact f.own b hb,λb hb=>by rw[c.1.β];exact f.β b hb,λb hb o=>by rw[c.1.M];exact f.M b hb o,λb hb=>cz (f.lt b hb) c.1.size⟩
  obtain⟨⟨σ,σ',hh,m,st⟩,i⟩:=h2 e c;refine⟨_,_,_,h1 e c,.inl ⟨⟨σ,σ',hh,m,st⟩,i⟩,n e c (d.step st) ?_⟩;obtain⟨x,y,p⟩:=l;exact⟨x,y,by show (ns e).w.heap[Wg]?=_;rw[st.eH Wg (d.lt Wg rfl) (d.β Wg rfl)];exact p⟩
 |ghost hg _ n=>exact .ghost hg (n (f.ghost hg) (by rw[hg.w];exact hl))
 |forget hx _ _ _=>exact hx.elim
 |xq hj _ _=>exact hj.elim
theorem Ma.clear{Wg:Nat}{s:St}(h:Ma Wg s):Clear (λb=>b=Wg) s:=⟨λb e=>e▸h.own,λb e=>e▸h.β,λb e=>e▸h.M,λb e=>e▸h.lt⟩
section
variable (k:Int)(ps:List bC)(ns:List Int)(C Wg:Nat)
def m6(i:Nat):Fr:=[(3,.e (.one (.c (.rp [.int .i64 k])))),(4,.e (.one (.c (.rp [.sl ae 2 ps.length (cP.fn ps)])))),(8,.e (.one (.c (.rp [.val (.slice (aa ⟨C,0,af⟩) ns.length ns.length)])))),(9,.e (.one (.v (.pointer (aa ⟨Wg,0,af⟩))))),
 (18,cI.sl ns),(19,dI ns.length),(20,dI i)]
variable {k ps ns C Wg}{X:Cx ah}{σ:List aW}
theorem ZU{i:Nat}(hi:i<=ns.length):AW X 45 ZS (NQ ((21,dB (decide (i<ns.length)))::m6 k ps ns C Wg i) σ) (m6 k ps ns C Wg i) σ:=by
 refine AK.of_code ?_
 by_cases h:i<ns.length
 .refine bd [(21,ab)] 100 rfl ?_ ⟨rfl,dK rfl ?_,rfl⟩
  .simp[ai];omega
  .simp[ai.cat,ai,h,a9.same]
 .refine bd [(21,ae)] 100 rfl ?_ ⟨rfl,dK rfl ?_,rfl⟩
  .simp[ai];omega
  .simp[ai.cat,ai,h,a9.same]
abbrev d5:List aW:=[.dead,.dead,.dead,.dead,.dead]
theorem pR5{i:Nat}(hi:i<ns.length):AW X 45 ZT (NQ ((10,.e (.one (.ptr 5 0)))::(11,.e (.one (.ptr 6 0)))::m6 k ps ns C Wg i) [.dead,.dead,.dead,.dead,.dead,.cells 3 [.c (.int .i64 i)],.cells 3 [.c (.int .i64 (ns.getD i 0))]]) (m6 k ps ns C Wg i) d5:=by
 refine AK.of_code ?_;refine bP rfl ?_ ⟨rfl,dK rfl ?_,?_⟩
 .simp[ai];omega
 .simp[ai.cat,ai,a9.same]
 .simp[cI]
theorem pR8{i:Nat}(hi:i<ns.length)(c:ns.length<=4000000):AW X 45 L9 (NQ (m6 k ps ns C Wg (i+1)) d5) (m6 k ps ns C Wg i) d5:=by
 refine AK.of_code ?_;refine bP rfl ?_ ⟨rfl,dK rfl ?_,rfl⟩
 .simp[ai,bD];omega
 .simp[ai.cat,ai,a9.same]
variable {σ0:List aW}{s0:St}{S:au->St->Prop}{b:aQ}{kk:List Item}{cs:List aQ}
abbrev d7:List aW:=[.dead,.dead,.dead,.dead,.dead,.dead,.dead]
variable (k ps ns C Wg) in
abbrev qQ(i:Nat):Fr:=(11,.e (.one (.c (.rp [.int .i64 (ns.getD i 0)]))))::(10,.e (.one (.c (.rp [.int .i64 i]))))::m6 k ps ns C Wg i
noncomputable abbrev th(kk:List Item):List Item:=.code (.region 7 xI ae)::.inBlock 1::.code L9::.inLoop iF::.inBlock 0::kk
theorem vl{P:an}{main:Bool}{b:aQ}{a:Act}{k:List Item}{cs:List aQ}{w:az}{c x y:Code}(h:c=.seq x y):aK P main (G (b.aT a (.code c::k)) cs) w=.go (G (b.aT a (.code x::.code y::k)) cs) w:=by
 subst h;exact n3
theorem toAdd{i:Nat}(hi:i<ns.length)(n:b.kind≠.early){a:Act}{s:St}(h:At σ0 s0 (m6 k ps ns C Wg i) d5 a s)
  (K:∀ m l,At σ0 s0 (qQ k ps ns C Wg i) d7 m l->fG X S (G (b.aT m (.inRegion Ai [0]::th kk)) cs) l) :
  fG X S (G (b.aT a (.code iF::.inLoop iF::.inBlock 0::kk)) cs) s:=by
 refine h.ctl rfl (λw=>vl BX) λs h=>?_
 refine h.code n (ZU (Nat.le_of_lt hi)) λa s h=>?_
 refine h.ctl rfl (λw=>n3) λs h=>?_
 have q:a.eval (.tmp 21)=.bool ab:=by
  have:=h.fr.slot 21;simp only[hi,iJ] at this;exact rd_bool (ga this)
 refine h.ctl rfl (λw=>u7 q) λs h=>?_
 refine h.ctl rfl (λw=>EL) λs h=>?_
 refine h.ctl rfl (λw=>n3) λs h=>?_
 refine h.ctl rfl (λw=>rD) λs h=>?_
 refine h.ctl rfl (λw=>n3) λs h=>?_
 have h:At σ0 s0 (m6 k ps ns C Wg i) d5 a s:=⟨h.fr.le (dK rfl (by simp[ai.cat,ai,a9.same])),h.hh,h.st⟩
 refine h.code n (pR5 hi) λa s h=>?_
 obtain⟨l,w1,o,d,g⟩:=cw.freeze 10 5 (E:=3) (cs:=[.c (.int .i64 i)]) (cc:=[.int .i64 i]) rfl rfl rfl h.fr h.hh;refine .ghost (.of h.hh d w1 (g.oA h.hh)) ?_;obtain⟨s2,w2,p,f,e⟩:=cw.freeze 11 6 (E:=3) (cs:=[.c (.int .i64 (ns.getD i 0))]) (cc:=[.int .i64 (ns.getD i 0)]) rfl rfl rfl o d;refine .ghost (.of d f w2 (e.oA d)) ?_;have h:At σ0 s0 (qQ k ps ns C Wg i) d7 a s2:=⟨p.le (dK rfl (by simp[ai.cat,ai,a9.same])),f,h.st.trans ((g.oA h.hh).trans (e.oA d))⟩
 refine h.ctl rfl (λw=>n3) λs h=>?_
 refine h.ctl rfl (λw=>pQ) λs h=>?_
 exact K a s h
def o6:av:={ dst:=aa 25,op:=.call { callee:=.value (.func 139),args:=#[.tmp 9,.const (.int .i64 1)],argTypes:=#[190,3] },type:=0,pos:= "l12_snap.go:79",after:=#[],guard:=af }
theorem FC:Ai=#[o6]:=by kernel_rfl
theorem J6{i:Nat}(l:b.kind≠.early){a:Act}{s:St}(h:At σ0 s0 (qQ k ps ns C Wg i) d7 a s)
  (K:∀ c,At σ0 s0 (qQ k ps ns C Wg i) d7 a c->fG X S (G (Frame.enter ah 139 #[.pointer (aa ⟨Wg,0,af⟩),.int .i64 1] .normal) (b.aT a (.inRegion Ai [0]::th kk)::cs)) c) :
  fG X S (G (b.aT a (.inRegion Ai [0]::th kk)) cs) s:=by
 refine .next rfl λc d=>?_
 have e:=h.rely (X.iO d);have g:a.eval (.tmp 9)=.pointer (aa ⟨Wg,0,af⟩):=Rd.gm (e.fr.slot 9);have p:(aw a.eval o6).run ah c.w=.ok (.enter 139 #[.pointer (aa ⟨Wg,0,af⟩),.int .i64 1]) c.w:=by
  have:=run_call_body (P:=ah) (a:=a) (w:=c.w) (o:=o6) (f:=139) (fn:=Tryz.f139) rfl Tryz.func139 (by kernel_rfl) (by kernel_rfl)
  rw[this,<-g];simp only[List.map_toArray,jJ,List.map_nil];rfl
 have n:(aw a.eval o6).events ah c.w #[]=#[]:=events_call_body (P:=ah) (a:=a) (w:=c.w) (o:=o6) (f:=139) (fn:=Tryz.f139) rfl Tryz.func139 (by kernel_rfl) (by kernel_rfl) #[]
 have m:listed ah b.fn a o6 c.w=#[]:=by unfold listed;rw[n];exact seen_none _ _
 refine⟨_,c,#[],?_,.quiet e.hh,K c e⟩;have:=rF (P:=ah) (main:=X.main) (b:=b) (a:=a) (k:=th kk) (cs:=cs) (w:=c.w) (ops:=Ai) (i:=0) (rest:=[]) (o:=o6) (by rw[FC];rfl) rfl l p
 rw[m] at this;exact this
def Uo:av:={ dst:=aa 26,op:=.makeFunc (.func 140) #[] #[.tmp 9,.tmp 3,.tmp 4,.tmp 11,.tmp 8,.tmp 10],type:=1,pos:= "l12_snap.go:80",after:=#[],guard:=af }
def Nt:av:={ dst:=af,op:=.go { callee:=.value (.tmp 26),args:=#[],argTypes:=#[] },type:=0,pos:= "l12_snap.go:80",after:=#[⟨0,.data⟩],guard:=af }
theorem FD:xI=[Uo,Nt].toArray:=by kernel_rfl
variable (k ps ns C Wg) in
abbrev D7(i:Nat):AM.C:=.fn (.func 140) [] [.val (.pointer (aa ⟨Wg,0,af⟩)),.rp [.int .i64 k],.rp [.sl ae 2 ps.length (cP.fn ps)],.rp [.int .i64 (ns.getD i 0)],.rp [.val (.slice (aa ⟨C,0,af⟩) ns.length ns.length)],.rp [.int .i64 i]]
theorem Up{i:Nat}:OA X 45 [Uo,Nt] Uo ((25,.any)::qQ k ps ns C Wg i) d7 (.e (.one (.c (D7 k ps ns C Wg i)))) d7:=by
 have h:E4 tt [] [] [Uo,Nt] ((25,.any)::qQ k ps ns C Wg i) d7 Uo=aa (.e (.one (.c (D7 k ps ns C Wg i))),af,[]):=rfl;exact hY tok b5.nil h ay
theorem XP{i:Nat}(o:b.kind≠.early){a:Act}{s:St}(h:At σ0 s0 (qQ k ps ns C Wg i) d7 a s)
  (K:∀ v f c,At σ0 s0 (qQ k ps ns C Wg i) d7 f c->Rd c.M v (D7 k ps ns C Wg i)->f.tmps.getD 26 aj=v->fG X S (G (b.aT f (.inRegion xI [1]::.inBlock 1::.code L9::.inLoop iF::.inBlock 0::kk)) cs) c) :
  fG X S (G (b.aT (a.put (aa 25) (.tuple #[])) (.inRegion Ai []::th kk)) cs) s:=by
 have p:At σ0 s0 ((25,.any)::qQ k ps ns C Wg i) d7 (a.put (aa 25) (.tuple #[])) s:=⟨h.fr.put (by decide) ay,h.hh,h.st⟩
 refine p.ctl rfl (λw=>iX) λs h=>?_
 refine h.ctl rfl (λw=>pQ) λs h=>?_
 rw[FD];refine Up s _ h.fr h.hh b _ cs S 0 [1] o rfl λv c m l e=>?_
 have m:Rd c.M v (D7 k ps ns C Wg i):=ga m;have n:=((h.fr.mono e h.hh.len).put (d:=26) (v:=v) (x:=.any) (by decide) ay)
 have g:26<(a.put (aa 25) (.tuple #[])).tmps.size:=by rw[h.fr.size];decide
 refine K v _ c ⟨n.le (dK rfl ?_),l,h.st.trans e⟩ m (Jc g);simp[ai.cat,ai,a9.same]
theorem Q4{i:Nat}(hi:i<ns.length)(n:ns.length<=4000000)(d:b.kind≠.early)(c:σ0.length<=5){a:Act}{s:St}(h:At σ0 s0 (qQ k ps ns C Wg i) d7 a s)
  (K:∀ l m,At σ0 s0 (m6 k ps ns C Wg (i+1)) d5 l m->fG X S (G (b.aT l (.code iF::.inLoop iF::.inBlock 0::kk)) cs) m) :
  fG X S (G (b.aT a (.inRegion xI []::.inBlock 1::.code L9::.inLoop iF::.inBlock 0::kk)) cs) s:=by
 have f:cw 45 (d5++[.dead,.dead]) s (m6 k ps ns C Wg i) a:=h.fr.le (dK rfl (by simp[ai.cat,ai,a9.same]))
 have e:aJ (d5++[.dead,.dead]) s:=h.hh;have g:cC σ0 s0 (d5++[.dead,.dead]) s:=h.st;have q:eW s (s.cut d5.length):=⟨rfl,λ_ _ _ h=>h,λ_ _ _=>rfl,e.mem,λb d=>d.imp id λ⟨L,o,d⟩=>⟨L,gY o,d⟩⟩
 refine .ghost q ?_;have h:At σ0 s0 (m6 k ps ns C Wg i) d5 a (s.cut d5.length):=⟨⟨f.size,f.defers.imp λ_ p=>p.drop rfl,λt=>(f.slot t).drop (p0 rfl)⟩,e.drop rfl,g.drop c⟩
 refine h.ctl rfl (λw=>iX) λs h=>?_
 refine h.ctl rfl (λw=>qH) λs h=>?_
 refine h.code d (pR8 hi n) λa s h=>?_
 exact h.ctl rfl (λw=>x3) λs h=>K a s h
end
theorem wJ{b:aQ}(c:b.roundOf=af)(a:Act)(t:List Item):b.aT a t=b.at ⟨a.tmps,a.defers++b.defers⟩ t:=by
 cases b;simp only at c;subst c;rfl
section
variable {k:Int}{ps:List bC}{ns:List Int}{Y:Lay}{val:Nat->Nat->ak}{σ0:List aW}{s0:St}{b:aQ}{kk:List Item}{cs:List aQ}
theorem O3{a:Act}{w:az}{c d c2 c3 c4 c5:ak}(f:a.tmps.getD 26 aj=.func (.func 140) #[] #[c,d,c2,c3,c4,c5]):(aw a.eval Nt).run ah w=.ok (.spawn (wH #[c,d,c2,c3,c4,c5])) w/\(aw a.eval Nt).events ah w #[]=#[]:=by
 have e:a.eval (.tmp 26)=.func (.func 140) #[] #[c,d,c2,c3,c4,c5]:=f
 constructor
 .simp[aw,Nt,resolve,Deferred.ofValue,e,wH]
 .simp[aw,Nt,resolve,Deferred.ofValue,e]
theorem Uq(p:eb (Cx.work ah) 142 (l4 k))(r:Y.kc=2)(f:b.roundOf=af)(z:b.kind≠.early){i:Nat}(hi:i<ns.length)
  (g:val i 0=.string ⟨((dF k ps (ns.getD i 0)).getD []).toArray⟩) (l:val i 1=.bool (dF k ps (ns.getD i 0)).isSome) {v:ak} {a:Act} {s:St} (h:At σ0 s0 (qQ k ps ns Y.C Y.Wg i) d7 a s) (D:WgLive 190 Y.Wg s.w)
  (A:Rd s.M v (D7 k ps ns Y.C Y.Wg i)) (x:a.tmps.getD 26 aj=v) {Next:au->St->Prop}
  (K:∀ c,At σ0 s0 (qQ k ps ns Y.C Y.Wg i) d7 a c->WgLive 190 Y.Wg c.w->Next (G (b.aT a (.inRegion xI []::.inBlock 1::.code L9::.inLoop iF::.inBlock 0::kk)) cs) c) :
  AtGo ah 190 Y (2*ns.length) val i Next (G (b.aT a (.inRegion xI [1]::.inBlock 1::.code L9::.inLoop iF::.inBlock 0::kk)) cs) s:=by
 refine⟨rfl,λc d=>?_⟩
 have u:=h.rely d.1;have q:Rd c.M v (D7 k ps ns Y.C Y.Wg i):=by rw[d.1.M];exact A
 cases q with
 |fn fs cc Qh VK f1 f2 g1 g2 r1 r2 =>
 have n:fs=[]:=gh Qh;subst n;have t:cc=[f2 0,f2 1,f2 2,f2 3,f2 4,f2 5]:=by
  apply jk
  intro j;have VK:cc.length=6:=VK
  match j with
  |0=>exact g2 0 (by omega)
  |1=>exact g2 1 (by omega)
  |2=>exact g2 2 (by omega)
  |3=>exact g2 3 (by omega)
  |4=>exact g2 4 (by omega)
  |5=>exact g2 5 (by omega)
  |j+6=>rw[eU (by omega),eU (by simp)]
 subst t;have y:f2 0=.pointer (aa ⟨Y.Wg,0,af⟩):=Rd.gm (r2 0 _ rfl);obtain⟨B,E⟩:=O3 (a:=a) (w:=c.w) x;have e:Go.Conc.listed ah b.fn ⟨a.tmps,a.defers++b.defers⟩ Nt c.w=#[]:=by
  unfold Go.Conc.listed;have:=(O3 (a:=⟨a.tmps,a.defers++b.defers⟩) (w:=c.w) x).2;rw[this];exact seen_none _ _
 have m:=stepG_spawn (P:=ah) (main:=ab) (b:=b) (a:=⟨a.tmps,a.defers++b.defers⟩) (k:=.inBlock 1::.code L9::.inLoop iF::.inBlock 0::kk) (cs:=cs) (w:=c.w) (ops:=xI) (i:=1) (rest:=[]) (o:=Nt) (by rw[FD];rfl) rfl z B rfl
 refine⟨G (b.aT a (.inRegion xI []::.inBlock 1::.code L9::.inLoop iF::.inBlock 0::kk)) cs,born ah (wH #[f2 0,f2 1,f2 2,f2 3,f2 4,f2 5]),?_,rfl,?_,K c u (d.2 D)⟩
 .rw[wJ f,wJ f,m,e];rfl
 .rw[y];exact worker p hi r g l (s:=c.child) ⟨u.hh.mem,rfl,by simp,by simp[St.child],by simp[St.child],by simp[St.child]⟩ rfl (r2 1 _ rfl) (r2 2 _ rfl) (r2 3 _ rfl) (r2 4 _ rfl) (r2 5 _ rfl)
def o9:av:={ dst:=aa 28,op:=.call { callee:=.value (.func 143),args:=#[.tmp 9],argTypes:=#[190] },type:=0,pos:= "l12_snap.go:85",after:=#[],guard:=af }
theorem FE:xJ=#[o9]:=by kernel_rfl
variable {X:Cx ah}{S:au->St->Prop}
theorem Q5(j:b.kind≠.early){C Wg:Nat}{a:Act}{s:St}(h:At σ0 s0 (m6 k ps ns C Wg ns.length) d5 a s)
  (K:∀ g c,At σ0 s0 (m6 k ps ns C Wg ns.length) d5 g c->fG X S (G (Frame.enter ah 143 #[.pointer (aa ⟨Wg,0,af⟩)] .normal) (b.aT g (.inRegion xJ [0]::.code qA::kk)::cs)) c) :
  fG X S (G (b.aT a (.code iF::.inLoop iF::.inBlock 0::.code nA::kk)) cs) s:=by
 refine h.ctl rfl (λw=>vl BX) λs h=>?_
 refine h.code j (ZU (ba _)) λa s h=>?_
 refine h.ctl rfl (λw=>n3) λs h=>?_
 have q:a.eval (.tmp 21)=.bool ae:=by
  have:=h.fr.slot 21;simp only[Nat.lt_irrefl,mo] at this;exact rd_bool (ga this)
 refine h.ctl rfl (λw=>u7 q) λs h=>?_
 refine h.ctl rfl (λw=>zm (k':=.code nA::kk) rfl) λs h=>?_
 refine h.ctl rfl (λw=>vl J5) λs h=>?_
 refine h.ctl rfl (λw=>pQ) λs h=>?_
 have h:At σ0 s0 (m6 k ps ns C Wg ns.length) d5 a s:=⟨h.fr.le (dK rfl (by simp[ai.cat,ai,a9.same])),h.hh,h.st⟩
 refine .next rfl λc d=>?_
 have e:=h.rely (X.iO d);have l:a.eval (.tmp 9)=.pointer (aa ⟨Wg,0,af⟩):=Rd.gm (e.fr.slot 9);have p:(aw a.eval o9).run ah c.w=.ok (.enter 143 #[.pointer (aa ⟨Wg,0,af⟩)]) c.w:=by
  have:=run_call_body (P:=ah) (a:=a) (w:=c.w) (o:=o9) (f:=143) (fn:=Tryz.f143) rfl Tryz.func143 (by kernel_rfl) (by kernel_rfl)
  rw[this,<-l];simp only[List.map_toArray,jJ,List.map_nil]
 have n:(aw a.eval o9).events ah c.w #[]=#[]:=events_call_body (P:=ah) (a:=a) (w:=c.w) (o:=o9) (f:=143) (fn:=Tryz.f143) rfl Tryz.func143 (by kernel_rfl) (by kernel_rfl) #[]
 have m:Go.Conc.listed ah b.fn a o9 c.w=#[]:=by unfold Go.Conc.listed;rw[n];exact seen_none _ _
 refine⟨_,c,#[],?_,.quiet e.hh,K a c e⟩;have:=rF (P:=ah) (main:=X.main) (b:=b) (a:=a) (k:=.code qA::kk) (cs:=cs) (w:=c.w) (ops:=xJ) (i:=0) (rest:=[]) (o:=o9) (by rw[FE];rfl) rfl j p
 rw[m] at this;exact this
section
variable (k ps ns Y σ0 s0 b kk cs)
def VN(g:au)(s:St):Prop:=∃ a,Fv ah O1 Y (At σ0 s0 (m6 k ps ns Y.C Y.Wg ns.length) d5 a) (b.aT a (.inRegion xJ [0]::.code qA::kk)) cs g s
def TF(g:au)(s:St):Prop:=∃ a,TW ah O1 Y (At σ0 s0 (m6 k ps ns Y.C Y.Wg ns.length) d5 a) (G (b.aT (a.put (aa 28) (.tuple #[])) (.inRegion xJ []::.code qA::kk)) cs) g s
end
theorem anF(i:Ma Y.Wg s0)(c:b.roundOf=af){g:au}{s:St}(h:VN k ps ns Y σ0 s0 b kk cs g s) :
  eg (Cx.lead ah 190 Y.Wg) (Es Y.Wg) (AtW1 ah 190 Y (TF k ps ns Y σ0 s0 b kk cs) (VN k ps ns Y σ0 s0 b kk cs)) g s:=by
 obtain⟨a,h⟩:=h;have f:(xJ[0]?).bind (·.dst)=aa 28:=by rw[FE];rfl
 rw[wJ c] at h;refine T4 (P:=ah) (L:=O1) (b₀:=b) (a₀:=⟨a.tmps,a.defers++b.defers⟩) (ops₀:=xJ) (i₀:=0) (rest₀:=[]) (k₀:=.code qA::kk) (cs:=cs) BW (At.apart i) (λg s d=>⟨a,?_⟩) (λg s e=>⟨a,?_⟩) h
 .rw[wJ c];rw[f] at d;exact d
 .rw[wJ c];exact e
theorem GN{P:an}{ty:ar}{N n:Nat}{a:au->St->Prop}:∀ (r:Nat){g:au}{s:St},eg (Cx.lead P ty Y.Wg) (Es Y.Wg) (λg s=>Spawns P ty Y N val n a r g s) g s->Spawns P ty Y N val n a r g s
 |0,_,_,h=>eg.bind h λ_ _ x=>x
 |_+1,_,_,h=>eg.bind h λ_ _ x=>x
theorem Nu(x:eb (Cx.work ah) 142 (l4 k))(z:Y.kc=2)(m:Ma Y.Wg s0)(f:b.roundOf=af)(l:b.kind≠.early)(n:σ0.length<=5)(I:ns.length<=4000000)
  (p:∀ i,i<ns.length->val i 0=.string ⟨((dF k ps (ns.getD i 0)).getD []).toArray⟩) (t:∀ i,i<ns.length->val i 1=.bool (dF k ps (ns.getD i 0)).isSome) :
  ∀ (r:Nat),r<=ns.length->∀ (a:Act) (s:St),At σ0 s0 (m6 k ps ns Y.C Y.Wg (ns.length-r)) d5 a s->WgLive 190 Y.Wg s.w ->
   Spawns ah 190 Y (2*ns.length) val ns.length (VN k ps ns Y σ0 s0 b kk cs) r (G (b.aT a (.code iF::.inLoop iF::.inBlock 0::.code nA::kk)) cs) s:=by
 intro r
 induction r with
 |zero =>
  intro _ a s h c;rw[lu] at h;have:=fG.live (E:=Es Y.Wg) (Q5 (X:=Cx.lead ah 190 Y.Wg) (kk:=kk) (cs:=cs) (S:=λg s=>∃ a,g=G (Frame.enter ah 143 #[.pointer (aa ⟨Y.Wg,0,af⟩)] .normal) (b.aT a (.inRegion xJ [0]::.code qA::kk)::cs)/\At σ0 s0 (m6 k ps ns Y.C Y.Wg ns.length) d5 a s) l h λe o d=>.stop ⟨e,rfl,d⟩) (m.step h.st).clear c
  refine eg.bind this ?_;rintro g s ⟨⟨a,rfl,h⟩,c⟩;exact T6 (P:=ah) (L:=O1) (Y:=Y) BW (At.apart m) (λg s D=>⟨a,D⟩) ⟨h,c⟩
 |succ r H =>
  intro J a s h c;have hi:ns.length-(r+1)<ns.length:=by omega
  generalize A:ns.length-(r+1)=i at h hi;have:=fG.live (E:=Es Y.Wg) (toAdd (X:=Cx.lead ah 190 Y.Wg) (kk:=.code nA::kk) (cs:=cs) (S:=λg s=>∃ a,g=G (Frame.enter ah 139 #[.pointer (aa ⟨Y.Wg,0,af⟩),.int .i64 1] .normal) (b.aT a (.inRegion Ai [0]::th (.code nA::kk))::cs)/\At σ0 s0 (qQ k ps ns Y.C Y.Wg i) d7 a s) hi l h λe o d=>J6 l d λs2 h2=>.stop ⟨e,rfl,h2⟩) (m.step h.st).clear c
  refine eg.bind this ?_;rintro g s ⟨⟨a,rfl,h⟩,c⟩;have B:(Ai[0]?).bind (·.dst)=aa 25:=by rw[FC];rfl
  rw[wJ f];refine XF (P:=ah) (L:=O1) (Y:=Y) (F:=At σ0 s0 (qQ k ps ns Y.C Y.Wg i) d7 a) BW (At.apart m) (λs q=>?_) ⟨h,c⟩
  rw[B];have:=fG.live (E:=Es Y.Wg) (XP (X:=Cx.lead ah 190 Y.Wg) (kk:=.code nA::kk) (cs:=cs) (S:=λg s=>∃ v a,g=G (b.aT a (.inRegion xI [1]::.inBlock 1::.code L9::.inLoop iF::.inBlock 0::.code nA::kk)) cs/\At σ0 s0 (qQ k ps ns Y.C Y.Wg i) d7 a s/\Rd s.M v (D7 k ps ns Y.C Y.Wg i)/\a.tmps.getD 26 aj=v) l q.1 λv e o d y j=>.stop ⟨v,e,rfl,d,y,j⟩) (m.step q.1.st).clear q.2
  rw[wJ f] at this;refine eg.bind this ?_;rintro g s ⟨⟨v,a,rfl,h,y,j⟩,c⟩;rw[A];refine⟨.leaf,Uq x z f l hi (p i hi) (t i hi) h c y j λo d u=>?_⟩
  refine GN r ?_;have:=fG.live (E:=Es Y.Wg) (Q4 (X:=Cx.lead ah 190 Y.Wg) (kk:=.code nA::kk) (cs:=cs) (S:=λg s=>∃ a,g=G (b.aT a (.code iF::.inLoop iF::.inBlock 0::.code nA::kk)) cs/\At σ0 s0 (m6 k ps ns Y.C Y.Wg (i+1)) d5 a s) hi I l n d λe o d=>.stop ⟨e,rfl,d⟩) (m.step d.st).clear u
  refine eg.bind this ?_;rintro g s ⟨⟨a,rfl,h⟩,c⟩;refine⟨.leaf,H (by omega) a s ?_ c⟩
  rw[show ns.length-r=i+1 by omega]
  exact h
end
end Go.AM.R1
namespace Go.AM
open Go.Conc
theorem aJ.Ur{σ:List aW}{s:St}(hh:aJ σ s){l:Nat}{B:aW}{L:Loc}(m:σ[l]?=aa B)(k:s.β[l]?=aa L)(p:(∃ E cs,B=.cells E cs)∨∃ H,B=.dM H) :
  aJ (σ.set l .dead) { s with β:=s.β.set l ⟨L.v,[]⟩ }/\Step σ s (σ.set l .dead) { s with β:=s.β.set l ⟨L.v,[]⟩ }:=by
 have i:l<σ.length:=(bt.1 m).1;have f:l<s.β.length:=(bt.1 k).1;have a:∀ l',(s.β.set l ⟨L.v,[]⟩)[l']?=if l=l' then aa ⟨L.v,[]⟩ else s.β[l']?:=by
  intro l'
  by_cases e:l=l'
  .subst e;rw[aU rfl,cf f]
  .rw[aO e,cQ e]
 have c:∀ L'∈s.β.set l ⟨L.v,[]⟩,∀ b∈L'.bs,L'∈s.β:=by
  intro L' hU b hb;obtain⟨l',d⟩:=za.1 hU;rw[a] at d;split at d
  .cases d;simp at hb
  .exact bz d
 have st:Step σ s (σ.set l .dead) { s with β:=s.β.set l ⟨L.v,[]⟩ }:=by
  refine⟨ba _,λ_ _ _=>rfl,λ_ _ _ h=>h,λ_ _ _ _=>rfl,λL' hU b hb=>.inr ⟨L',c L' hU b hb,hb⟩,?_,rfl,rfl,rfl,rfl⟩
  intro l' B' L' lb hU
  by_cases e:l=l'
  .subst e;rw[m] at lb;cases lb;rw[k] at hU;cases hU;refine⟨.dead,⟨L.v,[]⟩,by rw[cf i],by rw[a,aU rfl],?_⟩
   rcases p with⟨E,cs,rfl⟩|⟨H,rfl⟩ <;> rfl
  .exact⟨B',L',by rw[cQ e];exact lb,by rw[a,aO e];exact hU,.refl _ _⟩
 refine⟨⟨hh.mem,by simp[hh.len],?_,?_,λL' hU b hb=>hh.lt L' (c L' hU b hb) b hb,λb hb=>⟨(hh.own b hb).1,λL' hU oP=>(hh.own b hb).2 L' (c L' hU b oP) oP⟩⟩,st⟩
 .intro l' B' L' lb hU
  by_cases e:l=l'
  .subst e;rw[cf i] at lb;cases lb;trivial
  .rw[cQ e] at lb;rw[a,aO e] at hU;exact(hh.box l' B' L' lb hU).carry st.ext hh.len λb hb=>⟨rfl,λo=>rfl⟩
 .intro n q L1 L2 h1 h2 b j g;rw[a] at h1 h2;split at h1
  .cases h1;simp at j
  .split at h2
   .cases h2;simp at g
   .exact hh.gb n q L1 L2 h1 h2 b j g
theorem dh.closed{σ σ':List aW}{s s':St}(c:s'.M=s.M){v:ak}{d:D}(h:dh σ s v d)(e:uy 0 d=ab):dh σ' s' v d:=by
 have h1:=dh.drop (σ1:=[]) (rest:=σ) h e;refine dh.mono (σ:=[]) (s:=s.cut 0) ⟨λb o v f=>by rw[c];exact f,λl B L a _=>by simp at a⟩ (by simp[St.cut]) h1
end Go.AM
namespace Go.AM.R1
open Go.Proofs Go.Conc Go.Conc.Lib
open Go.ConcN (WgLive PayAt Has RW AtR0)
open Go.ConcR (KK WgAt stA smA rd wr mk Payload DC0)
noncomputable def Us:Code:=wI (kR (kR (kR D6)))
noncomputable def ZV:Code:=wI Us
noncomputable def XQ:Code:=kR (kR (kR D6))
theorem Q6:XQ=.seq (.seq ZV (.block 0 (.loop iF))) nA:=by kernel_rfl
section
variable {σ0:List aW}{s0:St}{φ:Fr}{σ:List aW}{a:Act}{s:St}{S:au->St->Prop}
theorem At.goes{Wg:Nat}{j:au}:∀ (m:Nat)(g:au)(s:St),At σ0 s0 φ σ a s->WgLive 190 Wg s.w->Goes ah ab (fD 190 Wg) DC0 (λg _=>g=j) m g s.w ->
  (∀ c,At σ0 s0 φ σ a c->fG (Cx.beside ah) S j c)->fG (Cx.beside ah) S g s
 |0,g,s,h,_,f,K=>by
  obtain rfl:g=j:=f s.w (.refl _);exact K s h
 |m+1,g,s,h,hl,f,K=>by
  rcases f with f|⟨o,f⟩
  .obtain rfl:g=j:=f s.w (.refl _);exact K s h
  .refine .next o λc b=>?_
   have h1:=h.rely b.1;obtain⟨d,n⟩:=b.2;have i:WgLive 190 Wg c.w:=by rw[n];exact hl
   have h2:=f c.w (λ_=>i)
   cases e:aK ah ab g c.w with
   |go g' w' es =>
    rw[e,goes_go] at h2;obtain⟨⟨rfl,rfl⟩,l⟩:=h2;exact⟨g',c,#[],e,.quiet h1.hh,At.goes m g' c h1 i l K⟩
   |_=>rw[e] at h2;exact h2.elim
theorem kD{σ:List aW}{s:St}(b:∀ B∈σ,B=.dead){ds:List Deferred}{ls:List Nat}(h:oJ σ s ds ls):ds=[]:=by
 cases ds with
 |nil=>rfl
 |cons d ds =>
  cases ls with
  |nil=>exact h.elim
  |cons l ls =>
   have:=b _ (bz h.1.1);cases this
end
section
variable {k:Int}{ps:List bC}{ns:List Int}{C:Nat}{xs:List ak}
variable (k ps ns C) in
def Nv:Fr:=[(2,cI.sl ns),(3,.e (.one (.ptr 0 0))),(4,.e (.one (.ptr 1 0))),(8,.e (.one (.ptr 3 0))),(9,.e (.one (.ptr 4 0)))]
variable (k ps ns C xs) in
def Aj:List aW:=[.cells 3 [.c (.int .i64 k)],.cells 23 [.c (.sl ae 2 ps.length (cP.fn ps))],.dM (iZ 193 2 (.row C ns.length) ns.length xs),.cells 182 [.c (.val (.slice (aa ⟨C,0,af⟩) ns.length ns.length))],.cells 190 [.c (.int .u64 0),.c (.int .u32 0)]]
variable (k ps ns) in
def Mw(x i:Nat):ak:=if i=0 then .string ⟨((dF k ps (ns.getD x 0)).getD []).toArray⟩ else .bool (dF k ps (ns.getD x 0)).isSome
variable (k ps ns) in
def l5:List ak:=ns.flatMap λn=>[.string ⟨((dF k ps n).getD []).toArray⟩,.bool (dF k ps n).isSome]
variable (k ps ns C) in
def D8:List aW:=[.dead,.dead,.dM (iZ 193 2 (.row C ns.length) ns.length (l5 k ps ns)),.dead,.dead]
theorem pR3{X:Cx ah}:AW X 45 ZV (NQ ((18,cI.sl ns)::(19,dI ns.length)::(20,dI 0)::Nv ns) (Aj k ps ns C xs)) (Nv ns) (Aj k ps ns C xs):=by
 refine AK.of_code ?_;refine bP rfl ay ⟨rfl,dK rfl ?_,rfl⟩;simp[ai.cat,ai,a9.same]
theorem wK:(l5 k ps ns).length=ns.length*2:=by
 unfold l5
 induction ns with
 |nil=>rfl
 |cons n r b=>simp only[pD,bF,b,db,eu];omega
theorem Ak:∀ {ns:List Int}{x i:Nat},x<ns.length->i<2->(l5 k ps ns)[2*x+i]?=aa (Mw k ps ns x i)
 |[],x,i,h,_=>by simp at h
 |n::r,0,i,_,hi=>by
  match i,hi with
  |0,_=>rfl
  |1,_=>rfl
 |n::r,x+1,i,h,hi=>by
  have:=Ak (ns:=r) (x:=x) (i:=i) (by simpa using h) hi
  unfold l5 at this ⊢;rw[pD,dg (by simp;omega)]
  rw[show 2*(x+1)+i - [Value.string ⟨((dF k ps n).getD []).toArray⟩,Value.bool (dF k ps n).isSome].length=2*x+i by simp;omega]
  rw[this];simp[Mw]
theorem _root_.Go.AM.cw.seen{N b:Nat}{d:D}{σ:List aW}{s:St}{φ:Fr}{a:Act}(f:cw N σ s φ a)(h:dh σ s (a.tmps.getD b aj) d):cw N σ s ((b,d)::φ) a:=by
 refine⟨f.size,f.defers,λt=>?_⟩
 simp only[look];cases hb:aA b t with
 |false=>exact f.slot t
 |true=>rw[<-bE hb];exact h
theorem getSet{α:Type}{l:List α}{i:Nat}{x y:α}(hi:i<l.length)(j:Nat)(h:(l.set i x)[j]?=aa y):(j=i/\y=x)∨(j≠i/\l[j]?=aa y):=by
 by_cases e:i=j
 .subst e;rw[cf hi] at h;cases h;exact .inl ⟨rfl,rfl⟩
 .rw[cQ e] at h;exact .inr ⟨λb=>e b.symm,h⟩
abbrev J7(n C:Nat):Fr:=[(8,.e (.one (.c (.rp [.val (.slice (aa ⟨C,0,af⟩) n n)]))))]
variable (k ps ns C) in
abbrev Ut:Fr:=(8,.e (.one (.c (.rp [.val (.slice (aa ⟨C,0,af⟩) ns.length ns.length)]))))::(4,.e (.one (.c (.rp [.sl ae 2 ps.length (cP.fn ps)]))))::(3,.e (.one (.c (.rp [.int .i64 k]))))::(18,cI.sl ns)::(19,dI ns.length)::(20,dI 0)::[(9,.e (.one (.ptr 4 0)))]
set_option maxHeartbeats 2000000 in
theorem Uu(hfe:eb (Cx.work ah) 142 (l4 k)){Q:Post}(hn:ns.length<=4000000)(Uv:qo (Cx.beside ah) 45 qA Q (J7 ns.length C) (D8 k ps ns C)):qo (Cx.beside ah) 45 XQ Q (Nv ns) (Aj k ps ns C xs):=by
 intro so ao hf hho b kk cs S hb L5 hQ;have h:At (Aj k ps ns C xs) so (Nv ns) (Aj k ps ns C xs) ao so:=⟨hf,hho,.refl _ _⟩;refine h.ctl rfl (λw=>vl Q6) λs h=>?_
 refine h.ctl rfl (λw=>n3) λs h=>?_
 refine h.code hb pR3 λa s h=>?_
 obtain⟨s1,w1,f1,R,PT⟩:=cw.freeze 3 0 (E:=3) (cs:=[.c (.int .i64 k)]) (cc:=[.int .i64 k]) rfl rfl rfl h.fr h.hh;refine .ghost (.of h.hh R w1 (PT.oA h.hh)) ?_;obtain⟨s2,w2,f2,U,oT⟩:=cw.freeze 4 1 (E:=23) (cs:=[.c (.sl ae 2 ps.length (cP.fn ps))]) (cc:=[.sl ae 2 ps.length (cP.fn ps)]) rfl rfl rfl f1 R;refine .ghost (.of R U w2 (oT.oA R)) ?_;obtain⟨s3,w3,f3,Jf,Jm⟩:=cw.freeze 8 3 (E:=182) (cs:=[.c (.val (.slice (aa ⟨C,0,af⟩) ns.length ns.length))]) (cc:=[.val (.slice (aa ⟨C,0,af⟩) ns.length ns.length)]) rfl rfl rfl f2 U;refine .ghost (.of U Jf w3 (Jm.oA U)) ?_;have h:At (Aj k ps ns C xs) so (Ut k ps ns C)
   [.dead,.dead,.dM (iZ 193 2 (.row C ns.length) ns.length xs),.dead,.cells 190 [.c (.int .u64 0),.c (.int .u32 0)]] a s3 :=
  ⟨f3.le (dK rfl (by simp[ai.cat,ai,a9.same])),Jf,h.st.trans ((PT.oA h.hh).trans ((oT.oA R).trans (Jm.oA U)))⟩
 clear PT oT Jm f1 f2 f3 R U Jf;refine h.ctl rfl (λw=>rD) λs h=>?_
 refine h.ctl rfl (λw=>EM) λs h=>?_
 have hlen:=h.hh.len;simp only[db,eu] at hlen;obtain⟨K,A⟩:∃ L,s.β[2]?=aa L:=⟨_,aR (by omega)⟩
 obtain⟨L4,F⟩:∃ L,s.β[4]?=aa L:=⟨_,aR (by omega)⟩
 obtain⟨ch,hH,Io,Su,QE⟩:=h.hh.box 2 _ K rfl A;obtain⟨zs,Wl,Uw,Tb⟩:=iZ.lookup hH;obtain⟨ZW,_,Zi,_,_,_⟩:=hH;have I:C∈K.bs:=(Su C).2 (by rw[Uw];rfl)
 have Ux:=Io C _ Uw;obtain⟨Wg,vs,y,W,Mv,hM4⟩:=h.hh.box 4 _ L4 rfl F;have XR:vs=[.int .u64 0,.int .u32 0]:=by
  match vs,Mv with
  |[],r=>exact r.elim
  |[_],r=>exact r.2.elim
  |_::_::_::_,r=>exact r.2.2.elim
  |[u0,u1],r =>
   have r0:Rd s.M u0 (.int .u64 0):=r.1;have r1:Rd s.M u1 (.int .u32 0):=r.2.1;cases r0;cases r1;rfl
 subst XR;have zD:C≠Wg:=by
  rintro rfl;have:=h.hh.gb 2 4 K L4 A F C I (by rw[y];simp)
  omega
 have hv9:a.tmps.getD 9 aj=.pointer (aa ⟨Wg,0,af⟩):=by
  obtain⟨_,L,bb,q1,q2,q3⟩:=h.fr.slot 9;rw[F] at q1;cases q1;rw[y] at q2;cases q2;exact q3
 obtain⟨g1,t1⟩:=h.hh.Ur (l:=2) rfl A (.inr ⟨_,rfl⟩);have XS:(s.β.set 2 ⟨K.v,[]⟩)[4]?=aa L4:=by rw[cQ (by decide)];exact F
 obtain⟨g2,t2⟩:=g1.Ur (l:=4) (B:=.cells 190 [.c (.int .u64 0),.c (.int .u32 0)]) rfl XS (.inl ⟨_,_,rfl⟩);generalize VO:({ s with β:=(s.β.set 2 ⟨K.v,[]⟩).set 4 ⟨L4.v,[]⟩ }:St)=sB at g2 t2;have eβ:sB.β=(s.β.set 2 ⟨K.v,[]⟩).set 4 ⟨L4.v,[]⟩:=by rw[<-VO]
 have eM:sB.M=s.M:=by rw[<-VO]
 have X:sB.w=s.w:=by rw[<-VO]
 have eo:sB.own=s.own:=by rw[<-VO]
 have ZY:aJ d5 sB:=g2;have Mb:=(t1.oA h.hh).trans (t2.oA g1);have XT:sB.β[2]?=aa ⟨K.v,[]⟩:=by rw[eβ,cQ (by decide),cf (by omega)]
 have z:∀ L∈sB.β,∀ x∈L.bs,∃ l,l≠2/\l≠4/\s.β[l]?=aa L:=by
  intro L f x d;rw[eβ] at f;obtain⟨l,D⟩:=za.1 f;rcases getSet (by simp;omega) l D with⟨_,rfl⟩|⟨n4,D⟩
  .simp at d
  .rcases getSet (by omega) l D with⟨_,rfl⟩|⟨n2,D⟩
   .simp at d
   .exact⟨l,n2,n4,D⟩
 have Bt:C<s.w.heap.size:=h.hh.lt K (bz A) C I;have zM:Wg<s.w.heap.size:=h.hh.lt L4 (bz F) Wg (by rw[y];simp)
 have XU:Ma C sB:=⟨by rw[eo];exactλho=>(h.hh.own C ho).2 K (bz A) I,λL f d=>by
  obtain⟨l,n2,n4,D⟩:=z L f C d;exact n2 (h.hh.gb l 2 L K D A C d I),λo=>by rw[eM];exact QE C I o,by rw[X];exact Bt⟩
 have Uy:Ma Wg sB:=⟨by rw[eo];exactλho=>(h.hh.own Wg ho).2 L4 (bz F) (by rw[y];simp),λL f d=>by
  obtain⟨l,n2,n4,D⟩:=z L f Wg d;exact n4 (h.hh.gb l 4 L L4 D F Wg d (by rw[y];simp)),λo=>by rw[eM];exact hM4 o,by rw[X];exact zM⟩
 have fB:cw 45 d5 sB (m6 k ps ns C Wg 0) a:=by
  have q:=h.fr.mono Mb h.hh.len;have q9:cw 45 d5 sB ((9,.e (.one (.v (.pointer (aa ⟨Wg,0,af⟩)))))::Ut k ps ns C) a:=q.seen (by rw[hv9];exact Rd.val rfl)
  exact q9.le (dK rfl (by simp[ai.cat,ai,a9.same]))
 have Q7:(xs++zs).toArray.size=2*ns.length:=by simp only[nW,Wl];omega
 have MV:∀ x,(s.own x∨∃ L∈s.β,x∈L.bs)->x<s.w.heap.size:=λx d=>d.elim (λq=>(h.hh.own x q).1) λ⟨L,f,q⟩=>h.hh.lt L f x q
 refine .xq (T:=λg' s'=>∃ a4 m,At (Aj k ps ns C xs) so (J7 ns.length C) (D8 k ps ns C) a4 s'/\WgLive 190 Wg s'.w/\Goes ah ab (fD 190 Wg) DC0 (λg _=>g=G (b.aT (a4.put (aa 28) (.tuple #[])) (.inRegion xJ []::.code qA::kk)) cs) m g' s'.w)
  (SP.fork (n:=ns.length) (ty:=190) (val:=Mw k ps ns) (N:=2*ns.length) (s0:=sB) 2 (by omega) Wg C (by omega) zD (.of h.hh ZY X Mb) rfl ⟨K,bz A,I⟩ ⟨L4,bz F,by rw[y];simp⟩ MV ?_ W ⟨_,Ux,Q7⟩ ?_) ?_
 .rintro x (rfl|rfl)
  .exact⟨XU.own,XU.β,XU.M⟩
  .exact⟨Uy.own,Uy.β,Uy.M⟩
 .intro Y hYW hYC hYk;subst hYW hYC;refine⟨TF k ps ns Y d5 sB b kk cs,VN k ps ns Y d5 sB b kk cs,λg s d=>anF Uy L5 d,?_,?_⟩
  .refine Nu hfe hYk Uy L5 hb (by decide) hn (λi hi=>rfl) (λi hi=>rfl) ns.length (ba _) a sB ⟨by rw[pJ];exact fB,ZY,.refl _ _⟩ ⟨_,_,by rw[X];exact W⟩
  .rintro g' s' ⟨a4,⟨j,J4⟩,m,hgo⟩ hm' Uz Q8 Qg EU;obtain⟨o1,o2,o3⟩:=EU Y.C (.inl rfl);obtain⟨m8,Z,acu⟩:=Uz;have VJ:m8=(l5 k ps ns).toArray:=by
    apply Array.ext_getElem?
    intro o;have eo':(l5 k ps ns).toArray[o]?=(l5 k ps ns)[o]?:=by simp
    rw[eo'];rcases cr o (2*ns.length) with ho|ho
    .have q1:=Q8 (o / 2) (by omega) (o % 2) (by omega)
     have q2:=Ak (k:=k) (ps:=ps) (ns:=ns) (x:=o / 2) (i:=o % 2) (by omega) (by omega)
     rw[show 2*(o / 2)+o % 2=o by omega] at q1 q2
     rw[q2];simpa[aY,Z] using q1
    .rw[uO (by omega),eU (by rw[wK];omega)]
   subst VJ;have zk:s'.β.length=5:=j.hh.len;obtain⟨B2',ZZ,p1,p2,p3⟩:=j.st.box 2 .dead ⟨K.v,[]⟩ rfl XT;have acw:ZZ.v=.nilFunc:=by
    cases p1;exact(show ZZ.v=K.v from p3).trans ZW
   have V:∀ (l:Nat) (B:aW),d5[l]?=aa B->B=.dead:=by
    intro l B u
    match l,u with
    |0,u|1,u|2,u|3,u|4,u=>cases u;rfl
   have H:∀ l,(s'.β.set 2 ⟨.nilFunc,[Y.C]⟩)[l]?=if l=2 then aa ⟨.nilFunc,[Y.C]⟩ else s'.β[l]?:=by
    intro l
    by_cases e:l=2
    .subst e;rw[aU rfl,cf (by omega)]
    .rw[aO e,cQ (λe'=>e e'.symm)]
   have O:∀ L∈s'.β.set 2 ⟨.nilFunc,[Y.C]⟩,L=⟨.nilFunc,[Y.C]⟩∨L∈s'.β:=λL f=>by
    obtain⟨l,D⟩:=za.1 f;rw[H] at D;split at D
    .cases D;exact .inl rfl
    .exact .inr (bz D)
   have hh4:aJ (D8 k ps ns Y.C) { s' with β:=s'.β.set 2 ⟨.nilFunc,[Y.C]⟩ }:=by
    refine⟨j.hh.mem,by simp[zk,D8],?_,?_,?_,λx d=>⟨(j.hh.own x d).1,λL f p=>?_⟩⟩
    .intro l B L u f;rw[H] at f
     by_cases e:l=2
     .subst e;rw[aU rfl] at f;cases f;cases u;refine⟨λb'=>if b'=Y.C then aa (.cells (l5 k ps ns++[]).toArray 193 (0,0)) else af,⟨rfl,?_,wK,ba _,by omega,[],by simp[wK],rfl⟩,λb' ob P=>?_,λb'=>?_,λb' P o=>?_⟩
      .intro x d;simp only[l5,List.mem_flatMap] at d;obtain⟨_,_,d⟩:=d;simp only[ew,rl,or_false] at d;rcases d with rfl|rfl <;> rfl
      .by_cases e:b'=Y.C
       .subst e;simp only[bO] at P;cases P;rw[hJ];exact Z
       .simp[e] at P
      .by_cases e:b'=Y.C <;> simp[e]
      .simp at P;subst P;exact o3 o
     .match l,u,e with
      |0,u,_|1,u,_|3,u,_|4,u,_=>cases u;trivial
      |2,_,e=>exact absurd rfl e
    .intro l l' L L' f J x d LZ;rw[H] at f J
     by_cases e:l=2
     .rw[aU e] at f;cases f;simp at d;subst d
      by_cases e':l'=2
      .omega
      .rw[aO e'] at J;exact absurd LZ (o2 L' (bz J))
     .rw[aO e] at f
      by_cases e':l'=2
      .rw[aU e'] at J;cases J;simp at LZ;subst LZ;exact absurd d (o2 L (bz f))
      .rw[aO e'] at J;exact j.hh.gb l l' L L' f J x d LZ
    .intro L f x d;rcases O L f with rfl|f
     .simp at d;subst d;exact Qg
     .exact j.hh.lt L f x d
    .rcases O L f with rfl|f
     .simp at p;subst p;exact o1 d
     .exact(j.hh.own x d).2 L f p
   have XV:cC [.dead,.dead,.dM (iZ 193 2 (.row Y.C ns.length) ns.length xs),.dead,.cells 190 [.c (.int .u64 0),.c (.int .u32 0)]] s (D8 k ps ns Y.C) { s' with β:=s'.β.set 2 ⟨.nilFunc,[Y.C]⟩ }:=by
    have q:=j.st;refine⟨by have:=q.size;rw[X] at this;exact this,λx d=>by have:=q.eH x (by rw[eo];exact d);rw[X] at this;exact this,λx o v d=>q.mem x o v (by rw[eM];exact d),λx d hnx o=>?_,λL f x d=>?_,?_,by rw[q.os,X],by rw[q.tape,X],by rw[q.output,X],by rw[q.own,eo]⟩
    .rw[q.jq x (by rw[X];exact d) (λL f p=>by
      obtain⟨l,_,_,D⟩:=z L f x p;exact hnx L (bz D) p) o,eM]
    .rcases O L f with rfl|f
     .simp at d;subst d;exact .inr ⟨K,bz A,I⟩
     .rcases q.tK L f x d with r1|⟨L0,r1,r2⟩
      .rw[X] at r1;exact .inl r1
      .obtain⟨l,_,_,D⟩:=z L0 r1 x r2;exact .inr ⟨L0,bz D,r2⟩
    .intro l B L u f;obtain⟨B1,L1,r1,r2,r3⟩:=Mb.box l B L u f;obtain⟨B3,L3,u1,u2,u3⟩:=q.box l B1 L1 r1 r2;have eB1:=V l B1 r1;have eB3:=V l B3 u1;subst eB1 eB3
     by_cases e:l=2
     .subst e;cases u;rw[A] at f;cases f;exact⟨_,⟨.nilFunc,[Y.C]⟩,rfl,by rw[H,aU rfl],ZW.symm⟩
     .refine⟨.dead,L3,?_,by rw[H,aO e];exact u2,r3.trans u3⟩
      match l,u1,e with
      |0,_,_|1,_,_|3,_,_|4,_,_=>rfl
      |2,_,e=>exact absurd rfl e
   refine⟨{ s' with β:=s'.β.set 2 ⟨.nilFunc,[Y.C]⟩ },⟨a4,m,⟨⟨j.fr.size,⟨[],?_⟩,λt=>?_⟩,hh4,h.st.trans XV⟩,J4,hgo⟩,rfl,hm',λSh VP hnC=>⟨VP.own,λx d L f p=>?_,VP.M,VP.lt⟩⟩
   .obtain⟨ls,L6⟩:=j.fr.defers;rw[kD (λB u=>by simp at u;exact u) L6]
    trivial
   .have fq:cw 45 d5 s' (J7 ns.length Y.C) a4:=j.fr.le (dK rfl (by simp[ai.cat,ai]))
    exact dh.closed (s:=s') (s':={ s' with β:=s'.β.set 2 ⟨.nilFunc,[Y.C]⟩ }) rfl (fq.slot t) (p0 rfl)
   .rcases O L f with rfl|f
    .simp at p;subst p;exact hnC d
    .exact VP.β x d L f p
 .rintro g' s' ⟨a4,m,h4,hl4,hgo⟩;refine At.goes m g' s' h4 hl4 hgo λs1 h1=>?_
  have h2:At (Aj k ps ns C xs) so ((28,.any)::J7 ns.length C) (D8 k ps ns C) (a4.put (aa 28) (.tuple #[])) s1:=⟨h1.fr.put (by decide) ay,h1.hh,h1.st⟩
  refine h2.ctl rfl (λw=>iX) λs2 h3=>?_
  refine Uv s2 _ (h3.fr.le (dK rfl (by simp[ai.cat,ai]))) h3.hh b kk cs S hb L5 λe φ' σ' s' a' q f' h' qn=>hQ e φ' σ' s' a' q f' h' (h3.st.trans qn)
end
end Go.AM.R1
namespace Go.AM.R1
open Go.Proofs
abbrev XX(a:List Bs)(b:Bool):D:=.fW [.one (.c (.sl ae 1 a.length (cS.fn a))),.one (.c (.bool b))]
def ei(k:Int)(ps:List bC)(ns:List Int):Option (List Bs):=if ns.all (λn=>(dF k ps n).isSome) then aa (ns.map λn=>(dF k ps n).getD []) else af
noncomputable def cR0:Code:=wI D6
noncomputable def cR1:Code:=wI (kR D6)
noncomputable def cR2:Code:=wI (kR (kR D6))
theorem Nw:Tryz.f114.body=aa (.seq cR0 (.seq cR1 (.seq cR2 XQ))):=by kernel_rfl
def Q9(k:Int)(ps:List bC)(ns:List Int)(i:Nat):List AM.C:=[.str ((dF k ps (ns.getD i 0)).getD []),.bool (dF k ps (ns.getD i 0)).isSome]
def uF(k:Int)(ps:List bC)(ns:List Int):List Bs:=ns.map λn=>(dF k ps n).getD []
theorem BY{b p:Bs}(h:fb b=aa p):p.length<=8:=by
 unfold fb at h;split at h
 .rename_i a
  cases h;simp only[bG,bT,bh] at a;omega
 .cases h
theorem GO{k:Int}{x:cM}{p:Bs}(h:chunk k x=aa p):p.length<=8:=by
 unfold chunk at h;split at h
 .rename_i q a
  split at h
  .cases h;exact BY a
  .cases h
 .cases h
theorem yq{k:Int}{ps:List bC}{n:Int}:((dF k ps n).getD []).length<=8:=by
 cases h:dF k ps n with
 |none=>simp
 |some p =>
  obtain⟨q,_,a⟩:=List.exists_of_findSome?_eq_some h;unfold dL at a;split at a
  .simpa using GO a
  .cases a
theorem Ra{k:Int}{ps:List bC}{ns:List Int}{i:Nat}(hi:i<ns.length){M:Mem}{j:Nat}{c:AM.C}{x:ak}(a:(Q9 k ps ns i)[j]?=aa c)(b:(l5 k ps ns)[i*2+j]?=aa x):Rd M x c:=by
 have d:j<2:=(bt.1 a).1;have:=Ak (k:=k) (ps:=ps) hi d;rw[jH,this] at b;cases b
 match j,d with
 |0,_ =>
  cases a;have:=yq (k:=k) (ps:=ps) (n:=ns.getD i 0);exact .str rfl (by omega)
 |1,_=>cases a;exact .bool
theorem _root_.Go.AM.qo.le{P:an}{X:Cx P}{N:Nat}{Q:Post}{φ b:Fr}{σ:List aW}{c:Code}(h:qo X N c Q b σ)(hl:r7 φ b):qo X N c Q φ σ:=λs a f hh=>h s a (f.le hl) hh
theorem BV{k:Int}(m:eb (Cx.work ah) 142 (l4 k))(ps:List bC)(ns:List Int)(t:ns.length<=4000000) :
  Ev (Cx.beside ah) 114 [dI k,cP.sl ps,cI.sl ns] [] (XX ((ei k ps ns).getD []) (ei k ps ns).isSome) []:=by
 refine dZ.Di (dZ.DC (ι:=Unit) Tryz.func114 rfl Nw rfl λw=>?_)
 show qo _ 45 _ _ _ _;refine qo.seq (AW.top (AK.of_code ?_));refine bP rfl ay ?_;show qo _ 45 _ _ _ _;refine qo.seq (AW.top (AK.of_code ?_));refine bP rfl ay ?_;refine AK.Is (E:=193) (n:=ns.length) tok rfl rfl rfl rfl rfl rfl (by show _*24<=_;omega) (by omega) rfl rfl λC xs=>?_
 refine bP rfl ay ?_;show qo _ 45 _ _ _ _;refine qo.seq (AW.top (AK.of_code ?_));refine bP rfl ay ?_;show qo _ 45 _ _ _ _;have b:qo (Cx.beside ah) 45 qA (λe φ σ1=>∃ _:Unit,cn Tryz.f114 0 (XX ((ei k ps ns).getD []) (ei k ps ns).isSome) [] e φ σ1) (J7 ns.length C) (D8 k ps ns C):=by
  refine AW.top (AW.mono (Q:=cn Tryz.f114 0 (XX ((ei k ps ns).getD []) (ei k ps ns).isSome) []) (AK.of_code ?_) λ_ _ _ q=>⟨(),q⟩)
  refine bP rfl (show _<=_ by omega) ?_
  refine AK.Dg 29 2 (bf:=.row C ns.length) (n:=ns.length) (k:=2) (Q9 k ps ns) rfl rfl (λi hi=>⟨rfl,λM j c x s v=>?_⟩) ?_
  .exact Ra hi s v
  refine AK.iD 12 9 1 rfl rfl ?_;refine AK.cd 6 (λi=>i<=ns.length/\∀ j,j<i->(dF k ps (ns.getD j 0)).isSome=ab) (λi:Nat=>[(29,.e (.one (.c (.sl ae 2 ns.length (Q9 k ps ns))))),(30,dI ns.length),(31,dI i),(12,.e (.one (.vec 5 1 (uF k ps (ns.take i)).length (cS.fn (uF k ps (ns.take i))))))]) (λi=>[.dead,.dead,.dead,.dead,.dead,.vec 9 1 (uF k ps (ns.take i)).length (cS.fn (uF k ps (ns.take i)))]) (λi=>ns.length-i) 0 rfl ?_ rfl ?_ rfl ⟨by omega,by omega⟩ ?_
  .simp[ai.cat,ai,a9,a9.same,uF]
  .simp[ai.cat,ai,a9,uF]
  rintro i ⟨hi,a⟩
  by_cases h:i<ns.length
  .cases l:(dF k ps (ns.getD i 0)).isSome with
   |true =>
    have f:uF k ps (ns.take (i+1))=uF k ps (ns.take i)++[(dF k ps (ns.getD i 0)).getD []]:=by
     unfold uF;rw[mS,aR h,mh];simp only[ri,jJ,List.map_nil,ag,aR h,dG]
    have u:(uF k ps (ns.take i)).length<=4000000:=by simp[uF];omega
    refine bd [(32,ab),(37,ae)] 200 rfl ?_ (AK.bg (i+1) rfl ?_ rfl rfl rfl ?_ rfl ?_ ?_)
    .simp[-ag,ai,h,Q9,l,bD];have:i9.bytes=16:=rfl;rw[this];omega
    .rw[f];simp[-ag,ai.cat,ai,a9.same,Q9];exact cS.cu _ _
    .rw[f];simp[-ag,ai.cat,ai,a9.same,Q9];exact cS.cu _ _
    .refine⟨by omega,λj d=>?_⟩
     rcases fU.1 d with d|rfl
     .exact a j d
     .exact l
    .omega
   |false =>
    refine bd [(32,ab),(37,ab)] 200 rfl ?_ (AK.eC (cn.zero rfl ?_))
    .simp[-ag,ai,h,Q9,l]
    .have r:ei k ps ns=af:=by
      unfold ei;rw[aO];intro s;have:=bq.1 s (ns.getD i 0) (by simp[ag,aR h])
      rw[l] at this;cases this
     simp[ai.cat,ai,r]
  .have p:i=ns.length:=by omega
   subst p;refine bd [(32,ae)] 200 rfl (by simp[ai]) (AK.leaveD rfl rfl ?_)
   refine ee rfl ay (AK.br rfl ?_);have g:ei k ps ns=aa (uF k ps ns):=by
    unfold ei;rw[aU]
    .rfl
    .rw[bq];intro n o;obtain⟨j,d,rfl⟩:=lL.1 o;have:=a j d;simpa[ag,aR d] using this
   simp[ai.cat,ai,g,a9.same]
 exact qo.le (σ:=Aj k ps ns C xs) (Uu (xs:=xs) m t b) (dK rfl (by simp[ai.cat,ai,a9.same]))
end Go.AM.R1
namespace Go.AM.R1
theorem jZ(a:UInt8)(s:Bs):iG (a::s)=if a=47 then 0 else if iG s=-1 then -1 else iG s+1:=by
 unfold iG;rw[Lib.indexByte.eq_def];simp
theorem vn:iG []=-1:=by unfold iG;rw[Lib.indexByte.eq_def]
theorem G7(s:Bs):eT s=dD s:=by
 by_cases g:s.length<=3
 .match s,g with
  |[],_=>simp[eT,dD,cy,jC,vn]
  |[a],_ =>
   by_cases d:a=47
   .subst d;simp[eT,dD,cy,jC,mK,j6,jZ,l6,cv]
   .simp[eT,dD,cy,jC,j6,jZ,vn,d,l6,cv]
  |[a,b],_ =>
   by_cases d:a=47
   .subst d;simp[eT,dD,cy,jC,mK,j6,jZ]
   .by_cases e:b=47
    .subst e;simp[eT,dD,cy,jC,mK,j6,jZ,d]
    .simp[eT,dD,cy,jC,j6,jZ,vn,d,e]
  |[a,b,c],_ =>
   by_cases d:a=47
   .subst d;simp[eT,dD,cy,jC,mK,j6,jZ,l6,cv]
   .by_cases e:b=47
    .subst e;simp[eT,dD,cy,jC,mK,j6,jZ,d,l6,cv]
    .have f:¬(b.toNat:Int)=47:=by
      intro h;apply e;apply pG.1;simp;omega
     by_cases i:c=47
     .subst i;simp[eT,dD,cy,jC,mK,j6,jZ,d,e,l6,cv]
     .simp[eT,dD,cy,jC,j6,jZ,vn,d,e,i,f,l6,cv]
  |_::_::_::_::_,h=>simp at h
 .have k:dD s=ae:=by unfold dD;rw[aO (by omega),aO (by omega)]
  rw[k];cases j:eT s with
  |false=>rfl
  |true=>exact absurd (uf j) g
end Go.AM.R1
namespace Go.AM
theorem sj(a:Bs):bj a []=ae:=by rw[Op.bytesLess.eq_def]
theorem wS(b:UInt8)(l:Bs):bj [] (b::l)=ab:=by rw[Op.bytesLess.eq_def]
theorem sk(a b:UInt8)(x y:Bs):bj (a::x) (b::y)=(decide (a<b)||a==b&&bj x y):=by rw[Op.bytesLess.eq_def]
theorem qd:∀ a:Bs,bj a a=ae
 |[]=>sj []
 |a::l=>by rw[sk,qd l];simp
theorem Cd:∀ a b:Bs,bj a b=ab∨a=b∨bj b a=ab
 |[],[]=>.inr (.inl rfl)
 |[],b::y=>.inl (wS b y)
 |a::x,[]=>.inr (.inr (wS a x))
 |a::x,b::y=>by
  rw[sk,sk];rcases Cd x y with h|h|h
  .by_cases c:a=b
   .subst c;left;simp[h]
   .rcases zd c with d|d
    .left;simp[d]
    .right;right;simp[d]
  .subst h
   by_cases c:a=b
   .subst c;right;left;rfl
   .rcases zd c with d|d
    .left;simp[d]
    .right;right;simp[d]
  .by_cases c:a=b
   .subst c;right;right;simp[h]
   .rcases zd c with d|d
    .left;simp[d]
    .right;right;simp[d]
theorem wT:∀ {a b c:Bs},bj a b=ab->bj b c=ab->bj a c=ab
 |a,b,[],_,d=>by rw[sj] at d;cases d
 |a,[],c::z,e,_=>by rw[sj] at e;cases e
 |[],b::y,c::z,_,_=>wS c z
 |a::x,b::y,c::z,e,d=>by
  rw[sk,lN,bG,bh,fJ] at e d ⊢;rcases e with e|⟨rfl,e⟩
  .rcases d with d|⟨rfl,d⟩
   .exact .inl (UInt8.lt_trans e d)
   .exact .inl e
  .rcases d with d|⟨rfl,d⟩
   .exact .inl d
   .exact .inr ⟨rfl,wT e d⟩
theorem Ce{a b:Bs}(h:bj a b=ab):bj b a=ae:=by
 cases c:bj b a with
 |false=>rfl
 |true=>have:=wT h c;rw[qd] at this;cases this
theorem RG{a b:Bs}:(!(bj b a||b==a))=bj a b:=by
 rcases Cd a b with h|h|h
 .have c:(b==a)=ae:=by
   simp only[dx,cW];rintro rfl;rw[qd] at h;cases h
  rw[h,Ce h,c];rfl
 .subst h;simp[qd]
 .rw[h,Ce h];rfl
namespace R1
theorem UU{t:List bJ}{i:Nat}(h:∀ k,0<k->k<=i->bj (fj t (k-1)) (fj t k)=ab):∀ j,j<i->bj (fj t j) (fj t i)=ab:=by
 intro j f
 induction i with
 |zero=>omega
 |succ i d =>
  have c:=h (i+1) (by omega) (ba _)
  simp only[md] at c
  by_cases e:j=i
  .subst e;exact c
  .exact wT (d (λk a b=>h k a (by omega)) (by omega)) c
theorem ug{s:Bs}(h:dD s=ab):(∃ a,s=[a])∨∃ a b,s=[a,47,b]:=by
 unfold dD at h;split at h
 .rename_i d
  match s,d with
  |[a],_=>exact .inl ⟨a,rfl⟩
 .split at h
  .rename_i d
   match s,d with
   |[a,b,c],_ =>
    right
    simp[l6,cv] at h;have e:b=47:=by apply pG.1;simp;omega
    exact⟨a,c,by rw[e]⟩
  .cases h
theorem Cf{p q:Bs}(i:dD p=ab)(j:dD q=ab)(f:bj p q=ab):clash p q=under q p:=by
 rcases ug i with⟨a,rfl⟩|⟨a,b,rfl⟩ <;> rcases ug j with⟨c,rfl⟩|⟨c,d,rfl⟩
 .simp[clash,under,k9]
 .by_cases e:a=c
  .subst e;simp[clash,under,k9,cv]
  .have:¬(a.toNat:Int)=c.toNat:=λh=>e (pG.1 (by omega))
   have k:((a.toNat:Int)==(c.toNat:Int))=ae:=by rw[dx];exact this
   have g:(c==a)=ae:=by rw[dx];exactλh=>e h.symm
   simp[clash,under,k9,cv];rw[k,g]
 .have:¬(a.toNat:Int)=c.toNat:=by
   intro h;have e:a=c:=pG.1 (by omega)
   subst e;rw[sk,sj] at f;simp at f
  simp[clash,under,k9,cv,this]
 .simp[clash,under,k9]
theorem yG{t:List bJ}{i:Nat}(a:∀ j,j<i->gy t j=ab):ji t i=gy t i:=by
 unfold ji gy;rw[G7,RG];cases m:dD (fj t i) with
 |false=>simp
 |true =>
  cases n:ef (Aq t i) with
  |false=>simp
  |true =>
   cases d:(i==0||bj (fj t (i-1)) (fj t i)) with
   |false=>simp
   |true =>
    simp only[dH];have l:∀ j,j<i->bj (fj t j) (fj t i)=ab:=by
     apply UU
     intro k o g
     by_cases e:k=i
     .subst e;have:(k==0)=ae:=by simp;omega
      rw[this,ru] at d;exact d
     .have:=a k (by omega)
      simp only[gy,bG,lN,fJ] at this;exact this.1.2.resolve_left (by omega)
    rw[mj,bX,bX];have f:∀ j,j<i->clash (fj t j) (fj t i)=under (fj t i) (fj t j):=by
     intro j b;have c:dD (fj t j)=ab:=by
      have:=a j b;simp only[gy,bG] at this;exact this.1.1.1
     exact Cf c m (l j b)
    constructor
    .intro h j b;rw[f j b];exact h j b
    .intro h j b;rw[<-f j b];exact h j b
theorem GJ(t:List bJ):ow t=dt t:=by
 unfold ow dt
 congr 1
 rw[mj,bX,bX]
 constructor
 .intro h i
  induction i using Nat.strongRecOn with
  |_ i b=>intro hi;rw[<-yG (λj a=>b j a (by omega))];exact h i hi
 .intro h i hi;rw[yG (λj a=>h j (by omega))]
  exact h i hi
end R1
end Go.AM
namespace Go.AM.R1
open Go.Proofs
variable {X:Cx ah}
def fileOf(k:Int)(ps:List bC)(x:gL):Option bJ:=match ei k ps x.2 with
 |none=>af
 |some l=>match gd l with
  |none=>af
  |some t=>aa (x.1,t)
def c6(k:Int)(ps:List bC)(l:List gL):List bJ:=l.map λx=>(fileOf k ps x).getD ([],[])
def cO(k:Int)(s:dA)(ps:List bC):Option (List bJ) :=
 if cD k&&s.2.all (λx=>(fileOf k ps x).isSome)&&dt (c6 k ps s.2) then aa (c6 k ps s.2) else af
abbrev Q0(a:List bJ)(b:Bool):D:=.fW [.one (.c (.sl ae 2 a.length (cF.fn a))),.one (.c (.bool b))]
abbrev No(s:dA):D:=.e (.agg [.c (.int .i64 s.1),.c (.sl ae 2 s.2.length (cL.fn s.2))])
theorem ph{k:Int}{ps:List bC}{l:List gL}{i:Nat}(h:i<l.length):c6 k ps (l.take (i+1))=c6 k ps (l.take i)++[(fileOf k ps (l.getD i ([],[]))).getD ([],[])]:=by
 unfold c6;rw[mS,aR h,mh];simp only[ri,jJ,List.map_nil,ag,aR h,dG]
theorem pj{k:Int}{ps:List bC}{s:dA}{i:Nat}(h:i<s.2.length)(b:fileOf k ps (s.2.getD i ([],[]))=af):cO k s ps=af:=by
 unfold cO;rw[aO];intro a;simp only[bG] at a;have:=bq.1 a.1.2 (s.2.getD i ([],[])) (by rw[ag,aR h];exact dy h)
 rw[b] at this;cases this
theorem xH{k:Int}{ps:List bC}{ns:List Int}{l:List Bs}(h:ei k ps ns=aa l)(a:ns.length<=4000000):l.flatten.length<=140737488355328/\l.length<=4000000:=by
 unfold ei at h;split at h
 .rename_i b
  cases h;refine⟨?_,by simpa using a⟩
  have key:∀ ns:List Int,(ns.all λn=>(dF k ps n).isSome)=ab->(ns.map λn=>(dF k ps n).getD []).flatten.length<=8*ns.length:=by
   intro ns
   induction ns with
   |nil=>intro _;simp
   |cons n ns ih =>
    intro h;simp only[u5,bG] at h;have:=ih h.2;have c:=yq (k:=k) (ps:=ps) (n:=n);simp only[jJ,List.flatten_cons,bF,db];omega
  have:=key ns b;omega
 .cases h
theorem BU(k:Int)(s:dA)(ps:List bC)(K:s.2.length<=4000000)(I:∀ x∈s.2,x.2.length<=4000000) :
  Ev (Cx.beside ah) 98 [dI k,No s,cP.sl ps] [] (Q0 ((cO k s ps).getD []) (cO k s ps).isSome) []:=by
 refine Ev.body Tryz.func98 rfl rfl rfl λE=>?_
 have z:=E.sl 2 rfl;have d:b5 (Cx.beside ah) [(68,k6 aI (λk=>dB (cD k)) λ_=>[])]:=.cons t68 .nil
 cases p:cD k with
 |false =>
  refine aE d [(15,ae),(16,ab)] 100 rfl ?_ (AK.br rfl ?_)
  .simp[ai,p]
  .simp[ai,ai.cat,cO,p]
 |true =>
  have v:eb (Cx.work ah) 142 (l4 k):=QW Ub p;refine aE d [(15,ab),(16,ae),(1000004,ab)] 100 rfl ?_ ?_
  .simp[ai,p]
  refine AK.iD 8 129 2 rfl rfl ?_;refine aE d [] 100 rfl ay ?_;refine AK.cd 2 (λi=>i<=s.2.length/\∀ j,j<i->(fileOf k ps (s.2.getD j ([],[]))).isSome=ab) (λi:Nat=>[(0,dI k),(2,cP.sl ps),(4,.e (.one (.ptr 0 0))),(8,.e (.one (.vec 1 2 (c6 k ps (s.2.take i)).length (cF.fn (c6 k ps (s.2.take i)))))),(18,cL.sl s.2),(19,dI s.2.length),(20,dI i)]) (λi=>[.cells 59 [.c (.int .i64 s.1),.c (.sl ae 2 s.2.length (cL.fn s.2))],.vec 129 2 (c6 k ps (s.2.take i)).length (cF.fn (c6 k ps (s.2.take i)))]) (λi=>s.2.length-i) 0 rfl ?_ rfl ?_ rfl ⟨by omega,by omega⟩ ?_
  .simp[ai.cat,ai,a9.same,a9.nil,c6]
  .simp[ai.cat,ai,a9.same,a9.nil,c6]
  rintro i ⟨hi,g⟩
  by_cases h:i<s.2.length
  .have q:s.2.getD i ([],[])∈s.2:=by rw[ag,aR h];exact dy h
   generalize a:s.2.getD i ([],[])=x at q;have n:=I x q;have f:=BV v ps x.2 n;cases b:ei k ps x.2 with
   |none =>
    rw[b] at f;refine aE d [(21,ab)] 100 rfl ?_ ?_
    .exact⟨by omega,by omega,b9 (by omega)⟩
    refine AK.bM (a▸f) [] rfl rfl rfl rfl rfl rfl rfl rfl rfl rfl rfl ?_;refine aE d [(33,ab)] 100 rfl ?_ (AK.eC (cn.zero rfl ?_))
    .simp[ai]
    .have e:fileOf k ps x=af:=by simp[fileOf,b]
     rw[pj h (by rw[a];exact e)]
     simp[ai,ai.cat]
   |some l =>
    obtain⟨r,G⟩:=xH b n;rw[b] at f;have u:=D3 (X:=Cx.beside ah) l r;refine aE d [(21,ab)] 100 rfl ?_ ?_
    .exact⟨by omega,by omega,b9 (by omega)⟩
    refine AK.bM (a▸f) [] rfl rfl rfl rfl rfl rfl rfl rfl rfl rfl rfl ?_;refine aE d [(33,ae)] 100 rfl ?_ ?_
    .simp[ai]
    refine AK.bM u [] rfl rfl rfl rfl rfl rfl rfl rfl rfl rfl rfl ?_;cases y:gd l with
    |none =>
     refine aE d [(40,ab)] 100 rfl ?_ (AK.eC (cn.zero rfl ?_))
     .simp[ai]
     .have e:fileOf k ps x=af:=by simp[fileOf,b,y]
      rw[pj h (by rw[a];exact e)]
      simp[ai,ai.cat]
    |some t =>
     have e:fileOf k ps x=aa (x.1,t):=by simp[fileOf,b,y]
     have J:s.2.getD (i:Int).toNat cL.bU=x:=a;have H:(c6 k ps (s.2.take i)).length<=4000000:=by simp[c6];omega
     have D:a9 ((c6 k ps (s.2.take i)).length+1) (cX (c6 k ps (s.2.take i)).length (cF.fn (c6 k ps (s.2.take i))) λw=>[[C.str (s.2.getD (i:Int).toNat cL.bU).1,C.str ((aa t).getD [])]].getD w []) (cF.fn (c6 k ps (s.2.take (i+1)))):=by
      rw[ph h,a,e,J];exact cF.cu (c6 k ps (s.2.take i)) (x.1,t)
     have A:(c6 k ps (s.2.take i)).length+1=(c6 k ps (s.2.take (i+1))).length:=by rw[ph h];simp
     refine aE d [(40,ae)] 100 rfl ?_ (AK.bg (i+1) rfl ?_ rfl rfl rfl ?_ rfl ?_ ?_)
     .refine⟨by simp only[bD];omega,rfl,rfl,?_,rfl⟩
      show _*32<=_;omega
     .refine ai.cat.2 ⟨rfl,ai.cat.2 ⟨⟨rfl,a9.same⟩,ai.cat.2 ⟨ay,ai.cat.2 ⟨⟨A,D⟩,ai.cat.2 ⟨⟨rfl,a9.same⟩,ai.cat.2 ⟨rfl,ai.cat.2 ⟨?_,ay⟩⟩⟩⟩⟩⟩⟩;simp[ai]
     .exact ai.cat.2 ⟨ai.cat.2 ⟨rfl,ai.cat.2 ⟨⟨rfl,a9.same⟩,ay⟩⟩,ai.cat.2 ⟨⟨A,D⟩,ay⟩⟩
     .refine⟨by omega,λj m=>?_⟩
      rcases fU.1 m with m|rfl
      .exact g j m
      .rw[a,e];rfl
     .omega
  .have e:i=s.2.length:=by omega
   subst e;refine aE d [(21,ae)] 100 rfl (by simp[ai]) (AK.leaveD rfl rfl ?_)
   rw[cq];have o:=D4 (X:=Cx.beside ah) (c6 k ps s.2);rw[GJ] at o;refine aE d [] 100 rfl ay ?_;refine AK.bM o [] rfl rfl rfl rfl rfl rfl rfl rfl rfl rfl rfl ?_;have F:s.2.all (λx=>(fileOf k ps x).isSome)=ab:=bq.2 λx q=>by
    obtain⟨j,m,rfl⟩:=lL.1 q;have:=g j m;simpa[ag,aR m] using this
   cases B:dt (c6 k ps s.2) with
   |false =>
    refine aE d [(51,ab)] 100 rfl ?_ (AK.br rfl ?_)
    .simp[ai]
    .simp[ai,ai.cat,cO,B]
   |true =>
    refine aE d [(51,ae)] 100 rfl ?_ (AK.br rfl ?_)
    .simp[ai]
    .simp[ai,ai.cat,cO,B,p,F,a9.same]
abbrev bo:=List bC×List dA×List (Int×Int)
def mZ(s:bo):Prop:=∀ x∈s.2.1,x.2.length<=4000000/\∀ y∈x.2,y.2.length<=4000000
abbrev k7(s:bo):D:=.e (.agg [.c (.sl ae 2 s.1.length (cP.fn s.1)),.c (.sl ae 2 s.2.1.length (dz.fn s.2.1)),.c (.sl ae 2 s.2.2.length (cH.fn s.2.2))])
def yr:dC:=C5 aI (JS cL) (aL cP) (λk s ps=>Q0 ((cO k s ps).getD []) (cO k s ps).isSome) λ_ s _=>[s.2.length<=4000000,∀ x∈s.2,x.2.length<=4000000]
theorem GK:eb (Cx.beside ah) 98 yr:=.H0 λk s ps h=>BU k s ps h.1 h.2
def Np:Arg bo:=⟨k7,λd=>match d with
 |.e (.agg [.c a,.c b,.c c])=>match lg 2 (.e (.one (.c a))) with
  |some (k,g)=>match lg 2 (.e (.one (.c b))) with
   |some (i,j)=>match lg 2 (.e (.one (.c c))) with
    |some (m,l)=>aa ((cP.list k g,dz.list i j,cH.list m l),[cP.fits k g,dz.fits i j,cH.fits m l])
    |none=>af
   |none=>af
  |none=>af
 |_=>af,λ{d a o} h n σ s v r=>by
 split at h
 .split at h
  .rename_i k g y
   split at h
   .rename_i i j p
    split at h
    .rename_i m l q
     cases h;obtain⟨vs,u,f⟩:=r
     match vs,f with
     |[],f=>exact f.elim
     |[_],f=>exact f.2.elim
     |[_,_],f=>exact f.2.2.elim
     |_::_::_::_::_,f=>exact f.2.2.2.elim
     |[t,x,w],f =>
      exact⟨_,u,cP.ko (σ:=[]) (s:=s) (v:=t) y n.1 f.1,dz.ko (σ:=[]) (s:=s) (v:=x) p n.2.1 f.2.1,cH.ko (σ:=[]) (s:=s) (v:=w) q n.2.2 f.2.2.1,ay⟩
    .cases h
   .cases h
  .cases h
 .cases h⟩
abbrev fK(p:bC)(i:Nat):cM:=p.2.getD i (0,[])
def iE(k:Int)(p:bC)(i:Nat):Bool:=right k (fK p i)&&(i==0||decide ((fK p (i-1)).1<(fK p i).1))
theorem tg(k:Int)(p:bC):ju k p=((bc p.2.length).all (iE k p)&&(cD k&&decide (1<=p.1)&&decide (p.1<=99)&&decide (1<=p.2.length)&&decide (p.2.length<=4))):=by
 have e:(p.2.all (right k)&&Ah (p.2.map (·.1)))=(bc p.2.length).all (iE k p):=by
  rw[mj,bG,bq,bq];unfold Ah;rw[bq];have a:∀ i,i<p.2.length->(p.2.map (·.1)).getD i 0=(fK p i).1:=λi hi=>by simp[ag,aR hi]
  constructor
  .rintro⟨f,b⟩ i hi;have hi:=pH.1 hi;have q:=b i (by simpa using hi)
   rw[a i hi] at q;unfold iE;rw[f (fK p i) (by simp only[fK,ag,aR hi,dG];exact dy hi),dH]
   rcases jF i with rfl|c
   .rfl
   .rw[a (i-1) (by omega)] at q;exact q
  .intro h;refine⟨λx d=>?_,λi hi=>?_⟩
   .obtain⟨i,hi,rfl⟩:=lL.1 d;have:=h i (pH.2 hi);simp only[iE,bG] at this;simpa[fK,ag,aR hi] using this.1
   .have hi:i<p.2.length:=by simpa using hi
    have:=h i (pH.2 hi);simp only[iE,bG] at this;rw[a i hi];rcases jF i with rfl|c
    .rfl
    .rw[a (i-1) (by omega)];exact this.2
 rw[<-e];unfold ju;cases cD k <;> cases decide (1<=p.1) <;> cases decide (p.1<=99) <;> cases decide (1<=p.2.length) <;> cases decide (p.2.length<=4) <;> simp
theorem yt{k:Int}{p:bC}{i:Nat}(hi:i<p.2.length)(h:iE k p i=ae):ju k p=ae:=by
 rw[tg];cases a:(bc p.2.length).all (iE k p) with
 |false=>rfl
 |true =>
  have:=bq.1 a i (pH.2 hi);rw[h] at this;cases this
theorem qP{k:Int}{x:cM}(a:cD k=ab):(chunk k x).isSome=right k x:=by
 unfold chunk right;cases fb x.2 with
 |none=>rfl
 |some q =>
  simp only[a,dH];split
  .rename_i h;rw[h];rfl
  .rename_i h;simp only[ln] at h;rw[h];rfl
theorem GL(k:Int)(p:bC)(a:cD k=ab)(w:p.2.length<=4000000):Ev X 94 [dI k,GB p] [] (dB (ju k p)) []:=by
 refine Ev.body Tryz.func94 rfl rfl rfl λy=>?_
 have b:b5 X [(68,k6 aI (λk=>dB (cD k)) λ_=>[]),(110,qb SE aI (λx k=>Ae (chunk k x)) λ_ k=>[cD k=ab])]:=.cons t68 (.cons (JQ Ub) .nil)
 refine aE b [] 100 rfl ay ?_;refine AK.cd 1 (λi=>i<=p.2.length/\∀ j,j<i->iE k p j=ab) (λi:Nat=>[(0,dI k),(3,.e (.one (.ptr 0 0))),(10,eY.sl p.2),(11,dI p.2.length),(12,dI i)]) (λ_=>[.cells 55 [.c (.int .i64 p.1),.c (sP p)]]) (λi=>p.2.length-i) 0 rfl ?_ rfl ?_ rfl ⟨by omega,by omega⟩ ?_
 .simp[ai.cat,ai,a9.same]
 .simp[ai.cat,ai,a9.same]
 rintro i ⟨hi,f⟩
 by_cases h:i<p.2.length
 .cases m:right k (fK p i) with
  |false =>
   have n:(chunk k (fK p i)).isSome=ae:=by rw[qP a];exact m
   refine aE b [(13,ab),(24,ab),(40,ab)] 100 rfl ?_ (AK.eC (cn.zero rfl ?_))
   .refine⟨rfl,?_,a,by omega,by omega,b9 (by omega)⟩
    show (!(chunk k (fK p i)).isSome)=ab;rw[n];rfl
   .rw[yt h (by simp only[iE,m,nY])]
    simp[ai]
  |true =>
   have n:(!(chunk k (fK p i)).isSome)=ae:=by rw[qP a,m];rfl
   by_cases t:i=0
   .subst t;refine aE b [(13,ab),(24,ae),(27,ae),(40,ae)] 100 rfl ?_ (AK.bg 1 rfl ?_ rfl rfl rfl ?_ rfl ⟨by omega,λj l=>?_⟩ (by omega))
    .simp only[ai,bD];refine⟨by omega,ay,by simp,n,a,by omega,by omega,b9 (by omega)⟩
    .simp[ai.cat,ai,a9.same]
    .simp[ai.cat,ai,a9.same]
    .have:j=0:=by omega
     subst this;simp only[iE,m,dH];rfl
   .have u:((i:Int)-1).toNat=i-1:=by omega
    cases o:decide ((fK p (i-1)).1<(fK p i).1) with
    |false =>
     refine aE b [(13,ab),(24,ae),(27,ab),(38,ab),(40,ab)] 100 rfl ?_ (AK.eC (cn.zero rfl ?_))
     .have q:(p.2.getD ((i:Int)-1).toNat eY.bU).1=(fK p (i-1)).1:=by rw[u];rfl
      refine⟨rfl,b9 ?_,by omega,by omega,by simp only[bD];omega,b9 (by omega),n,a,by omega,by omega,b9 (by omega)⟩
      rw[q];show (fK p i).1<=_;exact Int.not_lt.1 (of_decide_eq_false o)
     .rw[yt h (by simp only[iE,m,o,dH,Bool.or_false];simpa using t)]
      simp[ai]
    |true =>
     refine aE b [(13,ab),(24,ae),(27,ab),(38,ae),(40,ae)] 100 rfl ?_ (AK.bg (i+1) rfl ?_ rfl rfl rfl ?_ rfl ⟨by omega,λj l=>?_⟩ (by omega))
     .have q:(p.2.getD ((i:Int)-1).toNat eY.bU).1=(fK p (i-1)).1:=by rw[u];rfl
      refine⟨by simp only[bD];omega,rfl,cJ ?_,by omega,by omega,by simp only[bD];omega,b9 (by omega),n,a,by omega,by omega,b9 (by omega)⟩
      rw[q];show ¬(fK p i).1<=_;exact Int.not_le.2 (nQ o)
     .simp[ai.cat,ai,a9.same]
     .simp[ai.cat,ai,a9.same]
     .rcases fU.1 l with l|rfl
      .exact f j l
      .simp only[iE,m,o,dH,Bool.or_true]
 .have e:i=p.2.length:=by omega
  subst e;refine aE b [(13,ae)] 100 rfl (by simp[ai]) (AK.leaveD rfl rfl ?_)
  have v:(bc p.2.length).all (iE k p)=ab:=bq.2 λj l=>f j (pH.1 l)
  rw[tg,v,a]
  by_cases d:1<=p.1
  .by_cases g:p.1<=99
   .by_cases r:1<=p.2.length
    .by_cases s:p.2.length<=4
     .refine aE b [(43,ab),(47,ab),(52,ab),(58,ab),(64,ab)] 100 rfl ?_ (AK.br rfl ?_)
      .exact⟨b9 (by omega),b9 (by omega),b9 g,b9 d,a⟩
      .simp[ai,d,g,r,s]
     .refine aE b [(43,ab),(47,ab),(52,ab),(58,ab),(64,ae)] 100 rfl ?_ (AK.br rfl ?_)
      .exact⟨cJ (by omega),b9 (by omega),b9 g,b9 d,a⟩
      .simp[ai,d,g,r,s]
    .refine aE b [(43,ab),(47,ab),(52,ab),(58,ae)] 100 rfl ?_ (AK.br rfl ?_)
     .exact⟨cJ (by omega),b9 g,b9 d,a⟩
     .simp[ai,d,g,r]
   .refine aE b [(43,ab),(47,ab),(52,ae)] 100 rfl ?_ (AK.br rfl ?_)
    .exact⟨cJ g,b9 d,a⟩
    .simp[ai,d,g]
  .refine aE b [(43,ab),(47,ae)] 100 rfl ?_ (AK.br rfl ?_)
   .exact⟨cJ d,a⟩
   .simp[ai,d]
def FB:dC:=qb aI (JS eY) (λk p=>dB (ju k p)) λk p=>[cD k=ab,p.2.length<=4000000]
theorem Nq:eb X 94 FB:=.te λk p h=>GL k p h.1 h.2
end Go.AM.R1
namespace Go.AM
open Go.Conc (G)
section
variable {P:an}{X:Cx P}{N:Nat}{K:List It}{φ:Fr}{σ:List aW}
theorem AK.fC{ι:Type}{T:List (Nat×TI)}{fn:Func}{h:Nat}{res:ι->D}{σ':ι->List aW}(i:ι)(ks:List Nat){l:Nat}{E:ar}{cs:List A}{t:Tmp}{ty:ar}{b:TI}{ps:List Prop}
  (q:fn.results.toList=[.cell t ty]) (hi:bL T ty=aa b) (m:b.agg=ab) (n:look φ t=.e (.one (.ptr l 0))) (hl:fZ l σ=aa (.cells E cs)) (a:aA cs.length b.size=ab) (g:hX l ks=ae)
  (f:Bf (.e (.agg cs)) (jQ ks (res i))=aa ps) (k:ai ps) (c:uy ks.length (res i)=ab) (o:kW ks σ=aa (σ' i)) (d:km (σ' i)=ab) (hn:eh ks=ab) (p:∀ j,j<h->ks[j]?=aa j) :
  AK X N (λe φ σ1=>∃ j,M5 T fn h (res j) (σ' j) e φ σ1) (.code .ret::K) .normal φ σ :=
 AK.ret ⟨i,.inl rfl,ks,l,E,cs,t,ty,b,ps,q,hi,m,bE a,n,dY hl,BG g,f,k,c,o,d,hn,p⟩
theorem Ev.lY{T:List (Nat×TI)}(g:dk P T){f:aX}{fn:Func}{c:Code}{args:List D}{σ σ':List aW}{res:D}(d:P.funcs[f]?=aa fn)(a:(fn.name== "runtime.NumGoroutine")=ae)(hb:fn.body=aa c)(b:bw args.length fn.ntmps=ab)
  (h:Fits args σ->AK X fn.ntmps (λe φ σ1=>∃ _:Unit,M5 T fn σ.length res σ' e φ σ1) [.code c] .normal (iA 0 args) σ):Ev X f args σ res σ' :=
 (dZ.kL (ι:=Unit) (σ':=λ_=>σ') (res:=λ_=>res) g d a hb b h).Di
end
end Go.AM
namespace Go.AM.R1
open Go.Proofs
variable {X:Cx ah}
theorem _root_.Go.AM.iv.lB{α:Type}(c:iv α)(l:List α){i:Nat}(h:i<l.length)(d:α):a9 (i+1) (cX i (c.fn (l.take i)) (λq=>[c.enc (l.getD i d)].getD q [])) (c.fn (l.take (i+1))):=by
 have e:l.take (i+1)=l.take i++[l.getD i d]:=by rw[mS];simp[ag,aR h]
 have:=c.cu (l.take i) (l.getD i d);rw[<-e,show (l.take i).length=i by simp;omega] at this
 exact this
abbrev gA:A:=.c (.sl ab 0 0 λ_=>[])
def wL{α:Type}(q:α->Bool)(l:List α):Int:=match l.findIdx? q with|some i=>i|none=>-1
theorem Al{α:Type}{q:α->Bool}{t:List α}{i:Nat}{d:α}(hi:i<t.length)(h:q (t.getD i d)=ab)(a:∀ j,j<i->q (t.getD j d)=ae):wL q t=i:=by
 have:t.findIdx? q=aa i:=by
  rw[uJ];refine⟨hi,?_,λj c=>?_⟩
  .simpa[ag,aR hi] using h
  .have b:j<t.length:=by omega
   simpa[ag,aR b] using a j c
 rw[wL,this]
theorem tj{α:Type}{q:α->Bool}{t:List α}{d:α}(a:∀ j,j<t.length->q (t.getD j d)=ae):wL q t=-1:=by
 have:t.findIdx? q=af:=by
  rw[qD];intro f c;obtain⟨j,b,rfl⟩:=dN c;simpa[ag,aR b] using a j b
 rw[wL,this]
def Rb(b:Nat->Int):Nat->List C:=λi=>[.int .u8 (b i)]
def Bytes(b:Nat->Int):Prop:=∀ i,0<=b i/\b i<=255
abbrev nC(m:Nat)(b:Nat->Int) (k:Int):aW:=.cells 65 [.c (.sl ae 1 m (Rb b)),.c (.int .i64 k)]
theorem dZ.sC{ι:Type}{f:aX}{fn:Func}{c:Code}{args:List D}{σ:List aW}{σ':ι->List aW}{res:ι->D}(g:Tryz.prog.funcs[f]?=aa fn)(a:(fn.name== "runtime.NumGoroutine")=ae)(hb:fn.body=aa c)(b:bw args.length fn.ntmps=ab)
  (h:Fits args σ->AK X fn.ntmps (λe φ σ1=>∃ j,cn fn σ.length (res j) (σ' j) e φ σ1) [.code c] .normal (iA 0 args) σ):dZ X f args σ res σ' :=
 dZ.DC g a hb b λd=>AW.top (AK.of_code (h d))
theorem AK.nG{ι:Type}{fn:Func}{a:Nat}{res:ι->D}{σ':ι->List aW}{N:Nat}{φ:Fr}{σ:List aW}{K:List It}(i:ι)(k:AK X N (cn fn a (res i) (σ' i)) K .normal φ σ):AK X N (λe φ σ1=>∃ j,cn fn a (res j) (σ' j) e φ σ1) K .normal φ σ :=
 AK.jc (λ_ _ _ q=>⟨i,q⟩) k
def se(m:Nat)(b:Nat->Int)(k:Nat) (n:Int):Int :=
 if m=0 then 0 else if k<m then b k % n else
  ((b ((k:Int) % m).toNat*131+b (((k:Int)*7+3) % m).toNat*1117+k*29+(k:Int) / m*53).toNat ^^^ ((b ((k:Int) % m).toNat*131+b (((k:Int)*7+3) % m).toNat*1117+k*29+(k:Int) / m*53) / 64).toNat:Nat) % n
set_option maxRecDepth 20000 in
theorem B6(m:Nat)(b:Nat->Int)(d:Bytes b)(k:Nat) (n:Int)(z:k<=4000000)(q:m<=1048576)(p:1<=n/\n<=4000000) :
  Ev X 15 [.e (.one (.ptr 0 0)),dI n] [nC m b k] (dI (se m b k n)) [nC m b (k+1)]:=by
 refine Ev.body Tryz.func15 rfl rfl rfl λh=>?_
 have c:∀ j,j<([nC m b k]:List aW).length->([0]:List Nat)[j]?=aa j:=λj o=>by
  have:j=0:=by simpa using o
  subst this;rfl
 by_cases g:m=0
 .subst g;refine bd [(17,ae),(24,ab)] 100 rfl ?_ (AK.eB [0] rfl ?_ rfl rfl rfl c)
  .simp[ai,bD];omega
  .simp[ai,se]
 have f:((k:Int)+1-1)=k:=by omega
 have i:((k:Int)+1-1).toNat=k:=by omega
 have l:=d k
 by_cases C:(k:Int)<m
 .refine bd [(17,ae),(24,ae),(36,ab)] 100 rfl ?_ (AK.eB [0] rfl ?_ rfl rfl rfl c)
  .simp only[ai,f,bu,bh,bY,dx,bD];omega
  .have:k<m:=by omega
   simp[ai,se,g,this]
 .refine bd [(17,ae),(24,ae),(36,ae)] 200 rfl ?_ (AK.eB [0] rfl ?_ rfl rfl rfl c)
  .simp only[ai,f,bY,dx,bD];have a:(0:Int)<m:=by omega
   have s:=rq (k:Int) (by omega:(m:Int)≠0)
   have A:=rj (k:Int) a;have v1:=rq ((k:Int)*7+3) (by omega:(m:Int)≠0)
   have B:=rj ((k:Int)*7+3) a;have w1:0<=(k:Int) / m:=Int.ediv_nonneg (by omega) (by omega)
   have w2:(k:Int) / m<=k:=Int.ediv_le_self _ (by omega)
   generalize (k:Int) % m=u at *;generalize ((k:Int)*7+3) % m=v at *;generalize (k:Int) / m=w at *;have r:=d u.toNat;have t:=d v.toNat;generalize b u.toNat=x at *;generalize b v.toNat=y at *;omega
  .have:¬k<m:=by omega
   simp[ai,se,g,this,f]
theorem uc(m:Nat)(b:Nat->Int)(k:Nat) (n:Int)(a:1<=n):0<=se m b k n/\se m b k n<n:=by
 unfold se;split
 .omega
 .split
  .exact⟨rq _ (by omega),rj _ (by omega)⟩
  .exact⟨rq _ (by omega),rj _ (by omega)⟩
theorem ek(m:Nat)(b:Nat->Int)(d:Bytes b)(k:Nat) (n:Int)(c:k<=4000000)(f:m<=1048576)(a:1<=n/\n<=4000000) :
  dZ (ι:={ v:Int // 0<=v/\v<n }) X 15 [.e (.one (.ptr 0 0)),dI n] [nC m b k] (λv=>dI v.1) (λ_=>[nC m b (k+1)]):=by
 have h:=B6 (X:=X) m b d k n c f a;exact⟨h.1,λs vs hr hh S cs hS=>h.2 s vs hr hh S cs (hS ⟨_,uc m b k n a.1⟩)⟩
theorem D9{lo hi j:Nat}{z:List C}{es:Nat->List C}(h:¬(lo<=j/\j<hi)):sO lo hi z es j=es j:=aO h
theorem bx{α:Type}{l:List α}{i:Nat}(h:i<l.length)(d:α):l.take (i+1)=l.take i++[l.getD i d]:=by
 rw[mS];simp[ag,aR h]
theorem _root_.Go.AM.iv.Am{α:Type}(c:iv α)(l:List α)(i:Nat)(x:α)(n:Nat)(hn:n<=l.length):a9 n (nu i (c.enc x) (c.fn l)) (c.fn (l.set i x)):=by
 intro q a;simp only[nu,iv.fn,vm]
 by_cases e:q=i
 .subst e;rw[aU rfl];simp[ag,cf (by omega:q<l.length)]
 .rw[aO e,ag,ag,cQ (λh=>e h.symm)]
abbrev gM:=Int×Int×Int×Bs
abbrev Ny(l:gM):List A:=[.c (.int .i64 l.1),.c (.int .i64 l.2.1),.c (.int .i64 l.2.2.1),.c (.str l.2.2.2)]
abbrev sc(l:gM):D:=.e (.agg (Ny l))
abbrev VR(cs:List C):D:=.e (.one (.c (.rp cs)))
abbrev sPs(ps:List bC):C:=.sl ae 2 ps.length (cP.fn ps)
abbrev sSs(a:List dA):C:=.sl ae 2 a.length (dz.fn a)
abbrev sHs(a:List (Int×Int)):C:=.sl ae 2 a.length (cH.fn a)
abbrev aB(l n m:Nat):A:=.bp l (.sl n 2 0 m)
def qR(n:Nat)(a:List (Int×Int))(x:dA):Bool:=(a.drop n).any λh=>h.2==x.1
theorem _root_.Go.AM.iv.Nz{α:Type}(c:iv α)(l:List α)(n m:Nat):a9 m (jb n (c.fn l)) (c.fn (l.drop n)):=λi _=>by
 simp[jb,iv.fn,vm,ag]
theorem Sz(s:bo)(l:gM)(n:Nat)(a:l.2.1=n)(h:n<=s.2.2.length):ai (iU s.2.2.length (aa l.2.1) af):=by
 show 0<=l.2.1/\l.2.1<=(s.2.2.length:Int);omega
abbrev Rn(s:bo)(l:gM):Nat->List C:=nu (0+l.2.1.toNat) [.int .i64 (3-(s.2.2.getD (0+l.2.1.toNat) cH.bU).1),.int .i64 (s.2.2.getD (0+l.2.1.toNat) cH.bU).2] (cH.fn s.2.2)
abbrev O5(s:bo)(l:gM):Int:=(s.2.2.getD (0+l.2.1.toNat) cH.bU).1
end Go.AM.R1
namespace Go.AM
theorem dZ.le{P:an}{ι:Type}{X:Cx P}{f:aX}{args:List D}{σ:List aW}{res res':ι->D}{σ1:ι->List aW}(h:dZ X f args σ res σ1){ps:ι->List Prop}(a:∀ i,Bf (res i) (res' i)=aa (ps i))(b:∀ i,ai (ps i)):dZ X f args σ res' σ1 :=
 ⟨h.1,λs vs hr hh S cs hS=>h.2 s vs hr hh S cs λi fr v s' hl oa lG st=>hS i fr v s' hl (oU (a i) (b i) oa) lG st⟩
theorem dZ.one{P:an}{ι:Type}{X:Cx P}{f:aX}{args:List D}{σ:List aW}{res:D}{σ1:List aW}(h:dZ (ι:=ι) X f args σ (λ_=>res) (λ_=>σ1)):Ev X f args σ res σ1 :=
 ⟨h.1,λs vs hr hh S cs hS=>h.2 s vs hr hh S cs λ_ fr v s' hl oa lG st=>hS fr v s' hl oa lG st⟩
namespace R1
open Go.Proofs
variable {X:Cx ah}
abbrev acJ{α:Type}(c:iv α)(a:List α):Type:={ es:Nat->List C // ∀ i,i<a.length->es i=c.fn a i }
structure gU (s:bo):Prop where
 p:s.1.length<=4000000
 p2:∀ p∈s.1,p.2.length<=4000000
 sn:s.2.1.length<=4000000
 s2:mZ s
 h:s.2.2.length<=4000000
end R1
end Go.AM
namespace Go.AM.R1
open Go.Proofs
open Go.Sort (pdq bitsLen ltInt Below)
variable {X:Cx ah}
def mM(l:List Int):List Int:=l.mergeSort λx y=>decide (x<=y)
theorem gQ(l:List Int):(mM l).length=l.length:=List.length_mergeSort _
theorem Lr(l:List Int):pdq ltInt l.toArray 0 l.length (bitsLen l.length) ab ab=(mM l).toArray:=by
 have h:=Go.Sort.sortInt l;unfold Go.Sort.sort at h;rw[nW] at h;exact il (by rw[h];rfl)
theorem Vf(l:List Int):eI l.toArray=cI.fn l:=by
 funext j
 simp only[eI,iv.fn,vm,cI,ag];simp
abbrev Hm(n:Nat)(l:List Int):aW:=.buf 3 1 n (cI.fn l)
theorem Cw(l:List Int)(a:l.length<=4000000):Ev X 96 [kG l.length] [Hm l.length l] (.fW []) [Hm l.length (mM l)]:=by
 refine Ev.body Tryz.func96 rfl rfl rfl λb=>?_
 refine ee rfl (by simp only[ai,bD];and_intros <;> omega) ?_
 refine AK.bM (Ls l.length a) [] rfl rfl rfl rfl rfl rfl rfl rfl rfl rfl rfl ?_;refine ee rfl ay ?_;have c:=kz (x:=l.length) (k:=22) (by simp;omega)
 have key:Ev X 112 [kG l.length,dI 0,dI l.length,dI (bitsLen l.length)] [Hm l.length l] (.fW []) [Hm l.length (mM l)]:=by
  have:=Se (X:=X) l.length a l.length l.toArray 0 l.length (bitsLen l.length) (by omega) (by simp) (by omega) (ba _) (by omega) (.inl rfl) (x:=0) rfl rfl rfl (Lr l).symm
  simp only[bI,Vf] at this;exact this
 refine AK.bM key [0] rfl rfl rfl rfl rfl rfl rfl rfl rfl rfl rfl ?_;refine ee rfl ay ?_;exact cn.tb [0] rfl ay rfl rfl rfl ig
def j1(l:List Int):Nat->List Int
 |0=>[]
 |j+1=>if j≠0/\l.getD j 0=l.getD (j-1) 0 then j1 l j else j1 l j++[l.getD j 0]
def dW(l:List Int):List Int:=j1 l l.length
theorem sv(l:List Int):∀ j,(j1 l j).length<=j
 |0=>ba _
 |j+1=>by
  have:=sv l j;simp only[j1];split
  .omega
  .simp;omega
theorem nF{l:List Int}:∀ {k:Nat},k<=l.length->(∀ i,1<=i->i<k->l.getD i 0≠l.getD (i-1) 0)->j1 l k=l.take k
 |0,_,_=>by simp[j1]
 |k+1,e,h=>by
  rw[j1,aO,nF (by omega) λi b c=>h i b (by omega),bx (by omega) 0]
  rintro⟨d,a⟩;exact h k (by omega) (by omega) a
structure CoP (l:List Int)(k0:Nat)(k2:Nat)(ys:List Int):Prop where
 h1:1<=k2
 hj:k0+k2<=l.length
 len:ys.length=l.length
 lt:(j1 l (k0+k2)).length<k0+k2
 done:ys.take (j1 l (k0+k2)).length=j1 l (k0+k2)
 rest:∀ i,k0+k2<=i+1->ys.getD i 0=l.getD i 0
abbrev Lt(a:List Int):Type:={ es:Nat->List C // ∀ i,i<a.length->es i=cI.fn a i }
set_option maxHeartbeats 2000000 in
theorem w7(l:List Int)(L:l.length<=4000000):dZ (ι:=Lt (dW l)) X 97 [kG l.length] [Hm l.length l] (λ_=>.e (.one (.bp 0 (.sl l.length 1 0 (dW l).length)))) (λes=>[.buf 3 1 l.length es.1]):=by
 refine dZ.sC Tryz.func97 rfl rfl rfl λK=>?_
 by_cases p:l.length<2
 .have m:dW l=l:=by
   unfold dW;rw[nF (ba _) λi _ _=>by omega,cq]
  refine bd [(8,ab)] 200 rfl (by simp only[ai,bh];omega) (AK.nG ⟨cI.fn l,λi _=>by rw[m]⟩ (AK.eB [0] rfl ?_ rfl rfl rfl ig))
  simp[ai,m]
 refine bd [(8,ae)] 200 rfl (by simp only[ai,bY];omega) ?_
 refine AK.kP (S2:=Unit) 0 rfl rfl (λ_=>dW l=l) (λ_=>[(0,kG l.length)]) (λ_=>[Hm l.length l]) 1 (λk:Nat=>1<=k/\k<=l.length/\∀ i,1<=i->i<k->l.getD i 0≠l.getD (i-1) 0) (λk=>[(0,kG l.length),(3,dI k)]) (λ_=>[Hm l.length l]) (λk=>l.length-k) 1 rfl ?_ rfl ?_ rfl ⟨ba _,by omega,λi x p=>by omega⟩ ?_ ?_
 .simp[ai.cat,ai]
 .simp[ai.cat,ai,a9.same]
 .rintro out k ⟨E,M,d⟩
  by_cases G:k<l.length
  .have A:((k:Int)-1).toNat=k-1:=by omega
   have z:∀ j,l.getD j cI.bU=l.getD j 0:=λ_=>rfl
   by_cases g:l.getD k 0=l.getD (k-1) 0
   .refine bd [(13,ab),(25,ab)] 200 rfl ?_ ?_
    .simp only[ai,bm,bu,A,z,g,bD,bh,fp,aG,aF];and_intros <;> omega
    have F:=nF (l:=l) (by omega) d
    have r:j1 l (k+1)=l.take k:=by rw[j1,aU ⟨by omega,g⟩,F]
    refine AK.kP (S2:=List Int) 2 rfl rfl (λc=>c.length=l.length/\c.take (dW l).length=dW l) (λ_=>[(0,kG l.length),(3,dI (dW l).length)]) (λc=>[Hm l.length c]) 1 (λs:Nat×List Int=>CoP l k s.1 s.2) (λs=>[(0,kG l.length),(3,dI (j1 l (k+s.1)).length),(4,.e (.one (.bp 0 (.sl l.length 1 k (l.length-k))))),(5,dI s.1)]) (λs=>[Hm l.length s.2]) (λs=>l.length-s.1) (1,l) rfl ?_ rfl ?_ rfl ?_ ?_ ?_
    .simp only[ai.cat,ai,r,bn,cE,bm,bu,aG,aF];exact⟨by omega,rfl,rfl⟩
    .simp[ai.cat,ai,a9.same]
    .exact⟨ba _,by omega,rfl,by rw[r,bn];omega,by rw[r];simp[List.take_take],λ_ _=>rfl⟩
    .rintro h ⟨b,c⟩ ⟨J,c2,c3,c4,o,n⟩;simp only at J c2 c3 c4 o n
     by_cases D:k+b<l.length
     .have B:((b:Int)-1).toNat=b-1:=by omega
      have v:∀ j,c.getD j cI.bU=c.getD j 0:=λ_=>rfl
      have t:c.getD (k+b) 0=l.getD (k+b) 0:=n _ (by omega)
      have w:c.getD (k+(b-1)) 0=l.getD (k+(b-1)) 0:=n _ (by omega)
      by_cases q:l.getD (k+b) 0=l.getD (k+(b-1)) 0
      .have f:j1 l (k+(b+1))=j1 l (k+b):=by
        rw[show k+(b+1)=k+b+1 by omega,j1,aU ⟨by omega,by rw[q,show k+b-1=k+(b-1) by omega]⟩]
       refine bd [(32,ab),(44,ae)] 200 rfl ?_ (AK.bg (b+1,c) rfl ?_ rfl rfl rfl ?_ rfl ?_ ?_)
       .simp only[ai,bm,bu,B,v,t,w,q,bD,bh,nR,hO,fp,aG,aF];and_intros <;> first|trivial|omega
       .simp only[ai.cat,ai,f,aG,aF];omega
       .simp[ai.cat,ai,a9.same]
       .exact⟨by simp only;omega,by simp only;omega,c3,by simp only;rw[f];omega,by simp only;rw[f];exact o,λi hi=>n i (by simp only at hi;omega)⟩
       .simp only;omega
      .have f:j1 l (k+(b+1))=j1 l (k+b)++[l.getD (k+b) 0]:=by
        rw[show k+(b+1)=k+b+1 by omega,j1,aO]
        rintro⟨_,g⟩;exact q (by rw[g,show k+b-1=k+(b-1) by omega])
       refine bd [(32,ab),(44,ab)] 200 rfl ?_ (AK.bg (b+1,c.set (j1 l (k+b)).length (l.getD (k+b) 0)) rfl ?_ rfl rfl rfl ?_ rfl ?_ ?_)
       .simp only[ai,bm,bu,B,v,t,w,bD,bh,iS,dx,lx,cW,aG,aF];and_intros <;> first|exact q|omega
       .simp only[ai.cat,ai,f,bF,db,eu,aG,aF];and_intros <;> omega
       .have e:=cI.Am c (j1 l (k+b)).length (l.getD (k+b) 0) l.length (by omega)
        simp only[ai.cat,ai,bm,bu,v,t,aF,aG];exact e
       .refine⟨by simp only;omega,by simp only;omega,by simp[c3],by simp only;rw[f,bF];simp;omega,?_,λi hi=>?_⟩
        .simp only;rw[f,bF,show ∀ a:Int,[a].length=1 fromλ_=>rfl,mS,List.take_set,List.set_eq_of_length_le (by simp;omega),o,cf (by omega)]
         rfl
        .simp only at hi ⊢;rw[ag,cQ (by omega),<-ag]
         exact n i (by omega)
       .simp only;omega
     .have I:k+b=l.length:=by omega
      have y:j1 l (k+b)=dW l:=by rw[I];rfl
      refine bd [(32,ae)] 200 rfl ?_ (AK.leaveD rfl rfl ?_)
      .simp only[ai,bY];omega
      rw[y] at o;exact h c ⟨c3,o⟩ rfl (by simp[ai.cat,ai,y]) rfl (by simp[ai.cat,ai,a9.same])
    rintro c ⟨C,u⟩;have H:(dW l).length<=l.length:=sv l _;refine ee rfl ?_ ?_
    .simp only[ai];exact⟨by omega,by omega⟩
    refine AK.law (bR.PL tok rfl rfl rfl rfl rfl rfl ?_) rfl rfl ?_
    .simp only[cE,bu];omega
    refine bP rfl ?_ (AK.eC ⟨⟨sO (0+cE 0 (aa ((dW l).length:Int))) (0+cE 0 (aa ((dW l).length:Int))+(cE l.length af-cE 0 (aa ((dW l).length:Int)))) i3.zero (cI.fn c),λi hi=>?_⟩,cn.mk [0] rfl ?_ rfl rfl rfl ig⟩)
    .simp only[ai];exact⟨by omega,by omega⟩
    .have e:c[i]?=(dW l)[i]?:=by rw[<-u,et,aU hi]
     refine(D9 (by simp only[cE,bu];omega)).trans ?_
     simp only[iv.fn,vm,ag,e]
    .simp[ai,cE];rfl
   .refine bd [(13,ab),(25,ae)] 200 rfl ?_ (AK.bg (k+1) rfl ?_ rfl rfl rfl ?_ rfl ?_ ?_)
    .simp only[ai,bm,bu,A,z,bD,bh,dx,cW,aG,aF];and_intros <;> first|exact g|omega
    .simp[ai.cat,ai]
    .simp[ai.cat,ai,a9.same]
    .refine⟨by omega,by omega,λi x p=>?_⟩
     rcases fU.1 p with p|rfl
     .exact d i x p
     .exact g
    .omega
  .obtain rfl:k=l.length:=by omega
   refine bd [(13,ae)] 200 rfl (by simp[ai]) (AK.leaveD rfl rfl ?_)
   exact out () (by unfold dW;rw[nF (ba _) d,cq]) rfl (by simp[ai.cat,ai]) rfl (by simp[ai.cat,ai,a9.same])
 rintro⟨⟩ m;refine ee rfl ay (AK.nG ⟨cI.fn l,λi _=>by rw[m]⟩ (AK.eB [0] rfl ?_ rfl rfl rfl ig))
 simp[ai,m]
end Go.AM.R1
namespace Go.AM.R1
open Go.Proofs
variable {X:Cx ah}
def cp(l:List gL):List Int:=l.flatMap (·.2)
def ib(x:dA):List Int:=dW (mM (cp x.2))
theorem ss{l:List gL}{i:Nat}(h:i<l.length):cp (l.take (i+1))=cp (l.take i)++(l.getD i ([],[])).2:=by
 rw[bx h ([],[])];simp[cp]
theorem _root_.Go.AM.iv.KW{α:Type}(c:iv α)(a b:List α)(n:Nat)(hn:n=(a++b).length):a9 n (cX a.length (c.fn a) (c.fn b)) (c.fn (a++b)):=by
 intro i hi;simp only[cX,iv.fn,vm,ag];subst hn
 by_cases h:i<a.length
 .rw[aU h,b7 h]
 .rw[aO h,dg (by omega)]
theorem xQ(x:dA)(o:x.2.length<=4000000)(g:(cp x.2).length<=4000000)(l:∀ i,i<=x.2.length->(cp (x.2.take i)).length<=4000000) :
  dZ (ι:=Lt (ib x)) X 73 [No x] [] (λ_=>.e (.one (.bp 0 (.sl (cp x.2).length 1 0 (ib x).length)))) (λes=>[.buf 3 1 (cp x.2).length es.1]):=by
 refine dZ.sC Tryz.func73 rfl rfl rfl λn=>?_
 refine bd [(1000002,ab)] 200 rfl ay ?_;refine AK.T8 3 3 1 (cI.fn []) rfl ?_;refine ee rfl ay ?_;refine AK.cd 2 (λi=>i<=x.2.length) (λi:Nat=>[(3,.e (.one (.bp 1 (.sl (cp (x.2.take i)).length 1 0 (cp (x.2.take i)).length)))),(7,cL.sl x.2),(8,dI x.2.length),(9,dI i)])
  (λi=>[.cells 59 [.c (.int .i64 x.1),.c (.sl ae 2 x.2.length (cL.fn x.2))],Hm (cp (x.2.take i)).length (cp (x.2.take i))]) (λi=>x.2.length-i) 0 rfl ?_ rfl ?_ rfl (by omega) ?_
 .simp[ai.cat,ai,a9.same,cp]
 .simp[ai.cat,ai,a9,cp]
 intro i hi
 by_cases h:i<x.2.length
 .have b:x.2.getD (i:Int).toNat cL.bU=x.2.getD i ([],[]):=by rw[bu];rfl
  have a:=ss h;have f:=l (i+1) h;rw[a,bF] at f;refine bd [(10,ab)] 200 rfl ?_ (AK.bg (i+1) rfl ?_ rfl rfl rfl ?_ rfl ?_ ?_)
  .simp only[ai,b,bD,show i3.bytes=8 from rfl,bh,aG,aF];and_intros <;> omega
  .simp only[ai.cat,ai,b,a,bF,aF,aG]
   and_intros <;> first|exact a9.same|rfl|omega
  .have e:=cI.KW (cp (x.2.take i)) (x.2.getD i ([],[])).2 _ rfl;simp only[ai.cat,ai,b,a,bF,aF,aG] at e ⊢;exact⟨a9.same,e⟩
  .show i+1<=_;omega
  .omega
 .obtain rfl:i=x.2.length:=by omega
  rw[cq];refine bd [(10,ae)] 200 rfl (by simp[ai]) (AK.leaveD rfl rfl ?_)
  refine ee rfl ay ?_;refine AK.bM (Cw (cp x.2) g) [1] rfl rfl rfl rfl rfl rfl rfl rfl rfl rfl rfl ?_;refine ee rfl ay ?_;have k:=w7 (X:=X) (mM (cp x.2)) (by rw[gQ];exact g)
  rw[gQ] at k;refine AK.cx k [1] rfl rfl rfl rfl rfl rfl rfl (λ_=>rfl) rfl (λ_=>rfl) rfl ?_
  rintro⟨es,d⟩;refine ee rfl ay (AK.nG ⟨es,d⟩ (AK.eB [1] rfl ?_ rfl rfl rfl (λj m=>absurd m (by simp))))
  simp[ai,ib]
theorem nE(l:List gL)(i:Nat):(cp (l.take i)).length<=(cp l).length:=by
 have h:cp l=cp (l.take i)++cp (l.drop i):=by
  unfold cp;rw[<-nU,j8]
 rw[h,bF];omega
theorem su(l:List Int):(dW l).length<=l.length:=sv l _
theorem AG(x:dA)(d:x.2.length<=4000000)(c:(cp x.2).length<=4000000):Ev X 73 [No x] [] (cI.sl (ib x)) []:=by
 have a:=xQ (X:=X) x d c λi _=>eG (nE _ _) c
 have b:=dZ.qz (σ1:=λ_:Lt (ib x)=>[]) (E:=3) (k:=1) (n:=λ_=>(cp x.2).length) (es:=λes=>es.1) a (λ_=>rfl) (λ_=>?_) (λ_=>rfl) (λ_=>ba _)
 refine(b.le (res':=λ_=>cI.sl (ib x)) (λ_=>rfl) (λes=>?_)).one
 .simp only[ai.cat,ai,aF,aG];exact es.2
 .have:(ib x).length<=(cp x.2).length:=by unfold ib;rw[<-gQ (cp x.2)];exact su _
  simpa[ai.cat,ai] using this
theorem Ro(n lo hi:Int):Ev X 18 [dI n,dI lo,dI hi] [] (dB (decide (lo<=n/\n<=hi))) []:=by
 refine Ev.body Tryz.func18 rfl rfl rfl λc=>?_
 by_cases b:lo<=n
 .by_cases a:n<=hi
  .refine bd [(10,ab),(14,ab)] 100 rfl (by simp[ai];omega) (AK.br rfl ?_)
   simp[ai,b,a]
  .refine bd [(10,ab),(14,ae)] 100 rfl (by simp[ai];omega) (AK.br rfl ?_)
   simp[ai];omega
 .refine bd [(10,ae),(14,ae)] 100 rfl (by simp[ai];omega) (AK.br rfl ?_)
  simp[ai];omega
abbrev pn:dC:=C5 aI aI aI (λn lo hi=>dB (decide (lo<=n/\n<=hi))) λ_ _ _=>[]
theorem qp:eb X 18 pn:=.H0 λn lo hi _=>Ro n lo hi
theorem GS(n:Nat)(e:n<=4000000):Ev X 203 [dI n] [] (dI (cB n)) []:=by
 refine Ev.body Tryz.func203 rfl rfl rfl λf=>?_
 by_cases d:n<1
 .refine bd [(6,ab),(9,ab)] 100 rfl (by simp[ai];omega) (AK.br rfl ?_)
  have:cB n=0:=by simp[cB,d]
  simp[ai,this]
 by_cases c:8<n
 .refine bd [(6,ae),(9,ab)] 100 rfl (by simp[ai];omega) (AK.br rfl ?_)
  have:cB n=0:=by simp[cB,c]
  simp[ai,this]
 by_cases a:n<=2
 .refine bd [(6,ae),(9,ae),(10,ab)] 100 rfl (by simp[ai];omega) (AK.br rfl ?_)
  have:cB n=2:=by simp only[cB,aO (show ¬(n<1∨8<n) by omega),aU a]
  simp[ai,this]
 by_cases b:n<=4
 .refine bd [(6,ae),(9,ae),(10,ae),(13,ab)] 100 rfl (by simp[ai];omega) (AK.br rfl ?_)
  have:cB n=4:=by simp only[cB,aO (show ¬(n<1∨8<n) by omega),aO a,aU b]
  simp[ai,this]
 .refine bd [(6,ae),(9,ae),(10,ae),(13,ae)] 100 rfl (by simp[ai];omega) (AK.br rfl ?_)
  have:cB n=8:=by simp only[cB,aO (show ¬(n<1∨8<n) by omega),aO a,aO b]
  simp[ai,this]
theorem NA(l:List Bs)(p:Bs)(g:l.length<=4000000):Ev X 158 [cS.sl l,dS p] [] (dB (l.contains p)) []:=by
 refine Ev.body Tryz.func158 rfl rfl rfl λf=>?_
 refine bP rfl ay ?_;refine AK.cd 0 (λi=>i<=l.length/\∀ j,j<i->l.getD j []≠p) (λi:Nat=>[(0,cS.sl l),(1,dS p),(5,dI i)]) (λ_=>[]) (λi=>l.length-i) 0 rfl ?_ rfl ?_ rfl ⟨by omega,by omega⟩ ?_
 .simp[ai.cat,ai,a9.same]
 .simp[ai]
 rintro i ⟨hi,a⟩
 by_cases h:i<l.length
 .have d:l.getD (i:Int).toNat cS.bU=l.getD i []:=by rw[bu];rfl
  by_cases c:l.getD i []=p
  .refine bd [(9,ab),(17,ab)] 100 rfl ?_ (AK.eC (cn.zero rfl ?_))
   .simp only[ai,d];exact⟨fJ.2 c,by omega,by omega,b9 (by omega)⟩
   .have:p∈l:=by rw[<-c,ag,aR h];exact dy h
    simp[ai,this]
  .refine bd [(9,ab),(17,ae)] 100 rfl ?_ (AK.bg (i+1) rfl ?_ rfl rfl rfl ?_ rfl ?_ ?_)
   .simp only[ai,d,bD];exact⟨by omega,dx.2 c,by omega,by omega,b9 (by omega)⟩
   .simp[ai.cat,ai,a9.same]
   .simp[ai]
   .refine⟨by omega,λj b=>?_⟩
    rcases fU.1 b with b|rfl
    .exact a j b
    .exact c
   .omega
 .refine bd [(9,ae)] 100 rfl (by simp[ai];omega) (AK.leaveD rfl rfl ?_)
  refine bP rfl ay (AK.br rfl ?_);have:¬p∈l:=λe=>by
   obtain⟨j,b,rfl⟩:=dN e;exact absurd (by simp[ag,aR b]) (a j (by omega))
  simp[ai,this]
theorem Kb(p:Bs)(b:bT p=ab):Ev X 153 [dS p] [] (dI (codeOf p)) []:=by
 refine Ev.body Tryz.func153 rfl rfl rfl λf=>?_
 have a:=b;simp only[bT,bG,bh] at a;refine bP rfl ay ?_;refine AK.cd 0 (λi=>i<=p.length) (λi:Nat=>[(0,dS p),(3,dI (codeOf (p.take i))),(4,dI i)]) (λ_=>[]) (λi=>p.length-i) 0 rfl (by simp[ai.cat,ai,codeOf]) rfl (by simp[ai]) rfl (by omega) ?_
 intro i hi
 by_cases h:i<p.length
 .have k:=jW b hi;have g:=jW b (i:=i+1) (by omega)
  have e:=tZ h;have j:=kQ a.2 (p.getD i 0) (wE h);have c:97<=cv p i/\cv p i<=122:=by unfold cv;omega
  refine bd [(8,ab)] 100 rfl ?_ (AK.bg (i+1) rfl ?_ rfl rfl rfl ?_ rfl ?_ ?_)
  .simp only[ai,cA,bD];simp[-ag,h,cA];omega
  .have d:(cv p i-97) % 256=cv p i-97:=mf (by omega) (by omega)
   rw[d] at e;simp[-ag,ai.cat,ai,cA,e]
  .simp[ai]
  .show i+1<=p.length;omega
  .show p.length-(i+1)<p.length-i;omega
 .obtain rfl:i=p.length:=by omega
  refine bd [(8,ae)] 100 rfl (by simp[ai]) (AK.leaveD rfl rfl ?_)
  refine bP rfl ay (AK.br rfl ?_);simp[ai]
theorem Rp:eb X 153 (k6 aS (λp=>dI (codeOf p)) λp=>[bT p=ab]):=.pf λp h=>Kb p h
theorem Kc(k:Int)(p:Bs)(d:cD k=ab)(b:bT p=ab):Ev X 118 [dI k,dS p] [] (dI (jd k p)) []:=by
 refine Ev.body Tryz.func118 rfl rfl rfl λh=>?_
 have c:b5 X [(153,k6 aS (λp=>dI (codeOf p)) λp=>[bT p=ab])]:=.cons Rp .nil
 have a:=d;simp only[cD,bG,bh] at a;have g:=yo b;refine aE c [] 100 rfl ?_ (AK.br rfl ?_)
 .have f:0<=codeOf p*(2*k+1):=Int.mul_nonneg g.1 (by omega)
  have e:codeOf p*(2*k+1)<=282429536481*199:=Int.mul_le_mul (by omega) (by omega) (by omega) (by omega)
  generalize codeOf p*(2*k+1)=m at f e;simp only[ai,bD];simp[b];omega
 .show (_:Int)=_;rfl
theorem An:eb X 118 (qb aI aS (λk p=>dI (jd k p)) λk p=>[cD k=ab,bT p=ab]):=.te λk p h=>Kc k p h.1 h.2
theorem Kd(l:List dv) (n:Int)(g:l.length<=4000000):Ev X 157 [oM.sl l,dI n] [] (dI (ua l n)) []:=by
 refine Ev.body Tryz.func157 rfl rfl rfl λf=>?_
 refine bP rfl ay ?_;refine AK.cd 0 (λi=>i<=l.length/\∀ j,j<i->(l.getD j (0,0)).1≠n) (λi:Nat=>[(0,oM.sl l),(1,dI n),(5,dI i)]) (λ_=>[]) (λi=>l.length-i) 0 rfl ?_ rfl ?_ rfl ⟨by omega,by omega⟩ ?_
 .simp[ai.cat,ai,a9.same]
 .simp[ai]
 rintro i ⟨hi,a⟩
 by_cases h:i<l.length
 .have d:l.getD (i:Int).toNat oM.bU=l.getD i (0,0):=by rw[bu];rfl
  by_cases c:(l.getD i (0,0)).1=n
  .refine bd [(9,ab),(18,ab)] 100 rfl ?_ (AK.eC (cn.zero rfl ?_))
   .simp only[ai,d];exact⟨by omega,by omega,fJ.2 c,by omega,by omega,b9 (by omega)⟩
   .have:ua l n=(l.getD i (0,0)).2:=by
     have:l.find? (λs=>s.1==n)=aa (l.getD i (0,0)):=by
      rw[List.find?_eq_some_iff_getElem];refine⟨by simpa using c,i,h,by simp[ag,aR h],λj b=>?_⟩
      have:=a j b;simpa[ag,aR (show j<l.length by omega)] using this
     rw[ua,this]
    simp only[ai,d];rw[this]
  .refine bd [(9,ab),(18,ae)] 100 rfl ?_ (AK.bg (i+1) rfl ?_ rfl rfl rfl ?_ rfl ?_ ?_)
   .simp only[ai,d,bD];exact⟨by omega,dx.2 c,by omega,by omega,b9 (by omega)⟩
   .simp[ai.cat,ai,a9.same]
   .simp[ai]
   .refine⟨by omega,λj b=>?_⟩
    rcases fU.1 b with b|rfl
    .exact a j b
    .exact c
   .omega
 .refine bd [(9,ae)] 100 rfl (by simp[ai];omega) (AK.leaveD rfl rfl ?_)
  refine bP rfl ay (AK.br rfl ?_);have:ua l n=0:=by
   have:l.find? (λs=>s.1==n)=af:=by
    rw[uT];intro x e;obtain⟨j,b,rfl⟩:=dN e;have:=a j (by omega)
    simpa[ag,aR b] using this
   rw[ua,this]
  simp[ai,this]
theorem wM{n:Nat}(b:1<=n)(a:n<=8):n<=cB n/\cB n<=8:=by
 unfold cB;rw[aO (by omega)]
 split
 .omega
 .split <;> omega
abbrev FF:dC:=k6 aI (λn=>dI (cB n.toNat)) λn=>[0<=n/\n<=4000000]
theorem NB:eb X 203 FF:=.pf λn h=>by
 obtain⟨m,rfl⟩:∃ m:Nat,n=m:=⟨n.toNat,by have:=h.1;omega⟩
 exact GS m (by have:=h.2;omega)
theorem NC(p:Bs)(c:bT p=ab):Ev X 162 [dS p] [] (dS (iQ p)) []:=by
 refine Ev.body Tryz.func162 rfl rfl rfl λd=>?_
 have b:b5 X [(203,FF)]:=.cons NB .nil;have a:=c;simp only[bT,bG,bh] at a;have g:=wM a.1.1 a.1.2;refine aE b [] 100 rfl ?_ ?_
 .simp only[ai];omega
 refine AK.cd 0 (λj=>p.length+j<=cB p.length) (λj:Nat=>[(0,dS (p++List.replicate j 46)),(3,dI (cB p.length))]) (λ_=>[]) (λj=>cB p.length-j) 0 rfl (by simp[ai.cat,ai]) rfl (by simp[ai]) rfl (by omega) ?_
 intro j f
 by_cases h:p.length+j<cB p.length
 .refine aE b [(10,ab)] 100 rfl ?_ (AK.bg (j+1) rfl ?_ rfl rfl rfl ?_ rfl ?_ ?_)
  .simp[ai];omega
  .simp[ai.cat,ai,List.replicate_succ']
  .simp[ai]
  .show p.length+(j+1)<=_;omega
  .show cB p.length-(j+1)<cB p.length-j;omega
 .have e:cB p.length-p.length=j:=by omega
  refine aE b [(10,ae)] 100 rfl (by simp[ai];omega) (AK.leaveD rfl rfl ?_)
  refine aE b [] 100 rfl ay (AK.br rfl ?_);simp[ai,iQ,c,e]
theorem Ke(s:dv):Ev X 159 [.e (.agg [.c (.int .i64 s.1),.c (.int .i64 s.2)])] [] (dB (k8 s)) []:=by
 refine Ev.body Tryz.func159 rfl rfl rfl λf=>?_
 have d:b5 X [(18,pn)]:=.cons qp .nil
 by_cases a:0<=s.1/\s.1<=999999999988
 .by_cases b:1<=s.2/\s.2<=99
  .refine aE d [(6,ab),(10,ab)] 100 rfl (by simp[ai,a,b]) (AK.br rfl ?_)
   have:k8 s=ab:=by simp[k8,a,b];omega
   simp[ai,this]
  .refine aE d [(6,ab),(10,ae)] 100 rfl (by simp[ai,a,b] <;> omega) (AK.br rfl ?_)
   have:k8 s=ae:=by simp[k8,a];omega
   simp[ai,this]
 .refine aE d [(6,ae),(10,ae)] 100 rfl (by simp[ai];omega) (AK.br rfl ?_)
  have:k8 s=ae:=by simp[k8];omega
  simp[ai,this]
abbrev Kf:dC:=k6 SF (λs=>dB (k8 s)) λ_=>[]
theorem Rq:eb X 159 Kf:=.pf λs _=>Ke s
theorem Kg(s:Bs)(i:Nat)(b:ck s=ab)(g:3<=i)(hi:i<=s.length)(j:s.length<=4000000):Ev X 233 [dS s,dI i] [] (dB (k5 s i)) []:=by
 refine Ev.body Tryz.func233 rfl rfl rfl λf=>?_
 have h:=GD b (i-1) (by omega)
 have k:=GD b (i-2) (by omega)
 have l:=GD b (i-3) (by omega)
 have c:((iV s ((i:Int)-1)).toNat:Int)=cv s (i-1):=by rw[cA,show ((i:Int)-1).toNat=i-1 by omega]
 have d:((iV s ((i:Int)-2)).toNat:Int)=cv s (i-2):=by rw[cA,show ((i:Int)-2).toNat=i-2 by omega]
 have e:((iV s ((i:Int)-3)).toNat:Int)=cv s (i-3):=by rw[cA,show ((i:Int)-3).toNat=i-3 by omega]
 refine bP rfl ?_ (AK.br rfl ?_)
 .simp only[ai,bD,c,d,e];omega
 .simp only[ai,ai.cat,c,d,e,k5,dl,aF];rw[mf (a:=cv s (i-1)-97) (by omega) (by omega),mf (a:=cv s (i-2)-97) (by omega) (by omega),mf (a:=cv s (i-3)-97) (by omega) (by omega)]
abbrev Kh:dC:=qb aS aI (λs i=>dB (k5 s i.toNat)) λs i=>[ck s=ab,3<=i,i<=s.length,s.length<=4000000]
theorem Rr:eb X 233 Kh:=.te λs i h=>by
 obtain⟨b,c,d,a⟩:=h;obtain⟨m,rfl⟩:∃ m:Nat,i=m:=⟨i.toNat,by omega⟩
 exact Kg s m b (by omega) (by omega) a
theorem Rs(t:Bs)(f:Nat)(i:ck t=ab)(m:f<=t.length)(p:t.length<=4000000):Ev X 223 [dS t,dI f] [] (dI (cutAt t f)) []:=by
 refine Ev.body Tryz.func223 rfl rfl rfl λo=>?_
 have b:b5 X [(233,Kh)]:=.cons Rr .nil;refine aE b [] 100 rfl ay ?_;refine AK.j4 (λj=>j<=5/\tf t f (5-j)=cutAt t f) (λj:Nat=>[(0,dS t),(1,dI f),(5,dI (3+j))]) (λ_=>[]) (λj=>5-j) 0 rfl ?_ rfl ay ⟨by omega,rfl⟩ ?_
 .simp[ai,ai.cat]
 rintro j ⟨q,a⟩
 by_cases h:j<5
 .obtain⟨k,n⟩:∃ k,5-j=k+1:=⟨4-j,by omega⟩
  have d:f+(7-k)=f+3+j:=by omega
  rw[n] at a;simp only[tf,d] at a
  by_cases g:t.length<=f+3+j
  .rw[aU g] at a;refine aE b [(7,ab),(15,ab)] 100 rfl ?_ (AK.iq (cn.zero rfl ?_))
   .simp only[ai,bD,bh,aG,aF];omega
   .simp[ai,ai.cat,<-a]
  rw[aO g] at a;have e:((f:Int)+(3+(j:Int))).toNat=f+3+j:=by omega
  cases c:k5 t (f+3+j) with
  |true =>
   rw[c,aU rfl] at a;refine aE b [(7,ab),(15,ae),(22,ab)] 100 rfl ?_ (AK.iq (cn.zero rfl ?_))
   .simp only[ai,bD,e,c,i,bh,bY,aG,aF];omega
   .simp[ai,ai.cat,<-a];omega
  |false =>
   rw[c,aO (by simp)] at a
   refine aE b [(7,ab),(15,ae),(22,ae)] 100 rfl ?_ (AK.gw (j+1) rfl ?_ rfl ay ⟨by omega,by rw[<-a];congr 1;omega⟩ (by omega))
   .simp only[ai,bD,e,c,i,bh,bY,aG,aF];omega
   .simp[ai,ai.cat];omega
 .have e:cutAt t f=min (f+8) t.length:=by
   rw[<-a,show 5-j=0 by omega];rfl
  have l:bD .i64 ((min (f+8) t.length:Nat):Int):=by simp only[bD];omega
  refine aE b [(7,ae)] 100 rfl ?_ (AK.leave rfl rfl ?_)
  .simp only[ai,bD,bh,bY];omega
  refine aE b [] 100 rfl ?_ ?_
  .simp only[ai,bD];omega
  refine AK.law (Ag ((min (f+8) t.length:Nat):Int) rfl rfl rfl (by omega) l) rfl rfl ?_
  refine aE b [] 100 rfl ay (AK.br rfl ?_);simp[ai,e]
abbrev UM:dC:=qb aS aI (λs i=>dI (cutAt s i.toNat)) λs i=>[ck s=ab,0<=i,i<=s.length,s.length<=4000000]
theorem XZ:eb X 223 UM:=.te λs i h=>by
 obtain⟨b,c,d,a⟩:=h;obtain⟨m,rfl⟩:∃ m:Nat,i=m:=⟨i.toNat,by omega⟩
 exact Rs s m b (by omega) a
abbrev lh(t:Bs):List Int:=(Ao t).map λn:Nat=>(n:Int)
theorem Ki(t:Bs)(l:ck t=ab)(p:t.length<=4000000):Ev X 202 [dS t] [] (cI.sl (lh t)) []:=by
 refine Ev.body Tryz.func202 rfl rfl rfl λo=>?_
 have a:b5 X [(223,UM)]:=.cons XZ .nil;refine aE a [(1000003,ab)] 100 rfl ay ?_;refine AK.iD 3 3 1 rfl rfl ?_;refine aE a [] 100 rfl ay ?_;refine AK.cd 1 (λs:Nat×List Int=>s.1<=t.length/\s.2.length<=s.1/\∃ k,t.length<=s.1+k/\lh t=s.2++(mI t k s.1).map λn:Nat=>(n:Int)) (λs=>[(0,dS t),(3,.e (.one (.vec 0 1 s.2.length (cI.fn s.2)))),(4,dI s.1)]) (λs=>[.vec 3 1 s.2.length (cI.fn s.2)]) (λs=>t.length-s.1) (0,[]) rfl ?_ rfl ?_ rfl ⟨by simp,by simp,t.length,by simp,by simp[lh,Ao]⟩ ?_
 .simp[ai.cat,ai,a9.same,a9.nil]
 .simp[ai.cat,ai,a9.same,a9.nil]
 rintro⟨f,acc⟩ ⟨c,b,k,m,d⟩;simp only at c b m d
 by_cases h:f<t.length
 .obtain⟨k,rfl⟩:∃ k',k=k'+1:=⟨k-1,by omega⟩
  have j:=nz t f h;have g:=cI.cu acc (cutAt t f:Int);have i:acc.length+1=(acc++[(cutAt t f:Int)]).length:=by simp
  refine aE a [(9,ab)] 100 rfl ?_ (AK.bg (cutAt t f,acc++[(cutAt t f:Int)]) rfl ?_ rfl rfl rfl ?_ rfl ?_ ?_)
  .simp only[ai,l,show i3.bytes=8 from rfl,bh,aG,aF]
   and_intros <;> omega
  .exact ai.cat.2 ⟨rfl,ai.cat.2 ⟨⟨i,g⟩,ai.cat.2 ⟨rfl,ay⟩⟩⟩
  .exact ai.cat.2 ⟨⟨i,g⟩,ay⟩
  .refine⟨j.2.1,by simp;omega,k,by simp only;omega,?_⟩
   rw[d];simp only[mI,aU h];simp
  .simp only;omega
 .have e:lh t=acc:=by
   have:mI t k f=[]:=by cases k <;> simp[mI,h]
   rw[d,this];simp
  refine aE a [(9,ae)] 100 rfl (by simp only[ai,bY];omega) (AK.leaveD rfl rfl ?_)
  refine aE a [] 100 rfl ay (AK.br rfl ?_);rw[e];simp[ai,ai.cat,a9.same]
abbrev Kj:dC:=k6 aS (λt=>cI.sl (lh t)) λt=>[ck t=ab,t.length<=4000000]
theorem Rt:eb X 202 Kj:=.pf λt h=>Ki t h.1 h.2
theorem drop_cons{α:Type}{l r:List α}{i:Nat}{x:α}(h:l.drop i=x::r)(d:α):i<l.length/\l.getD i d=x/\l.drop (i+1)=r:=by
 have a:i<l.length:=by
  rcases cr i l.length with a|a
  .exact a
  .rw[y8 a] at h;cases h
 rw[y6 a] at h;simp only[List.cons.injEq] at h;refine⟨a,?_,h.2⟩;rw[ag,aR a];exact h.1
theorem yu(t:Bs):∀ k f,(mI t k f).length<=k
 |0,_=>ba _
 |k+1,f=>by
  simp only[mI];split
  .have:=yu t k (cutAt t f);simp;omega
  .simp
theorem ND(t:Bs)(x:ck t=ab)(z:t.length<=4000000):Ev X 156 [dS t] [] (cS.sl (pieces t)) []:=by
 refine Ev.body Tryz.func156 rfl rfl rfl λB=>?_
 have j:b5 X [(202,Kj)]:=.cons Rt .nil;have C:(lh t).length<=t.length:=by simp only[lh,iw];exact yu t _ _
 refine aE j [(1000002,ab)] 100 rfl ay ?_;refine AK.iD 3 9 1 rfl rfl ?_;refine aE j [] 100 rfl (by simp only[ai,x];exact⟨ay,z⟩) ?_
 refine AK.cd 1 (λs:Nat×Nat×List Bs=>s.1<=(lh t).length/\s.2.1<=t.length/\s.2.2.length<=s.1/\∃ k,t.length<=s.2.1+k/\(lh t).drop s.1=((mI t k s.2.1).map λn:Nat=>(n:Int))/\pieces t=s.2.2++fw t k s.2.1) (λs=>[(0,dS t),(3,.e (.one (.vec 0 1 s.2.2.length (cS.fn s.2.2)))),(4,dI s.2.1),(5,cI.sl (lh t)),(6,dI s.1)]) (λs=>[.vec 9 1 s.2.2.length (cS.fn s.2.2)]) (λs=>(lh t).length-s.1) (0,0,[]) rfl ?_ rfl ?_ rfl ⟨by simp,by simp,by simp,t.length,by simp,by simp[lh,Ao],by simp[pieces]⟩ ?_
 .simp[ai.cat,ai,a9.same,a9.nil]
 .simp[ai.cat,ai,a9.same,a9.nil]
 rintro⟨i,f,acc⟩ ⟨hi,m,g,k,A,c,o⟩;simp only at hi m g A c o
 by_cases h:i<(lh t).length
 .have d:mI t k f≠[]:=by
   intro e;rw[e] at c;have:=gF (i:=i) (l:=lh t);rw[c] at this;simp at this;simp only[lh,iw] at h;omega
  obtain⟨k,rfl⟩:∃ k',k=k'+1:=by
   cases k with
   |zero=>exact absurd rfl d
   |succ k=>exact⟨k,rfl⟩
  have a:f<t.length:=by
   rcases cr f t.length with h|h
   .exact h
   .exact absurd (by simp only[mI,aO (show ¬f<t.length by omega)]) d
  simp only[mI,aU a,jJ] at c;obtain⟨_,w,g2⟩:=drop_cons c 0;have v:=nz t f a;have p:(lh t).getD (i:Int).toNat cI.bU=(cutAt t f:Int):=by rw[bu];exact w
  have b:rT t (aa (f:Int)) (aa (cutAt t f:Int))=(t.drop f).take (cutAt t f-f):=by simp[rT,List.drop_take]
  have u:=cS.cu acc ((t.drop f).take (cutAt t f-f));have q:acc.length+1=(acc++[(t.drop f).take (cutAt t f-f)]).length:=by simp
  refine aE j [(13,ab)] 100 rfl ?_ (AK.bg (i+1,cutAt t f,acc++[(t.drop f).take (cutAt t f-f)]) rfl ?_ rfl rfl rfl ?_ rfl ?_ ?_)
  .simp only[ai,p,bD,iU,show i9.bytes=16 from rfl,bh,aG,aF]
   and_intros <;> omega
  .simp only[ai.cat,ai,p,b,aG,aF]
   and_intros <;> first|exact q|exact u|exactλ_ _=>rfl|omega
  .simp only[ai.cat,ai,p,b,aG,aF]
   and_intros <;> first|exact q|exact u
  .refine⟨by simp only;omega,v.2.1,by simp;omega,k,by simp only;omega,g2,?_⟩
   rw[o];simp only[fw,aU a];simp
  .simp only;omega
 .have e:pieces t=acc:=by
   have r:mI t k f=[]:=by
    rw[y8 (by omega)] at c
    exact List.map_eq_nil_iff.1 c.symm
   have a:¬f<t.length:=by
    intro y;cases k with
    |zero=>omega
    |succ k=>simp only[mI,aU y] at r;cases r
   rw[o];cases k <;> simp[fw,a]
  refine aE j [(13,ae)] 100 rfl (by simp only[ai,bY];omega) (AK.leaveD rfl rfl ?_)
  refine aE j [] 100 rfl ay (AK.br rfl ?_);rw[e];simp[ai,ai.cat,a9.same]
abbrev FG:dC:=k6 aS (λt=>cS.sl (pieces t)) λt=>[ck t=ab,t.length<=4000000]
theorem Kk:eb X 156 FG:=.pf λt h=>ND t h.1 h.2
theorem _root_.Go.AM.iv.pq{α:Type}(c:iv α)(l:List α)(x y:α):a9 (l.length+1+1) (cX (l.length+1) (cX l.length (c.fn l) λq=>[c.enc x].getD q []) λq=>[c.enc y].getD q []) (c.fn (l++[x,y])):=by
 have h1:=c.cu l x;have h2:=c.cu (l++[x]) y;rw[show (l++[x]).length=l.length+1 by simp,show l++[x]++[y]=l++[x,y] by simp] at h2
 intro q a;rw[<-h2 q a];simp only[cX]
 by_cases e:q<l.length+1
 .rw[aU e,aU e];exact h1 q e
 .rw[aO e,aO e]
abbrev X2(x:cM):D:=.e (.agg [.c (.int .i64 x.1),.c (.str x.2)])
def jY(x:cM)(acc:List cM×Bool)(y:cM):List cM×Bool:=if acc.2=ab then (acc.1++[y],ab) else if x.1<y.1 then (acc.1++[x,y],ab) else (acc.1++[y],ae)
theorem yA(x:cM):∀ (l:List cM)(a:List cM),(l.foldl (jY x) (a,ab))=(a++l,ab)
 |[],a=>by simp
 |y::r,a=>by
  rw[g7,show jY x (a,ab) y=(a++[y],ab) from rfl,yA x r]
  simp
theorem yB(x:cM):∀ (l:List cM)(a:List cM),(if (l.foldl (jY x) (a,ae)).2=ab then (l.foldl (jY x) (a,ae)).1 else (l.foldl (jY x) (a,ae)).1++[x])=a++sh l x
 |[],a=>by simp[sh]
 |y::r,a=>by
  rw[g7]
  by_cases h:x.1<y.1
  .rw[show jY x (a,ae) y=(a++[x,y],ab) by simp[jY,h],yA]
   simp[sh,h]
  .rw[show jY x (a,ae) y=(a++[y],ae) by simp[jY,h],yB x r]
   simp[sh,h]
theorem yC(x:cM):∀ (l:List cM)(a:List cM×Bool),(l.foldl (jY x) a).1.length<=a.1.length+l.length+1-(if a.2=ab then 1 else 0)
 |[],a=>by simp only[uZ,eu];split <;> omega
 |y::r,a=>by
  rw[g7];have:=yC x r (jY x a y);unfold jY at this ⊢;split at this
  .rename_i h;simp[h] at this ⊢;omega
  .rename_i h
   split at this
   .rename_i b;simp[h,b] at this ⊢;omega
   .rename_i b;simp[h,b] at this ⊢;omega
abbrev si(x:cM)(l:List cM)(i:Nat):List cM×Bool:=(l.take i).foldl (jY x) ([],ae)
theorem G0{x:cM}{l:List cM}{i:Nat}(h:i<l.length):si x l (i+1)=jY x (si x l i) (l.getD i (0,[])):=by
 unfold si;rw[bx h (0,[]),jG];rfl
theorem B7(x:cM)(l:List cM)(i:Nat):(si x l i).1.length<=l.length+1:=by
 have:=yC x (l.take i) ([],ae);simp only[bn,eu,gi,bH] at this;show ((l.take i).foldl (jY x) ([],ae)).1.length<=_;omega
abbrev p3F(l:List cM)(x:cM)(i:Nat)(a:List cM×Bool):Fr:=[(0,eY.sl l),(3,.e (.one (.ptr 0 0))),(5,.e (.one (.vec 1 2 a.1.length (eY.fn a.1)))),(6,dB a.2),(7,dI i)]
abbrev p3B(x:cM)(a:List cM):List aW:=[.cells 88 [.c (.int .i64 x.1),.c (.str x.2)],.vec 88 2 a.length (eY.fn a)]
set_option maxHeartbeats 1000000 in
theorem NG(l:List cM)(x:cM)(q:l.length<=4000000):Ev X 161 [eY.sl l,X2 x] [] (eY.sl (sh l x)) []:=by
 refine Ev.body Tryz.func161 rfl rfl rfl λp=>?_
 refine bd [(1000002,ab)] 200 rfl ay ?_;refine AK.iD 5 88 2 rfl rfl ?_;refine ee rfl ay ?_;refine AK.cd 2 (λi=>i<=l.length) (λi:Nat=>p3F l x i (si x l i)) (λi=>p3B x (si x l i).1) (λi=>l.length-i) 0 rfl ?_ rfl ?_ rfl (by omega) ?_
 .simp[ai.cat,ai,a9.same,a9.nil,si]
 .simp[ai.cat,ai,a9.same,a9.nil,si]
 intro i hi
 by_cases h:i<l.length
 .have n:=G0 (x:=x) h;have e:=B7 x l i;have g:l.getD (i:Int).toNat eY.bU=l.getD i (0,[]):=by rw[bu];rfl
  generalize si x l i=a at n e;obtain⟨a,b⟩:=a;simp only at e;have k:=eY.cu a (l.getD i (0,[]));have m:=eY.pq a x (l.getD i (0,[]));cases b with
  |true =>
   have d:si x l (i+1)=(a++[l.getD i (0,[])],ab):=n;have j:a.length+1=(a++[l.getD i (0,[])]).length:=by simp
   refine bd [(12,ab)] 200 rfl ?_ (AK.bg (i+1) rfl ?_ rfl rfl rfl ?_ rfl ?_ ?_)
   .simp only[ai,g,bD,show i88.bytes=24 from rfl,bh,aG,aF];and_intros <;> omega
   .rw[d];simp only[ai.cat,ai,g,aG,aF]
    and_intros <;> first|exact j|exact k|exactλ_ _=>rfl|rfl|omega
   .rw[d];simp only[ai.cat,ai,g,aG,aF]
    and_intros <;> first|exact j|exact k|exactλ_ _=>rfl|rfl|omega
   .show i+1<=_;omega
   .omega
  |false =>
   by_cases f:x.1<(l.getD i (0,[])).1
   .have d:si x l (i+1)=(a++[x,l.getD i (0,[])],ab):=by rw[n];simp only[jY,aU f];rfl
    have j:a.length+1+1=(a++[x,l.getD i (0,[])]).length:=by simp
    refine bd [(12,ab),(25,ab)] 200 rfl ?_ (AK.bg (i+1) rfl ?_ rfl rfl rfl ?_ rfl ?_ ?_)
    .simp only[ai,g,bD,show i88.bytes=24 from rfl,f,iJ,bh,aG,aF];and_intros <;> omega
    .rw[d];simp only[ai.cat,ai,g,aG,aF]
     and_intros <;> first|exact j|exact m|exactλ_ _=>rfl|rfl|omega
    .rw[d];simp only[ai.cat,ai,g,aG,aF]
     and_intros <;> first|exact j|exact m|exactλ_ _=>rfl|rfl|omega
    .show i+1<=_;omega
    .omega
   .have d:si x l (i+1)=(a++[l.getD i (0,[])],ae):=by rw[n];simp only[jY,aO f];rfl
    have j:a.length+1=(a++[l.getD i (0,[])]).length:=by simp
    refine bd [(12,ab),(25,ae)] 200 rfl ?_ (AK.bg (i+1) rfl ?_ rfl rfl rfl ?_ rfl ?_ ?_)
    .simp only[ai,g,bD,show i88.bytes=24 from rfl,bh,f,mo,nV,bY,aG,aF];and_intros <;> omega
    .rw[d];simp only[ai.cat,ai,g,aG,aF]
     and_intros <;> first|exact j|exact k|exactλ_ _=>rfl|rfl|omega
    .rw[d];simp only[ai.cat,ai,g,aG,aF]
     and_intros <;> first|exact j|exact k|exactλ_ _=>rfl|rfl|omega
    .show i+1<=_;omega
    .omega
 .obtain rfl:i=l.length:=by omega
  have c:=yB x l [];have e:=B7 x l l.length;refine bd [(12,ae)] 200 rfl (by simp[ai]) (AK.leaveD rfl rfl ?_)
  have o:si x l l.length=l.foldl (jY x) ([],ae):=by unfold si;rw[cq]
  rw[o] at e ⊢;generalize l.foldl (jY x) ([],ae)=a at *;obtain⟨a,b⟩:=a;simp only[rn] at c e;cases b with
  |true =>
   simp only[bO] at c;subst c;refine ee rfl ay (AK.br rfl ?_);simp[ai,ai.cat,a9.same]
  |false =>
   simp only[gi,bH] at c;have k:=eY.cu a x;refine ee rfl ?_ (AK.br rfl ?_)
   .simp only[ai,show i88.bytes=24 from rfl,aG,aF];and_intros <;> omega
   .rw[<-c];simp only[ai.cat,ai,aG,aF]
    and_intros <;> first|exact k|simp
abbrev O7:dC:=qb (aL eY) SE (λl x=>eY.sl (sh l x)) λl _=>[l.length<=4000000]
theorem UP:eb X 161 O7:=.te λl x h=>NG l x h
abbrev X3(x:dv):D:=.e (.agg [.c (.int .i64 x.1),.c (.int .i64 x.2)])
def eL(x:dv)(acc:List dv×Bool)(y:dv):List dv×Bool :=
 if acc.2=ab then (if y.1=x.1 then acc else (acc.1++[y],ab)) else if x.1<=y.1 then (if y.1=x.1 then (acc.1++[x],ab) else (acc.1++[x,y],ab)) else (acc.1++[y],ae)
theorem qc(x:dv):∀ (l:List dv)(a:List dv),(l.foldl (eL x) (a,ab))=(a++l.filter λz=>!(z.1==x.1),ab)
 |[],a=>by simp
 |y::r,a=>by
  rw[g7]
  by_cases h:y.1=x.1
  .rw[show eL x (a,ab) y=(a,ab) by simp[eL,h],qc x r]
   simp[h]
  .rw[show eL x (a,ab) y=(a++[y],ab) by simp[eL,h],qc x r]
   simp[h]
theorem yD(x:dv):∀ (l:List dv)(a:List dv),(if (l.foldl (eL x) (a,ae)).2=ab then (l.foldl (eL x) (a,ae)).1 else (l.foldl (eL x) (a,ae)).1++[x])=a++qq l x
 |[],a=>by simp[qq]
 |y::r,a=>by
  rw[g7]
  by_cases h:x.1<=y.1
  .have c:¬y.1<x.1:=by omega
   by_cases b:y.1=x.1
   .rw[show eL x (a,ae) y=(a++[x],ab) by simp[eL,b],qc]
    simp[qq,b]
   .rw[show eL x (a,ae) y=(a++[x,y],ab) by simp[eL,h,b],qc]
    simp[qq,c,b]
  .have c:y.1<x.1:=by omega
   rw[show eL x (a,ae) y=(a++[y],ae) by simp[eL,h],yD x r]
   simp[qq,c]
theorem yE(x:dv):∀ (l:List dv)(a:List dv×Bool),(l.foldl (eL x) a).1.length<=a.1.length+l.length+1-(if a.2=ab then 1 else 0)
 |[],a=>by simp only[uZ,eu];split <;> omega
 |y::r,a=>by
  rw[g7];have c:=yE x r (eL x a y);obtain⟨a,b⟩:=a;simp only[db];cases b with
  |true =>
   by_cases d:y.1=x.1
   .rw[show eL x (a,ab) y=(a,ab) by simp[eL,d]] at c ⊢
    simp at c ⊢;omega
   .rw[show eL x (a,ab) y=(a++[y],ab) by simp[eL,d]] at c ⊢
    simp at c ⊢;omega
  |false =>
   by_cases h:x.1<=y.1
   .by_cases d:y.1=x.1
    .rw[show eL x (a,ae) y=(a++[x],ab) by simp[eL,d]] at c ⊢
     simp at c ⊢;omega
    .rw[show eL x (a,ae) y=(a++[x,y],ab) by simp[eL,h,d]] at c ⊢
     simp at c ⊢;omega
   .rw[show eL x (a,ae) y=(a++[y],ae) by simp[eL,h]] at c ⊢
    simp at c ⊢;omega
abbrev qt(x:dv)(l:List dv)(i:Nat):List dv×Bool:=(l.take i).foldl (eL x) ([],ae)
theorem G1{x:dv}{l:List dv}{i:Nat}(h:i<l.length):qt x l (i+1)=eL x (qt x l i) (l.getD i (0,0)):=by
 unfold qt;rw[bx h (0,0),jG];rfl
theorem B8(x:dv)(l:List dv)(i:Nat):(qt x l i).1.length<=l.length+1:=by
 have:=yE x (l.take i) ([],ae);simp only[bn,eu,gi,bH] at this;show ((l.take i).foldl (eL x) ([],ae)).1.length<=_;omega
abbrev p4F(l:List dv)(x:dv)(i:Nat)(a:List dv×Bool):Fr:=[(0,oM.sl l),(3,.e (.one (.ptr 0 0))),(5,.e (.one (.vec 1 2 a.1.length (oM.fn a.1)))),(6,dB a.2),(7,dI i)]
abbrev p4B(x:dv)(a:List dv):List aW:=[.cells 206 [.c (.int .i64 x.1),.c (.int .i64 x.2)],.vec 206 2 a.length (oM.fn a)]
set_option maxHeartbeats 2000000 in
theorem NH(l:List dv)(x:dv)(q:l.length<=4000000):Ev X 160 [oM.sl l,X3 x] [] (oM.sl (qq l x)) []:=by
 refine Ev.body Tryz.func160 rfl rfl rfl λp=>?_
 refine bd [(1000002,ab)] 200 rfl ay ?_;refine AK.iD 5 206 2 rfl rfl ?_;refine ee rfl ay ?_;refine AK.cd 2 (λi=>i<=l.length) (λi:Nat=>p4F l x i (qt x l i)) (λi=>p4B x (qt x l i).1) (λi=>l.length-i) 0 rfl ?_ rfl ?_ rfl (by omega) ?_
 .simp[ai.cat,ai,a9.same,a9.nil,qt]
 .simp[ai.cat,ai,a9.same,a9.nil,qt]
 intro i hi
 by_cases h:i<l.length
 .have n:=G1 (x:=x) h;have k:=B8 x l i;have f:l.getD (i:Int).toNat oM.bU=l.getD i (0,0):=by rw[bu];rfl
  generalize qt x l i=a at n k;obtain⟨a,b⟩:=a;simp only at k;have j:=oM.cu a (l.getD i (0,0));have m:=oM.cu a x;have d:=oM.pq a x (l.getD i (0,0));cases b with
  |true =>
   by_cases heq:(l.getD i (0,0)).1=x.1
   .have c:qt x l (i+1)=(a,ab):=by rw[n];simp only[eL,bO,aU heq]
    refine bd [(12,ab),(38,ae)] 200 rfl ?_ (AK.bg (i+1) rfl ?_ rfl rfl rfl ?_ rfl ?_ ?_)
    .simp only[ai,f,bD,show i206.bytes=16 from rfl,bh,bY,iS,pC,fJ,dx,lx,cW,heq,fH,nV,fp,hO,nR,iJ,mo,aG,aF];and_intros <;> omega
    .rw[c];simp only[ai.cat,ai,f,aG,aF]
     and_intros <;> first|exact j|exact m|exact d|exactλ_ _=>rfl|rfl|omega|simp
    .rw[c];simp only[ai.cat,ai,f,aG,aF]
     and_intros <;> first|exact j|exact m|exact d|exactλ_ _=>rfl|rfl|omega|simp
    .show i+1<=_;omega
    .omega
   .have c:qt x l (i+1)=(a++[l.getD i (0,0)],ab):=by rw[n];simp only[eL,bO,aO heq]
    refine bd [(12,ab),(38,ab)] 200 rfl ?_ (AK.bg (i+1) rfl ?_ rfl rfl rfl ?_ rfl ?_ ?_)
    .simp only[ai,f,bD,show i206.bytes=16 from rfl,bh,bY,iS,pC,fJ,dx,lx,cW,heq,fH,nV,fp,hO,nR,iJ,mo,aG,aF];and_intros <;> omega
    .rw[c];simp only[ai.cat,ai,f,aG,aF]
     and_intros <;> first|exact j|exact m|exact d|exactλ_ _=>rfl|rfl|omega|simp
    .rw[c];simp only[ai.cat,ai,f,aG,aF]
     and_intros <;> first|exact j|exact m|exact d|exactλ_ _=>rfl|rfl|omega|simp
    .show i+1<=_;omega
    .omega
  |false =>
   by_cases g:x.1<=(l.getD i (0,0)).1
   .by_cases heq:(l.getD i (0,0)).1=x.1
    .have c:qt x l (i+1)=(a++[x],ab):=by rw[n];simp only[eL,aU g,aU heq];rfl
     refine bd [(12,ab),(25,ab),(38,ae)] 200 rfl ?_ (AK.bg (i+1) rfl ?_ rfl rfl rfl ?_ rfl ?_ ?_)
     .simp only[ai,f,bD,show i206.bytes=16 from rfl,bh,bY,iS,pC,fJ,dx,lx,cW,g,heq,fH,nV,fp,hO,nR,iJ,mo,aG,aF];and_intros <;> omega
     .rw[c];simp only[ai.cat,ai,f,aG,aF]
      and_intros <;> first|exact j|exact m|exact d|exactλ_ _=>rfl|rfl|omega|simp
     .rw[c];simp only[ai.cat,ai,f,aG,aF]
      and_intros <;> first|exact j|exact m|exact d|exactλ_ _=>rfl|rfl|omega|simp
     .show i+1<=_;omega
     .omega
    .have c:qt x l (i+1)=(a++[x,l.getD i (0,0)],ab):=by rw[n];simp only[eL,aU g,aO heq];rfl
     refine bd [(12,ab),(25,ab),(38,ab)] 200 rfl ?_ (AK.bg (i+1) rfl ?_ rfl rfl rfl ?_ rfl ?_ ?_)
     .simp only[ai,f,bD,show i206.bytes=16 from rfl,bh,bY,iS,pC,fJ,dx,lx,cW,g,heq,fH,nV,fp,hO,nR,iJ,mo,aG,aF];and_intros <;> omega
     .rw[c];simp only[ai.cat,ai,f,aG,aF]
      and_intros <;> first|exact j|exact m|exact d|exactλ_ _=>rfl|rfl|omega|simp
     .rw[c];simp only[ai.cat,ai,f,aG,aF]
      and_intros <;> first|exact j|exact m|exact d|exactλ_ _=>rfl|rfl|omega|simp
     .show i+1<=_;omega
     .omega
   .have heq:¬(l.getD i (0,0)).1=x.1:=by omega
    have c:qt x l (i+1)=(a++[l.getD i (0,0)],ae):=by rw[n];simp only[eL,aO g];rfl
    refine bd [(12,ab),(25,ae),(38,ab)] 200 rfl ?_ (AK.bg (i+1) rfl ?_ rfl rfl rfl ?_ rfl ?_ ?_)
    .simp only[ai,f,bD,show i206.bytes=16 from rfl,bh,bY,iS,pC,fJ,dx,lx,cW,g,heq,fH,nV,fp,hO,nR,iJ,mo,aG,aF];and_intros <;> omega
    .rw[c];simp only[ai.cat,ai,f,aG,aF]
     and_intros <;> first|exact j|exact m|exact d|exactλ_ _=>rfl|rfl|omega|simp
    .rw[c];simp only[ai.cat,ai,f,aG,aF]
     and_intros <;> first|exact j|exact m|exact d|exactλ_ _=>rfl|rfl|omega|simp
    .show i+1<=_;omega
    .omega
 .obtain rfl:i=l.length:=by omega
  have e:=yD x l [];have k:=B8 x l l.length;refine bd [(12,ae)] 200 rfl (by simp[ai]) (AK.leaveD rfl rfl ?_)
  have o:qt x l l.length=l.foldl (eL x) ([],ae):=by unfold qt;rw[cq]
  rw[o] at k ⊢;generalize l.foldl (eL x) ([],ae)=a at *;obtain⟨a,b⟩:=a;simp only[rn] at e k;cases b with
  |true =>
   simp only[bO] at e;subst e;refine ee rfl ay (AK.br rfl ?_);simp[ai,ai.cat,a9.same]
  |false =>
   simp only[gi,bH] at e;have j:=oM.cu a x;refine ee rfl ?_ (AK.br rfl ?_)
   .simp only[ai,show i206.bytes=16 from rfl,aG,aF];and_intros <;> omega
   .rw[<-e];simp only[ai.cat,ai,aG,aF]
    and_intros <;> first|exact j|simp
abbrev O8:dC:=qb (aL oM) SF (λl x=>oM.sl (qq l x)) λl _=>[l.length<=4000000]
theorem UQ:eb X 160 O8:=.te λl x h=>NH l x h
abbrev As(p:bC):List dv:=p.2.map λx=>(x.1,p.1)
def tm(l:List bC)(i j:Nat):List dv:=fN (l.take i)++(As (l.getD i (0,[]))).take j
theorem wQ{l:List bC}{i:Nat}(h:i<l.length):fN (l.take (i+1))=fN (l.take i)++As (l.getD i (0,[])):=by
 rw[bx h (0,[])];simp[fN]
theorem Kv(l:List bC)(i:Nat):(fN (l.take i)).length<=(fN l).length:=by
 have h:fN l=fN (l.take i)++fN (l.drop i):=by
  unfold fN;rw[<-nU,j8]
 rw[h,bF];omega
theorem B9{l:List bC}{i j:Nat}(h:i<l.length):∃ r,fN l=tm l i j++r:=by
 have a:fN l=fN (l.take (i+1))++fN (l.drop (i+1)):=by
  unfold fN;rw[<-nU,j8]
 refine⟨(As (l.getD i (0,[]))).drop j++fN (l.drop (i+1)),?_⟩;rw[a,wQ h,tm,dq,dq]
 congr 1
 rw[<-dq,j8]
theorem Kw(l:List dv)(x:dv):(qq l x).length<=l.length+1:=by
 induction l with
 |nil=>simp[qq]
 |cons y r a =>
  simp only[qq];split
  .simp;omega
  .simp only[db];have:=mQ (λz=>!(z.1==x.1)) (y::r)
   simp only[db] at this;omega
theorem yx(l:List dv):∀ a:List dv,(l.foldl qq a).length<=a.length+l.length:=by
 induction l with
 |nil=>intro a;simp
 |cons y r b=>intro a;have:=b (qq a y);have:=Kw a y;simp only[g7,db];omega
set_option maxHeartbeats 2000000 in
theorem Ef(l:List bC)(z:l.length<=4000000)(x:(fN l).length<=100000):Ev X 123 [cP.sl l] [] (oM.sl (indexOf l)) []:=by
 refine Ev.body Tryz.func123 rfl rfl rfl λy=>?_
 have c:b5 X [(159,Kf),(160,O8)]:=.cons Rq (.cons UQ .nil);refine aE c [] 200 rfl ay ?_;refine AK.cd 0 (λi=>i<=l.length/\(fN (l.take i)).all k8=ab) (λi:Nat=>[(0,cP.sl l),(3,oM.sl ((fN (l.take i)).foldl qq [])),(4,dI i)]) (λ_=>[]) (λi=>l.length-i) 0 rfl ?_ rfl ?_ rfl ⟨by omega,rfl⟩ ?_
 .simp[ai.cat,ai,a9.same,a9.nil,fN]
 .simp[ai]
 rintro i ⟨hi,d⟩
 by_cases h:i<l.length
 .have n:l.getD (i:Int).toNat cP.bU=l.getD i (0,[]):=by rw[bu];rfl
  have g:=wQ h;refine aE c [(11,ab)] 200 rfl (by simp only[ai,bh];omega) ?_
  refine AK.cd 0 (λj=>j<=(l.getD i (0,[])).2.length/\(tm l i j).all k8=ab) (λj:Nat=>[(0,cP.sl l),(3,oM.sl ((tm l i j).foldl qq [])),(4,dI i),(5,dI j)]) (λ_=>[]) (λj=>(l.getD i (0,[])).2.length-j) 0 rfl ?_ rfl ?_ rfl ⟨by omega,by simpa[tm] using d⟩ ?_
  .simp[ai.cat,ai,a9.same,a9.nil,tm]
  .simp[ai]
  rintro j ⟨A,b⟩;obtain⟨r,o⟩:=B9 (l:=l) (j:=j) h;have q:(tm l i j).length<=100000:=by rw[o,bF] at x;omega
  have p:=yx (tm l i j) [];simp only[eu] at p;have v:(l.getD i (0,[])).2.length<=100000:=by
   have:=Kv l (i+1);rw[g] at this;simp at this;simp[ag] at this ⊢;omega
  by_cases t:j<(l.getD i (0,[])).2.length
  .have f:(l.getD i (0,[])).2.getD (j:Int).toNat eY.bU=(l.getD i (0,[])).2.getD j (0,[]):=by rw[bu];rfl
   have e:tm l i (j+1)=tm l i j++[(((l.getD i (0,[])).2.getD j (0,[])).1,(l.getD i (0,[])).1)]:=by
    unfold tm;rw[dq]
    congr 1
    rw[bx (by simpa using t) (0,0)]
    congr 2
    rw[ag,mT,ag (l:=(l.getD i (0,[])).2),aR t];rfl
   cases a:k8 (((l.getD i (0,[])).2.getD j (0,[])).1,(l.getD i (0,[])).1) with
   |false =>
    have w:indexOf l=[]:=by
     obtain⟨r,o⟩:=B9 (l:=l) (j:=j+1) h;unfold indexOf;rw[aO];intro s;rw[o,e,uY,uY,bG,bG] at s;have k:=s.1.2;rw[u5,a] at k;cases k
    refine aE c [(21,ab),(40,ae)] 200 rfl ?_ (AK.eC (cn.zero rfl ?_))
    .simp only[ai,n,f,a,bh,aG,aF];and_intros <;> omega
    .rw[w];simp[ai,ai.cat,a9.nil]
   |true =>
    refine aE c [(21,ab),(40,ab)] 200 rfl ?_ (AK.bg (j+1) rfl ?_ rfl rfl rfl ?_ rfl ?_ ?_)
    .simp only[ai,n,f,a,bD,oM.list_fn,bh,aG,aF];and_intros <;> first|exact oM.aH _|omega
    .rw[e];simp only[jG,g7,uZ,ai.cat,ai,n,f,oM.list_fn,aG,aF]
     and_intros <;> first|exactλ_ _=>rfl|rfl|omega
    .simp[ai]
    .exact⟨by omega,by rw[e,uY,b,u5,a];rfl⟩
    .omega
  .have u:j=(l.getD i (0,[])).2.length:=by omega
   have m:tm l i j=fN (l.take (i+1)):=by
    rw[g,tm]
    congr 1
    apply pz
    rw[iw];omega
   refine aE c [(21,ae)] 200 rfl ?_ (AK.leaveD rfl rfl ?_)
   .simp only[ai,n,bY];and_intros <;> omega
   refine aE c [] 200 rfl ?_ (AK.bg (i+1) rfl ?_ rfl rfl rfl ?_ rfl ?_ ?_)
   .simp only[ai,bD];omega
   .rw[m];simp[ai.cat,ai,a9.same]
   .simp[ai]
   .exact⟨by omega,by rw[<-m];exact b⟩
   .omega
 .obtain rfl:i=l.length:=by omega
  rw[cq] at d ⊢;refine aE c [(11,ae)] 200 rfl (by simp[ai]) (AK.leaveD rfl rfl ?_)
  refine aE c [] 200 rfl ay (AK.br rfl ?_);simp[ai,ai.cat,a9.same,indexOf,d]
abbrev Kq:dC:=k6 (aL cP) (λl=>oM.sl (indexOf l)) λl=>[l.length<=4000000,(fN l).length<=100000]
theorem Rx:eb X 123 Kq:=.pf λl h=>Ef l h.1 h.2
abbrev Au:dC:=qb aI aS (λk p=>dI (jd k p)) λk p=>[cD k=ab,bT p=ab]
abbrev Kx:dC:=k6 aS (λp=>dS (iQ p)) λp=>[bT p=ab]
theorem O9:eb X 162 Kx:=.pf λp h=>NC p h
theorem Ky(l:List cM)(x:cM):(sh l x).length=l.length+1:=by
 induction l with
 |nil=>simp[sh]
 |cons y r a=>simp only[sh];split <;> simp[a]
def Rz(k:Int)(ps:List Bs):List cM:=ps.foldl (λl p=>sh l (jd k p,iQ p)) []
theorem FI(k:Int)(ps:List Bs):(Rz k ps).length=ps.length:=by
 have h:∀ (ps:List Bs) (a:List cM),(ps.foldl (λl p=>sh l (jd k p,iQ p)) a).length=a.length+ps.length:=by
  intro ps
  induction ps with
  |nil=>intro a;simp
  |cons p r b=>intro a;rw[g7,b,Ky,db];omega
 have:=h ps [];rw[eu,bm] at this;exact this
theorem Kz{k:Int}{ps:List Bs}{i:Nat}(h:i<ps.length):Rz k (ps.take (i+1))=sh (Rz k (ps.take i)) (jd k (ps.getD i []),iQ (ps.getD i [])):=by
 unfold Rz;rw[bx h [],jG];rfl
abbrev pkB(no:Int)(l:List cM):aW:=.cells 55 [.c (.int .i64 no),.c (.sl ae 2 l.length (eY.fn l))]
set_option maxHeartbeats 1000000 in
theorem Kn(no k:Int)(ps:List Bs)(m:cD k=ab)(g:∀ p∈ps,bT p=ab)(q:ps.length<=4000000):Ev X 124 [dI no,dI k,cS.sl ps] [] (GB (kS no k ps)) []:=by
 refine Ev.lY tok Tryz.func124 rfl rfl rfl λo=>?_
 have a:b5 X [(118,Au),(162,Kx),(161,O7)]:=.cons An (.cons O9 (.cons UP .nil));refine aE a [] 200 rfl ay ?_;refine AK.cd 2 (λi=>i<=ps.length) (λi:Nat=>[(1,dI k),(2,cS.sl ps),(6,.e (.one (.ptr 0 0))),(7,.e (.one (.ptr 1 0))),(8,dI i)]) (λi=>[.cells 55 [.c (.int .i64 0),.c (.sl ab 0 0 λ_=>[])],pkB no (Rz k (ps.take i))]) (λi=>ps.length-i) 0 rfl ?_ rfl ?_ rfl (by omega) ?_
 .simp[ai.cat,ai,a9.same]
 .simp[ai.cat,ai,a9.same,a9.nil,Rz]
 intro i hi
 by_cases h:i<ps.length
 .have f:ps.getD (i:Int).toNat cS.bU=ps.getD i []:=by rw[bu];rfl
  have d:bT (ps.getD i [])=ab:=g _ (by rw[ag,aR h];exact dy h)
  have l:=Kz (k:=k) h;have b:=FI k (ps.take i);rw[bn] at b;refine aE a [(15,ab)] 200 rfl ?_ (AK.bg (i+1) rfl ?_ rfl rfl rfl ?_ rfl ?_ ?_)
  .simp only[ai,f,m,d,bD,eY.list_fn,bh,aG,aF];and_intros <;> first|exact eY.aH _|omega
  .simp[ai.cat,ai,a9.same]
  .rw[l];simp only[ai.cat,ai,f,eY.list_fn,aG,aF]
   and_intros <;> first|exactλ_ _=>rfl|rfl|omega
  .show i+1<=_;omega
  .omega
 .obtain rfl:i=ps.length:=by omega
  rw[cq];refine aE a [(15,ae)] 200 rfl (by simp[ai]) (AK.leaveD rfl rfl ?_)
  refine aE a [] 200 rfl ay ?_;refine AK.fC () [] rfl rfl rfl rfl rfl rfl rfl rfl ?_ rfl rfl rfl rfl (λj n=>absurd n (by simp))
  simp[ai,ai.cat,a9.same,kS,Rz]
end Go.AM.R1
namespace Go.AM
theorem Fits.KI{args:List D}{σ:List aW}(h:Fits args σ)(k:Nat){cs:List A}(a:args[k]?=aa (.e (.agg cs)))(j:Nat){t:Bool}{q n:Nat}{es:Nat->List C}(hj:cs[j]?=aa (A.c (.sl t q n es))):n<=9223372036854775807:=by
 obtain⟨s,v,b⟩:=h.at a;obtain⟨vs,_,h2⟩:=b;obtain⟨u,_,d⟩:=dX.get h2 hj;cases d <;> omega
namespace R1
theorem dT{n i:Nat}{p:Nat->Bool}(hi:i<n)(h:p i=ae):(bc n).all p=ae:=by
 cases a:(bc n).all p with
 |false=>rfl
 |true=>rw[bX.1 a i hi] at h;cases h
theorem fy{i:Nat}{p:Nat->Bool}(a:∀ j,j<i->p j=ab)(h:p i=ab):∀ j,j<i+1->p j=ab:=λj b=>by
 rcases fU.1 b with b|rfl
 .exact a j b
 .exact h
end R1
end Go.AM
namespace Go.AM.R1
open Go.Proofs
variable {X:Cx ah}
theorem G8(p:Bs):Ev X 201 [dS p] [] (dB (bT p)) []:=by
 refine Ev.body Tryz.func201 rfl rfl rfl λb=>?_
 have a:b5 X [(18,pn),(105,NM)]:=.cons qp (.cons t105 .nil)
 by_cases h:1<=p.length/\p.length<=8
 .refine aE a [(6,ab)] 100 rfl ?_ (AK.br rfl ?_)
  .simp[ai];omega
  .simp[ai,bT,h.1,h.2]
 .refine aE a [(6,ae)] 100 rfl ?_ (AK.br rfl ?_)
  .simp[ai];omega
  .have:bT p=ae:=by simp only[bT,<-Bool.decide_and,cJ h,nY]
   simp[ai,this]
abbrev FK:dC:=k6 aS (λp=>dB (bT p)) λ_=>[]
theorem NN:eb X 201 FK:=.pf λp _=>G8 p
theorem G9(p:Bs):Ev X 152 [dS p] [] (dS (iQ p)) []:=by
 refine Ev.body Tryz.func152 rfl rfl rfl λb=>?_
 have a:b5 X [(201,FK),(162,Kx)]:=.cons NN (.cons O9 .nil);cases h:bT p with
 |true=>exact aE a [(5,ae)] 100 rfl (by simp[ai,h]) (AK.br rfl (by simp[ai]))
 |false=>exact aE a [(5,ab)] 100 rfl (by simp[ai,h]) (AK.br rfl (by simp[ai,iQ,h]))
abbrev FL:dC:=k6 aS (λp=>dS (iQ p)) λ_=>[]
theorem NO:eb X 152 FL:=.pf λp _=>G9 p
theorem Ha(p:Bs):(iQ p).length<=8:=by
 unfold iQ;split
 .rename_i h
  simp only[bT,bG,bh] at h;have:=wM h.1.1 h.1.2;simp only[bF,List.length_replicate];omega
 .simp
theorem Cg(b:Bs):Ev X 117 [dS b] [] (Ae (fb b)) []:=by
 refine Ev.body Tryz.func117 rfl rfl rfl λt=>?_
 have r:=t.str 0 rfl;have l:b5 X [(152,FL)]:=.cons NO .nil;refine bP rfl ay ?_;have fin:∀ n,n<=b.length->strip (b.take n)=strip b->(n=0∨strip (b.take n)=b.take n)->b.take n=strip b:=λn d h f=>by
  rcases f with rfl|f
  .simpa[strip] using h
  .rw[<-f,h]
 have rest:∀ n,n<=b.length->b.take n=strip b->fb b=if b.length<=8/\iQ (strip b)=b/\n≠0 then aa (b.take n) else af:=λn d h=>by
  have u:=Ha (strip b);have i:n=0↔strip b=[]:=by
   rw[<-h]
   constructor
   .rintro rfl;rfl
   .intro a;rcases List.take_eq_nil_iff.1 a with a|a
    .exact a
    .rw[a] at d;simpa using d
  unfold fb;rw[h]
  by_cases a:iQ (strip b)=b
  .by_cases g:bT (strip b)=ab
   .have:n≠0:=λp=>by rw[i.1 p] at g;cases g
    rw[aU (by simp[a,g]),aU ⟨by rw[<-a];exact u,a,this⟩]
   .have p:n=0:=i.2 (by rw[iQ,aO g] at a;rw[<-a];rfl)
    rw[aO (by simp[g]),aO (by simp[p])]
  .rw[aO (by simp[a]),aO (by simp[a])]
 refine AK.kP (S2:=Nat) 0 rfl rfl (λn=>n<=b.length/\b.take n=strip b) (λn=>[(0,dS b),(4,dI n)]) (λ_=>[]) 0 (λn=>n<=b.length/\strip (b.take n)=strip b) (λn:Nat=>[(0,dS b),(4,dI n)]) (λ_=>[]) (λn=>n) b.length rfl (by simp[ai.cat,ai]) rfl ay rfl ⟨by omega,by simp⟩ ?_ ?_
 .rintro out n ⟨d,c⟩;rcases n with _|n
  .refine bd [(9,ae),(15,ae)] 100 rfl (by simp[ai]) (AK.leaveD rfl rfl ?_)
   exact out 0 ⟨d,fin 0 d c (.inl rfl)⟩ rfl (by simp[ai.cat,ai]) rfl ay
  have i:=wC (s:=b) (n:=n) (by omega)
  have j:((n:Int)+1-1).toNat=n:=by omega
  by_cases f:b.getD n 0=46
  .refine bd [(9,ab),(15,ab)] 100 rfl ?_ (AK.bg n rfl ?_ rfl rfl rfl ay rfl ⟨by omega,?_⟩ (by omega))
   .have a:cv b n=46:=by unfold cv;rw[f];rfl
    simp[-ag,ai,cA,j,a,bD];omega
   .simp[ai.cat,ai]
   .rw[i,aU f] at c;exact c
  .refine bd [(9,ab),(15,ae)] 100 rfl ?_ (AK.leaveD rfl rfl ?_)
   .have a:cv b n≠46:=by
     unfold cv;intro e;exact f (pG.1 (by show _=46;omega))
    simp[-ag,ai,cA,j,a,bD];omega
   .exact out (n+1) ⟨d,fin _ d c (.inr (by rw[i,aO f]))⟩ rfl (by simp[ai.cat,ai]) rfl ay
 rintro n ⟨d,q⟩;have m:=rest n d q;have o:rT b af (aa (n:Int))=strip b:=q▸rfl;have hi:((b.length:Int)<=8)↔b.length<=8:=by omega
 by_cases k:b.length<=8
 .by_cases c2:iQ (strip b)=b
  .by_cases c3:n=0
   .refine aE l [(21,ae),(29,ae),(32,ab)] 100 rfl ?_ (AK.br rfl ?_)
    .subst c3;simp only[ai,o,c2];simp;omega
    .simp[ai,ai.cat,m,c3]
   .refine aE l [(21,ae),(29,ae),(32,ae)] 100 rfl ?_ (AK.br rfl ?_)
    .simp[ai,o,hi,k,c2,c3,d]
    .simp[ai,ai.cat,m,o,q,k,c2,c3]
  .refine aE l [(21,ae),(29,ab),(32,ab)] 100 rfl ?_ (AK.br rfl ?_)
   .simp[ai,o,hi,k,c2,d]
   .simp[ai,ai.cat,m,c2]
 .refine aE l [(21,ab),(29,ab),(32,ab)] 100 rfl ?_ (AK.br rfl ?_)
  .simp[ai];omega
  .simp[ai,ai.cat,m,k]
abbrev tr:dC:=k6 aS (λb=>Ae (fb b)) λ_=>[]
theorem yH:eb X 117 tr:=.pf λb _=>Cg b
theorem Hb(k:Int)(x:cM)(c:cD k=ab):Ev X 101 [dI k,XL x] [] (dB (right k x)) []:=by
 refine Ev.body Tryz.func101 rfl rfl rfl λd=>?_
 have b:b5 X [(117,tr),(118,Au)]:=.cons yH (.cons An .nil);cases a:fb x.2 with
 |none=>exact aE b [(14,ae)] 100 rfl (by simp[ai,a]) (AK.br rfl (by simp[ai,right,a]))
 |some p=>exact aE b [(14,ab)] 100 rfl (by simp[ai,a,c,wF a]) (AK.br rfl (by simp[ai,right,a]))
abbrev Aw:dC:=qb aI SE (λk x=>dB (right k x)) λk _=>[cD k=ab]
theorem FM:eb X 101 Aw:=.te λk x h=>Hb k x h
theorem NP(k:Int):Ev X 57 [dI k] [] (dB (cD k)) []:=by
 refine Ev.body Tryz.func57 rfl rfl rfl λb=>?_
 have a:b5 X [(18,pn)]:=.cons qp .nil;exact aE a [] 100 rfl ay (AK.br rfl (by simp[ai,cD]))
abbrev yI:dC:=k6 aI (λk=>dB (cD k)) λ_=>[]
theorem Ch:eb X 57 yI:=.pf λk _=>NP k
abbrev NR(p:bC):aW:=.cells 55 [.c (.int .i64 p.1),.c (sP p)]
theorem Ci(k:Int)(p:bC) (n:Int):Ev X 154 [dI k,GB p,dI n] [] (Ae (dL k p n)) []:=by
 refine Ev.body Tryz.func154 rfl rfl rfl λo=>?_
 have c:b5 X [(57,yI),(101,Aw),(117,tr)]:=.cons Ch (.cons FM (.cons yH .nil));cases d:cD k with
 |false =>
  refine aE c [(11,ab)] 100 rfl (by simp[ai,d]) (AK.br rfl ?_)
  have:dL k p n=af:=by
   unfold dL chunk;split
   .split <;> simp[d]
   .rfl
  simp[ai,ai.cat,this]
 |true =>
 have m:=o.KI 1 rfl 1 rfl;refine aE c [(11,ae)] 100 rfl (by simp[ai,d]) ?_
 refine AK.cd 1 (λi=>i<=p.2.length/\p.2.find? (λx=>x.1==n)=(p.2.drop i).find? (λx=>x.1==n)) (λi:Nat=>[(0,dI k),(4,.e (.one (.ptr 0 0))),(2,dI n),(8,dI i)]) (λ_=>[NR p]) (λi=>p.2.length-i) 0 rfl (by simp[ai.cat,ai]) rfl (by simp[ai.cat,ai,a9.same]) rfl ⟨by omega,rfl⟩ ?_
 rintro i ⟨hi,b⟩
 by_cases h:i<p.2.length
 .have j:p.2.getD i eY.bU=fK p i:=rfl;have l:p.2.drop i=fK p i::p.2.drop (i+1):=by rw[y6 h,fK,ag,aR h];rfl
  rw[l,List.find?_cons] at b
  by_cases g:(fK p i).1=n
  .rw[show ((fK p i).1==n)=ab by simpa using g] at b
   cases f:right k (fK p i) with
   |false =>
    have a:right k (n,(fK p i).2)=ae:=g▸f;refine aE c [(16,ab),(26,ab),(34,ab)] 100 rfl ?_ (AK.eC (cn.zero rfl ?_))
    .simp[-ag,ai,j,g,a,d,h]
    .have e:dL k p n=af:=by
      have:=qP (k:=k) (x:=fK p i) d;rw[f] at this;simp only[dL,b];simpa using this
     simp[ai,ai.cat,e]
   |true =>
    have a:right k (n,(fK p i).2)=ab:=g▸f;refine aE c [(16,ab),(26,ab),(34,ae)] 100 rfl ?_ (AK.eC (cn.zero rfl ?_))
    .simp[-ag,ai,j,g,a,d,h]
    .have e:dL k p n=fb (fK p i).2:=by
      simp only[dL,b,chunk];unfold right at f;split at f
      .rename_i q r;rw[r];simp only[d,f,Bool.and_self,bO]
      .cases f
     simp[-ag,ai,ai.cat,e,j]
  .rw[show ((fK p i).1==n)=ae by simpa using g] at b
   refine aE c [(16,ab),(26,ae)] 100 rfl ?_ (AK.bg (i+1) rfl (by simp[ai.cat,ai]) rfl rfl rfl (by simp[ai.cat,ai,a9.same]) rfl ⟨h,b⟩ (by omega))
   simp[-ag,ai,j,g,bD,h];omega
 .obtain rfl:i=p.2.length:=by omega
  refine aE c [(16,ae)] 100 rfl (by simp[ai]) (AK.leaveD rfl rfl ?_)
  refine aE c [] 100 rfl ay (AK.br rfl ?_);simp[ai,ai.cat,dL,b]
abbrev FN:dC:=C5 aI (JS eY) aI (λk p n=>Ae (dL k p n)) λ_ _ _=>[]
theorem NS:eb X 154 FN:=.H0 λk p n _=>Ci k p n
theorem pt(k:Int)(p:bC):ju k p=(decide (1<=p.1/\p.1<=99)&&cD k&&decide (1<=p.2.length/\p.2.length<=4)&&(bc p.2.length).all (iE k p)):=by
 rw[tg];simp only[Bool.decide_and];cases cD k <;> cases decide (1<=p.1) <;> cases decide (p.1<=99) <;> cases decide (1<=p.2.length) <;> cases decide (p.2.length<=4) <;> simp
theorem Hc{k:Int}{p:bC}{i:Nat}(a:i≠0):iE k p i=(right k (fK p i)&&decide ((fK p (i-1)).1<(fK p i).1)):=by
 unfold iE;rw[show (i==0)=ae by simpa using a,ru]
theorem Ek(k:Int)(p:bC):Ev X 77 [dI k,GB p] [] (dB (ju k p)) []:=by
 refine Ev.body Tryz.func77 rfl rfl rfl λr=>?_
 have b:b5 X [(18,pn),(57,yI),(101,Aw)]:=.cons qp (.cons Ch (.cons FM .nil));have o:=r.KI 1 rfl 1 rfl;rw[pt]
 by_cases g:1<=p.1/\p.1<=99
 rotate_left
 .exact aE b [(10,ab),(14,ab),(21,ab)] 100 rfl (by simp[ai];omega) (AK.br rfl (by simp[ai,cJ g]))
 cases c:cD k
 .exact aE b [(10,ae),(14,ab),(21,ab)] 100 rfl (by simp[ai,c,g]) (AK.br rfl (by simp[ai]))
 by_cases c3:1<=p.2.length/\p.2.length<=4
 rotate_left
 .exact aE b [(10,ae),(14,ae),(21,ab)] 100 rfl (by simp[ai,c,g];omega) (AK.br rfl (by simp[ai,cJ c3]))
 refine aE b [(10,ae),(14,ae),(21,ae)] 100 rfl (by simp[ai,c,g];omega) ?_
 rw[b9 g,b9 c3,dH,dH,dH];refine AK.cd 1 (λi=>i<=p.2.length/\∀ j,j<i->iE k p j=ab) (λi:Nat=>[(0,dI k),(3,.e (.one (.ptr 0 0))),(5,dI i)]) (λ_=>[NR p]) (λi=>p.2.length-i) 0 rfl (by simp[ai.cat,ai]) rfl (by simp[ai.cat,ai,a9.same]) rfl ⟨by omega,by omega⟩ ?_
 rintro i ⟨hi,a⟩
 by_cases h:i<p.2.length
 .have l:p.2.getD i eY.bU=fK p i:=rfl;cases d:right k (fK p i) with
  |false =>
   refine aE b [(26,ab),(37,ab),(56,ab)] 100 rfl ?_ (AK.eC (cn.zero rfl ?_))
   .simp[-ag,ai,l,d,c,h]
   .rw[dT h (by simp only[iE,d,nY])];simp[ai]
  |true =>
   by_cases q:i=0
   .subst q;refine aE b [(26,ab),(37,ae),(40,ae),(56,ae)] 100 rfl ?_ (AK.bg 1 rfl (by simp[ai.cat,ai]) rfl rfl rfl (by simp[ai.cat,ai,a9.same]) rfl ⟨h,fy a (by simp only[iE,d,dH];rfl)⟩ (by omega))
    simp[-ag,ai,l,d,c,h,bD]
   have f:p.2.getD (i-1) eY.bU=fK p (i-1):=rfl;have n:=Hc (k:=k) (p:=p) q
   by_cases m:(fK p (i-1)).1<(fK p i).1
   .refine aE b [(26,ab),(37,ae),(40,ab),(54,ae),(56,ae)] 100 rfl ?_ (AK.bg (i+1) rfl (by simp[ai.cat,ai]) rfl rfl rfl (by simp[ai.cat,ai,a9.same]) rfl ⟨h,fy a (by rw[n,d,b9 m];rfl)⟩ (by omega))
    simp[-ag,ai,l,f,d,c,h,m,bD];omega
   .refine aE b [(26,ab),(37,ae),(40,ab),(54,ab),(56,ab)] 100 rfl ?_ (AK.eC (cn.zero rfl ?_))
    .simp[-ag,ai,l,f,d,c,h,bD];omega
    .rw[dT h (by rw[n,cJ m,mn])];simp[ai]
 .obtain rfl:i=p.2.length:=by omega
  refine aE b [(26,ae)] 100 rfl (by simp[ai]) (AK.leaveD rfl rfl ?_)
  exact aE b [] 100 rfl ay (AK.br rfl (by simp[ai,bX.2 a]))
abbrev Cj:dC:=qb aI (JS eY) (λk p=>dB (ju k p)) λ_ _=>[]
theorem KJ:eb X 77 Cj:=.te λk p _=>Ek k p
theorem eK{α:Type}{l:List α}{i:Nat}{d:α}(h:i<l.length):l.getD i d∈l:=by
 rw[ag,aR h];exact dy h
theorem NT{l:List Int}{n:Int}:l.contains n=!(bc l.length).all λi=>!(l.getD i 0==n):=by
 rw[mj,iS,<-ln,bX,zb]
 constructor
 .intro h a;obtain⟨i,hi,rfl⟩:=lL.1 h;have:=a i hi;simp[ag,aR hi] at this
 .intro h
  by_cases a:n∈l
  .exact a
  .exact absurd (λi hi=>by
    have:l.getD i 0≠n:=λe=>a (e▸eK hi)
    simpa using this) h
theorem NU(l:List Int) (n:Int):Ev X 38 [cI.sl l,dI n] [] (dB (l.contains n)) []:=by
 refine Ev.body Tryz.func38 rfl rfl rfl λe=>?_
 have c:=e.sl 0 rfl;refine bP rfl ay ?_;rw[NT];refine AK.j4 (λi=>i<=l.length/\∀ j,j<i->(!(l.getD j 0==n))=ab) (λi:Nat=>[(0,cI.sl l),(1,dI n),(5,dI i)]) (λ_=>[]) (λi=>l.length-i) 0 rfl (by simp[ai.cat,ai,a9.same]) rfl ay ⟨by omega,by omega⟩ ?_
 rintro i ⟨hi,a⟩
 by_cases h:i<l.length
 .have d:l.getD i cI.bU=l.getD i 0:=rfl
  by_cases b:l.getD i 0=n
  .refine bd [(9,ab),(17,ab)] 100 rfl ?_ (AK.iq (cn.zero rfl ?_))
   .simp[-ag,ai,d,b,h]
   .rw[dT h (by simpa using b)];simp[ai]
  .refine bd [(9,ab),(17,ae)] 100 rfl ?_ (AK.gw (i+1) rfl (by simp[ai.cat,ai,a9.same]) rfl ay ⟨h,fy a (by simpa using b)⟩ (by omega))
   simp[-ag,ai,d,b,h,bD];omega
 .obtain rfl:i=l.length:=by omega
  refine bd [(9,ae)] 100 rfl (by simp[ai]) (AK.leave rfl rfl ?_)
  exact bP rfl ay (AK.br rfl (by rw[bX.2 a];simp[ai]))
abbrev Ck:dC:=qb (aL cI) aI (λl n=>dB (l.contains n)) λ_ _=>[]
theorem FO:eb X 38 Ck:=.te λl n _=>NU l n
theorem El(k:Int)(ps:List bC) (n:Int):Ev X 119 [dI k,cP.sl ps,dI n] [] (Ae (dF k ps n)) []:=by
 refine Ev.body Tryz.func119 rfl rfl rfl λg=>?_
 have f:=g.sl 1 rfl;have e:b5 X [(154,FN)]:=.cons NS .nil;refine aE e [] 100 rfl ay ?_;refine AK.j4 (λi=>i<=ps.length/\dF k ps n=dF k (ps.drop i) n) (λi:Nat=>[(0,dI k),(1,cP.sl ps),(2,dI n),(8,dI i)]) (λ_=>[]) (λi=>ps.length-i) 0 rfl (by simp[ai.cat,ai,a9.same]) rfl ay ⟨by omega,rfl⟩ ?_
 rintro i ⟨hi,a⟩
 by_cases h:i<ps.length
 .have c:ps.drop i=ps.getD i (0,[])::ps.drop (i+1):=by rw[y6 h,ag,aR h];rfl
  have d:((ps.getD i cP.bU).1,eY.list (ps.getD i cP.bU).2.length (eY.fn (ps.getD i cP.bU).2))=ps.getD i (0,[]):=by rw[eY.list_fn];rfl
  rw[c,show dF k (ps.getD i (0,[])::ps.drop (i+1)) n=_ from zh] at a
  cases b:dL k (ps.getD i (0,[])) n with
  |some q =>
   rw[b] at a;refine aE e [(14,ab),(27,ab)] 100 rfl ?_ (AK.iq (cn.zero rfl ?_))
   .simp[-ag,ai,d,b,h,eY.aH]
   .simp[-ag,ai,ai.cat,d,b,a]
  |none =>
   rw[b] at a;refine aE e [(14,ab),(27,ae)] 100 rfl ?_ (AK.gw (i+1) rfl (by simp[ai.cat,ai,a9.same]) rfl ay ⟨h,a⟩ (by omega))
   simp[-ag,ai,d,b,h,bD,eY.aH];omega
 .obtain rfl:i=ps.length:=by omega
  refine bd [(14,ae)] 100 rfl (by simp[ai]) (AK.leave rfl rfl ?_)
  exact bP rfl ay (AK.br rfl (by rw[a,uW];simp[ai,ai.cat,dF]))
abbrev Cl:dC:=C5 aI (aL cP) aI (λk ps n=>Ae (dF k ps n)) λ_ _ _=>[]
theorem KL:eb X 119 Cl:=.H0 λk ps n _=>El k ps n
theorem KM(a b:List Bs):Ev X 155 [cS.sl a,cS.sl b] [] (dB (a==b)) []:=by
 refine Ev.body Tryz.func155 rfl rfl rfl λn=>?_
 have f:=n.sl 0 rfl
 by_cases k:a.length=b.length
 rotate_left
 .have:(a==b)=ae:=dx.2 (by rintro rfl;exact k rfl)
  exact bd [(10,ab)] 100 rfl (by simp[ai];omega) (AK.br rfl (by simp[ai,this]))
 refine bd [(10,ae)] 100 rfl (by simp[ai];omega) ?_
 refine AK.j4 (λi=>i<=a.length/\∀ j,j<i->a.getD j []=b.getD j []) (λi:Nat=>[(0,cS.sl a),(1,cS.sl b),(5,dI i)]) (λ_=>[]) (λi=>a.length-i) 0 rfl (by simp[ai.cat,ai,a9.same]) rfl ay ⟨by omega,by omega⟩ ?_
 rintro i ⟨hi,c⟩
 by_cases h:i<a.length
 .have g:∀ l:List Bs,l.getD i cS.bU=l.getD i []:=λ_=>rfl
  by_cases d:a.getD i []=b.getD i []
  .refine bd [(14,ab),(25,ae)] 100 rfl ?_ (AK.gw (i+1) rfl (by simp[ai.cat,ai,a9.same]) rfl ay ⟨h,λj e=>?_⟩ (by omega))
   .simp[-ag,ai,g,d,bD];omega
   .rcases fU.1 e with e|rfl
    .exact c j e
    .exact d
  .refine bd [(14,ab),(25,ab)] 100 rfl ?_ (AK.iq (cn.zero rfl ?_))
   .simp[-ag,ai,g,d];omega
   .have:(a==b)=ae:=dx.2 (by rintro rfl;exact d rfl)
    simp[ai,this]
 .obtain rfl:i=a.length:=by omega
  have:a=b:=pF k λj d m=>by rw[<-vk d,<-vk m];exact c j d
  refine bd [(14,ae)] 100 rfl (by simp[ai]) (AK.leave rfl rfl ?_)
  exact bP rfl ay (AK.br rfl (by simp[ai,this]))
theorem RK:eb X 155 Nn:=.te λa b _=>KM a b
theorem uh(t:Bs):∀ k f p,p∈fw t k f->p.length<=8
 |0,_,p,h=>by simp[fw] at h
 |k+1,f,p,h=>by
  simp only[fw] at h;split at h
  .rename_i a
   rcases ew.1 h with rfl|h
   .have:=nz t f a;simp only[bn,gF];omega
   .exact uh t k _ p h
  .cases h
theorem Ax{l:List Bs}{p:Bs}(h:p∈l)(b:8<p.length):gd l=af:=by
 unfold gd;rw[aO];intro a;simp only[bG,fJ] at a;have:=uh l.flatten l.flatten.length 0 p (by rw[show fw l.flatten l.flatten.length 0=l from a.2];exact h)
 omega
theorem uH(l:List Bs)(i:Nat):(l.take i).flatten.length<=l.flatten.length:=by
 have:l.flatten=(l.take i).flatten++(l.drop i).flatten:=by rw[<-zg,j8]
 rw[this,bF];omega
theorem Em{l:List Bs}{i:Nat}(h:40<(l.take i).flatten.length):gd l=af:=by
 have:=uH l i;unfold gd;rw[aO];intro a;simp only[bG,ef,bh] at a;omega
theorem KN(l:List Bs):Ev X 120 [cS.sl l] [] (Ae (gd l)) []:=by
 refine Ev.body Tryz.func120 rfl rfl rfl λm=>?_
 have k:=m.sl 0 rfl;have a:b5 X [(85,VT),(156,FG),(155,Nn)]:=.cons t85 (.cons Kk (.cons RK .nil));refine aE a [] 100 rfl ay ?_;refine AK.j4 (λi=>i<=l.length/\(l.take i).flatten.length<=48) (λi:Nat=>[(0,cS.sl l),(4,dS (l.take i).flatten),(5,dI i)]) (λ_=>[]) (λi=>l.length-i) 0 rfl (by simp[ai.cat,ai,a9.same]) rfl ay ⟨by omega,by simp⟩ ?_
 rintro i ⟨hi,f⟩
 by_cases h:i<l.length
 .have e:l.getD i cS.bU=l.getD i []:=rfl;have g:(l.take (i+1)).flatten=(l.take i).flatten++l.getD i []:=by rw[bx h []];simp
  by_cases b:(l.getD i []).length<=8
  .by_cases c:(l.take i).flatten.length<=40
   .refine aE a [(9,ab),(18,ae),(22,ae)] 100 rfl ?_ (AK.gw (i+1) rfl ?_ rfl ay ⟨h,by rw[g,bF];omega⟩ (by omega))
    .simp[-ag,-List.length_flatten,ai,e,bD];omega
    .simp only[ai.cat,ai,g,aG,aF];exact⟨a9.same,rfl,rfl⟩
   .refine aE a [(9,ab),(18,ae),(22,ab)] 100 rfl ?_ (AK.iq (cn.zero rfl ?_))
    .simp[-ag,-List.length_flatten,ai,e];omega
    .simp[ai,ai.cat,Em (l:=l) (i:=i) (by omega)]
  .refine aE a [(9,ab),(18,ab),(22,ab)] 100 rfl ?_ (AK.iq (cn.zero rfl ?_))
   .simp[-ag,ai,e];omega
   .simp[ai,ai.cat,Ax (eK (d:=[]) h) (by omega)]
 .obtain rfl:i=l.length:=by omega
  rw[cq] at f ⊢;refine aE a [(9,ae)] 100 rfl (by simp[ai]) (AK.leave rfl rfl ?_)
  have el:=cS.list_fn l;cases b:ef l.flatten with
  |false=>exact aE a [(32,ab),(38,ab)] 100 rfl (by simp[ai,b]) (AK.br rfl (by simp[ai,ai.cat,gd,b]))
  |true =>
   have j:ck l.flatten=ab:=by simp only[ef,bG] at b;exact b.2
   cases c:(pieces l.flatten==l) with
   |false =>
    refine aE a [(32,ae),(38,ab)] 100 rfl ?_ (AK.br rfl (by simp[ai,ai.cat,gd,c]))
    simp[-List.length_flatten,ai,b,j,el,cS.list_fn,cS.aH,by simpa using c];omega
   |true =>
    refine aE a [(32,ae),(38,ae)] 100 rfl ?_ (AK.br rfl (by simp[ai,ai.cat,gd,b,c]))
    simp[-List.length_flatten,ai,b,j,el,cS.list_fn,cS.aH,by simpa using c];omega
abbrev KO:dC:=k6 (aL cS) (λl=>Ae (gd l)) λ_=>[]
theorem RL:eb X 120 KO:=.pf λl _=>KN l
abbrev VU(s:dA):aW:=.cells 59 [.c (.int .i64 s.1),.c (.sl ae 2 s.2.length (cL.fn s.2))]
abbrev H4(k:Int)(ps:List bC)(ns:List Int):List Bs:=ns.map λn=>(dF k ps n).getD []
theorem NV{k:Int}{ps:List bC}{ns:List Int}{j:Nat}(h:j<ns.length):H4 k ps (ns.take (j+1))=H4 k ps (ns.take j)++[(dF k ps (ns.getD j 0)).getD []]:=by
 rw[bx h 0,H4,mh];rfl
theorem Cm{k:Int}{ps:List bC}{ns:List Int}{j:Nat}(h:j<ns.length)(b:dF k ps (ns.getD j 0)=af):ei k ps ns=af:=by
 unfold ei;rw[aO];intro a;have:=bq.1 a _ (eK (d:=0) h);rw[b] at this;cases this
theorem Ay{k:Int}{ps:List bC}{ns:List Int}(h:∀ j,j<ns.length->(dF k ps (ns.getD j 0)).isSome=ab):ei k ps ns=aa (H4 k ps ns):=by
 unfold ei;rw[aU];refine bq.2 λx b=>?_
 obtain⟨j,a,rfl⟩:=lL.1 b;have:=h j a
 rwa [ag,aR a] at this
set_option maxHeartbeats 4000000 in
theorem Az(k:Int)(s:dA)(ps:List bC)(K:s.2.length<=4000000)(I:∀ x∈s.2,x.2.length<=4000000) :
  Ev X 102 [dI k,No s,cP.sl ps] [] (Q0 ((cO k s ps).getD []) (cO k s ps).isSome) []:=by
 refine Ev.body Tryz.func102 rfl rfl rfl λJ=>?_
 have a:b5 X [(57,yI),(119,Cl),(120,KO),(58,SH)]:=.cons Ch (.cons KL (.cons RL (.cons t58 .nil)));cases A:cD k with
 |false =>
  refine aE a [(19,ab)] 100 rfl ?_ (AK.br rfl ?_)
  .simp[ai,A]
  .simp[ai,ai.cat,cO,A,a9.nil]
 |true =>
 refine aE a [(19,ae),(1000004,ab)] 100 rfl (by simp[ai,A]) ?_
 refine AK.iD 8 129 2 rfl rfl ?_;refine aE a [] 100 rfl ay ?_;refine AK.cd 2 (λi=>i<=s.2.length/\∀ j,j<i->(fileOf k ps (s.2.getD j ([],[]))).isSome=ab) (λi:Nat=>[(0,dI k),(2,cP.sl ps),(4,.e (.one (.ptr 0 0))),(8,.e (.one (.vec 1 2 (c6 k ps (s.2.take i)).length (cF.fn (c6 k ps (s.2.take i)))))),(9,dI i)]) (λi=>[VU s,.vec 129 2 (c6 k ps (s.2.take i)).length (cF.fn (c6 k ps (s.2.take i)))]) (λi=>s.2.length-i) 0 rfl (by simp[ai.cat,ai,a9.same,a9.nil,c6]) rfl (by simp[ai.cat,ai,a9.same,a9.nil,c6]) rfl ⟨by omega,by omega⟩ ?_
 rintro i ⟨hi,g⟩
 by_cases h:i<s.2.length
 .have E:=I _ (eK (d:=([],[])) h);have b:=ph (k:=k) (ps:=ps) h;have C:(c6 k ps (s.2.take i)).length=i:=by simp[c6];omega
  have f:s.2.getD (i:Int).toNat cL.bU=s.2.getD i ([],[]):=by rw[bu];rfl
  have m:=pj (k:=k) (ps:=ps) h;generalize B:s.2.getD i ([],[])=x at E b f m;generalize c6 k ps (s.2.take i)=fs at *;refine aE a [(25,ab),(1000008,ab)] 100 rfl (by simp[ai];omega) ?_
  refine AK.iD 10 9 1 rfl rfl ?_;refine aE a [] 100 rfl ay ?_;refine AK.cd 3 (λj=>j<=x.2.length/\∀ q,q<j->(dF k ps (x.2.getD q 0)).isSome=ab) (λj:Nat=>[(0,dI k),(2,cP.sl ps),(4,.e (.one (.ptr 0 0))),(8,.e (.one (.vec 1 2 fs.length (cF.fn fs)))),(9,dI i),(10,.e (.one (.vec 2 1 (H4 k ps (x.2.take j)).length (cS.fn (H4 k ps (x.2.take j)))))),(11,dI j)]) (λj=>[VU s,.vec 129 2 fs.length (cF.fn fs),.vec 9 1 (H4 k ps (x.2.take j)).length (cS.fn (H4 k ps (x.2.take j)))]) (λj=>x.2.length-j) 0 rfl (by simp[ai.cat,ai,a9.same,a9.nil]) rfl (by simp[ai.cat,ai,a9.same,a9.nil]) rfl ⟨by omega,by omega⟩ ?_
  rintro j ⟨F,u⟩
  by_cases D:j<x.2.length
  .have c:x.2.getD (j:Int).toNat cI.bU=x.2.getD j 0:=by rw[bu];rfl
   cases l:dF k ps (x.2.getD j 0) with
   |none =>
    have e:fileOf k ps x=af:=by simp[fileOf,Cm D l]
    refine aE a [(37,ab),(56,ab)] 100 rfl ?_ (AK.eC (AK.r5 (cn.zero rfl ?_)))
    .simp only[ai,f,c,l,cP.list_fn,cP.aH];simp;omega
    .rw[m e];simp[ai,ai.cat,a9.nil]
   |some q =>
    have n:=NV (k:=k) (ps:=ps) D;rw[l] at n;have v:(H4 k ps (x.2.take j)).length=j:=by simp;omega
    have y:=cS.cu (H4 k ps (x.2.take j)) q;refine aE a [(37,ab),(56,ae)] 100 rfl ?_ (AK.bg (j+1) rfl ?_ rfl rfl rfl ?_ rfl ⟨D,λr o=>?_⟩ (by omega))
    .simp only[ai,f,c,l,cP.list_fn,cP.aH,v,bD,show i9.bytes=16 from rfl];simp;omega
    .rw[n];simp only[ai.cat,ai,f,c,l,cP.list_fn,bF,dw,aG,aF]
     and_intros <;> first|exact a9.same|exact y|rfl|omega
    .rw[n];simp only[ai.cat,ai,f,c,l,cP.list_fn,bF,dw,aG,aF]
     and_intros <;> first|exact a9.same|exact y|rfl|omega
    .rcases fU.1 o with o|rfl
     .exact u r o
     .rw[l];rfl
  .obtain rfl:j=x.2.length:=by omega
   have w:=Ay u;rw[cq];have v:(H4 k ps x.2).length=x.2.length:=by simp
   refine aE a [(37,ae)] 100 rfl (by simp only[ai,f];simp[h]) (AK.leaveD rfl rfl ?_)
   cases p:gd (H4 k ps x.2) with
   |none =>
    have e:fileOf k ps x=af:=by simp[fileOf,w,p]
    refine aE a [(68,ab)] 100 rfl ?_ (AK.eC (cn.zero rfl ?_))
    .simp only[ai,cS.list_fn,cS.aH,p];simp
    .rw[m e];simp[ai,ai.cat,a9.nil]
   |some t =>
    have e:fileOf k ps x=aa (x.1,t):=by simp[fileOf,w,p]
    rw[e] at b;have G:=cF.cu fs (x.1,t);refine aE a [(68,ae)] 100 rfl ?_ (AK.bg (i+1) rfl ?_ rfl rfl rfl ?_ rfl ⟨h,λr o=>?_⟩ (by omega))
    .simp only[ai,f,cS.list_fn,cS.aH,p,C,bD,show i129.bytes=32 from rfl];simp;omega
    .rw[b];simp only[ai.cat,ai,f,cS.list_fn,p,dG,bF,dw,aG,aF]
     and_intros <;> first|exact a9.same|exact G|rfl|omega
    .rw[b];simp only[ai.cat,ai,f,cS.list_fn,p,dG,bF,dw,aG,aF]
     and_intros <;> first|exact a9.same|exact G|rfl|omega
    .rcases fU.1 o with o|rfl
     .exact g r o
     .rw[B,e];rfl
 .obtain rfl:i=s.2.length:=by omega
  rw[cq];have H:s.2.all (λx=>(fileOf k ps x).isSome)=ab:=bq.2 λx E=>by
   obtain⟨j,F,rfl⟩:=lL.1 E;have:=g j F;simpa[ag,aR F] using this
  refine aE a [(25,ae)] 100 rfl (by simp[ai]) (AK.leaveD rfl rfl ?_)
  cases z:dt (c6 k ps s.2) with
  |false =>
   refine aE a [(83,ab)] 100 rfl ?_ (AK.br rfl ?_)
   .simp[ai,cF.list_fn,cF.aH,z]
   .simp[ai,ai.cat,cO,z,a9.nil]
  |true =>
   refine aE a [(83,ae)] 100 rfl ?_ (AK.br rfl ?_)
   .simp[ai,cF.list_fn,cF.aH,z]
   .simp[ai,ai.cat,cO,z,A,H,a9.same]
abbrev wW:dC:=C5 aI (JS cL) (aL cP) (λk s ps=>Q0 ((cO k s ps).getD []) (cO k s ps).isSome) λ_ s _=>[s.2.length<=4000000,∀ x∈s.2,x.2.length<=4000000]
theorem En:eb X 102 wW:=.H0 λk s ps h=>Az k s ps h.1 h.2
abbrev sq:=Int×Int
def gz(h:sq):Bool:=decide (1<=h.1/\h.1<=2)&&decide (1<=h.2/\h.2<=20)
def kT(l:List sq):Bool:=(bc l.length).all (λi=>gz (l.getD i (0,0)))&&decide (l.length<=9)
abbrev X5(h:sq):D:=.e (.agg [.c (.int .i64 h.1),.c (.int .i64 h.2)])
theorem Hd(h:sq):Ev X 103 [X5 h] [] (dB (gz h)) []:=by
 refine Ev.body Tryz.func103 rfl rfl rfl λb=>?_
 have a:b5 X [(18,pn)]:=.cons qp .nil
 by_cases c:1<=h.1/\h.1<=2
 .exact aE a [(6,ab)] 100 rfl (by simp[ai,c]) (AK.br rfl (by simp[ai,gz,c]))
 .exact aE a [(6,ae)] 100 rfl (by simp[ai];omega) (AK.br rfl (by simp only[ai,gz,cJ c];simp))
theorem He(l:List sq):Ev X 79 [cH.sl l] [] (dB (kT l)) []:=by
 refine Ev.body Tryz.func79 rfl rfl rfl λf=>?_
 have d:=f.sl 0 rfl;have b:b5 X [(103,k6 SF (λh=>dB (gz h)) λ_=>[])]:=.cons (.pf λh _=>Hd h) .nil
 refine aE b [] 100 rfl ay ?_;unfold kT;refine AK.j4 (λi=>i<=l.length/\∀ j,j<i->gz (l.getD j (0,0))=ab) (λi:Nat=>[(0,cH.sl l),(3,dI i)]) (λ_=>[]) (λi=>l.length-i) 0 rfl (by simp[ai.cat,ai,a9.same]) rfl ay ⟨by omega,by omega⟩ ?_
 rintro i ⟨hi,a⟩
 by_cases h:i<l.length
 .have e:l.getD i cH.bU=l.getD i (0,0):=rfl;cases c:gz (l.getD i (0,0)) with
  |false =>
   refine aE b [(7,ab),(15,ab)] 100 rfl ?_ (AK.iq (cn.zero rfl ?_))
   .simp[-ag,ai,e,c,h]
   .rw[dT h c];simp[ai]
  |true =>
   refine aE b [(7,ab),(15,ae)] 100 rfl ?_ (AK.gw (i+1) rfl (by simp[ai.cat,ai,a9.same]) rfl ay ⟨h,fy a c⟩ (by omega))
   simp[-ag,ai,e,c,h,bD];omega
 .obtain rfl:i=l.length:=by omega
  refine aE b [(7,ae)] 100 rfl (by simp[ai]) (AK.leave rfl rfl ?_)
  exact aE b [] 100 rfl ay (AK.br rfl (by rw[bX.2 a];simp[ai];omega))
abbrev sr:dC:=k6 (aL cH) (λl=>dB (kT l)) λ_=>[]
theorem FP:eb X 79 sr:=.pf λl _=>He l
def b8(ps:List bC):List Int:=ps.flatMap λp=>p.2.map (·.1)
def Cn{α:Type}(f:α->Int)(d:α)(l:List α)(i:Nat):Bool:=i==0||decide (f (l.getD (i-1) d)<f (l.getD i d))
def l7(k:Int)(ps:List bC)(i:Nat):Bool:=ju k (ps.getD i (0,[]))&&Cn (·.1) (0,[]) ps i
def j0(k:Int)(s:bo)(i:Nat):Bool:=decide (1<=(s.2.1.getD i (0,[])).1/\(s.2.1.getD i (0,[])).1<=20)&&Cn (·.1) (0,[]) s.2.1 i&&(cO k (s.2.1.getD i (0,[])) s.1).isSome
def gN(k:Int)(s:bo):Bool:=(bc s.1.length).all (l7 k s.1)&&decide (b8 s.1).Nodup&&(bc s.2.1.length).all (j0 k s)&&cD k&&kT s.2.2&&decide (s.1.length<=20)
theorem wX{ps:List bC}{i:Nat}(h:i<ps.length):b8 (ps.take (i+1))=b8 (ps.take i)++(ps.getD i (0,[])).2.map (·.1):=by
 rw[bx h (0,[])];simp[b8]
theorem Hf{ps:List bC}{i:Nat}(h:¬(b8 (ps.take i)).Nodup):¬(b8 ps).Nodup:=λa=>h (by
 have:b8 ps=b8 (ps.take i)++b8 (ps.drop i):=by unfold b8;rw[<-nU,j8]
 rw[this] at a;exact(List.nodup_append.1 a).1)
theorem wY{l:List Int}{n:Int}:(l++[n]).Nodup↔l.Nodup/\n∉l:=by
 rw[List.nodup_append];simp;intro _;exact⟨λh b=>h n b rfl,λh a c e=>h (e▸c)⟩
abbrev Mb(s:bo):aW:=.cells 27 [.c (.sl ae 2 s.1.length (cP.fn s.1)),.c (.sl ae 2 s.2.1.length (dz.fn s.2.1)),.c (.sl ae 2 s.2.2.length (cH.fn s.2.2))]
theorem KP(k:Int)(s:bo)(x:dA)(a:x.2.length<=4000000)(c:∀ y∈x.2,y.2.length<=4000000):Ev X 78 [dI k,k7 s,No x] [] (dB (cO k x s.1).isSome) []:=by
 refine Ev.body Tryz.func78 rfl rfl rfl λd=>?_
 have b:b5 X [(102,wW)]:=.cons En .nil;have e:(x.1,cL.list x.2.length (cL.fn x.2))=x:=by rw[cL.list_fn]
 refine aE b [] 100 rfl ?_ (AK.br rfl ?_)
 .simp only[ai,cL.list_fn,cL.aH,cP.aH,a,aG,aF];exact c
 .simp[ai,ai.cat,cL.list_fn,cP.list_fn]
abbrev KQ:dC:=C5 aI Np (JS cL) (λk s x=>dB (cO k x s.1).isSome) λ_ _ x=>[x.2.length<=4000000,∀ y∈x.2,y.2.length<=4000000]
theorem RM:eb X 78 KQ:=.H0 λk s x h=>KP k s x h.1 h.2
theorem mL{α:Type}{f:α->Int}{d:α}{l:List α}{i:Nat}(h:i≠0):Cn f d l i=decide (f (l.getD (i-1) d)<f (l.getD i d)):=by
 unfold Cn;rw[show (i==0)=ae by simpa using h,ru]
set_option maxHeartbeats 4000000 in
theorem Co(k:Int)(s:bo)(P:mZ s)(T:s.1.length<=4000000)(V:s.2.1.length<=4000000):Ev X 39 [dI k,k7 s] [] (dB (gN k s)) []:=by
 refine Ev.body Tryz.func39 rfl rfl rfl λR=>?_
 have g:b5 X [(77,Cj),(38,Ck),(18,pn),(78,KQ),(57,yI),(79,sr)]:=.cons KJ (.cons FO (.cons qp (.cons RM (.cons Ch (.cons FP .nil)))));refine aE g [(1000002,ab)] 100 rfl ay ?_;refine AK.iD 5 3 1 rfl rfl ?_;refine aE g [] 100 rfl ay ?_;unfold gN;refine AK.cd 2 (λi=>i<=s.1.length/\(∀ j,j<i->l7 k s.1 j=ab)/\(b8 (s.1.take i)).Nodup/\(b8 (s.1.take i)).length<=4*i) (λi:Nat=>[(0,dI k),(3,.e (.one (.ptr 0 0))),(5,.e (.one (.vec 1 1 (b8 (s.1.take i)).length (cI.fn (b8 (s.1.take i)))))),(6,dI i)]) (λi=>[Mb s,.vec 3 1 (b8 (s.1.take i)).length (cI.fn (b8 (s.1.take i)))]) (λi=>s.1.length-i) 0 rfl (by simp[ai.cat,ai,a9.nil,b8]) rfl (by simp[ai.cat,ai,a9.nil,a9.same,b8]) rfl ⟨by omega,by omega,by simp[b8],by simp[b8]⟩ ?_
 rintro i ⟨hi,m,A,Q⟩
 by_cases h:i<s.1.length
 .have x:=wX h;have J:=Hf (ps:=s.1) (i:=i+1);have q:s.1.getD i cP.bU=s.1.getD i (0,[]):=rfl;have t:s.1.getD (i-1) cP.bU=s.1.getD (i-1) (0,[]):=rfl;have c:l7 k s.1 i=(ju k (s.1.getD i (0,[]))&&Cn (·.1) (0,[]) s.1 i):=rfl;have u:=mL (f:=λp:bC=>p.1) (d:=(0,[])) (l:=s.1) (i:=i)
  generalize I:s.1.getD i (0,[])=p at *;generalize s.1.getD (i-1) (0,[])=p' at *;cases y:ju k p with
  |false =>
   rw[y,nY] at c;refine aE g [(14,ab),(25,ab),(44,ab)] 100 rfl ?_ (AK.eC (cn.zero rfl ?_))
   .simp[-ag,ai,q,y,eY.list_fn,eY.aH,h]
   .rw[dT h c];simp[ai]
  |true =>
   have S:p.2.length<=4:=by rw[pt] at y;simp only[bG,bh] at y;exact y.1.2.2
   rw[y,dH] at c;cases o:Cn (·.1) (0,[]) s.1 i with
   |false =>
    have w:i≠0:=by rintro rfl;cases o
    have F:¬p'.1<p.1:=by rw[u w] at o;exact of_decide_eq_false o
    refine aE g [(14,ab),(25,ae),(28,ab),(42,ab),(44,ab)] 100 rfl ?_ (AK.eC (cn.zero rfl ?_))
    .simp[-ag,ai,q,t,y,eY.list_fn,eY.aH,h,bD];omega
    .rw[dT h (c.trans o)];simp[ai]
   |true =>
   rw[o] at c
   apply AK.join [(0,dI k),(3,.e (.one (.ptr 0 0))),(5,.e (.one (.vec 1 1 (b8 (s.1.take i)).length (cI.fn (b8 (s.1.take i)))))),(6,dI i),(7,dI 0)] [Mb s,.vec 3 1 (b8 (s.1.take i)).length (cI.fn (b8 (s.1.take i)))]
   .intro D
    by_cases w:i=0
    .subst w;refine aE g [(14,ab),(25,ae),(28,ae),(44,ae)] 100 rfl ?_ (D _ _ rfl ?_)
     .simp[-ag,ai,q,y,eY.list_fn,eY.aH,h]
     .simp[ai.cat,ai,a9.same]
    .have F:p'.1<p.1:=by rw[u w] at o;exact nQ o
     refine aE g [(14,ab),(25,ae),(28,ab),(42,ae),(44,ae)] 100 rfl ?_ (D _ _ rfl ?_)
     .simp[-ag,ai,q,t,y,eY.list_fn,eY.aH,h,bD];omega
     .simp[ai.cat,ai,a9.same]
   generalize b8 (s.1.take i)=ns at *;refine AK.cd 2 (λj=>j<=p.2.length/\(ns++(p.2.take j).map (·.1)).Nodup) (λj:Nat=>[(0,dI k),(3,.e (.one (.ptr 0 0))),(5,.e (.one (.vec 1 1 (ns++(p.2.take j).map (·.1)).length (cI.fn (ns++(p.2.take j).map (·.1)))))),(6,dI i),(7,dI j)]) (λj=>[Mb s,.vec 3 1 (ns++(p.2.take j).map (·.1)).length (cI.fn (ns++(p.2.take j).map (·.1)))]) (λj=>p.2.length-j) 0 rfl (by simp[ai.cat,ai,a9.same]) rfl (by simp[ai.cat,ai,a9.same]) rfl ⟨by omega,by simpa using A⟩ ?_
   rintro j ⟨U,B⟩
   by_cases v:j<p.2.length
   .have H:p.2.getD j eY.bU=fK p j:=rfl;have z:ns++(p.2.take (j+1)).map (·.1)=(ns++(p.2.take j).map (·.1))++[(fK p j).1]:=by rw[bx v (0,[])];simp
    have E:(ns++(p.2.take j).map (·.1)).length=ns.length+j:=by simp;omega
    generalize ns++(p.2.take j).map (·.1)=a at *;cases G:a.contains (fK p j).1 with
    |true =>
     refine aE g [(53,ab),(67,ab)] 100 rfl ?_ (AK.eC (AK.r5 (cn.zero rfl ?_)))
     .simp[-ag,-List.contains_eq_mem,ai,q,H,h,v,G,cI.list_fn,cI.aH]
     .have K:¬(b8 s.1).Nodup:=J (by
       have e:ns++p.2.map (·.1)=(ns++(p.2.take (j+1)).map (·.1))++(p.2.drop (j+1)).map (·.1):=by rw[dq,<-mh,j8]
       rw[x,e,z];intro K;exact(wY.1 (List.nodup_append.1 K).1).2 (by simpa using G))
      simp[ai,K]
    |false =>
     have O:=cI.cu a (fK p j).1;have L:cI.list (ns.length+j) (cI.fn a)=a:=by rw[<-E];exact cI.list_fn a
     refine aE g [(53,ab),(67,ae)] 100 rfl ?_ (AK.bg (j+1) rfl ?_ rfl rfl rfl ?_ rfl ⟨v,?_⟩ (by omega))
     .simp[-ag,-List.contains_eq_mem,ai,q,H,h,v,G,cI.list_fn,cI.aH,E,L,bD,show i3.bytes=8 from rfl];omega
     .rw[z];simp only[ai.cat,ai,bu,q,H,bF,dw,aG,aF]
      and_intros <;> first|exact a9.same|exact O|rfl|omega
     .rw[z];simp only[ai.cat,ai,bu,q,H,bF,dw,aG,aF]
      and_intros <;> first|exact a9.same|exact O|rfl|omega
     .rw[z,wY];exact⟨B,by simpa using G⟩
   .obtain rfl:j=p.2.length:=by omega
    rw[cq] at B ⊢;refine aE g [(53,ae)] 100 rfl ?_ (AK.leaveD rfl rfl ?_)
    .simp[-ag,ai,q,h]
    refine aE g [] 100 rfl ?_ (AK.bg (i+1) rfl ?_ rfl rfl rfl ?_ rfl ⟨h,fy m c,by rw[x];exact B,by rw[x];simp;omega⟩ (by omega))
    .simp[ai,bD];omega
    .rw[x];simp[ai.cat,ai,a9.same]
    .rw[x];simp[ai.cat,ai,a9.same]
 obtain rfl:i=s.1.length:=by omega
 rw[cq] at A ⊢;refine aE g [(14,ae)] 100 rfl (by simp[ai]) (AK.leaveD rfl rfl ?_)
 refine aE g [] 100 rfl ay ?_;rw[bX.2 m,b9 A,dH,dH];generalize b8 s.1=ns;refine AK.cd 2 (λi=>i<=s.2.1.length/\(∀ j,j<i->j0 k s j=ab)) (λi:Nat=>[(0,dI k),(3,.e (.one (.ptr 0 0))),(8,dI i)]) (λ_=>[Mb s,.vec 3 1 ns.length (cI.fn ns)]) (λi=>s.2.1.length-i) 0 rfl (by simp[ai.cat,ai]) rfl (by simp[ai.cat,ai,a9.same]) rfl ⟨by omega,by omega⟩ ?_
 rintro i ⟨hi,m⟩
 by_cases h:i<s.2.1.length
 .have q:s.2.1.getD i dz.bU=s.2.1.getD i (0,[]):=rfl;have t:s.2.1.getD (i-1) dz.bU=s.2.1.getD (i-1) (0,[]):=rfl;have n:=P _ (eK (d:=(0,[])) h);have c:j0 k s i=(decide (1<=(s.2.1.getD i (0,[])).1/\(s.2.1.getD i (0,[])).1<=20)&&Cn (·.1) (0,[]) s.2.1 i&&(cO k (s.2.1.getD i (0,[])) s.1).isSome):=rfl;have u:=mL (f:=λp:dA=>p.1) (d:=(0,[])) (l:=s.2.1) (i:=i)
  generalize I:s.2.1.getD i (0,[])=p at *;generalize s.2.1.getD (i-1) (0,[])=p' at *
  by_cases C:1<=p.1/\p.1<=20
  rotate_left
  .refine aE g [(85,ab),(96,ab),(116,ab),(126,ab)] 100 rfl ?_ (AK.eC (cn.zero rfl ?_))
   .simp[-ag,ai,q,h];omega
   .rw[dT h (by rw[c,cJ C];rfl)];simp[ai]
  cases o:Cn (·.1) (0,[]) s.2.1 i with
  |false =>
   have w:i≠0:=by rintro rfl;cases o
   have F:¬p'.1<p.1:=by rw[u w] at o;exact of_decide_eq_false o
   refine aE g [(85,ab),(96,ae),(99,ab),(113,ab),(116,ab),(126,ab)] 100 rfl ?_ (AK.eC (cn.zero rfl ?_))
   .simp[-ag,ai,q,t,h,C,bD];omega
   .rw[dT h (by rw[c,o,mn,nY])];simp[ai]
  |true =>
   rw[b9 C,o,dH,dH] at c;cases v:(cO k p s.1).isSome with
   |false =>
    by_cases w:i=0
    .subst w;refine aE g [(85,ab),(96,ae),(99,ae),(116,ae),(126,ab)] 100 rfl ?_ (AK.eC (cn.zero rfl ?_))
     .simp[-ag,ai,q,h,C,cL.list_fn,cL.aH,cP.list_fn,cP.aH,dz.aH,cH.aH,v,n.1];exactλa b r=>n.2 (a,b) r
     .rw[dT h (c.trans v)];simp[ai]
    .have F:p'.1<p.1:=by rw[u w] at o;exact nQ o
     refine aE g [(85,ab),(96,ae),(99,ab),(113,ae),(116,ae),(126,ab)] 100 rfl ?_ (AK.eC (cn.zero rfl ?_))
     .simp[-ag,ai,q,t,h,C,bD,cL.list_fn,cL.aH,cP.list_fn,cP.aH,dz.aH,cH.aH,v,n.1];and_intros <;> first|omega|exactλa b r=>n.2 (a,b) r
     .rw[dT h (c.trans v)];simp[ai]
   |true =>
    rw[v] at c
    by_cases w:i=0
    .subst w;refine aE g [(85,ab),(96,ae),(99,ae),(116,ae),(126,ae)] 100 rfl ?_ (AK.bg 1 rfl (by simp[ai.cat,ai]) rfl rfl rfl (by simp[ai.cat,ai,a9.same]) rfl ⟨h,fy m c⟩ (by omega))
     simp[-ag,ai,q,h,C,bD,cL.list_fn,cL.aH,cP.list_fn,cP.aH,dz.aH,cH.aH,v,n.1];exactλa b r=>n.2 (a,b) r
    .have F:p'.1<p.1:=by rw[u w] at o;exact nQ o
     refine aE g [(85,ab),(96,ae),(99,ab),(113,ae),(116,ae),(126,ae)] 100 rfl ?_ (AK.bg (i+1) rfl (by simp[ai.cat,ai]) rfl rfl rfl (by simp[ai.cat,ai,a9.same]) rfl ⟨h,fy m c⟩ (by omega))
     simp[-ag,ai,q,t,h,C,bD,cL.list_fn,cL.aH,cP.list_fn,cP.aH,dz.aH,cH.aH,v,n.1];and_intros <;> first|omega|exactλa b r=>n.2 (a,b) r
 obtain rfl:i=s.2.1.length:=by omega
 refine aE g [(85,ae)] 100 rfl (by simp[ai]) (AK.leaveD rfl rfl ?_)
 rw[bX.2 m,dH];cases M:cD k
 .exact aE g [(129,ae),(134,ae)] 100 rfl (by simp[ai,M]) (AK.br rfl (by simp[ai]))
 cases N:kT s.2.2
 .exact aE g [(129,ab),(134,ae)] 100 rfl (by simp[ai,M,N,cH.list_fn,cH.aH]) (AK.br rfl (by simp[ai]))
 exact aE g [(129,ab),(134,ab)] 100 rfl (by simp[ai,M,N,cH.list_fn,cH.aH]) (AK.br rfl (by simp[ai];omega))
abbrev tu:dC:=qb aI Np (λk s=>dB (gN k s)) λ_ s=>[mZ s,s.1.length<=4000000,s.2.1.length<=4000000]
theorem yJ:eb X 39 tu:=.te λk s h=>Co k s h.1 h.2.1 h.2.2
def iH(n:Int)(a:List Int×Bool) (y:Int):List Int×Bool :=
 if a.2=ab then (if y=n then a else (a.1++[y],ab)) else if n<=y then (if y=n then (a.1++[n],ab) else (a.1++[n,y],ab)) else (a.1++[y],ae)
abbrev oN(n:Int)(l:List Int)(i:Nat):List Int×Bool:=(l.take i).foldl (iH n) ([],ae)
def kU(l:List Int) (n:Int):List Int:=if (l.foldl (iH n) ([],ae)).2=ab then (l.foldl (iH n) ([],ae)).1 else (l.foldl (iH n) ([],ae)).1++[n]
theorem Cp{n:Int}{l:List Int}{i:Nat}(h:i<l.length):oN n l (i+1)=iH n (oN n l i) (l.getD i 0):=by
 unfold oN;rw[bx h 0,jG];rfl
theorem wZ(n:Int)(l:List Int):∀ i,i<=l.length->(oN n l i).1.length+(if (oN n l i).2=ab then 0 else 1)<=i+1
 |0,_=>by simp[oN]
 |i+1,h=>by
  have:=wZ n l i (by omega)
  rw[Cp (by omega)]
  generalize oN n l i=a at *;obtain⟨a,b⟩:=a;unfold iH;cases b with
  |true =>
   simp only[bO] at this ⊢;split <;> simp <;> omega
  |false =>
   simp only[gi,bH] at this ⊢;split
   .split <;> simp <;> omega
   .simp;omega
theorem KR(l:List Int) (n:Int):(kU l n).length<=l.length+1:=by
 have:=wZ n l l.length (ba _);simp only[oN,cq] at this;unfold kU;split at this <;> rename_i h
 .rw[aU h];omega
 .rw[aO h];simp;omega
theorem pq{α:Type}(c:iv α)(l:List α)(x y:α):a9 (l.length+1+1) (cX (l.length+1) (cX l.length (c.fn l) λq=>[c.enc x].getD q []) λq=>[c.enc y].getD q []) (c.fn (l++[x,y])):=c.pq l x y
theorem KS(l:List Int) (n:Int)(q:l.length<=100000000):Ev X 76 [cI.sl l,dI n] [] (cI.sl (kU l n)) []:=by
 refine Ev.body Tryz.func76 rfl rfl rfl λp=>?_
 refine bd [(1000002,ab)] 100 rfl ay ?_;refine AK.iD 5 3 1 rfl rfl ?_;refine bP rfl ay ?_;refine AK.cd 1 (λi=>i<=l.length) (λi:Nat=>[(0,cI.sl l),(1,dI n),(5,.e (.one (.vec 0 1 (oN n l i).1.length (cI.fn (oN n l i).1)))),(6,dB (oN n l i).2),(7,dI i)]) (λi=>[.vec 3 1 (oN n l i).1.length (cI.fn (oN n l i).1)]) (λi=>l.length-i) 0 rfl (by simp[oN,ai.cat,ai,a9.same,a9.nil]) rfl (by simp[oN,ai.cat,ai,a9.same,a9.nil]) rfl (by omega) ?_
 intro i hi;have g:=wZ n l i hi
 by_cases h:i<l.length
 .have c:=Cp (n:=n) h;have d:l.getD (i:Int).toNat cI.bU=l.getD i 0:=by rw[bu];rfl
  generalize l.getD i 0=y at *;generalize oN n l i=a at *;obtain⟨a,b⟩:=a;have j:=λy=>cI.cu a y
  have o:=λx y=>cI.pq a x y
  have r:(a.length+1+1)*8<=140737488355328:=by simp only at g;split at g <;> omega
  have fin:∀ a',oN n l (i+1)=a'->True:=λ_ _=>trivial
  have k:l.length-(i+1)<l.length-i:=by omega
  by_cases f:y=n
  .cases b with
   |true =>
    rw[show iH n (a,ab) y=(a,ab) by simp[iH,f]] at c
    refine bd [(12,ab),(34,ae)] 100 rfl ?_ (AK.bg (i+1) rfl ?_ rfl rfl rfl ?_ rfl h k)
    .simp only[ai,d,f,bD];simp;omega
    .rw[c];simp[ai.cat,ai,a9.same]
    .rw[c];simp[ai.cat,ai,a9.same]
   |false =>
    rw[show iH n (a,ae) y=(a++[n],ab) by simp[iH,f]] at c
    refine bd [(12,ab),(24,ab),(34,ae)] 100 rfl ?_ (AK.bg (i+1) rfl ?_ rfl rfl rfl ?_ rfl h k)
    .simp only[ai,d,f,bD,show i3.bytes=8 from rfl];simp;omega
    .rw[c];simp only[ai.cat,ai,bF,dw,aG,aF];and_intros <;> first|exact a9.same|exact j n|rfl|omega
    .rw[c];simp only[ai.cat,ai,bF,dw,aG,aF];and_intros <;> first|exact a9.same|exact j n|rfl|omega
  .cases b with
   |true =>
    rw[show iH n (a,ab) y=(a++[y],ab) by simp[iH,f]] at c
    refine bd [(12,ab),(34,ab)] 100 rfl ?_ (AK.bg (i+1) rfl ?_ rfl rfl rfl ?_ rfl h k)
    .simp only[ai,d,bD,show i3.bytes=8 from rfl];simp[f];omega
    .rw[c];simp only[ai.cat,ai,d,bF,dw,aG,aF];and_intros <;> first|exact a9.same|exact j y|rfl|omega
    .rw[c];simp only[ai.cat,ai,d,bF,dw,aG,aF];and_intros <;> first|exact a9.same|exact j y|rfl|omega
   |false =>
    by_cases m:n<=y
    .rw[show iH n (a,ae) y=(a++[n,y],ab) by simp[iH,f,m]] at c
     refine bd [(12,ab),(24,ab),(34,ab)] 100 rfl ?_ (AK.bg (i+1) rfl ?_ rfl rfl rfl ?_ rfl h k)
     .simp only[ai,d,bD,show i3.bytes=8 from rfl];simp[f,m];omega
     .rw[c];simp only[ai.cat,ai,d,bF,db,eu,aG,aF];and_intros <;> first|exact a9.same|exact o n y|rfl|omega
     .rw[c];simp only[ai.cat,ai,d,bF,db,eu,aG,aF];and_intros <;> first|exact a9.same|exact o n y|rfl|omega
    .rw[show iH n (a,ae) y=(a++[y],ae) by simp[iH,m]] at c
     refine bd [(12,ab),(24,ae),(34,ab)] 100 rfl ?_ (AK.bg (i+1) rfl ?_ rfl rfl rfl ?_ rfl h k)
     .simp only[ai,d,bD,show i3.bytes=8 from rfl];simp[f,m];omega
     .rw[c];simp only[ai.cat,ai,d,bF,dw,aG,aF];and_intros <;> first|exact a9.same|exact j y|rfl|omega
     .rw[c];simp only[ai.cat,ai,d,bF,dw,aG,aF];and_intros <;> first|exact a9.same|exact j y|rfl|omega
 .obtain rfl:i=l.length:=by omega
  unfold kU;simp only[oN,cq] at g ⊢;generalize l.foldl (iH n) ([],ae)=a at *;obtain⟨a,b⟩:=a;have j:=cI.cu a n;refine bd [(12,ae)] 100 rfl (by simp[ai]) (AK.leaveD rfl rfl ?_)
  cases b with
  |true=>exact bP rfl (by simp[ai]) (AK.br rfl (by simp[ai,a9.same]))
  |false =>
   refine bP rfl ?_ (AK.br rfl ?_)
   .simp only[ai,show i3.bytes=8 from rfl];simp at g ⊢;omega
   .simp only[ai,gi,bH,bF,dw];and_intros <;> first|exact j|trivial
abbrev AA:dC:=qb (aL cI) aI (λl n=>cI.sl (kU l n)) λl _=>[l.length<=100000000]
theorem Eo:eb X 76 AA:=.te λl n h=>KS l n h
theorem gO(a:List Int):∀ l:List Int,(l.foldl kU a).length<=a.length+l.length
 |[]=>by simp
 |x::l=>by
  have:=gO (kU a x) l;have:=KR a x;simp only[g7,db];omega
theorem tv{b:Type}(f:b->Int->b)(a:b){l:List Int}{j:Nat}(h:j<l.length):(l.take (j+1)).foldl f a=f ((l.take j).foldl f a) (l.getD j 0):=by
 rw[bx h 0,jG];rfl
def fz(l:List gL):List Int:=(cp l).foldl kU []
theorem l8(l:List gL):(fz l).length<=(cp l).length:=by
 have:=gO [] (cp l)
 rwa [eu,bm] at this
set_option maxHeartbeats 4000000 in
theorem xK(s:dA)(t:s.2.length<=4000000)(o:(cp s.2).length<=4000000):Ev X 75 [No s] [] (cI.sl (fz s.2)) []:=by
 refine Ev.body Tryz.func75 rfl rfl rfl λp=>?_
 have b:b5 X [(76,AA)]:=.cons Eo .nil;refine aE b [] 100 rfl ay ?_;refine AK.cd 1 (λi=>i<=s.2.length) (λi:Nat=>[(1,.e (.one (.ptr 0 0))),(3,cI.sl (fz (s.2.take i))),(4,dI i)]) (λ_=>[VU s]) (λi=>s.2.length-i) 0 rfl (by simp[ai.cat,ai,a9.nil,fz,cp]) rfl (by simp[ai.cat,ai,a9.same]) rfl (by omega) ?_
 intro i hi
 by_cases h:i<s.2.length
 .have l:s.2.getD i cL.bU=s.2.getD i ([],[]):=rfl;have d:=ss h;have m:=nE s.2 (i+1);have q:=l8 (s.2.take i);have n:fz (s.2.take (i+1))=(s.2.getD i ([],[])).2.foldl kU (fz (s.2.take i)):=by simp only[fz,d,jG]
  rw[d,bF] at m;generalize s.2.getD i ([],[])=x at *;generalize fz (s.2.take i)=a at *;refine aE b [(11,ab)] 100 rfl (by simp[ai,h]) ?_
  refine AK.cd 1 (λj=>j<=x.2.length) (λj:Nat=>[(1,.e (.one (.ptr 0 0))),(3,cI.sl ((x.2.take j).foldl kU a)),(4,dI i),(5,dI j)]) (λ_=>[VU s]) (λj=>x.2.length-j) 0 rfl (by simp[ai.cat,ai,a9.same]) rfl (by simp[ai.cat,ai,a9.same]) rfl (by omega) ?_
  intro j r
  by_cases f:j<x.2.length
  .have c:x.2.getD j cI.bU=x.2.getD j 0:=rfl;have k:=tv kU a f;have g:=gO a (x.2.take j);rw[bn] at g;generalize (x.2.take j).foldl kU a=a2 at *;have e:=cI.list_fn a2;refine aE b [(22,ab)] 100 rfl ?_ (AK.bg (j+1) rfl ?_ rfl rfl rfl ?_ rfl f (by omega))
   .simp[-ag,ai,l,c,h,f,e,cI.aH,bD];omega
   .rw[k];simp[-ag,ai.cat,ai,l,c,e,a9.same]
   .simp[ai.cat,ai,a9.same]
  .obtain rfl:j=x.2.length:=by omega
   rw[cq,<-n];refine aE b [(22,ae)] 100 rfl ?_ (AK.leaveD rfl rfl ?_)
   .simp[-ag,ai,l,h]
   refine aE b [] 100 rfl ?_ (AK.bg (i+1) rfl ?_ rfl rfl rfl ?_ rfl h (by omega))
   .simp[ai,bD];omega
   .simp[ai.cat,ai,a9.same]
   .simp[ai.cat,ai,a9.same]
 .obtain rfl:i=s.2.length:=by omega
  rw[cq];refine aE b [(11,ae)] 100 rfl (by simp[ai]) (AK.leaveD rfl rfl ?_)
  exact aE b [] 100 rfl ay (AK.br rfl (by simp[ai,a9.same]))
abbrev AB:dC:=k6 (JS cL) (λs=>cI.sl (fz s.2)) λs=>[s.2.length<=4000000,(cp s.2).length<=4000000]
theorem FQ:eb X 75 AB:=.pf λs h=>xK s h.1 h.2
def jD(l:List dA):List Int:=l.flatMap λx=>cp x.2
def fQ(l:List dA):List Int:=l.foldl (λout x=>(fz x.2).foldl kU out) []
theorem qT{l:List dA}{i:Nat}(h:i<l.length):jD (l.take (i+1))=jD (l.take i)++cp (l.getD i (0,[])).2:=by
 rw[bx h (0,[])];simp[jD]
theorem Cq(l:List dA)(i:Nat):(jD (l.take i)).length<=(jD l).length:=by
 have h:jD l=jD (l.take i)++jD (l.drop i):=by unfold jD;rw[<-nU,j8]
 rw[h,bF];omega
theorem w5{l:List dA}{i:Nat}(h:i<l.length):fQ (l.take (i+1))=(fz (l.getD i (0,[])).2).foldl kU (fQ (l.take i)):=by
 unfold fQ;rw[bx h (0,[]),jG];rfl
theorem qe(l:List dA):∀ i,i<=l.length->(fQ (l.take i)).length<=(jD (l.take i)).length
 |0,_=>by simp[fQ]
 |i+1,h=>by
  have c:=qe l i (by omega)
  have a:=gO (fQ (l.take i)) (fz (l.getD i (0,[])).2);have b:=l8 (l.getD i (0,[])).2;rw[w5 (by omega),qT (by omega),bF]
  omega
set_option maxHeartbeats 4000000 in
theorem Ep(s:bo)(m:mZ s)(t:s.2.1.length<=4000000)(w:(jD s.2.1).length<=4000000):Ev X 37 [k7 s] [] (cI.sl (fQ s.2.1)) []:=by
 refine Ev.body Tryz.func37 rfl rfl rfl λu=>?_
 have b:b5 X [(76,AA),(75,AB)]:=.cons Eo (.cons FQ .nil);refine aE b [] 100 rfl ay ?_;refine AK.cd 1 (λi=>i<=s.2.1.length) (λi:Nat=>[(1,.e (.one (.ptr 0 0))),(3,cI.sl (fQ (s.2.1.take i))),(4,dI i)]) (λ_=>[Mb s]) (λi=>s.2.1.length-i) 0 rfl (by simp[ai.cat,ai,a9.nil,fQ]) rfl (by simp[ai.cat,ai,a9.same]) rfl (by omega) ?_
 intro i hi
 by_cases h:i<s.2.1.length
 .have o:s.2.1.getD i dz.bU=s.2.1.getD i (0,[]):=rfl;have p:=m _ (eK (d:=(0,[])) h);have n:=qT h;have r:=Cq s.2.1 (i+1);have v:=qe s.2.1 i hi;have m:=w5 h;rw[n,bF] at r;generalize s.2.1.getD i (0,[])=x at *;have q:=l8 x.2;generalize fQ (s.2.1.take i)=a at *;refine aE b [(12,ab)] 100 rfl ?_ ?_
  .simp[-ag,ai,h,o,cL.list_fn,cL.aH];omega
  have l:s.2.1.getD (i:Int).toNat dz.bU=x:=by rw[bu];exact o
  rw[l,cL.list_fn];refine AK.cd 1 (λj=>j<=(fz x.2).length) (λj:Nat=>[(1,.e (.one (.ptr 0 0))),(3,cI.sl (((fz x.2).take j).foldl kU a)),(4,dI i),(5,cI.sl (fz x.2)),(6,dI j)]) (λ_=>[Mb s]) (λj=>(fz x.2).length-j) 0 rfl (by simp[ai.cat,ai,a9.same]) rfl (by simp[ai.cat,ai,a9.same]) rfl (by omega) ?_
  intro j y;generalize fz x.2=ns at *
  by_cases f:j<ns.length
  .have c:ns.getD j cI.bU=ns.getD j 0:=rfl;have k:=tv kU a f;have g:=gO a (ns.take j);rw[bn] at g;generalize (ns.take j).foldl kU a=a2 at *;have e:=cI.list_fn a2;refine aE b [(24,ab)] 100 rfl ?_ (AK.bg (j+1) rfl ?_ rfl rfl rfl ?_ rfl f (by omega))
   .simp[-ag,ai,c,f,e,cI.aH,bD];omega
   .rw[k];simp[-ag,ai.cat,ai,c,e,a9.same]
   .simp[ai.cat,ai,a9.same]
  .obtain rfl:j=ns.length:=by omega
   rw[cq,<-m];refine aE b [(24,ae)] 100 rfl (by simp[ai]) (AK.leaveD rfl rfl ?_)
   refine aE b [] 100 rfl ?_ (AK.bg (i+1) rfl ?_ rfl rfl rfl ?_ rfl h (by omega))
   .simp[ai,bD];omega
   .simp[ai.cat,ai,a9.same]
   .simp[ai.cat,ai,a9.same]
 .obtain rfl:i=s.2.1.length:=by omega
  rw[cq];refine aE b [(12,ae)] 100 rfl (by simp[ai]) (AK.leaveD rfl rfl ?_)
  exact aE b [] 100 rfl ay (AK.br rfl (by simp[ai,a9.same]))
abbrev w6:dC:=k6 Np (λs=>cI.sl (fQ s.2.1)) λs=>[mZ s,s.2.1.length<=4000000,(jD s.2.1).length<=4000000]
theorem Cr:eb X 37 w6:=.pf λs h=>Ep s h.1 h.2.1 h.2.2
end Go.AM.R1
namespace Go.AM
def GP(M:Mem):List ak->List C->Prop
 |[],[]=>True
 |v::vs,c::cs=>Rd M v c/\GP M vs cs
 |_,_=>False
structure FA (α:Type) where
 enc:α->List C
 dec:List C->Option (α×List Prop×List C)
 ok:∀ {cs a o r},dec cs=aa (a,o,r)->ai o->∀ {M:Mem} {vs:List ak},GP M vs cs->∃ v1 v2,vs=v1++v2/\GP M v1 (enc a)/\GP M v2 r
theorem GP.app{M:Mem}:∀ {v1 v2:List ak}{c1 c2:List C},GP M v1 c1->GP M v2 c2->GP M (v1++v2) (c1++c2)
 |[],_,[],_,_,h=>h
 |_::_,_,_::_,_,h1,h2=>⟨h1.1,h1.2.app h2⟩
 |[],_,_::_,_,h,_=>h.elim
 |_::_,_,[],_,h,_=>h.elim
theorem GP.one{M:Mem}{vs:List ak}{c:C}{r:List C}(h:GP M vs (c::r)):∃ v a,vs=v::a/\Rd M v c/\GP M a r:=by
 cases vs with
 |nil=>exact h.elim
 |cons v vs=>exact⟨v,vs,rfl,h⟩
def fI:FA Int:=⟨λn=>[.int .i64 n],λcs=>match cs with|.int .i64 n::r=>aa (n,[],r)|_=>af,λ{cs a o r} h _ M vs hr=>by
 split at h
 .cases h;obtain⟨v,b,rfl,d,c⟩:=hr.one;exact⟨[v],b,rfl,⟨d,ay⟩,c⟩
 .cases h⟩
def fS:FA Bs:=⟨λn=>[.str n],λcs=>match cs with|.str n::r=>aa (n,[],r)|_=>af,λ{cs a o r} h _ M vs hr=>by
 split at h
 .cases h;obtain⟨v,b,rfl,d,c⟩:=hr.one;exact⟨[v],b,rfl,⟨d,ay⟩,c⟩
 .cases h⟩
def fL{α:Type}(c:iv α):FA (List α):=⟨λl=>[.sl ae c.k l.length (c.fn l)],λcs=>match cs with
 |d::r=>match lg c.k (.e (.one (.c d))) with|some (n,es)=>aa (c.list n es,[c.fits n es],r)|none=>af
 |_=>af,λ{cs a o r} h g M vs hr=>by
 split at h
 .split at h
  .rename_i n es he
   cases h;obtain⟨v,b,rfl,i,f⟩:=hr.one;exact⟨[v],b,rfl,⟨c.ko (σ:=[]) (s:=⟨[],M,default,λ_=>True⟩) (v:=v) he g i,ay⟩,f⟩
  .cases h
 .cases h⟩
def fP{α d:Type}(A:FA α)(B:FA d):FA (α×d):=⟨λx=>A.enc x.1++B.enc x.2,λcs=>match A.dec cs with
 |some (a,o,r)=>match B.dec r with|some (b,p,q)=>aa ((a,b),kl o p,q)|none=>af
 |none=>af,λ{cs a o r} h c M vs hr=>by
 split at h
 .rename_i i
  split at h
  .rename_i e
   cases h;rw[ai.cat] at c;obtain⟨v1,j,rfl,f,g2⟩:=A.ok i c.1 hr;obtain⟨g,v4,rfl,g3,g4⟩:=B.ok e c.2 g2;exact⟨v1++g,v4,(dq _ _ _).symm,f.app g3,g4⟩
  .cases h
 .cases h⟩
def VQ:List A->Option (List C)
 |[]=>aa []
 |.c x::r=>match VQ r with|some q=>aa (x::q)|none=>af
 |_=>af
def XY:List C->List A
 |[]=>[]
 |x::r=>.c x::XY r
theorem J8{σ:List aW}{s:St}:∀ {cs:List A}{q:List C}{vs:List ak},VQ cs=aa q->dX σ s vs cs->GP s.M vs q
 |[],q,vs,h,a=>by cases h;cases vs with|nil=>trivial|cons=>exact a.elim
 |.c x::r,q,vs,h,a=>by
  simp only[VQ] at h;split at h
  .rename_i b
   cases h;cases vs with
   |nil=>exact a.elim
   |cons v vs=>exact⟨a.1,J8 b a.2⟩
  .cases h
 |.ptr ..::_,_,_,h,_=>by cases h
 |.vec ..::_,_,_,h,_=>by cases h
 |.ref ..::_,_,_,h,_=>by cases h
 |.bp ..::_,_,_,h,_=>by cases h
 |.any::_,_,_,h,_=>by cases h
theorem J9{σ:List aW}{s:St}:∀ {q:List C}{vs:List ak},GP s.M vs q->dX σ s vs (XY q)
 |[],[],_=>trivial
 |_::_,_::_,h=>⟨h.1,J9 h.2⟩
 |[],_::_,h=>h.elim
 |_::_,[],h=>h.elim
def UA{α:Type}(F:FA α):Arg α:=⟨λa=>.e (.agg (XY (F.enc a))),λd=>match d with
 |.e (.agg xs)=>match VQ xs with
  |some cs=>match F.dec cs with|some (a,o,[])=>aa (a,o)|_=>af
  |none=>af
 |_=>af,λ{d a o} h g σ s v r=>by
 split at h
 .split at h
  .rename_i j
   split at h
   .rename_i b
    cases h;obtain⟨vs,rfl,c⟩:=r;obtain⟨v1,i,rfl,f,g2⟩:=F.ok b g (J8 j c);cases i with
    |nil=>exact⟨v1,by rw[hJ],J9 f⟩
    |cons=>exact g2.elim
   .cases h
  .cases h
 .cases h⟩
end Go.AM
namespace Go.AM.R1
open Go.Proofs
variable {X:Cx ah}
abbrev cU:=bo×List Int×List Int
abbrev fA:=Int×cU×(Int×Int×Int×Bs)×List (Int×Int)×List Int
abbrev fSt:FA bo:=fP (fL cP) (fP (fL dz) (fL cH))
abbrev VV:FA cU:=fP fSt (fP (fL cI) (fL cI))
abbrev X6:FA (Int×Int×Int×Bs):=fP fI (fP fI (fP fI fS))
abbrev Z5:FA fA:=fP fI (fP VV (fP X6 (fP (fL cH) (fL cI))))
abbrev qU{α:Type}(c:iv α)(l:List α):A:=.c (.sl ae c.k l.length (c.fn l))
abbrev UZ(w:cU):List A:=[qU cP w.1.1,qU dz w.1.2.1,qU cH w.1.2.2,qU cI w.2.1,qU cI w.2.2]
abbrev H5(w:cU):D:=.e (.agg (UZ w))
abbrev VW(w:fA):List A:=.c (.int .i64 w.1)::(UZ w.2.1++[.c (.int .i64 w.2.2.1.1),.c (.int .i64 w.2.2.1.2.1),.c (.int .i64 w.2.2.1.2.2.1),.c (.str w.2.2.1.2.2.2),qU cH w.2.2.2.1,qU cI w.2.2.2.2])
abbrev VX(w:fA):D:=.e (.agg (VW w))
structure NW (s:bo):Prop where
 pN:s.1.length<=4000000
 sm:mZ s
 sN:s.2.1.length<=4000000
 aN:(jD s.2.1).length<=4000000
def l9(ps:List bC)(l:List Int)(i:Nat):Bool:=(ps.any λp=>p.1==l.getD i 0)&&Cn (λx=>x) 0 l i
def fR(k:Int)(w:cU):Bool:=(fQ w.1.2.1).all (λn=>w.2.1.contains n)&&(bc w.2.2.length).all (l9 w.1.1 w.2.2)&&gN k w.1
theorem KT{l:List Int}{p:Int->Bool}:l.all p=(bc l.length).all λi=>p (l.getD i 0):=by
 rw[mj,bX,bq]
 constructor
 .exactλh i hi=>h _ (eK hi)
 .intro h x a;obtain⟨i,hi,rfl⟩:=lL.1 a;have:=h i hi
  rwa [ag,aR hi] at this
theorem Hg{l:List bC}{p:bC->Bool}{j:Nat}(h:j<l.length):(l.take (j+1)).any p=((l.take j).any p||p (l.getD j (0,[]))):=by
 rw[bx h (0,[]),List.any_append];simp
abbrev Md(w:cU):aW:=.cells 30 (UZ w)
set_option maxHeartbeats 4000000 in
theorem Cs(k:Int)(w:cU)(m:NW w.1):Ev X 19 [dI k,H5 w] [] (dB (fR k w)) []:=by
 refine Ev.body Tryz.func19 rfl rfl rfl λC=>?_
 have c:b5 X [(37,w6),(38,Ck),(39,tu)]:=.cons Cr (.cons FO (.cons yJ .nil));have E:=C.KI 1 rfl 4 rfl;have v:=qe w.1.2.1 _ (ba _);rw[cq] at v;have B:=m.aN;refine aE c [] 100 rfl ?_ ?_
 .simp[ai,cP.list_fn,cP.aH,dz.list_fn,dz.aH,cH.list_fn,cH.aH,m.sm,m.sN,m.aN]
 rw[dz.list_fn];unfold fR;rw[KT];generalize fQ w.1.2.1=ms at *;refine AK.cd 1 (λi=>i<=ms.length/\∀ j,j<i->w.2.1.contains (ms.getD j 0)=ab) (λi:Nat=>[(0,dI k),(3,.e (.one (.ptr 0 0))),(5,cI.sl ms),(6,dI i)]) (λ_=>[Md w]) (λi=>ms.length-i) 0 rfl (by simp[ai.cat,ai,a9.same]) rfl (by simp[ai.cat,ai,a9.same]) rfl ⟨by omega,by omega⟩ ?_
 rintro i ⟨hi,a⟩
 by_cases h:i<ms.length
 .have o:ms.getD i cI.bU=ms.getD i 0:=rfl;cases u:w.2.1.contains (ms.getD i 0) with
  |false =>
   refine aE c [(16,ab),(26,ab)] 100 rfl ?_ (AK.eC (cn.zero rfl ?_))
   .simp[-ag,-List.contains_eq_mem,ai,o,h,u,cI.list_fn,cI.aH]
   .rw[dT h u];simp[ai]
  |true =>
   refine aE c [(16,ab),(26,ae)] 100 rfl ?_ (AK.bg (i+1) rfl (by simp[ai.cat,ai,a9.same]) rfl rfl rfl (by simp[ai.cat,ai,a9.same]) rfl ⟨h,fy a u⟩ (by omega))
   simp[-ag,-List.contains_eq_mem,ai,o,h,u,cI.list_fn,cI.aH,bD];omega
 obtain rfl:i=ms.length:=by omega
 rw[bX.2 a,dH];refine aE c [(16,ae)] 100 rfl (by simp[ai]) (AK.leaveD rfl rfl ?_)
 refine aE c [] 100 rfl ay ?_;refine AK.cd 1 (λi=>i<=w.2.2.length/\∀ j,j<i->l9 w.1.1 w.2.2 j=ab) (λi:Nat=>[(0,dI k),(3,.e (.one (.ptr 0 0))),(7,dI i)]) (λ_=>[Md w]) (λi=>w.2.2.length-i) 0 rfl (by simp[ai.cat,ai]) rfl (by simp[ai.cat,ai,a9.same]) rfl ⟨by omega,by omega⟩ ?_
 rintro i ⟨hi,a⟩
 by_cases h:i<w.2.2.length
 .have o:w.2.2.getD i cI.bU=w.2.2.getD i 0:=rfl;have t:w.2.2.getD (i-1) cI.bU=w.2.2.getD (i-1) 0:=rfl;have g:l9 w.1.1 w.2.2 i=((w.1.1.any λp=>p.1==w.2.2.getD i 0)&&Cn (λx=>x) 0 w.2.2 i):=rfl
  have q:=mL (f:=λx:Int=>x) (d:=0) (l:=w.2.2) (i:=i)
  generalize w.2.2.getD i 0=n at *;generalize w.2.2.getD (i-1) 0=n' at *;refine aE c [(31,ab)] 100 rfl (by simp[ai,h]) ?_
  refine AK.cd 1 (λj=>j<=w.1.1.length) (λj:Nat=>[(0,dI k),(3,.e (.one (.ptr 0 0))),(7,dI i),(8,dB ((w.1.1.take j).any λp=>p.1==n)),(9,dI j)]) (λ_=>[Md w]) (λj=>w.1.1.length-j) 0 rfl (by simp[ai.cat,ai]) rfl (by simp[ai.cat,ai,a9.same]) rfl (by omega) ?_
  intro j F
  by_cases s:j<w.1.1.length
  .have G:=m.pN;have D:w.1.1.getD j cP.bU=w.1.1.getD j (0,[]):=rfl;have r:=Hg (p:=λp=>p.1==n) s
   generalize w.1.1.getD j (0,[])=p at *;generalize (w.1.1.take j).any (λp=>p.1==n)=b at *
   cases b with
   |true =>
    refine aE c [(39,ab)] 100 rfl ?_ (AK.bg (j+1) rfl ?_ rfl rfl rfl ?_ rfl s (by omega))
    .simp[ai,s,bD];omega
    .rw[r];simp[ai.cat,ai]
    .simp[ai.cat,ai,a9.same]
   |false =>
    refine aE c [(39,ab)] 100 rfl ?_ (AK.bg (j+1) rfl ?_ rfl rfl rfl ?_ rfl s (by omega))
    .simp[-ag,ai,h,s,bD];omega
    .rw[r];simp[-ag,ai.cat,ai,D,o]
    .simp[ai.cat,ai,a9.same]
  obtain rfl:j=w.1.1.length:=by omega
  rw[cq];refine aE c [(39,ae)] 100 rfl (by simp[ai]) (AK.leaveD rfl rfl ?_)
  cases z:w.1.1.any (λp=>p.1==n) with
  |false =>
   rw[z,nY] at g;refine aE c [(77,ab)] 100 rfl (by simp[ai]) (AK.eC (cn.zero rfl ?_))
   rw[dT h g];simp[ai]
  |true =>
   rw[z,dH] at g
   by_cases y:i=0
   .subst y;refine aE c [(63,ae),(77,ae)] 100 rfl ?_ (AK.bg 1 rfl (by simp[ai.cat,ai]) rfl rfl rfl (by simp[ai.cat,ai,a9.same]) rfl ⟨h,fy a (by rw[g];rfl)⟩ (by omega))
    simp[ai,bD]
   by_cases A:n'<n
   .refine aE c [(63,ab),(75,ae),(77,ae)] 100 rfl ?_ (AK.bg (i+1) rfl (by simp[ai.cat,ai]) rfl rfl rfl (by simp[ai.cat,ai,a9.same]) rfl ⟨h,fy a (by rw[g,q y];exact b9 A)⟩ (by omega))
    simp[-ag,ai,o,t,h,bD];omega
   .refine aE c [(63,ab),(75,ab),(77,ab)] 100 rfl ?_ (AK.eC (cn.zero rfl ?_))
    .simp[-ag,ai,o,t,h,bD];omega
    .rw[dT h (by rw[g,q y];exact cJ A)];simp[ai]
 obtain rfl:i=w.2.2.length:=by omega
 rw[bX.2 a,dH];refine aE c [(31,ae)] 100 rfl (by simp[ai]) (AK.leaveD rfl rfl ?_)
 refine aE c [] 100 rfl ?_ (AK.br rfl ?_)
 .simp[ai,cP.list_fn,cP.aH,dz.list_fn,dz.aH,cH.list_fn,cH.aH,m.sm,m.sN,m.pN]
 .simp[ai,cP.list_fn,dz.list_fn,cH.list_fn]
abbrev tw:dC:=qb aI (UA VV) (λk w=>dB (fR k w)) λ_ w=>[NW w.1]
theorem yK:eb X 19 tw:=.te λk w h=>Cs k w h
end Go.AM.R1
namespace Go.AM.R1
theorem yR{l:List Int}:∀ {k:Nat},(j1 l k).length=k->∀ i,1<=i->i<k->l.getD i 0≠l.getD (i-1) 0
 |0,_,i,_,h=>by omega
 |k+1,h,i,c,d=>by
  have f:=sv l k;rw[j1] at h;split at h
  .omega
  .rename_i b
   simp only[bF,dw] at h
   by_cases e:i=k
   .subst e;exactλa=>b ⟨by omega,a⟩
   .exact yR (k:=k) (by omega) i c (by omega)
theorem AJ(l:List Int):(mM l).Pairwise λx y=>x<=y:=by
 have:=List.pairwise_mergeSort (le:=λx y:Int=>decide (x<=y)) (λa b c e d=>by simp at *;omega) (λa b=>by simp;omega) l
 exact this.imp λh=>by simpa using h
theorem xa(l:List Int):(mM l).Perm l:=List.mergeSort_perm _ _
theorem AE(l:List Int):(dW (mM l)).length=l.length↔l.Nodup:=by
 rw[<-gQ l,<-(xa l).nodup_iff];have f:=AJ l;generalize mM l=s at *;have b:∀ {i:Nat} (h:i<s.length),s.getD i 0=s[i]:=λ{i} h=>by rw[ag,aR h];rfl
 constructor
 .intro h;have c:=yR h;refine List.Pairwise.imp (R:=λx y=>x<y) (λh e=>by omega) (kY.2 λi j hi hj VY=>?_)
  have a:=kY.1 f;have d:=c j (by omega) hj
  rw[b hj,b (by omega)] at d
  have g:=a (j-1) j (by omega) hj (by omega)
  by_cases e:i=j-1
  .subst e;omega
  .have:=a i (j-1) hi (by omega) (by omega);omega
 .intro h;unfold dW;rw[nF (ba _),cq];intro i c a e;rw[b a,b (by omega)] at e
  have:=(kY.1 h) (i-1) i (by omega) a (by omega)
  exact this e.symm
theorem yS(n m:Int):∀ (l:List Int)(a:List Int)(b:Bool),(b=ab->n∈a) ->
  ((m∈(l.foldl (iH n) (a,b)).1∨(m=n/\(l.foldl (iH n) (a,b)).2=ae))↔((m∈a∨(m=n/\b=ae))∨m∈l))
 |[],a,b,_=>by simp
 |y::l,a,b,h=>by
  rw[g7];have one:∀ a' b',iH n (a,b) y=(a',b')->(b'=ab->n∈a')/\((m∈a'∨(m=n/\b'=ae))↔((m∈a∨(m=n/\b=ae))∨m=y)):=λa' b' e=>by
   unfold iH at e;cases b with
   |true =>
    have h:=h rfl;simp only[bO] at e;split at e
    .rename_i c;subst c;cases e
     exact⟨λ_=>h,by simp;rintro rfl;exact h⟩
    .cases e;exact⟨λ_=>by simp[h],by simp⟩
   |false =>
    simp only[gi,bH] at e;split at e
    .split at e
     .rename_i c;subst c;cases e;exact⟨λ_=>by simp,by simp⟩
     .cases e;exact⟨λ_=>by simp,by simp;grind⟩
    .cases e;exact⟨λh=>(by cases h),by simp;grind⟩
  cases d:iH n (a,b) y with
  |mk a' b' =>
   obtain⟨g,f⟩:=one a' b' d;rw[yS n m l a' b' g,f,ew,or_assoc]
theorem KY{l:List Int}{n m:Int}:m∈kU l n↔m∈l∨m=n:=by
 have:=yS n m l [] ae (by simp)
 unfold kU;generalize l.foldl (iH n) ([],ae)=r at *;obtain⟨a,b⟩:=r;cases b <;> simp at this ⊢ <;> rw[this] <;> exact or_comm
theorem tC{m:Int}:∀ {l a:List Int},m∈l.foldl kU a↔m∈a∨m∈l
 |[],a=>by simp
 |x::l,a=>by rw[g7,tC,KY,ew,or_assoc]
theorem Ez{l:List gL}{m:Int}:m∈fz l↔m∈cp l:=by unfold fz;rw[tC];simp
theorem yT{m:Int}:∀ {l:List dA}{a:List Int},m∈l.foldl (λout x=>(fz x.2).foldl kU out) a↔m∈a∨∃ x∈l,m∈cp x.2
 |[],a=>by simp
 |x::l,a=>by
  rw[g7,yT,tC,Ez,or_assoc];simp
theorem qf{l:List dA}{m:Int}:m∈fQ l↔∃ x∈l,m∈cp x.2:=by unfold fQ;rw[yT];simp
theorem CE{l:List Int}{m:Int}:∀ {j:Nat},j<=l.length->(m∈j1 l j↔m∈l.take j)
 |0,_=>by simp[j1]
 |j+1,h=>by
  have b:=CE (l:=l) (m:=m) (j:=j) (by omega)
  rw[j1,bx (by omega) 0]
  split
  .rename_i c
   rw[b,dr]
   constructor
   .exact .inl
   .rintro(a|a)
    .exact a
    .simp only[fV] at a;subst a;rw[c.2,ag,aR (by omega)]
     exact lL.2 ⟨j-1,by simp;omega,by simp⟩
  .rw[dr,dr,b]
theorem xb{x:dA}{m:Int}:m∈ib x↔m∈cp x.2:=by
 unfold ib dW;rw[CE (ba _),cq];exact(xa _).mem_iff
theorem Hr{l:List dA}{p:Int->Bool}:(fQ l).all p=(bc l.length).all λi=>!(ib (l.getD i (0,[]))).any λn=>!p n:=by
 rw[mj,bq,bX]
 constructor
 .intro h i hi;rw[iS,uV];intro n a;have:=h n (qf.2 ⟨_,eK hi,xb.1 a⟩);simp[this]
 .intro h n a;obtain⟨x,c,d⟩:=qf.1 a;obtain⟨i,hi,rfl⟩:=lL.1 c;have b:=h i hi;rw[ag,aR hi,dG,iS,uV] at b;simpa using b n (xb.2 d)
theorem sx{α:Type}{l:List α}{i:Nat}(h:i<l.length)(d:α):l.getD i d=l[i]:=by rw[ag,aR h];rfl
theorem vo{α:Type}{f:α->Int}{d:α}{l:List α}:(∀ i,i<l.length->Cn f d l i=ab)↔l.Pairwise λx y=>f x<f y:=by
 constructor
 .intro h;have key:∀ n i j (hi:i<l.length) (a:j<l.length),j=i+n->0<n->f l[i]<f l[j]:=by
   intro n
   induction n with
   |zero=>intro i j _ _ _ h;omega
   |succ n k =>
    intro i j hi a b _;have c:=h j a;rw[mL (by omega),decide_eq_true_iff,sx (by omega),sx a] at c
    by_cases e:n=0
    .subst e;have g:j-1=i:=by omega
     subst g;exact c
    .exact Int.lt_trans (k i (j-1) hi (by omega) (by omega) (by omega)) c
  exact kY.2 λi j hi a b=>key (j-i) i j hi a (by omega) (by omega)
 .intro h i hi
  by_cases e:i=0
  .subst e;rfl
  .rw[mL e,decide_eq_true_iff,sx (by omega),sx hi]
   exact(kY.1 h) (i-1) i (by omega) hi (by omega)
theorem qg{α:Type}{l:List α}{p:α->Bool}{d:α}:(∀ i,i<l.length->p (l.getD i d)=ab)↔∀ x∈l,p x=ab:=by
 constructor
 .intro h x a;obtain⟨i,hi,rfl⟩:=lL.1 a;have:=h i hi
  rwa [sx hi] at this
 .intro h i hi;exact h _ (eK hi)
structure FT (k:Int)(p:bC):Prop where
 no:1<=p.1/\p.1<=99
 key:cD k=ab
 len:1<=p.2.length/\p.2.length<=4
 rt:∀ x∈p.2,right k x=ab
 Cn:p.2.Pairwise λx y=>x.1<y.1
theorem xc{k:Int}{p:bC}:ju k p=ab↔FT k p:=by
 rw[pt];simp only[bG,bh,bX];have e:(∀ i,i<p.2.length->iE k p i=ab)↔(∀ x∈p.2,right k x=ab)/\p.2.Pairwise λx y=>x.1<y.1:=by
  rw[<-qg (d:=(0,[])),<-vo (f:=λx:cM=>x.1) (d:=(0,[]))]
  constructor
  .intro h;exact⟨λi hi=>by have:=h i hi;simp only[iE,bG] at this;exact this.1,λi hi=>by have:=h i hi;simp only[iE,bG] at this;exact this.2⟩
  .intro h i hi;simp only[iE,bG];exact⟨h.1 i hi,h.2 i hi⟩
 rw[e]
 constructor
 .rintro⟨⟨⟨j,a⟩,c⟩,b,g⟩;exact⟨j,a,c,b,g⟩
 .rintro⟨j,a,c,b,g⟩;exact⟨⟨⟨j,a⟩,c⟩,b,g⟩
structure AL (k:Int)(s:bo):Prop where
 pk:∀ p∈s.1,FT k p
 pa:s.1.Pairwise λp q=>p.1<q.1
 nd:(b8 s.1).Nodup
 sn:∀ x∈s.2.1,(1<=x.1/\x.1<=20)/\(cO k x s.1).isSome=ab
 sa:s.2.1.Pairwise λx y=>x.1<y.1
 key:cD k=ab
 log:kT s.2.2=ab
 len:s.1.length<=20
theorem CF{k:Int}{s:bo}:gN k s=ab↔AL k s:=by
 unfold gN;simp only[bG,bh,bX];have o:(∀ i,i<s.1.length->l7 k s.1 i=ab)↔(∀ p∈s.1,FT k p)/\s.1.Pairwise λp q=>p.1<q.1:=by
  rw[<-vo (f:=λp:bC=>p.1) (d:=(0,[]))]
  have:(∀ p∈s.1,FT k p)↔∀ p∈s.1,ju k p=ab:=⟨λh p e=>xc.2 (h p e),λh p e=>xc.1 (h p e)⟩
  rw[this,<-qg (d:=(0,[]))]
  constructor
  .intro h;exact⟨λi hi=>by have:=h i hi;simp only[l7,bG] at this;exact this.1,λi hi=>by have:=h i hi;simp only[l7,bG] at this;exact this.2⟩
  .intro h i hi;simp only[l7,bG];exact⟨h.1 i hi,h.2 i hi⟩
 have r:(∀ i,i<s.2.1.length->j0 k s i=ab)↔(∀ x∈s.2.1,(1<=x.1/\x.1<=20)/\(cO k x s.1).isSome=ab)/\s.2.1.Pairwise λx y=>x.1<y.1:=by
  rw[<-vo (f:=λp:dA=>p.1) (d:=(0,[]))]
  have:(∀ x∈s.2.1,(1<=x.1/\x.1<=20)/\(cO k x s.1).isSome=ab)↔∀ x∈s.2.1,(decide (1<=x.1/\x.1<=20)&&(cO k x s.1).isSome)=ab:=by
   simp only[bG,bh]
  rw[this,<-qg (d:=(0,[]))]
  constructor
  .intro h;exact⟨λi hi=>by have:=h i hi;simp only[j0,bG] at this ⊢;exact⟨this.1.1,this.2⟩,λi hi=>by have:=h i hi;simp only[j0,bG] at this;exact this.1.2⟩
  .intro h i hi;have a:=h.1 i hi;simp only[j0,bG] at a ⊢;exact⟨⟨a.1,h.2 i hi⟩,a.2⟩
 rw[o,r]
 constructor
 .rintro⟨⟨⟨⟨⟨⟨a,b⟩,g⟩,c,l⟩,n⟩,j⟩,m⟩;exact⟨a,b,g,c,l,n,j,m⟩
 .rintro⟨a,b,g,c,l,n,j,m⟩;exact⟨⟨⟨⟨⟨⟨a,b⟩,g⟩,c,l⟩,n⟩,j⟩,m⟩
structure KZ (k:Int)(w:cU):Prop extends AL k w.1 where
 mk':∀ x∈w.1.2.1,∀ n∈cp x.2,n∈w.2.1
 lp:∀ n∈w.2.2,∃ p∈w.1.1,p.1=n
 la:w.2.2.Pairwise λx y=>x<y
theorem uj{k:Int}{w:cU}:fR k w=ab↔KZ k w:=by
 unfold fR;simp only[bG,CF,bX];have l:(fQ w.1.2.1).all (λn=>w.2.1.contains n)=ab↔∀ x∈w.1.2.1,∀ n∈cp x.2,n∈w.2.1:=by
  rw[bq]
  constructor
  .intro h x g n a;simpa using h n (qf.2 ⟨x,g,a⟩)
  .intro h n a;obtain⟨x,g,a⟩:=qf.1 a;simpa using h x g n a
 have m:(∀ i,i<w.2.2.length->l9 w.1.1 w.2.2 i=ab)↔(∀ n∈w.2.2,∃ p∈w.1.1,p.1=n)/\w.2.2.Pairwise λx y=>x<y:=by
  rw[<-vo (f:=λn:Int=>n) (d:=0)]
  have:(∀ n∈w.2.2,∃ p∈w.1.1,p.1=n)↔∀ n∈w.2.2,(w.1.1.any λp=>p.1==n)=ab:=by simp
  rw[this,<-qg (d:=0)]
  constructor
  .intro h;exact⟨λi hi=>by have:=h i hi;simp only[l9,bG] at this;exact this.1,λi hi=>by have:=h i hi;simp only[l9,bG] at this;exact this.2⟩
  .intro h i hi;simp only[l9,bG];exact⟨h.1 i hi,h.2 i hi⟩
 rw[l,m]
 constructor
 .rintro⟨⟨j,b,e⟩,c⟩;exact⟨c,j,b,e⟩
 .rintro⟨c,j,b,e⟩;exact⟨⟨j,b,e⟩,c⟩
def iI(no:Int)(ms:List Int)(p:bC):bC:=if p.1=no then je p ms else p
def eX(no:Int)(ms:List Int)(ps:List bC):List bC:=(ps.map (iI no ms)).filter λp=>!p.2.isEmpty
def xd(w:cU):cU:=match w.2.2 with
 |[]=>w
 |no::r=>((eX no w.2.1 w.1.1,w.1.2),w.2.1,r)
theorem qh{no:Int}{ms:List Int}{p:bC}:(iI no ms p).1=p.1:=by unfold iI je;split <;> rfl
theorem EA{no:Int}{ms:List Int}{p:bC}:List.Sublist (iI no ms p).2 p.2:=by unfold iI je;split <;> simp
theorem qV{no:Int}{ms:List Int}{ps:List bC}{q:bC}(h:q∈eX no ms ps):∃ p∈ps,q=iI no ms p/\q.2≠[]:=by
 unfold eX at h;obtain⟨c,a⟩:=lq.1 h;obtain⟨p,b,rfl⟩:=jK.1 c;exact⟨p,b,rfl,by simpa using a⟩
abbrev AH(l:List bJ):Prop:=l.Pairwise λa b=>bj a.1 b.1=ab
theorem w8{t:List bJ}(h:dt t=ab):AH t:=by
 simp only[dt,bG] at h;have a:=bX.1 h.1;rw[AH,kY];intro i j hi hj VY;rw[fileAt hi,fileAt hj];refine UU (t:=t) (i:=j) (λk c b=>?_) i VY
 have:=a k (by omega)
 simp only[gy,bG,lN,fJ] at this;exact this.1.2.resolve_left (by omega)
theorem ui{t:List bJ}:dt t=ab↔(∀ f∈t,dD f.1=ab/\ef f.2=ab)/\AH t/\t.Pairwise (λa b=>clash a.1 b.1=ae)/\t.length<=6:=by
 constructor
 .intro h;have n:=w8 h;simp only[dt,bG,bh] at h;have c:=bX.1 h.1;refine⟨λf k=>?_,n,?_,h.2⟩
  .obtain⟨i,hi,rfl⟩:=dN k;have:=c i hi;simp only[gy,bG] at this;rw[fileAt hi];exact⟨this.1.1.1,this.1.1.2⟩
  .rw[kY];intro i j hi hj VY;have:=c j hj;simp only[gy,bG] at this;have:=bX.1 this.2 i VY;rw[fileAt hi,fileAt hj];simpa using this
 .rintro⟨o,g,m,l⟩;simp only[dt,bG,bh];refine⟨bX.2 λi hi=>?_,l⟩
  have d:=o _ (dy hi);rw[fileAt hi] at d;simp only[gy,bG,lN,fJ];refine⟨⟨d,?_⟩,bX.2 λj hj=>?_⟩
  .by_cases e:i=0
   .exact .inl e
   .right
    have:=kY.1 g (i-1) i (by omega) hi (by omega)
    rw[fileAt (by omega),fileAt hi] at this
    exact this
  .have:=kY.1 m j i (by omega) hi hj
   rw[fileAt (by omega),fileAt hi] at this
   simp[this]
end Go.AM.R1
