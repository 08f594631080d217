/- Part 5. No condition. -/
import Derived.Test.YtpddeenenibhjaaGreatDoorA4
set_option linter.all false
set_option maxHeartbeats 8000000
open Go.Proofs
open Go renaming Value → aj, TypeId → aw, Frame → aV, FuncId → aK, execOp → ak, undef → ah, Operand → aC, World → aA, Program → aO, Oper → aB, Goroutine → aq
open Option renaming some → aa, none → af
open Bool renaming true → ab, false → ae
open List renaming getD_eq_getElem?_getD → ai, range → bk
open Nat renaming beq → av, ble → bz
open Go.Op renaming bytesLess → bd
open Go.Proofs.Tryz renaming prog → ag
namespace Go.AM
variable {n k l b i j:Nat}{E:aw}{H:aj->(Nat->Option Obj)->Prop}{L:Array Bool}{M:Mem}{N:Nat}{P:aO}{S:aq->St->Prop}{c:Code}{g:aq}{o:aB}{s:St}{t:aw}{v:aj}{w:aA}{x y:aC}{α:Type}{η:aC->D}{ι:Type}{σ:List bm}{φ:Fr}{all:List aB}{jP:Array aw}{cap:List C}{cu:List D}{cs:List aV}{ds:List (Nat×Bool)}{es:Nat->List C}{fo:aC}{gs:Array aq}{obs:List Prop}{off:Nat}{op:BinOp}{ops:Array aB}{ps:List Prop}{rest:List aB}{s':St}{ty:aw}{val:Nat->Nat->aj}{vs:List aj}{w':aA}{xs:Array aC}{σ' σs:List bm}{res:ι->D}{σ1:ι->List bm}
variable {CT:List (Nat×dz)}{K:List It}{Qf:Post}{T:List (Nat×TI)}{ie:TI}
namespace R1
abbrev XD(a:List Bs)(b:Bool):D:=.fz [.one (.c (.sl ae 1 a.length (cS.fn a))),.one (.c (.bool b))]
def dE(k:Int)(ps:List bc)(ns:List Int):Option (List Bs):=if ns.all (λn=>(cY k ps n).isSome)then aa (ns.map λn=>(cY k ps n).getD [])else af
noncomputable def cR0:Code:=wO EA
noncomputable def cR1:Code:=wO (kD EA)
noncomputable def cR2:Code:=wO (kD (kD EA))
def N8:Tryz.f96.body=aa (.seq cR0 (.seq cR1 (.seq cR2 Xx))):=by kernel_rfl
def RI(k:Int)(ps:List bc)(ns:List Int)(i:Nat):List AM.C:=[.str ((cY k ps (ns.getD i 0)).getD []),.bool (cY k ps (ns.getD i 0)).isSome]
def uG(k:Int)(ps:List bc)(ns:List Int):List Bs:=ns.map λn=>(cY k ps n).getD []
theorem Cr{b p:Bs}(h:eQ b=aa p):p.length<=8:=by
 unfold eQ at h;split at h
 .rename_i a;cases h;simp only[bR,bJ,bq]at a;omega
 grind
theorem Hs{k:Int}{x:cv}{p:Bs}(h:chunk k x=aa p):p.length<=8:=by unfold chunk at h;grind[Cr]
theorem yL{k:Int}{ps:List bc}{n:Int}:((cY k ps n).getD []).length<=8:=by
 cases h:cY k ps n with
 |none=>simp
 |some p =>
  obtain⟨q,_,a⟩:=List.exists_of_findSome?_eq_some h;unfold dv at a;grind[Hs]
theorem RJ{k:Int}{ps:List bc}{ns:List Int}(hi:i<ns.length){c:AM.C}{x:aj}(a:(RI k ps ns i)[j]?=aa c)(b:(lR k ps ns)[i*2+j]?=aa x):Rd M x c:=by
 have d:j<2:=(b8.1 a).1;have:=AJ (k:=k) (ps:=ps) hi d;rw[Nat.mul_comm,this]at b;cases b
 match j,d with
 |0,_ =>
  cases a;have:=yL (k:=k) (ps:=ps) (n:=ns.getD i 0);exact .str rfl (by omega)
 |1,_=>cases a;exact .bool
def _root_.Go.AM.nZ.le{P:aO}{X:Cx P}{N:Nat}{Q:Post}{φ φ':Fr}{σ:List bm}{c:Code}(h:nZ X N c Q φ' σ)(hl:se φ φ'):nZ X N c Q φ σ:=λs a f hh=>h s a (f.le hl) hh
def Cn{k:Int}(l:dK (Cx.work ag) 123 (lQ k))(ps:List bc)(ns:List Int)(r:ns.length<=4000000):
  Ev (Cx.beside ag) 96 [dI k,cP.sl ps,cI.sl ns] [] (XD ((dE k ps ns).getD []) (dE k ps ns).isSome) []:=by
 refine dO.GP (dO.Al (ι:=Unit) Tryz.func96 rfl N8 rfl λs=>?_);show nZ _ 45 _ _ _ _;refine nZ.seq (AW.top (AK.of_code ?_));refine bw rfl ar ?_;show nZ _ 45 _ _ _ _;refine nZ.seq (AW.top (AK.of_code ?_));refine bw rfl ar ?_;refine AK.IH (E:=166) (n:=ns.length) tok rfl rfl rfl rfl rfl rfl (by show _*24<=_;omega) (by omega) rfl rfl λC xs=>?_;refine bw rfl ar ?_;show nZ _ 45 _ _ _ _;refine nZ.seq (AW.top (AK.of_code ?_));refine bw rfl ar ?_;show nZ _ 45 _ _ _ _;have a:nZ (Cx.beside ag) 45 qL (λe φ σ1=>∃_:Unit,ck Tryz.f96 0 (XD ((dE k ps ns).getD []) (dE k ps ns).isSome) [] e φ σ1) (Kq ns.length C) (EC k ps ns C):=by
  refine AW.top (AW.mono (Q:=ck Tryz.f96 0 (XD ((dE k ps ns).getD []) (dE k ps ns).isSome) []) (AK.of_code ?_) λ_ _ _ q=>⟨(),q⟩);refine bw rfl (show _<=_ by omega) ?_;refine AK.vt 29 2 (bf:=.row C ns.length) (n:=ns.length) (k:=2) (RI k ps ns) rfl rfl (λi hi=>⟨rfl,λM j c x t u=>?_⟩) ?_
  .grind [RJ]
  refine AK.g6 12 9 1 rfl rfl ?_;refine AK.bX 6 (λi=>i<=ns.length/\∀j,j<i->(cY k ps (ns.getD j 0)).isSome=ab) (λi:Nat=>[(29,.e (.one (.c (.sl ae 2 ns.length (RI k ps ns))))),(30,dI ns.length),(31,dI i),(12,.e (.one (.vec 5 1 (uG k ps (ns.take i)).length (cS.fn (uG k ps (ns.take i))))))]) (λi=>[.dead,.dead,.dead,.dead,.dead,.vec 9 1 (uG k ps (ns.take i)).length (cS.fn (uG k ps (ns.take i)))]) (λi=>ns.length-i) 0 rfl ?_ rfl ?_ rfl ⟨by omega,by omega⟩ ?_
  .simp[cw,uG]
  .simp[cw,uG]
  rintro i ⟨hi,m⟩;by_cases h:i<ns.length
  .cases o:(cY k ps (ns.getD i 0)).isSome with
   |true =>
    have d:uG k ps (ns.take (i+1))=uG k ps (ns.take i)++[(cY k ps (ns.getD i 0)).getD []]:=by unfold uG;grind[List.take_add_one]
    have p:(uG k ps (ns.take i)).length<=4000000:=by simp[uG];omega
    refine bF [(32,ab),(37,ae)] rfl ?_ (AK.aQ (i+1) rfl ?_ ?_ ?_ ?_)
    .simp[-ai,h,RI,o,bx];have:i9.bytes=16:=rfl;grind
    .rw[d];simp[-ai,RI];exact cS.cp _ _
    .rw[d];simp[-ai,RI];exact cS.cp _ _
    .grind
    .omega
   |false =>
    refine bF [(32,ab),(37,ab)] rfl ?_ (AK.eY (ck.zero rfl ?_))
    .simp[-ai,h,RI,o]
    .have g:dE k ps ns=af:=by unfold dE;rw[a9];grind
     simp[g]
  .have f:i=ns.length:=by omega
   subst f;refine bF [(32,ae)] rfl (by simp) (AK.leaveD rfl rfl ?_);refine c9 rfl ar (AK.bn rfl ?_);have b:dE k ps ns=aa (uG k ps ns):=by
    unfold dE;rw[br]
    .rfl
    grind[List.mem_iff_getElem]
   simp[b]
 exact nZ.le (σ:=AI k ps ns C xs) (UB (xs:=xs) l r a) (dj rfl (by simp))
end R1
end Go.AM
namespace Go.AM.R1
def jM(a:UInt8)(s:Bs):ix (a::s)=if a=47 then 0 else if ix s=-1 then -1 else ix s+1:=by unfold ix;grind[Lib.indexByte.eq_def]
def ve:ix []=-1:=by unfold ix;rw[Lib.indexByte.eq_def]
def HE(s:Bs):eU s=dF s:=by
 by_cases i:s.length<=3
 .match s,i with
  |[],_=>simp[eU,dF,cx,jk,ve]
  |[a],_ =>
   by_cases d:a=47
   .subst d;simp[eU,dF,cx,jk,mv,jT,jM,lS,cz]
   .simp[eU,dF,cx,jk,jT,jM,ve,d,lS,cz]
  |[a,b],_ =>
   by_cases d:a=47
   .subst d;simp[eU,dF,cx,jk,mv,jT,jM]
   .by_cases e:b=47
    .subst e;simp[eU,dF,cx,jk,mv,jT,jM,d]
    .simp[eU,dF,cx,jk,jT,jM,ve,d,e]
  |[a,b,c],_ =>
   by_cases d:a=47
   .subst d;simp[eU,dF,cx,jk,mv,jT,jM,lS,cz]
   .by_cases e:b=47
    .subst e;simp[eU,dF,cx,jk,mv,jT,jM,d,lS,cz]
    .have f:¬(b.toNat:Int)=47:=by intro h;apply e;apply pW.1;grind
     by_cases g:c=47
     .subst g;simp[eU,dF,cx,jk,mv,jT,jM,d,e,lS,cz]
     .simp[eU,dF,cx,jk,jT,jM,ve,d,e,g,f,lS,cz]
  |_::_::_::_::_,h=>grind
 .have j:dF s=ae:=by unfold dF;grind
  grind[ui]
end Go.AM.R1
namespace Go.AM
theorem sD(a:Bs):bd a []=ae:=by rw[Op.bytesLess.eq_def]
def xh(b:UInt8)(l:Bs):bd [] (b::l)=ab:=by rw[Op.bytesLess.eq_def]
theorem sE(a b:UInt8)(x y:Bs):bd (a::x) (b::y)=(decide (a<b)||a==b&&bd x y):=by rw[Op.bytesLess.eq_def]
theorem qw:∀a:Bs,bd a a=ae
 |[]=>sD []
 |a::l=>by rw[sE,qw l];simp
def CK:∀a b:Bs,bd a b=ab∨a=b∨bd b a=ab
 |[],[]=>.inr (.inl rfl)
 |[],b::y=>.inl (xh b y)
 |a::x,[]=>.inr (.inr (xh a x))
 |a::x,b::y=>by
  rw[sE,sE];rcases CK x y with h|h|h
  .grind
  .grind
  grind
theorem xi:∀{a b c:Bs},bd a b=ab->bd b c=ab->bd a c=ab
 |a,b,[],_,e=>by grind[sD]
 |a,[],c::z,d,_=>by grind[sD]
 |[],b::y,c::z,_,_=>xh c z
 |a::x,b::y,c::z,d,e=>by
  rw[sE,mK,bR,bq,gy]at d e⊢;rcases d with d|⟨rfl,d⟩
  .grind
  .rcases e with e|⟨rfl,e⟩
   .grind
   .exact .inr ⟨rfl,xi d e⟩
theorem CL{a b:Bs}(h:bd a b=ab):bd b a=ae:=by grind[xi,qw]
def RZ{a b:Bs}:(!(bd b a||b==a))=bd a b:=by
 rcases CK a b with h|h|h
 .have c:(b==a)=ae:=by simp only[eW,cU];grind[qw]
  grind[CL]
 .grind [qw]
 grind[CL]
namespace R1
def UW{t:List bC}{i:Nat}(h:∀k,0<k->k<=i->bd (fa t (k-1)) (fa t k)=ab):∀j,j<i->bd (fa t j) (fa t i)=ab:=by
 intro j f;induction i with
 |zero=>omega
 |succ i d =>
  have c:=h (i+1) (by omega) (ba _);simp only[pR]at c;by_cases e:j=i
  .grind
  .exact xi (d (λk a b=>h k a (by omega)) (by omega)) c
def uj{s:Bs}(h:dF s=ab):(∃a,s=[a])∨∃a b,s=[a,47,b]:=by
 unfold dF at h;split at h
 .rename_i d
  match s,d with
  |[a],_=>grind
 .split at h
  .rename_i d
   match s,d with
   |[a,b,c],_ =>
    right;simp[lS,cz]at h;have e:b=47:=by apply pW.1;grind
    grind
  grind
theorem CM{p q:Bs}(g:dF p=ab)(i:dF q=ab)(f:bd p q=ab):clash p q=under q p:=by
 rcases uj g with⟨a,rfl⟩|⟨a,b,rfl⟩<;>rcases uj i with⟨c,rfl⟩|⟨c,d,rfl⟩
 .simp[clash,under,kS]
 .by_cases e:a=c
  .subst e;simp[clash,under,kS,cz]
  .have:¬(a.toNat:Int)=c.toNat:=λh=>e (pW.1 (by omega));have k:((a.toNat:Int)==(c.toNat:Int))=ae:=by grind
   have j:(c==a)=ae:=by grind
   simp[clash,under,kS,cz];grind
 .have:¬(a.toNat:Int)=c.toNat:=by grind[UInt8.toNat_inj,sE,sD]
  simp[clash,under,kS,cz,this]
 .simp[clash,under,kS]
theorem yZ{t:List bC}{i:Nat}(a:∀j,j<i->gi t j=ab):iX t i=gi t i:=by
 unfold iX gi;rw[HE,RZ];cases m:dF (fa t i)with
 |false=>simp
 |true =>
  cases f:eh (uH t i)with
  |false=>simp
  |true =>
   cases g:(i==0||bd (fa t (i-1)) (fa t i))with
   |false=>simp
   |true =>
    simp only[fC];have n:∀j,j<i->bd (fa t j) (fa t i)=ab:=by
     apply UW;intro k h c;by_cases e:k=i
     .grind
     .have:=a k (by omega);simp only[gi,bR,mK,gy]at this;grind
    rw[pX,di,di];have l:∀j,j<i->clash (fa t j) (fa t i)=under (fa t i) (fa t j):=by
     intro j b;have d:dF (fa t j)=ab:=by have:=a j b;simp only[gi,bR]at this;exact this.1.1.1
     grind[CM]
    grind
def Ho(t:List bC):n9 t=du t:=by
 unfold n9 du;congr 1;rw[pX,di,di];constructor
 .intro h i;induction i using Nat.strongRecOn with
  |_ i a=>grind[yZ]
 grind[yZ]
end R1
end Go.AM
namespace Go.AM
variable {n k l b i j:Nat}{E:aw}{H:aj->(Nat->Option Obj)->Prop}{L:Array Bool}{M:Mem}{N:Nat}{P:aO}{S:aq->St->Prop}{c:Code}{g:aq}{o:aB}{s:St}{t:aw}{v:aj}{w:aA}{x y:aC}{α:Type}{η:aC->D}{ι:Type}{σ:List bm}{φ:Fr}{all:List aB}{jP:Array aw}{cap:List C}{cu:List D}{cs:List aV}{ds:List (Nat×Bool)}{es:Nat->List C}{fo:aC}{gs:Array aq}{obs:List Prop}{off:Nat}{op:BinOp}{ops:Array aB}{ps:List Prop}{rest:List aB}{s':St}{ty:aw}{val:Nat->Nat->aj}{vs:List aj}{w':aA}{xs:Array aC}{σ' σs:List bm}{res:ι->D}{σ1:ι->List bm}
variable {CT:List (Nat×dz)}{K:List It}{Qf:Post}{T:List (Nat×TI)}{ie:TI}
namespace R1
section
variable {X:Cx ag}
def fileOf(k:Int)(ps:List bc)(x:gC):Option bC:=match dE k ps x.2 with
 |none=>af
 |some l=>match fZ l with
  |none=>af
  |some t=>aa (x.1,t)
def db(k:Int)(ps:List bc)(l:List gC):List bC:=l.map λx=>(fileOf k ps x).getD ([],[])
def cj(k:Int)(s:cg)(ps:List bc):Option (List bC) :=
 if cJ k&&s.2.all (λx=>(fileOf k ps x).isSome)&&du (db k ps s.2)then aa (db k ps s.2)else af
abbrev N1(a:List bC)(b:Bool):D:=.fz [.one (.c (.sl ae 2 a.length (cF.fn a))),.one (.c (.bool b))]
abbrev Cl(s:cg):D:=.e (.agg [.c (.int .i64 s.1),.c (.sl ae 2 s.2.length (cL.fn s.2))])
theorem pv{k:Int}{ps:List bc}{l:List gC}(h:i<l.length):db k ps (l.take (i+1))=db k ps (l.take i)++[(fileOf k ps (l.getD i ([],[]))).getD ([],[])]:=by unfold db;grind[List.take_add_one]
def pw{k:Int}{ps:List bc}{s:cg}(h:i<s.2.length)(a:fileOf k ps (s.2.getD i ([],[]))=af):cj k s ps=af:=by unfold cj;rw[a9];grind
def x5{k:Int}{ps:List bc}{ns:List Int}{l:List Bs}(h:dE k ps ns=aa l)(a:ns.length<=4000000):l.flatten.length<=140737488355328/\l.length<=4000000:=by
 unfold dE at h;split at h
 .rename_i b;cases h;refine⟨?_,by grind⟩;have key:∀ns:List Int,(ns.all λn=>(cY k ps n).isSome)=ab->(ns.map λn=>(cY k ps n).getD []).flatten.length<=8*ns.length:=by
   intro ns;induction ns with
   |nil=>grind
   |cons n ns ih =>
    intro h;simp only[List.all_cons,bR]at h;grind[yL]
  grind
 grind
def Cm(k:Int)(s:cg)(ps:List bc)(J:s.2.length<=4000000)(H:∀x∈s.2,x.2.length<=4000000):
  Ev (Cx.beside ag) 70 [dI k,Cl s,cP.sl ps] [] (N1 ((cj k s ps).getD []) (cj k s ps).isSome) []:=by
 refine Ev.bQ Tryz.func70 rfl λD=>?_;have w:=D.sl 2 rfl;have b:bG (Cx.beside ag) [(49,kB aI (λk=>dB (cJ k)) λ_=>[])]:=.cons t49 .nil;cases g:cJ k with
 |false =>
  refine aR b [(15,ae),(16,ab)] rfl ?_ (AK.bn rfl ?_)
  .simp[g]
  .simp[cj,g]
 |true =>
  have q:dK (Cx.work ag) 123 (lQ k):=Rw Ui g;refine aR b [(15,ab),(16,ae),(1000004,ab)] rfl ?_ ?_
  .simp[g]
  refine AK.g6 8 110 2 rfl rfl ?_;refine bZ b rfl ar ?_;refine AK.bX 2 (λi=>i<=s.2.length/\∀j,j<i->(fileOf k ps (s.2.getD j ([],[]))).isSome=ab) (λi:Nat=>[(0,dI k),(2,cP.sl ps),(4,.e (.one (.ptr 0 0))),(8,.e (.one (.vec 1 2 (db k ps (s.2.take i)).length (cF.fn (db k ps (s.2.take i)))))),(18,cL.sl s.2),(19,dI s.2.length),(20,dI i)]) (λi=>[.cells 39 [.c (.int .i64 s.1),.c (.sl ae 2 s.2.length (cL.fn s.2))],.vec 110 2 (db k ps (s.2.take i)).length (cF.fn (db k ps (s.2.take i)))]) (λi=>s.2.length-i) 0 rfl ?_ rfl ?_ rfl ⟨by omega,by omega⟩ ?_
  .simp[db]
  .simp[db]
  rintro i ⟨hi,A⟩;by_cases h:i<s.2.length
  .have o:s.2.getD i ([],[])∈s.2:=by grind
   generalize d:s.2.getD i ([],[])=x at o;have m:=H x o;have f:=Cn q ps x.2 m;cases a:dE k ps x.2 with
   |none =>
    rw[a]at f;refine aR b [(21,ab)] rfl ?_ ?_
    .exact⟨by omega,by omega,dc (by omega)⟩
    refine AK.cQ (d▸f) [] rfl ?_;refine aR b [(33,ab)] rfl ?_ (AK.eY (ck.zero rfl ?_))
    .simp
    .have e:fileOf k ps x=af:=by simp[fileOf,a]
     rw[pw h (by grind)];simp
   |some l =>
    obtain⟨r,F⟩:=x5 a m;rw[a]at f;have u:=Ew (X:=Cx.beside ag) l r;refine aR b [(21,ab)] rfl ?_ ?_
    .exact⟨by omega,by omega,dc (by omega)⟩
    refine AK.cQ (d▸f) [] rfl ?_;refine aR b [(33,ae)] rfl ?_ ?_
    .simp
    refine AK.cQ u [] rfl ?_;cases v:fZ l with
    |none =>
     refine aR b [(40,ab)] rfl ?_ (AK.eY (ck.zero rfl ?_))
     .simp
     .have e:fileOf k ps x=af:=by simp[fileOf,a,v]
      rw[pw h (by grind)];simp
    |some t =>
     have e:fileOf k ps x=aa (x.1,t):=by simp[fileOf,a,v]
     have I:s.2.getD (i:Int).toNat cL.bP=x:=d;have E:(db k ps (s.2.take i)).length<=4000000:=by simp[db];omega
     have y:cw ((db k ps (s.2.take i)).length+1) (cT (db k ps (s.2.take i)).length (cF.fn (db k ps (s.2.take i))) λp=>[[C.str (s.2.getD (i:Int).toNat cL.bP).1,C.str ((aa t).getD [])]].getD p []) (cF.fn (db k ps (s.2.take (i+1)))):=by rw[pv h,d,e,I];exact cF.cp (db k ps (s.2.take i)) (x.1,t)
     have B:(db k ps (s.2.take i)).length+1=(db k ps (s.2.take (i+1))).length:=by grind[pv]
     refine aR b [(40,ae)] rfl ?_ (AK.aQ (i+1) rfl ?_ ?_ ?_ ?_)
     .refine⟨by simp only[bx];omega,rfl,rfl,?_,rfl⟩;show _*32<=_;omega
     .refine au.cat.2 ⟨rfl,au.cat.2 ⟨⟨rfl,cw.same⟩,au.cat.2 ⟨ar,au.cat.2 ⟨⟨B,y⟩,au.cat.2 ⟨⟨rfl,cw.same⟩,au.cat.2 ⟨rfl,au.cat.2 ⟨?_,ar⟩⟩⟩⟩⟩⟩⟩;simp
     .exact au.cat.2 ⟨au.cat.2 ⟨rfl,au.cat.2 ⟨⟨rfl,cw.same⟩,ar⟩⟩,au.cat.2 ⟨⟨B,y⟩,ar⟩⟩
     .grind
     .omega
  .have e:i=s.2.length:=by omega
   subst e;refine aR b [(21,ae)] rfl (by simp) (AK.leaveD rfl rfl ?_);rw[cC];have n:=Ex (X:=Cx.beside ag) (db k ps s.2);rw[Ho]at n;refine bZ b rfl ar ?_;refine AK.cQ n [] rfl ?_;have G:s.2.all (λx=>(fileOf k ps x).isSome)=ab:=List.all_eq_true.2 λx o=>by grind[List.mem_iff_getElem]
   cases z:du (db k ps s.2)with
   |false =>
    refine aR b [(51,ab)] rfl ?_ (AK.bn rfl ?_)
    .simp
    .simp[cj,z]
   |true =>
    refine aR b [(51,ae)] rfl ?_ (AK.bn rfl ?_)
    .simp
    .simp[cj,z,g,G]
abbrev bo:=List bc×List cg×List (Int×Int)
def iM(s:bo):Prop:=∀x∈s.2.1,x.2.length<=4000000/\∀y∈x.2,y.2.length<=4000000
abbrev nc(s:bo):D:=.e (.agg [.c (.sl ae 2 s.1.length (cP.fn s.1)),.c (.sl ae 2 s.2.1.length (ee.fn s.2.1)),.c (.sl ae 2 s.2.2.length (cH.fn s.2.2))])
def eR(k:Int)(s:bo)(no:Int):Option (List bC):=match s.2.1.find? (λx=>x.1==no)with
 |none=>af
 |some x=>cj k x s.1
def tu:dz:=Ek aI (Dv cL) (aL cP) (λk s ps=>N1 ((cj k s ps).getD []) (cj k s ps).isSome) λ_ s _=>[s.2.length<=4000000,∀x∈s.2,x.2.length<=4000000]
def yM:dK (Cx.beside ag) 70 tu:=.J7 λk s ps h=>Cm k s ps h.1 h.2
def AF(k:Int)(s:bo)(no:Int)(j:iM s):
  Ev (Cx.beside ag) 36 [dI k,nc s,dI no] [] (N1 ((eR k s no).getD []) (eR k s no).isSome) []:=by
 refine Ev.bQ Tryz.func36 rfl λl=>?_;have c:bG (Cx.beside ag) [(65,Xr),(70,tu)]:=.cons t65 (.cons yM .nil);have d:ee.list s.2.1.length (ee.fn s.2.1)=s.2.1:=ee.list_fn _;refine aR c [(1000001,ab)] rfl ar ?_;refine AK.freeze 5 1 rfl rfl rfl ?_;rcases Ci s.2.1 no with⟨b,a⟩|⟨i,hi,b,a⟩
 .refine aR c [(14,ab)] rfl ?_ (AK.bn rfl ?_)
  .simp only[au,d,b];exact⟨rfl,ee.aJ _⟩
  .simp[eR,a]
 .have h:s.2.1.getD i (0,[])∈s.2.1:=by grind
  obtain⟨g,q2⟩:=j _ h;have e:eR k s no=cj k (s.2.1.getD i (0,[])) s.1:=by simp only[eR,a]
  have f:s.2.1.getD (qJ (ee.list s.2.1.length (ee.fn s.2.1)) no).toNat ee.bP=s.2.1.getD i (0,[]):=by grind
  refine aR c [(14,ae)] rfl ?_ (AK.bn rfl ?_)
  .simp only[au,f,cL.list_fn,d,b];exact⟨cL.aJ _,cP.aJ _,g,q2,by omega,by omega,gx (by omega),ee.aJ _⟩
  .simp only[f,cL.list_fn,cP.list_fn,e];exact au.cat.2 ⟨⟨ar,cw.same⟩,au.cat.2 ⟨ar,ar⟩⟩
def Ki:Arg bo:=⟨nc,λd=>match d with
 |.e (.agg [.c a,.c b,.c c])=>match jS 2 (.e (.one (.c a)))with
  |some (g,k)=>match jS 2 (.e (.one (.c b)))with
   |some (j,m)=>match jS 2 (.e (.one (.c c)))with
    |some (l,i)=>aa ((cP.list g k,ee.list j m,cH.list l i),[cP.fits g k,ee.fits j m,cH.fits l i])
    |none=>af
   |none=>af
  |none=>af
 |_=>af,λ{d a o} h ho σ s v r=>by
 split at h
 .split at h
  .rename_i g k x;split at h
   .rename_i j m q;split at h
    .rename_i l i u;cases h;obtain⟨vs,p,f⟩:=r
     match vs,f with
     |[],f=>exact f.elim
     |[_],f=>exact f.2.elim
     |[_,_],f=>exact f.2.2.elim
     |_::_::_::_::_,f=>exact f.2.2.2.elim
     |[t,w,n],f =>
      exact⟨_,p,cP.jc (σ:=[]) (s:=s) (v:=t) x ho.1 f.1,ee.jc (σ:=[]) (s:=s) (v:=w) q ho.2.1 f.2.1,cH.jc (σ:=[]) (s:=s) (v:=n) u ho.2.2 f.2.2.1,ar⟩
    grind
   grind
  grind
 grind⟩
def wM:dz:=Ek aI Ki aI (λk s n=>N1 ((eR k s n).getD []) (eR k s n).isSome) λ_ s _=>[iM s]
def Ey:dK (Cx.beside ag) 36 wM:=.J7 λk s n h=>AF k s n h
abbrev fU(p:bc)(i:Nat):cv:=p.2.getD i (0,[])
def iE(k:Int)(p:bc)(i:Nat):Bool:=right k (fU p i)&&(i==0||decide ((fU p (i-1)).1<(fU p i).1))
theorem tv(k:Int)(p:bc):jd k p=((bk p.2.length).all (iE k p)&&(cJ k&&decide (1<=p.1)&&decide (p.1<=99)&&decide (1<=p.2.length)&&decide (p.2.length<=4))):=by
 have e:(p.2.all (right k)&&AG (p.2.map (·.1)))=(bk p.2.length).all (iE k p):=by
  rw[pX,bR,List.all_eq_true,List.all_eq_true];unfold AG;rw[List.all_eq_true];have d:∀i,i<p.2.length->(p.2.map (·.1)).getD i 0=(fU p i).1:=λi hi=>by grind
  constructor
  .rintro⟨b,a⟩ i hi;have hi:=rH.1 hi;have q:=a i (by grind);rw[d i hi]at q;unfold iE;rw[b (fU p i) (by grind),fC];rcases nG i with rfl|f
   .rfl
   grind
  .intro h;refine⟨λx c=>?_,λi hi=>?_⟩
   .obtain⟨i,hi,rfl⟩:=ly.1 c;have:=h i (rH.2 hi);simp only[iE,bR]at this;grind
   .have hi:i<p.2.length:=by grind
    have:=h i (rH.2 hi);simp only[iE,bR]at this;grind
 rw[<-e];unfold jd;cases cJ k<;>cases decide (1<=p.1)<;>cases decide (p.1<=99)<;>cases decide (1<=p.2.length)<;>cases decide (p.2.length<=4)<;>simp
def yN{k:Int}{p:bc}(hi:i<p.2.length)(h:iE k p i=ae):jd k p=ae:=by grind[tv]
theorem ri{k:Int}{x:cv}(a:cJ k=ab):(chunk k x).isSome=right k x:=by unfold chunk right;grind
def Hp(k:Int)(p:bc)(d:cJ k=ab)(w:p.2.length<=4000000):Ev X 80 [dI k,xP p] [] (dB (jd k p)) []:=by
 refine Ev.bQ Tryz.func80 rfl λy=>?_;have a:bG X [(49,kB aI (λk=>dB (cJ k)) λ_=>[]),(101,n6 SX aI (λx k=>AB (chunk k x)) λ_ k=>[cJ k=ab])]:=.cons t49 (.cons (J9 Ui) .nil);refine bZ a rfl ar ?_;refine AK.bX 1 (λi=>i<=p.2.length/\∀j,j<i->iE k p j=ab) (λi:Nat=>[(0,dI k),(3,.e (.one (.ptr 0 0))),(10,et.sl p.2),(11,dI p.2.length),(12,dI i)]) (λ_=>[.cells 43 [.c (.int .i64 p.1),.c (sP p)]]) (λi=>p.2.length-i) 0 rfl ?_ rfl ?_ rfl ⟨by omega,by omega⟩ ?_
 .simp
 .simp
 rintro i ⟨hi,l⟩;by_cases h:i<p.2.length
 .cases m:right k (fU p i)with
  |false =>
   have o:(chunk k (fU p i)).isSome=ae:=by grind[ri]
   refine aR a [(13,ab),(24,ab),(40,ab)] rfl ?_ (AK.eY (ck.zero rfl ?_))
   .refine⟨rfl,?_,d,by omega,by omega,dc (by omega)⟩;grind
   .rw[yN h (by simp only[iE,m,rI])];simp
  |true =>
   have o:(!(chunk k (fU p i)).isSome)=ae:=by grind[ri]
   by_cases v:i=0
   .subst v;refine aR a [(13,ab),(24,ae),(27,ae),(40,ae)] rfl ?_ (AK.aQ 1 rfl ?_ ?_ ⟨by omega,λj g=>?_⟩ (by omega))
    .simp only[au,bx];grind
    .simp
    .simp
    .have:j=0:=by omega
     subst this;simp only[iE,m,fC];rfl
   .have s:((i:Int)-1).toNat=i-1:=by omega
    cases r:decide ((fU p (i-1)).1<(fU p i).1)with
    |false =>
     refine aR a [(13,ab),(24,ae),(27,ab),(38,ab),(40,ab)] rfl ?_ (AK.eY (ck.zero rfl ?_))
     .have q:(p.2.getD ((i:Int)-1).toNat et.bP).1=(fU p (i-1)).1:=by rw[s];rfl
      refine⟨rfl,dc ?_,by omega,by omega,by simp only[bx];omega,dc (by omega),o,d,by omega,by omega,dc (by omega)⟩;rw[q];show(fU p i).1<=_;grind
     .rw[yN h (by simp only[iE,m,r,fC,Bool.or_false];grind)];simp
    |true =>
     refine aR a [(13,ab),(24,ae),(27,ab),(38,ae),(40,ae)] rfl ?_ (AK.aQ (i+1) rfl ?_ ?_ ⟨by omega,λj g=>?_⟩ (by omega))
     .have q:(p.2.getD ((i:Int)-1).toNat et.bP).1=(fU p (i-1)).1:=by rw[s];rfl
      refine⟨by simp only[bx];omega,rfl,gx ?_,by omega,by omega,by simp only[bx];omega,dc (by omega),o,d,by omega,by omega,dc (by omega)⟩;rw[q];show¬(fU p i).1<=_;grind
     .simp
     .simp
     .rcases uN.1 g with g|rfl
      .grind
      .simp only[iE,m,r,fC,Bool.or_true]
 .have e:i=p.2.length:=by omega
  subst e;refine aR a [(13,ae)] rfl (by simp) (AK.leaveD rfl rfl ?_);have u:(bk p.2.length).all (iE k p)=ab:=List.all_eq_true.2 λj g=>l j (rH.1 g);rw[tv,u,d];by_cases b:1<=p.1
  .by_cases f:p.1<=99
   .by_cases n:1<=p.2.length
    .by_cases t:p.2.length<=4
     .refine aR a [(43,ab),(47,ab),(52,ab),(58,ab),(64,ab)] rfl ?_ (AK.bn rfl ?_)
      .exact⟨dc (by omega),dc (by omega),dc f,dc b,d⟩
      .simp[b,f,n,t]
     .refine aR a [(43,ab),(47,ab),(52,ab),(58,ab),(64,ae)] rfl ?_ (AK.bn rfl ?_)
      .exact⟨gx (by omega),dc (by omega),dc f,dc b,d⟩
      .simp[b,f,n,t]
    .refine aR a [(43,ab),(47,ab),(52,ab),(58,ae)] rfl ?_ (AK.bn rfl ?_)
     .exact⟨gx (by omega),dc f,dc b,d⟩
     .simp[b,f,n]
   .refine aR a [(43,ab),(47,ab),(52,ae)] rfl ?_ (AK.bn rfl ?_)
    .exact⟨gx f,dc b,d⟩
    .simp[b,f]
  .refine aR a [(43,ab),(47,ae)] rfl ?_ (AK.bn rfl ?_)
   .exact⟨gx b,d⟩
   .simp[b]
def Gc:dz:=n6 aI (Dv et) (λk p=>dB (jd k p)) λk p=>[cJ k=ab,p.2.length<=4000000]
def N2:dK X 80 Gc:=.qK λk p h=>Hp k p h.1 h.2
def ED(l:List (Int×Int))(c:l.length<=4000000):Ev X 64 [cH.sl l] [] (cH.sl l) []:=by
 refine Ev.bQ Tryz.func64 rfl λd=>?_;refine bw rfl ar ?_;refine AK.JB tok rfl rfl rfl rfl rfl rfl λb a=>?_;cases b with
 |true =>
  obtain rfl:=jr (a rfl);refine bw rfl ar ?_;refine AK.bn rfl ?_;simp[cw]
 |false =>
  refine bw rfl ⟨show(0+l.length)*16<=_ by omega,.inl rfl⟩ ?_;refine AK.bn rfl ?_;simp[cw,cT]
def EE(l:List cv)(c:l.length<=4000000):Ev X 93 [et.sl l] [] (et.sl l) []:=by
 refine Ev.bQ Tryz.func93 rfl λd=>?_;refine bw rfl ar ?_;refine AK.JB tok rfl rfl rfl rfl rfl rfl λb a=>?_;cases b with
 |true =>
  obtain rfl:=jr (a rfl);refine bw rfl ar ?_;refine AK.bn rfl ?_;simp[cw]
 |false =>
  refine bw rfl ⟨show(0+l.length)*24<=_ by omega,.inl rfl⟩ ?_;refine AK.bn rfl ?_;simp[cw,cT]
def wQ(l:List Int)(c:l.length<=4000000):Ev X 75 [cI.sl l] [] (cI.sl l) []:=by
 refine Ev.bQ Tryz.func75 rfl λd=>?_;refine bw rfl ar ?_;refine AK.JB tok rfl rfl rfl rfl rfl rfl λb a=>?_;cases b with
 |true =>
  obtain rfl:=jr (a rfl);refine bw rfl ar ?_;refine AK.bn rfl ?_;simp[cw]
 |false =>
  refine bw rfl ⟨show(0+l.length)*8<=_ by omega,.inl rfl⟩ ?_;refine AK.bn rfl ?_;simp[cw,cT]
def _root_.Go.AM.kh.mo(c:kh α)(l:List α)(h:i<l.length)(d:α):cw (i+1) (cT i (c.fn (l.take i)) (λq=>[c.enc (l.getD i d)].getD q [])) (c.fn (l.take (i+1))):=by
 have e:l.take (i+1)=l.take i++[l.getD i d]:=by grind[List.take_add_one]
 have:=c.cp (l.take i) (l.getD i d);grind
abbrev UG:dz:=kB (aL et) (λl=>et.sl l) λl=>[l.length<=4000000]
def XF:dK X 93 UG:=.oL λl h=>EE l h
abbrev UH:dz:=kB (aL cI) (λl=>cI.sl l) λl=>[l.length<=4000000]
def XG:dK X 75 UH:=.oL λl h=>wQ l h
def AL(p:bc)(b:p.2.length<=4000000):Ev X 62 [xP p] [] (xP p) []:=by
 refine Ev.wB tok Tryz.func62 rfl rfl rfl λd=>?_;have c:bG X [(93,UG)]:=.cons XF .nil;refine bZ c rfl ?_ ?_
 .simp only[au,et.list_fn];exact⟨et.aJ _,b⟩
 refine AK.lO () [] rfl rfl rfl rfl rfl rfl rfl rfl ?_ rfl rfl rfl rfl (λj a=>absurd a (by simp));simp[et.list_fn]
abbrev PS:dz:=kB (Dv et) (λp=>xP p) λp=>[p.2.length<=4000000]
def UI:dK X 62 PS:=.oL λp h=>AL p h
def AN(x:cg)(l:x.2.length<=4000000)(f:∀y∈x.2,y.2.length<=4000000):Ev X 63 [Cl x] [] (Cl x) []:=by
 refine Ev.wB tok Tryz.func63 rfl rfl rfl λk=>?_;have a:bG X [(75,UH)]:=.cons XG .nil;refine aR a [(1000002,ab)] rfl ar ?_;refine AK.gd 2 1 95 2 (cL.fn []) rfl rfl ?_;refine bZ a rfl ar ?_;refine AK.bX 4 (λi=>i<=x.2.length) (λi:Nat=>[(2,.e (.one (.ptr 1 0))),(3,.e (.one (.ptr 2 0))),(10,cL.sl x.2),(11,dI x.2.length),(12,dI i)])
  (λi=>[.cells 39 [.c (.int .i64 x.1),.c (.sl ae 2 x.2.length (cL.fn x.2))],.cells 39 [.c (.int .i64 0),.c (.sl ab 0 0 λ_=>[])],.cells 39 [.c (.int .i64 x.1),.vec 3 2 i (cL.fn (x.2.take i))],.vec 95 2 i (cL.fn (x.2.take i))]) (λi=>x.2.length-i) 0 rfl ?_ rfl ?_ rfl (by omega) ?_
 .simp
 .simp[cw]
 intro i hi;by_cases h:i<x.2.length
 .have g:x.2.getD i ([],[])∈x.2:=by grind
  refine aR a [(13,ab)] rfl ?_ (AK.aQ (i+1) rfl ?_ ?_ ?_ ?_)
  .have q:=f _ g;have b:x.2.getD (i:Int).toNat cL.bP=x.2.getD i ([],[]):=by grind
   simp only[au,b,cI.list_fn,bx];exact⟨by omega,ar,ar,show(i+1)*40<=_ by omega,cI.aJ _,q,by omega,by omega,dc (by omega)⟩
  .simp
  .have b:x.2.getD (i:Int).toNat cL.bP=x.2.getD i ([],[]):=by grind
   have e:=cL.mo x.2 h ([],[]);simp only[au.cat,au,b,cI.list_fn,aE,aF];exact⟨cw.same,cw.same,e,e⟩
  .grind
  .omega
 .obtain rfl:i=x.2.length:=by omega
  refine aR a [(13,ae)] rfl (by simp) (AK.leaveD rfl rfl ?_);refine bZ a rfl ar ?_;refine AK.lO () [] rfl rfl rfl rfl rfl rfl rfl rfl ?_ rfl rfl rfl rfl (λj d=>absurd d (by simp));simp[cw]
abbrev PT:dz:=kB (Dv cL) (λx=>Cl x) λx=>[x.2.length<=4000000,∀y∈x.2,y.2.length<=4000000]
def UJ:dK X 63 PT:=.oL λx h=>AN x h.1 h.2
abbrev hO:A:=.c (.sl ab 0 0 λ_=>[])
def px(s:bo)(n:s.1.length<=4000000)(g:∀p∈s.1,p.2.length<=4000000)(o:s.2.1.length<=4000000)(d:iM s)(l:s.2.2.length<=4000000):
  Ev X 28 [nc s] [] (.e (.agg [.bp 0 (.sl s.1.length 2 0 s.1.length),.bp 1 (.sl s.2.1.length 2 0 s.2.1.length),.c (.sl ae 2 s.2.2.length (cH.fn s.2.2))])) [.buf 43 2 s.1.length (cP.fn s.1),.buf 39 2 s.2.1.length (ee.fn s.2.1)]:=by
 refine Ev.wB tok Tryz.func28 rfl rfl rfl λm=>?_;have a:bG X [(62,PS),(63,PT)]:=.cons UI (.cons UJ .nil);refine aR a [(1000002,ab)] rfl ar ?_;refine AK.wC 2 0 43 2 (cP.fn []) rfl rfl ?_;refine AK.wC 2 1 39 2 (ee.fn []) rfl rfl ?_;refine bZ a rfl ar ?_;refine AK.bX 5 (λi=>i<=s.1.length) (λi:Nat=>[(1,.e (.one (.ptr 0 0))),(2,.e (.one (.ptr 1 0))),(3,.e (.one (.ptr 2 0))),(9,cP.sl s.1),(10,dI s.1.length),(11,dI i)])
  (λi=>[.cells 27 [.c (.sl ae 2 s.1.length (cP.fn s.1)),.c (.sl ae 2 s.2.1.length (ee.fn s.2.1)),.c (.sl ae 2 s.2.2.length (cH.fn s.2.2))],.cells 27 [hO,hO,hO],.cells 27 [.bp 3 (.sl i 2 0 i),.bp 4 (.sl 0 2 0 0),hO],.buf 43 2 i (cP.fn (s.1.take i)),.buf 39 2 0 (ee.fn [])]) (λi=>s.1.length-i) 0 rfl ?_ rfl ?_ rfl (by omega) ?_
 .simp
 .simp[cw]
 intro i hi;by_cases h:i<s.1.length
 .have f:s.1.getD i (0,[])∈s.1:=by grind
  have b:s.1.getD (i:Int).toNat cP.bP=s.1.getD i (0,[]):=by grind
  refine aR a [(12,ab)] rfl ?_ (AK.aQ (i+1) rfl ?_ ?_ ?_ ?_)
  .have q:=g _ f;simp only[au,b,et.list_fn,bx];exact⟨by omega,ar,ar,show(i+1)*32<=_ by omega,et.aJ _,q,by omega,by omega,dc (by omega)⟩
  .simp
  .have e:=cP.mo s.1 h (0,[]);simp only[au.cat,au,b,et.list_fn,aE,aF];exact⟨⟨cw.same,cw.same,cw.same⟩,⟨cw.same,cw.same,cw.same⟩,⟨rfl,cw.same⟩,e,cw.same⟩
  .grind
  .omega
 obtain rfl:i=s.1.length:=by omega
 rw[cC];refine aR a [(12,ae)] rfl (by simp) (AK.leaveD rfl rfl ?_);refine bZ a rfl ar ?_;refine AK.bX 5 (λi=>i<=s.2.1.length) (λi:Nat=>[(1,.e (.one (.ptr 0 0))),(2,.e (.one (.ptr 1 0))),(3,.e (.one (.ptr 2 0))),(24,ee.sl s.2.1),(25,dI s.2.1.length),(26,dI i)])
  (λi=>[.cells 27 [.c (.sl ae 2 s.1.length (cP.fn s.1)),.c (.sl ae 2 s.2.1.length (ee.fn s.2.1)),.c (.sl ae 2 s.2.2.length (cH.fn s.2.2))],.cells 27 [hO,hO,hO],.cells 27 [.bp 3 (.sl s.1.length 2 0 s.1.length),.bp 4 (.sl i 2 0 i),hO],.buf 43 2 s.1.length (cP.fn s.1),.buf 39 2 i (ee.fn (s.2.1.take i))]) (λi=>s.2.1.length-i) 0 rfl ?_ rfl ?_ rfl (by omega) ?_
 .simp
 .simp[cw]
 intro i hi;by_cases h:i<s.2.1.length
 .have f:s.2.1.getD i (0,[])∈s.2.1:=by grind
  have b:s.2.1.getD (i:Int).toNat ee.bP=s.2.1.getD i (0,[]):=by grind
  refine aR a [(27,ab)] rfl ?_ (AK.aQ (i+1) rfl ?_ ?_ ?_ ?_)
  .have q:=d _ f;simp only[au,b,cL.list_fn,bx];exact⟨by omega,ar,ar,show(i+1)*32<=_ by omega,cL.aJ _,q.1,q.2,by omega,by omega,dc (by omega)⟩
  .simp
  .have e:=ee.mo s.2.1 h (0,[]);simp only[au.cat,au,b,cL.list_fn,aE,aF];exact⟨⟨cw.same,cw.same,cw.same⟩,⟨cw.same,cw.same,cw.same⟩,⟨rfl,cw.same⟩,cw.same,e⟩
  .grind
  .omega
 obtain rfl:i=s.2.1.length:=by omega
 rw[cC];refine aR a [(27,ae)] rfl (by simp) (AK.leaveD rfl rfl ?_);refine bZ a rfl ar ?_;refine AK.cQ (ED s.2.2 l) [] rfl ?_;refine bZ a rfl ar ?_;refine AK.lO () [3,4] rfl rfl rfl rfl rfl rfl rfl rfl ?_ rfl rfl rfl rfl (λj k=>absurd k (by simp))
 .simp
def l3(q:α->Bool)(l:List α):Int:=match l.findIdx? q with|some i=>i|none=>-1
def sj{q:α->Bool}{t:List α}{d:α}(hi:i<t.length)(h:q (t.getD i d)=ab)(a:∀j,j<i->q (t.getD j d)=ae):l3 q t=i:=by
 have:t.findIdx? q=aa i:=by grind[List.findIdx?_eq_some_iff_getElem]
 rw[l3,this]
def ni{q:α->Bool}{t:List α}{d:α}(a:∀j,j<t.length->q (t.getD j d)=ae):l3 q t=-1:=by
 have:t.findIdx? q=af:=by grind[List.getElem_of_mem]
 rw[l3,this]
def N9(l:List cg)(o:l.length<=4000000)(b:Nat)(cs:List C)(q:cg->Bool)(k:∀x,x∈l->Ev X b [Cl x,.e (.one (.c (.rp cs)))] [] (dB (q x)) []):
  Ev X 65 [.e (.one (.bp 0 (.sl l.length 2 0 l.length))),.e (.one (.c (.fn (.func b) [] [.rp cs])))] [.buf 39 2 l.length (ee.fn l)] (dI (l3 q l)) [.buf 39 2 l.length (ee.fn l)]:=by
 refine Ev.bQ Tryz.func65 rfl λn=>?_;refine bw rfl ar ?_;refine AK.bX 1 (λi=>i<=l.length/\∀j,j<i->q (l.getD j (0,[]))=ae) (λi:Nat=>[(0,.e (.one (.bp 0 (.sl l.length 2 0 l.length)))),(1,.e (.one (.c (.fn (.func b) [] [.rp cs])))),(7,dI l.length),(8,dI i)]) (λ_=>[.buf 39 2 l.length (ee.fn l)]) (λi=>l.length-i) 0 rfl ?_ rfl ?_ rfl ⟨by omega,by omega⟩ ?_
 .simp
 .simp
 rintro i ⟨hi,a⟩;by_cases h:i<l.length
 .have d:l.getD i (0,[])∈l:=by grind
  have f:l.getD ((0+(i:Int).toNat:Nat)) ee.bP=l.getD i (0,[]):=by simp;rfl
  refine aX [(9,ab)] rfl ?_ ?_
  .simp only[au];grind
  rw[f];refine AK.cQ (k _ d) [] rfl ?_;cases g:q (l.getD i (0,[]))with
  |true =>
   refine aX [(16,ab)] rfl ?_ (AK.eY (ck.mk [0] rfl ?_ rfl rfl rfl l0))
   .simp
   .simp[sj h g a]
  |false =>
   refine aX [(16,ae)] rfl ?_ (AK.aQ (i+1) rfl ?_ ?_ ?_ ?_)
   .simp[bx];omega
   .simp
   .simp
   .grind
   .omega
 .refine aX [(9,ae)] rfl (by simp;omega) (AK.leaveD rfl rfl ?_);refine bw rfl ar (AK.dJ [0] rfl ?_ rfl rfl rfl l0);simp[ni (λj m=>a j (by omega))]
def EF(q:α->Bool)(l:List α):(l3 q l=-1/\∀x∈l,q x=ae)∨∃i:Nat,i<l.length/\l3 q l=i/\(∀x∈l.take i,q x=ae)/\(∀x,l[i]?=aa x->q x=ab):=by unfold l3;grind[List.findIdx?_eq_some_iff_getElem,List.getElem_of_mem]
def wR{lo hi:Nat}{z:List C}(h:¬(lo<=j/\j<hi)):nU lo hi z es j=es j:=a9 h
theorem bu{l:List α}(h:i<l.length)(d:α):l.take (i+1)=l.take i++[l.getD i d]:=by grind[List.take_add_one]
def sk{l:List α}{q:α->Bool}(hi:i<l.length)(a:∀x∈l.take i,q x=ae)(b:∀x,l[i]?=aa x->q x=ab):(l.take (i+1)).filter (λx=>!q x)=l.take i:=by grind[List.take_add_one,List.filter_eq_self]
def _root_.Go.AM.kh.EG(c:kh α)(l:List α)(i:Nat)(x:α)(n:Nat)(a:n<=l.length):cw n (oA i (c.enc x) (c.fn l)) (c.fn (l.set i x)):=by intro q b;simp only[oA,kh.fn,x8];grind
structure XH(l:List cg)(q:cg->Bool)(j:Nat)(ys:List cg):Prop where
 hj:j<=l.length
 len:ys.length=l.length
 done:ys.take ((l.take j).filter λx=>!q x).length=(l.take j).filter λx=>!q x
 rest:∀i,j<=i->ys[i]?=l[i]?
def Oa(l:List cg)(y:l.length<=4000000)(b:Nat)(cs:List C)(q:cg->Bool)(w:∀x,x∈l->Ev X b [Cl x,.e (.one (.c (.rp cs)))] [] (dB (q x)) []):
  dO (ι:={es:Nat->List C // ∀i,i<(l.filter λx=>!q x).length->es i=ee.fn (l.filter λx=>!q x) i}) X 29 [.e (.one (.bp 0 (.sl l.length 2 0 l.length))),.e (.one (.c (.fn (.func b) [] [.rp cs])))] [.buf 39 2 l.length (ee.fn l)]
   (λ_=>.e (.one (.bp 0 (.sl l.length 2 0 (l.filter λx=>!q x).length)))) (λes=>[.buf 39 2 l.length es.1]):=by
 refine dO.oC Tryz.func29 rfl rfl rfl λE=>?_;refine bw rfl ar ?_;refine AK.cQ (N9 l y b cs q w) [0] rfl ?_;rcases EF q l with⟨n,r⟩|⟨o,f,n,r,t⟩
 .rw[n];have m:l.filter (λx=>!q x)=l:=oQ.2 λx u=>by grind
  refine aX [(12,ab)] rfl (by simp) (AK.kP ⟨ee.fn l,λi _=>by grind⟩ (AK.dJ [0] rfl ?_ rfl rfl rfl l0));simp[m]
 rw[n];refine aX [(12,ae)] rfl ?_ ?_
 .simp[bx];omega
 refine AK.bX 1 (λs:Nat×List cg=>XH l q s.1 s.2) (λs=>[(0,.e (.one (.bp 0 (.sl l.length 2 0 l.length)))),(1,.e (.one (.c (.fn (.func b) [] [.rp cs])))),(5,dI ((l.take s.1).filter λx=>!q x).length),(6,dI s.1)])
  (λs=>[.buf 39 2 l.length (ee.fn s.2)]) (λs=>l.length-s.1) (o+1,l) rfl ?_ rfl ?_ rfl ?_ ?_
 .have e:((l.take (o+1)).filter λx=>!q x).length=o:=by rw[sk f r t];grind
  simp[e]
 .simp
 .have e:=sk f r t;refine⟨by omega,rfl,?_,λ_ _=>rfl⟩;grind
 rintro⟨j,d⟩ ⟨D,g2,p,v⟩;simp only at D g2 p v;by_cases h:j<l.length
 .have u:l.getD j (0,[])∈l:=by grind
  have g:((l.take j).filter λx=>!q x).length<=j:=dT (kH _ _) (by grind);have B:d.getD (0+(j:Int).toNat) ee.bP=l.getD j (0,[]):=by grind
  refine aX [(19,ab)] rfl ?_ ?_
  .simp only[au];grind
  rw[B];refine AK.cQ (w _ u) [] rfl ?_;cases z:q (l.getD j (0,[]))with
  |false =>
   have k:(l.take (j+1)).filter (λx=>!q x)=(l.take j).filter (λx=>!q x)++[l.getD j (0,[])]:=by grind[bu]
   refine aX [(29,ab)] rfl ?_ (AK.aQ (j+1,d.set ((l.take j).filter λx=>!q x).length (l.getD j (0,[]))) rfl ?_ ?_ ?_ ?_)
   .simp only[au,bx];grind
   .simp[k]
   .have e:=ee.EG d ((l.take j).filter λx=>!q x).length (l.getD j (0,[])) l.length (by omega);have A:0+((((l.take j).filter λx=>!q x).length:Nat):Int).toNat=((l.take j).filter λx=>!q x).length:=by omega
    simp only[au.cat,au,A,aE,aF];exact e
   .refine⟨by grind,by grind,?_,λi hi=>?_⟩
    .simp only;rw[k,cf,show ∀a,[a].length=1 fromλ_=>rfl,jU,List.take_set,List.set_eq_of_length_le (by grind),p,fO (by omega)];rfl
    grind
   grind
  |true =>
   have k:(l.take (j+1)).filter (λx=>!q x)=(l.take j).filter (λx=>!q x):=by grind[bu]
   refine aX [(29,ae)] rfl ?_ (AK.aQ (j+1,d) rfl ?_ ?_ ?_ ?_)
   .simp[bx];omega
   .simp[k]
   .simp
   .refine⟨by grind,g2,by grind,λi hi=>v i (by grind)⟩
   grind
 .obtain rfl:j=l.length:=by omega
  rw[cC]at p⊢;have g:(l.filter λx=>!q x).length<=l.length:=kH _ _;refine aX [(19,ae)] rfl (by simp) (AK.leaveD rfl rfl ?_);refine bw rfl ?_ ?_
  .simp only[au];grind
  refine AK.law (bE.DL tok rfl rfl rfl rfl rfl rfl ?_) rfl rfl ?_
  .simp only[cD,bM];omega
  refine bw rfl ?_ (AK.kP ⟨nU (0+cD 0 (aa ((l.filter λx=>!q x).length:Int))) (0+cD 0 (aa ((l.filter λx=>!q x).length:Int))+(cD l.length af-cD 0 (aa ((l.filter λx=>!q x).length:Int)))) i39.zero (ee.fn d),λi hi=>?_⟩ (AK.dJ [0] rfl ?_ rfl rfl rfl l0))
  .simp only[au];grind
  .have e:d[i]?=(l.filter λx=>!q x)[i]?:=by grind
   refine(wR (by simp only[cD,bM];omega)).trans ?_;simp only[kh.fn,x8,ai,e]
  .simp[cD];rfl
abbrev XI:=Int×Int×Int×Bs
abbrev SZ(cs:List C):D:=.e (.one (.c (.rp cs)))
abbrev RK(ps:List bc):C:=.sl ae 2 ps.length (cP.fn ps)
abbrev Ob(a:List cg):C:=.sl ae 2 a.length (ee.fn a)
abbrev Oc(a:List (Int×Int)):C:=.sl ae 2 a.length (cH.fn a)
def SM(s:bo)(l:XI)(n:Nat)(a:l.2.1=n)(h:n<=s.2.2.length):au (gA s.2.2.length (aa l.2.1) af):=by show 0<=l.2.1/\l.2.1<=(s.2.2.length:Int);omega
def RL(n lo hi:Int):Ev X 56 [dI n,dI lo,dI hi] [] (dB (decide (lo<=n/\n<=hi))) []:=by
 refine Ev.bQ Tryz.func56 rfl λc=>?_;by_cases a:lo<=n
 .by_cases b:n<=hi
  .refine aX [(10,ab),(14,ab)] rfl (by simp;omega) (AK.bn rfl ?_);simp[a,b]
  .refine aX [(10,ab),(14,ae)] rfl (by simp;omega) (AK.bn rfl ?_);simp;omega
 .refine aX [(10,ae),(14,ae)] rfl (by simp;omega) (AK.bn rfl ?_);simp;omega
abbrev EH:dz:=Ek aI aI aI (λn lo hi=>dB (decide (lo<=n/\n<=hi))) λ_ _ _=>[]
def Hu:dK X 56 EH:=.J7 λn lo hi _=>RL n lo hi
def Hv(n:Nat)(f:n<=4000000):Ev X 199 [dI n] [] (dI (cM n)) []:=by
 refine Ev.bQ Tryz.func199 rfl λe=>?_;by_cases d:n<1
 .refine aX [(6,ab),(9,ab)] rfl (by simp;omega) (AK.bn rfl ?_);have:cM n=0:=by simp[cM,d]
  simp[this]
 by_cases c:8<n
 .refine aX [(6,ae),(9,ab)] rfl (by simp;omega) (AK.bn rfl ?_);have:cM n=0:=by simp[cM,c]
  simp[this]
 by_cases a:n<=2
 .refine aX [(6,ae),(9,ae),(10,ab)] rfl (by simp;omega) (AK.bn rfl ?_);have:cM n=2:=by simp only[cM,a9 (show¬(n<1∨8<n) by omega),br a]
  simp[this]
 by_cases b:n<=4
 .refine aX [(6,ae),(9,ae),(10,ae),(13,ab)] rfl (by simp;omega) (AK.bn rfl ?_);have:cM n=4:=by simp only[cM,a9 (show¬(n<1∨8<n) by omega),a9 a,br b]
  simp[this]
 .refine aX [(6,ae),(9,ae),(10,ae),(13,ae)] rfl (by simp;omega) (AK.bn rfl ?_);have:cM n=8:=by simp only[cM,a9 (show¬(n<1∨8<n) by omega),a9 a,a9 b]
  simp[this]
def Od(l:List Bs)(p:Bs)(e:l.length<=4000000):Ev X 149 [cS.sl l,dS p] [] (dB (l.contains p)) []:=by
 refine Ev.bQ Tryz.func149 rfl λc=>?_;refine bw rfl ar ?_;refine AK.bX 0 (λi=>i<=l.length/\∀j,j<i->l.getD j []≠p) (λi:Nat=>[(0,cS.sl l),(1,dS p),(5,dI i)]) (λ_=>[]) (λi=>l.length-i) 0 rfl ?_ rfl ?_ rfl ⟨by omega,by omega⟩ ?_
 .simp
 .simp
 rintro i ⟨hi,a⟩;by_cases h:i<l.length
 .have b:l.getD (i:Int).toNat cS.bP=l.getD i []:=by grind
  by_cases f:l.getD i []=p
  .refine aX [(9,ab),(17,ab)] rfl ?_ (AK.eY (ck.zero rfl ?_))
   .simp only[au,b];grind
   .have:p∈l:=by grind
    simp[this]
  .refine aX [(9,ab),(17,ae)] rfl ?_ (AK.aQ (i+1) rfl ?_ ?_ ?_ ?_)
   .simp only[au,b,bx];grind
   .simp
   .simp
   .grind
   .omega
 .refine aX [(9,ae)] rfl (by simp;omega) (AK.leaveD rfl rfl ?_);refine bw rfl ar (AK.bn rfl ?_);have:¬p∈l:=λd=>by grind[List.getElem_of_mem]
  simp[this]
def Kt(p:Bs)(b:bJ p=ab):Ev X 157 [dS p] [] (dI (codeOf p)) []:=by
 refine Ev.bQ Tryz.func157 rfl λg=>?_;have a:=b;simp only[bJ,bR,bq]at a;refine bw rfl ar ?_;refine AK.bX 0 (λi=>i<=p.length) (λi:Nat=>[(0,dS p),(3,dI (codeOf (p.take i))),(4,dI i)]) (λ_=>[]) (λi=>p.length-i) 0 rfl (by simp[codeOf]) rfl (by simp) rfl (by omega) ?_;intro i hi;by_cases h:i<p.length
 .have k:=jK b hi;have f:=jK b (i:=i+1) (by omega);have e:=ud h;have j:=kC a.2 (p.getD i 0) (wI h);have d:97<=cz p i/\cz p i<=122:=by unfold cz;omega
  refine aX [(8,ab)] rfl ?_ (AK.aQ (i+1) rfl ?_ ?_ ?_ ?_)
  .simp only[au,cE,bx];grind
  .have c:(cz p i-97) % 256=cz p i-97:=Int.emod_eq_of_lt (by omega) (by omega);rw[c]at e;simp[-ai,cE,e]
  .simp
  .grind
  grind
 .obtain rfl:i=p.length:=by omega
  refine aX [(8,ae)] rfl (by simp) (AK.leaveD rfl rfl ?_);exact bw rfl ar (AK.bn rfl)
def RM:dK X 157 (kB aS (λp=>dI (codeOf p)) λp=>[bJ p=ab]):=.oL λp h=>Kt p h
def Ku(k:Int)(p:Bs)(e:cJ k=ab)(f:bJ p=ab):Ev X 116 [dI k,dS p] [] (dI (gp k p)) []:=by
 refine Ev.bQ Tryz.func116 rfl λh=>?_;have g:bG X [(157,kB aS (λp=>dI (codeOf p)) λp=>[bJ p=ab])]:=.cons RM .nil;have a:=e;simp only[cJ,bR,bq]at a;have b:=yK f;refine bZ g rfl ?_ (AK.bn rfl ?_)
 .have d:0<=codeOf p*(2*k+1):=Int.mul_nonneg b.1 (by omega);have c:codeOf p*(2*k+1)<=282429536481*199:=Int.mul_le_mul (by omega) (by omega) (by omega) (by omega);generalize codeOf p*(2*k+1)=m at d c;simp only[au,bx];grind
 .show (_:Int)=_;rfl
def wS:dK X 116 (n6 aI aS (λk p=>dI (gp k p)) λk p=>[cJ k=ab,bJ p=ab]):=.qK λk p h=>Ku k p h.1 h.2
def Kv(l:List dA)(n:Int)(d:l.length<=4000000):Ev X 148 [oM.sl l,dI n] [] (dI (ue l n)) []:=by
 refine Ev.bQ Tryz.func148 rfl λc=>?_;refine bw rfl ar ?_;refine AK.bX 0 (λi=>i<=l.length/\∀j,j<i->(l.getD j (0,0)).1≠n) (λi:Nat=>[(0,oM.sl l),(1,dI n),(5,dI i)]) (λ_=>[]) (λi=>l.length-i) 0 rfl ?_ rfl ?_ rfl ⟨by omega,by omega⟩ ?_
 .simp
 .simp
 rintro i ⟨hi,b⟩;by_cases h:i<l.length
 .have a:l.getD (i:Int).toNat oM.bP=l.getD i (0,0):=by grind
  by_cases e:(l.getD i (0,0)).1=n
  .refine aX [(9,ab),(18,ab)] rfl ?_ (AK.eY (ck.zero rfl ?_))
   .simp only[au,a];grind
   .have:ue l n=(l.getD i (0,0)).2:=by
     have:l.find? (λs=>s.1==n)=aa (l.getD i (0,0)):=by grind[List.find?_eq_some_iff_getElem]
     rw[ue,this]
    simp only[au,a];grind
  .refine aX [(9,ab),(18,ae)] rfl ?_ (AK.aQ (i+1) rfl ?_ ?_ ?_ ?_)
   .simp only[au,a,bx];grind
   .simp
   .simp
   .grind
   .omega
 .refine aX [(9,ae)] rfl (by simp;omega) (AK.leaveD rfl rfl ?_);refine bw rfl ar (AK.bn rfl ?_);have:ue l n=0:=by
   have:l.find? (λs=>s.1==n)=af:=by grind[List.getElem_of_mem]
   rw[ue,this]
  simp[this]
theorem wT(a:1<=n)(b:n<=8):n<=cM n/\cM n<=8:=by unfold cM;grind
abbrev Gg:dz:=kB aI (λn=>dI (cM n.toNat)) λn=>[0<=n/\n<=4000000]
def Oe:dK X 199 Gg:=.oL λn h=>by
 obtain⟨m,rfl⟩:∃m:Nat,n=m:=⟨n.toNat,by have:=h.1;omega⟩
 exact Hv m (by have:=h.2;omega)
def Of(p:Bs)(c:bJ p=ab):Ev X 153 [dS p] [] (dS (gq p)) []:=by
 refine Ev.bQ Tryz.func153 rfl λf=>?_;have b:bG X [(199,Gg)]:=.cons Oe .nil;have a:=c;simp only[bJ,bR,bq]at a;have g:=wT a.1.1 a.1.2;refine bZ b rfl ?_ ?_
 .simp only[au];omega
 refine AK.bX 0 (λj=>p.length+j<=cM p.length) (λj:Nat=>[(0,dS (p++List.replicate j 46)),(3,dI (cM p.length))]) (λ_=>[]) (λj=>cM p.length-j) 0 rfl (by simp) rfl (by simp) rfl (by omega) ?_;intro j d;by_cases h:p.length+j<cM p.length
 .refine aR b [(10,ab)] rfl ?_ (AK.aQ (j+1) rfl ?_ ?_ ?_ ?_)
  .simp;omega
  .simp[List.replicate_succ']
  .simp
  .grind
  grind
 .have e:cM p.length-p.length=j:=by omega
  refine aR b [(10,ae)] rfl (by simp;omega) (AK.leaveD rfl rfl ?_);refine bZ b rfl ar (AK.bn rfl ?_);simp[gq,c,e]
def Kw(s:dA):Ev X 150 [.e (.agg [.c (.int .i64 s.1),.c (.int .i64 s.2)])] [] (dB (kQ s)) []:=by
 refine Ev.bQ Tryz.func150 rfl λf=>?_;have d:bG X [(56,EH)]:=.cons Hu .nil;by_cases a:0<=s.1/\s.1<=999999999988
 .by_cases b:1<=s.2/\s.2<=99
  .refine aR d [(6,ab),(10,ab)] rfl (by simp[a,b]) (AK.bn rfl ?_);have:kQ s=ab:=by simp[kQ,a,b];omega
   simp[this]
  .refine aR d [(6,ab),(10,ae)] rfl (by simp[a,b]<;>omega) (AK.bn rfl ?_);have:kQ s=ae:=by simp[kQ,a];omega
   simp[this]
 .refine aR d [(6,ae),(10,ae)] rfl (by simp;omega) (AK.bn rfl ?_);have:kQ s=ae:=by simp[kQ];omega
  simp[this]
abbrev Kx:dz:=kB VP (λs=>dB (kQ s)) λ_=>[]
def RN:dK X 150 Kx:=.oL λs _=>Kw s
def xj{q:α->Bool}{l:List α}(h:l.any q=ab):0<=l3 q l:=by unfold l3;grind
theorem xk{q:α->Bool}{l:List α}(h:l.any q=ae):l3 q l=-1:=by unfold l3;grind
def KR(l:List (Int×Int))(b:Nat)(q:Int×Int->Bool)(n:∀x,x∈l->Ev X b [.e (.agg [.c (.int .i64 x.1),.c (.int .i64 x.2)])] [] (dB (q x)) []):
  Ev X 102 [cH.sl l,.e (.one (.c (.fn (.func b) [] [])))] [] (dI (l3 q l)) []:=by
 refine Ev.bQ Tryz.func102 rfl λf=>?_;have d:=f.sl 0 rfl;refine bw rfl ar ?_;refine AK.ji (λi=>i<=l.length/\∀j,j<i->q (l.getD j (0,0))=ae) (λi:Nat=>[(0,cH.sl l),(1,.e (.one (.c (.fn (.func b) [] [])))),(7,dI l.length),(8,dI i)]) (λ_=>[]) (λi=>l.length-i) 0 rfl ?_ rfl ar ⟨by omega,by omega⟩ ?_
 .simp
 rintro i ⟨hi,a⟩;by_cases h:i<l.length
 .have g:l.getD i (0,0)∈l:=by grind
  have k:l.getD (i:Int).toNat cH.bP=l.getD i (0,0):=by grind
  refine aX [(9,ab)] rfl ?_ ?_
  .simp only[au];grind
  rw[k];refine AK.cQ (n _ g) [] rfl ?_;cases m:q (l.getD i (0,0))with
  |true =>
   refine aX [(16,ab)] rfl ?_ (AK.gI (ck.zero rfl ?_))
   .simp
   .simp[sj h m a]
  |false =>
   refine aX [(16,ae)] rfl ?_ (AK.fG (i+1) rfl ?_ rfl ar ?_ ?_)
   .simp[bx];omega
   .simp
   .grind
   .omega
 .refine aX [(9,ae)] rfl (by simp;omega) (AK.leave rfl rfl ?_);refine bw rfl ar (AK.bn rfl ?_);simp[ni (λj o=>a j (by omega))]
def KS(l:List (Int×Int))(a:Nat)(q:Int×Int->Bool)(b:∀x,x∈l->Ev X a [.e (.agg [.c (.int .i64 x.1),.c (.int .i64 x.2)])] [] (dB (q x)) []):
  Ev X 81 [cH.sl l,.e (.one (.c (.fn (.func a) [] [])))] [] (dB (l.any q)) []:=by
 refine Ev.bQ Tryz.func81 rfl λd=>?_;refine bw rfl ar ?_;refine AK.cQ (KR l a q b) [] rfl ?_;cases h:l.any q with
 |true =>
  exact aX [(8,ab)] rfl (dc (xj h)) (AK.bn rfl)
 |false =>
  exact aX [(8,ae)] rfl (gx (by grind[xk])) (AK.bn rfl)
def KT(l:List (bc))(b:Nat)(cs:List C)(q:bc->Bool)(n:∀x,x∈l->Ev X b [xP x,.e (.one (.c (.rp cs)))] [] (dB (q x)) []):
  Ev X 74 [cP.sl l,.e (.one (.c (.fn (.func b) [] [.rp cs])))] [] (dI (l3 q l)) []:=by
 refine Ev.bQ Tryz.func74 rfl λf=>?_;have d:=f.sl 0 rfl;refine bw rfl ar ?_;refine AK.ji (λi=>i<=l.length/\∀j,j<i->q (l.getD j (0,[]))=ae) (λi:Nat=>[(0,cP.sl l),(1,.e (.one (.c (.fn (.func b) [] [.rp cs])))),(7,dI l.length),(8,dI i)]) (λ_=>[]) (λi=>l.length-i) 0 rfl ?_ rfl ar ⟨by omega,by omega⟩ ?_
 .simp
 rintro i ⟨hi,a⟩;by_cases h:i<l.length
 .have g:l.getD i (0,[])∈l:=by grind
  have k:l.getD (i:Int).toNat cP.bP=l.getD i (0,[]):=by grind
  refine aX [(9,ab)] rfl ?_ ?_
  .simp only[au];grind
  rw[k];refine AK.cQ (n _ g) [] rfl ?_;cases m:q (l.getD i (0,[]))with
  |true =>
   refine aX [(16,ab)] rfl ?_ (AK.gI (ck.zero rfl ?_))
   .simp
   .simp[sj h m a]
  |false =>
   refine aX [(16,ae)] rfl ?_ (AK.fG (i+1) rfl ?_ rfl ar ?_ ?_)
   .simp[bx];omega
   .simp
   .grind
   .omega
 .refine aX [(9,ae)] rfl (by simp;omega) (AK.leave rfl rfl ?_);refine bw rfl ar (AK.bn rfl ?_);simp[ni (λj o=>a j (by omega))]
def KU(l:List (bc))(a:Nat)(cs:List C)(q:bc->Bool)(b:∀x,x∈l->Ev X a [xP x,.e (.one (.c (.rp cs)))] [] (dB (q x)) []):
  Ev X 41 [cP.sl l,.e (.one (.c (.fn (.func a) [] [.rp cs])))] [] (dB (l.any q)) []:=by
 refine Ev.bQ Tryz.func41 rfl λd=>?_;refine bw rfl ar ?_;refine AK.cQ (KT l a cs q b) [] rfl ?_;cases h:l.any q with
 |true =>
  exact aX [(8,ab)] rfl (dc (xj h)) (AK.bn rfl)
 |false =>
  exact aX [(8,ae)] rfl (gx (by grind[xk])) (AK.bn rfl)
def KV(l:List (Int))(b:Nat)(cs:List C)(H:aj->(Nat->Option Obj)->Prop)(q:Int->Bool)(n:∀x,x∈l->Ev X b [dI x,.e (.one (.c (.rp cs)))] [.cq H] (dB (q x)) [.cq H]):
  Ev X 73 [cI.sl l,.e (.one (.c (.fn (.func b) [] [.rp cs])))] [.cq H] (dI (l3 q l)) [.cq H]:=by
 refine Ev.bQ Tryz.func73 rfl λf=>?_;have d:=f.sl 0 rfl;refine bw rfl ar ?_;refine AK.bX 1 (λi=>i<=l.length/\∀j,j<i->q (l.getD j 0)=ae) (λi:Nat=>[(0,cI.sl l),(1,.e (.one (.c (.fn (.func b) [] [.rp cs])))),(7,dI l.length),(8,dI i)]) (λ_=>[.cq H]) (λi=>l.length-i) 0 rfl ?_ rfl ?_ rfl ⟨by omega,by omega⟩ ?_
 .simp
 .simp
 rintro i ⟨hi,a⟩;by_cases h:i<l.length
 .have g:l.getD i 0∈l:=by grind
  have k:l.getD (i:Int).toNat cI.bP=l.getD i 0:=by grind
  refine aX [(9,ab)] rfl ?_ ?_
  .simp only[au];grind
  rw[k];refine AK.cQ (n _ g) [0] rfl ?_;cases m:q (l.getD i 0)with
  |true =>
   refine aX [(16,ab)] rfl ?_ (AK.eY (ck.mk [0] rfl ?_ rfl rfl rfl l0))
   .simp
   .simp[sj h m a]
  |false =>
   refine aX [(16,ae)] rfl ?_ (AK.aQ (i+1) rfl ?_ ?_ ?_ ?_)
   .simp[bx];omega
   .simp
   .simp
   .grind
   .omega
 .refine aX [(9,ae)] rfl (by simp;omega) (AK.leaveD rfl rfl ?_);refine bw rfl ar (AK.dJ [0] rfl ?_ rfl rfl rfl l0);simp[ni (λj o=>a j (by omega))]
def KW(l:List (Int))(a:Nat)(cs:List C)(H:aj->(Nat->Option Obj)->Prop)(q:Int->Bool)(b:∀x,x∈l->Ev X a [dI x,.e (.one (.c (.rp cs)))] [.cq H] (dB (q x)) [.cq H]):
  Ev X 39 [cI.sl l,.e (.one (.c (.fn (.func a) [] [.rp cs])))] [.cq H] (dB (l.any q)) [.cq H]:=by
 refine Ev.bQ Tryz.func39 rfl λd=>?_;refine bw rfl ar ?_;refine AK.cQ (KV l a cs H q b) [0] rfl ?_;cases h:l.any q with
 |true =>
  refine aX [(8,ab)] rfl (dc (xj h)) (AK.dJ [0] rfl ?_ rfl rfl rfl l0);simp
 |false =>
  refine aX [(8,ae)] rfl (gx (by grind[xk])) (AK.dJ [0] rfl ?_ rfl rfl rfl l0);simp
def UU(h:o.op=.call {callee:=.builtin .append,args:=#[x,y],argTypes:=#[41,41]}):lC ag o x y 68 i68 :=
 ⟨⟨41,41,i41,i41,h,(tok _ _ rfl),rfl,(tok _ _ rfl),rfl⟩,(tok _ _ rfl),by decide,by decide⟩
def Gj(l:List cv)(n:Nat):∀i,i<n->∀c∈et.fn l i,uy c=ab:=by
 intro i _ c a;have:et.fn l i=[.int .i64 (l.getD i et.bP).1,.str (l.getD i et.bP).2]:=rfl;rw[this]at a;rcases dC.1 a with rfl|a
 .rfl
 .rcases dC.1 a with rfl|a
  .rfl
  grind
abbrev Own(l:List cv):Type:={q:uz×List aj // iq 2 l.length (et.fn l) q.2}
abbrev HD(l:List cv)(q:Own l):bm:=.cq (iR 68 2 q.1.1 l.length q.1.2)
abbrev AR(l:List cv)(q:Own l):C:=.val (sT q.1.1 l.length)
abbrev S3:Type:=Nat×uz×Nat×List aj
abbrev u3(x:S3):aj:=sT x.2.1 x.2.2.1
end
abbrev A0(l:List bC):Prop:=l.Pairwise λa b=>bd a.1 b.1=ab
def xt{t:List bC}(h:du t=ab):A0 t:=by simp only[du,bR]at h;have a:=di.1 h.1;rw[A0,mE];intro i j hi hj XT;rw[fileAt hi,fileAt hj];refine UW (t:=t) (i:=j) (λk c b=>?_) i XT;have:=a k (by omega);simp only[gi,bR,mK,gy]at this;grind
theorem pF{t:List bC}:du t=ab↔(∀f∈t,dF f.1=ab/\eh f.2=ab)/\A0 t/\t.Pairwise (λa b=>clash a.1 b.1=ae)/\t.length<=6:=by
 constructor
 .intro h;have k:=xt h;simp only[du,bR,bq]at h;have c:=di.1 h.1;refine⟨λf d=>?_,k,?_,h.2⟩
  .obtain⟨i,hi,rfl⟩:=dH d;have:=c i hi;simp only[gi,bR]at this;grind[fileAt]
  .rw[mE];intro i j hi hj XT;have:=c j hj;simp only[gi,bR]at this;grind[fileAt]
 .rintro⟨l,m,n,e⟩;simp only[du,bR,bq];refine⟨di.2 λi hi=>?_,e⟩;have g:=l _ (nH hi);rw[fileAt hi]at g;simp only[gi,bR,mK,gy];grind[List.pairwise_iff_getElem,fileAt]
def xu{t:List bC}(q:bC->Bool)(h:du t=ab):du (t.filter q)=ab:=by grind[pF]
theorem Lg{t:List bC}(p:Bs)(h:du t=ab):du (lU t p)=ab:=xu _ h
def EX{t:List bC}{p x:Bs}(h:(eg t p x).2=ab):du (eg t p x).1=ab:=by unfold eg at h⊢;grind
end R1
def dO.le{X:Cx P}{f:aK}{args:List D}{res':ι->D}(h:dO X f args σ res σ1){ps:ι->List Prop}(a:∀i,Ds (res i) (res' i)=aa (ps i))(b:∀i,au (ps i)):dO X f args σ res' σ1 :=
 ⟨h.1,λs vs hr hh S cs hS=>h.2 s vs hr hh S cs λi fr v s' hl lX jq st=>hS i fr v s' hl (qW (a i) (b i) lX) jq st⟩
def dO.one{X:Cx P}{f:aK}{args:List D}{res:D}{σ1:List bm}(h:dO (ι:=ι) X f args σ (λ_=>res) (λ_=>σ1)):Ev X f args σ res σ1 :=
 ⟨h.1,λs vs hr hh S cs hS=>h.2 s vs hr hh S cs λ_ fr v s' hl lX jq st=>hS fr v s' hl lX jq st⟩
namespace R1
variable {X:Cx ag}
structure iS(s:bo):Prop where
 p:s.1.length<=4000000
 p2:∀p∈s.1,p.2.length<=4000000
 sn:s.2.1.length<=4000000
 s2:iM s
 h:s.2.2.length<=4000000
end R1
namespace R1
section
open Go.Sort (pdq bitsLen ltInt Below)
variable {X:Cx ag}
def kF(l:List Int):List Int:=l.mergeSort λx y=>decide (x<=y)
def ft(l:List Int):(kF l).length=l.length:=List.length_mergeSort _
def LL(l:List Int):pdq ltInt l.toArray 0 l.length (bitsLen l.length) ab ab=(kF l).toArray:=by have h:=Go.Sort.sortInt l;unfold Go.Sort.sort at h;rw[List.size_toArray]at h;exact Array.ext' (by rw[h];rfl)
theorem Vi(l:List Int):eI l.toArray=cI.fn l:=by funext j;simp only[eI,kh.fn,x8,cI,ai];simp
abbrev Bi(n:Nat)(l:List Int):bm:=.buf 3 1 n (cI.fn l)
def xp(l:List Int)(a:l.length<=4000000):Ev X 71 [ki l.length] [Bi l.length l] (.fz []) [Bi l.length (kF l)]:=by
 refine Ev.bQ Tryz.func71 rfl λb=>?_;refine c9 rfl (by simp only[au,bx];and_intros<;>omega) ?_;refine AK.cQ (LM l.length a) [] rfl ?_;refine c9 rfl ar ?_;have c:=j6 (x:=l.length) (k:=22) (by grind);have key:Ev X 99 [ki l.length,dI 0,dI l.length,dI (bitsLen l.length)] [Bi l.length l] (.fz []) [Bi l.length (kF l)]:=by have:=Sx (X:=X) l.length a l.length l.toArray 0 l.length (bitsLen l.length) (by omega) (by simp) (by omega) (ba _) (by omega) (.inl rfl) (x:=0) rfl rfl rfl (LL l).symm;grind[Vi]
 refine AK.cQ key [0] rfl ?_;refine c9 rfl ar ?_;exact ck.tk [0] rfl ar rfl rfl rfl hU
def jQ(l:List Int):Nat->List Int
 |0=>[]
 |j+1=>if j≠0/\l.getD j 0=l.getD (j-1) 0 then jQ l j else jQ l j++[l.getD j 0]
def dZ(l:List Int):List Int:=jQ l l.length
def sI(l:List Int):∀j,(jQ l j).length<=j
 |0=>ba _
 |j+1=>by have:=sI l j;simp only[jQ];grind
def nv{l:List Int}:∀{k:Nat},k<=l.length->(∀i,1<=i->i<k->l.getD i 0≠l.getD (i-1) 0)->jQ l k=l.take k
 |0,_,_=>by simp[jQ]
 |k+1,c,h=>by rw[jQ,a9,nv (by omega) λi a b=>h i a (by omega),bu (by omega) 0];grind
structure CoP(l:List Int)(k0:Nat)(k2:Nat)(ys:List Int):Prop where
 h1:1<=k2
 hj:k0+k2<=l.length
 len:ys.length=l.length
 lt:(jQ l (k0+k2)).length<k0+k2
 done:ys.take (jQ l (k0+k2)).length=jQ l (k0+k2)
 rest:∀i,k0+k2<=i+1->ys.getD i 0=l.getD i 0
abbrev LN(a:List Int):Type:={es:Nat->List C // ∀i,i<a.length->es i=cI.fn a i}
def xq(l:List Int)(K:l.length<=4000000):dO (ι:=LN (dZ l)) X 72 [ki l.length] [Bi l.length l] (λ_=>.e (.one (.bp 0 (.sl l.length 1 0 (dZ l).length)))) (λes=>[.buf 3 1 l.length es.1]):=by
 refine dO.oC Tryz.func72 rfl rfl rfl λI=>?_;by_cases G:l.length<2
 .have f:dZ l=l:=by unfold dZ;rw[nv (ba _) λi _ _=>by omega,cC]
  refine bF [(8,ab)] rfl (by simp only[au,bq];omega) (AK.kP ⟨cI.fn l,λi _=>by rw[f]⟩ (AK.dJ [0] rfl ?_ rfl rfl rfl hU));simp[f]
 refine bF [(8,ae)] rfl (by simp only[au,cd];omega) ?_;refine AK.kA (S2:=Unit) 0 rfl rfl (λ_=>dZ l=l) (λ_=>[(0,ki l.length)]) (λ_=>[Bi l.length l]) 1 (λk:Nat=>1<=k/\k<=l.length/\∀i,1<=i->i<k->l.getD i 0≠l.getD (i-1) 0) (λk=>[(0,ki l.length),(3,dI k)]) (λ_=>[Bi l.length l]) (λk=>l.length-k) 1 rfl ?_ rfl ?_ rfl ⟨ba _,by omega,λi L G=>by omega⟩ ?_ ?_
 .simp
 .simp
 .rintro out k ⟨A,J,d⟩;by_cases D:k<l.length
  .have x:((k:Int)-1).toNat=k-1:=by omega
   have u:∀j,l.getD j cI.bP=l.getD j 0:=λ_=>rfl;by_cases h:l.getD k 0=l.getD (k-1) 0
   .refine bF [(13,ab),(25,ab)] rfl ?_ ?_
    .simp only[au,bA,bM,x,u,h,bx,bq,jW,aF,aE];and_intros<;>omega
    have y:=nv (l:=l) (by omega) d;have F:jQ l (k+1)=l.take k:=by rw[jQ,br ⟨by omega,h⟩,y]
    refine AK.kA (S2:=List Int) 2 rfl rfl (λc=>c.length=l.length/\c.take (dZ l).length=dZ l) (λ_=>[(0,ki l.length),(3,dI (dZ l).length)]) (λc=>[Bi l.length c]) 1 (λs:Nat×List Int=>CoP l k s.1 s.2) (λs=>[(0,ki l.length),(3,dI (jQ l (k+s.1)).length),(4,.e (.one (.bp 0 (.sl l.length 1 k (l.length-k))))),(5,dI s.1)]) (λs=>[Bi l.length s.2]) (λs=>l.length-s.1) (1,l) rfl ?_ rfl ?_ rfl ?_ ?_ ?_
    .simp only[au.cat,au,F,List.length_take,cD,bA,bM,aF,aE];exact⟨by omega,rfl,rfl⟩
    .simp
    .exact⟨ba _,by omega,rfl,by grind,by grind,λ_ _=>rfl⟩
    .rintro g ⟨b,c⟩ ⟨c1,c2,c3,c4,m,p⟩;simp only at c1 c2 c3 c4 m p;by_cases H:k+b<l.length
     .have t:((b:Int)-1).toNat=b-1:=by omega
      have q:∀j,c.getD j cI.bP=c.getD j 0:=λ_=>rfl;have r:c.getD (k+b) 0=l.getD (k+b) 0:=p _ (by omega);have w:c.getD (k+(b-1)) 0=l.getD (k+(b-1)) 0:=p _ (by omega);by_cases n:l.getD (k+b) 0=l.getD (k+(b-1)) 0
      .have o:jQ l (k+(b+1))=jQ l (k+b):=by rw[show k+(b+1)=k+b+1 by omega,jQ,br ⟨by omega,by rw[n,show k+b-1=k+(b-1) by omega]⟩]
       refine bF [(32,ab),(44,ae)] rfl ?_ (AK.aQ (b+1,c) rfl ?_ ?_ ?_ ?_)
       .simp only[au,bA,bM,t,q,r,w,n,bx,bq,mG,kL,jW,aF,aE];and_intros<;>first|trivial|omega
       .simp only[au.cat,au,o,aF,aE];omega
       .simp
       .exact⟨by grind,by grind,c3,by grind,by grind,λi hi=>p i (by grind)⟩
       .simp only;omega
      .have o:jQ l (k+(b+1))=jQ l (k+b)++[l.getD (k+b) 0]:=by rw[show k+(b+1)=k+b+1 by omega,jQ,a9];rintro⟨_,h⟩;exact n (by rw[h,show k+b-1=k+(b-1) by omega])
       refine bF [(32,ab),(44,ab)] rfl ?_ (AK.aQ (b+1,c.set (jQ l (k+b)).length (l.getD (k+b) 0)) rfl ?_ ?_ ?_ ?_)
       .simp only[au,bA,bM,t,q,r,w,bx,bq,iZ,eW,pY,cU,aF,aE];and_intros<;>first|exact n|omega
       .simp only[au.cat,au,o,cf,fQ,jz,aF,aE];and_intros<;>omega
       .have e:=cI.EG c (jQ l (k+b)).length (l.getD (k+b) 0) l.length (by omega);simp only[au.cat,au,bA,bM,q,r,aE,aF];exact e
       .refine⟨by grind,by grind,by grind,by grind,?_,λi hi=>?_⟩
        .simp only;rw[o,cf,show ∀a:Int,[a].length=1 fromλ_=>rfl,jU,List.take_set,List.set_eq_of_length_le (by grind),m,fO (by omega)];rfl
        .simp only at hi⊢;rw[ai,kJ (by omega),<-ai];grind
       .simp only;omega
     .have E:k+b=l.length:=by omega
      have v:jQ l (k+b)=dZ l:=by rw[E];rfl
      refine bF [(32,ae)] rfl ?_ (AK.leaveD rfl rfl ?_)
      .simp only[au,cd];omega
      rw[v]at m;exact g c ⟨c3,m⟩ rfl (by simp[v]) rfl (by simp)
    rintro c ⟨B,z⟩;have C:(dZ l).length<=l.length:=sI l _;refine c9 rfl ?_ ?_
    .simp only[au];grind
    refine AK.law (bE.DL tok rfl rfl rfl rfl rfl rfl ?_) rfl rfl ?_
    .simp only[cD,bM];omega
    refine bw rfl ?_ (AK.eY ⟨⟨nU (0+cD 0 (aa ((dZ l).length:Int))) (0+cD 0 (aa ((dZ l).length:Int))+(cD l.length af-cD 0 (aa ((dZ l).length:Int)))) i3.zero (cI.fn c),λi hi=>?_⟩,ck.mk [0] rfl ?_ rfl rfl rfl hU⟩)
    .simp only[au];grind
    .have e:c[i]?=(dZ l)[i]?:=by grind
     refine(wR (by simp only[cD,bM];omega)).trans ?_;simp only[kh.fn,x8,ai,e]
    .simp[cD];rfl
   .refine bF [(13,ab),(25,ae)] rfl ?_ (AK.aQ (k+1) rfl ?_ ?_ ?_ ?_)
    .simp only[au,bA,bM,x,u,bx,bq,eW,cU,aF,aE];and_intros<;>first|exact h|omega
    .simp
    .simp
    .grind
    .omega
  .obtain rfl:k=l.length:=by omega
   refine bF [(13,ae)] rfl (by simp) (AK.leaveD rfl rfl ?_);exact out () (by unfold dZ;rw[nv (ba _) d,cC]) rfl (by simp) rfl (by simp)
 rintro⟨⟩ f;refine c9 rfl ar (AK.kP ⟨cI.fn l,λi _=>by rw[f]⟩ (AK.dJ [0] rfl ?_ rfl rfl rfl hU));simp[f]
end
section
variable {X:Cx ag}
def b5(l:List gC):List Int:=l.flatMap (·.2)
def c6(x:cg):List Int:=dZ (kF (b5 x.2))
def sG{l:List gC}(h:i<l.length):b5 (l.take (i+1))=b5 (l.take i)++(l.getD i ([],[])).2:=by rw[bu h ([],[])];simp[b5]
def _root_.Go.AM.kh.Ld(c:kh α)(a b:List α)(n:Nat)(d:n=(a++b).length):cw n (cT a.length (c.fn a) (c.fn b)) (c.fn (a++b)):=by intro i hi;simp only[cT,kh.fn,x8,ai];grind
def yf(x:cg)(o:x.2.length<=4000000)(g:(b5 x.2).length<=4000000)(m:∀i,i<=x.2.length->(b5 (x.2.take i)).length<=4000000):
  dO (ι:=LN (c6 x)) X 38 [Cl x] [] (λ_=>.e (.one (.bp 0 (.sl (b5 x.2).length 1 0 (c6 x).length)))) (λes=>[.buf 3 1 (b5 x.2).length es.1]):=by
 refine dO.oC Tryz.func38 rfl rfl rfl λn=>?_;refine bF [(1000002,ab)] rfl ar ?_;refine AK.Uf 3 3 1 (cI.fn []) rfl ?_;refine c9 rfl ar ?_;refine AK.bX 2 (λi=>i<=x.2.length) (λi:Nat=>[(3,.e (.one (.bp 1 (.sl (b5 (x.2.take i)).length 1 0 (b5 (x.2.take i)).length)))),(7,cL.sl x.2),(8,dI x.2.length),(9,dI i)])
  (λi=>[.cells 39 [.c (.int .i64 x.1),.c (.sl ae 2 x.2.length (cL.fn x.2))],Bi (b5 (x.2.take i)).length (b5 (x.2.take i))]) (λi=>x.2.length-i) 0 rfl ?_ rfl ?_ rfl (by omega) ?_
 .simp[b5]
 .simp[cw,b5]
 intro i hi;by_cases h:i<x.2.length
 .have f:x.2.getD (i:Int).toNat cL.bP=x.2.getD i ([],[]):=by rw[bM];rfl
  have a:=sG h;have d:=m (i+1) h;rw[a,cf]at d;refine bF [(10,ab)] rfl ?_ (AK.aQ (i+1) rfl ?_ ?_ ?_ ?_)
  .simp only[au,f,bx,show i3.bytes=8 from rfl,bq,aF,aE];and_intros<;>omega
  .simp only[au.cat,au,f,a,cf,aE,aF];and_intros<;>first|exact cw.same|rfl|omega
  .have e:=cI.Ld (b5 (x.2.take i)) (x.2.getD i ([],[])).2 _ rfl;simp only[au.cat,au,f,a,cf,aE,aF]at e⊢;exact⟨cw.same,e⟩
  .show i+1<=_;omega
  .omega
 .obtain rfl:i=x.2.length:=by omega
  rw[cC];refine bF [(10,ae)] rfl (by simp) (AK.leaveD rfl rfl ?_);refine c9 rfl ar ?_;refine AK.cQ (xp (b5 x.2) g) [1] rfl ?_;refine c9 rfl ar ?_;have k:=xq (X:=X) (kF (b5 x.2)) (by rw[ft];exact g);rw[ft]at k;refine AK.cP k [1] rfl (λ_=>rfl) ?_;rintro⟨es,b⟩;refine c9 rfl ar (AK.kP ⟨es,b⟩ (AK.dJ [1] rfl ?_ rfl rfl rfl (λj l=>absurd l (by simp))));simp[c6]
def nt(l:List gC)(i:Nat):(b5 (l.take i)).length<=(b5 l).length:=by
 have h:b5 l=b5 (l.take i)++b5 (l.drop i):=by unfold b5;grind[List.take_append_drop]
 grind
def od(l:List Int):(dZ l).length<=l.length:=sI l _
def sH(x:cg)(d:x.2.length<=4000000)(c:(b5 x.2).length<=4000000):Ev X 38 [Cl x] [] (cI.sl (c6 x)) []:=by
 have a:=yf (X:=X) x d c λi _=>dT (nt _ _) c;have b:=dO.Cb (σ1:=λ_:LN (c6 x)=>[]) (E:=3) (k:=1) (n:=λ_=>(b5 x.2).length) (es:=λes=>es.1) a (λ_=>rfl) (λ_=>?_) (λ_=>rfl) (λ_=>ba _);refine(b.le (res':=λ_=>cI.sl (c6 x)) (λ_=>rfl) (λes=>?_)).one
 .simp only[au.cat,au,aE,aF];exact es.2
 .have:(c6 x).length<=(b5 x.2).length:=by unfold c6;rw[<-ft (b5 x.2)];exact od _
  simpa using this
def Ky(s:Bs)(i:Nat)(a:b9 s=ab)(f:3<=i)(hi:i<=s.length)(j:s.length<=4000000):Ev X 230 [dS s,dI i] [] (dB (iJ s i)) []:=by
 refine Ev.bQ Tryz.func230 rfl λh=>?_;have g:=Hj a (i-1) (by omega);have k:=Hj a (i-2) (by omega);have e:=Hj a (i-3) (by omega);have c:((iL s ((i:Int)-1)).toNat:Int)=cz s (i-1):=by grind[cE]
 have b:((iL s ((i:Int)-2)).toNat:Int)=cz s (i-2):=by grind[cE]
 have d:((iL s ((i:Int)-3)).toNat:Int)=cz s (i-3):=by grind[cE]
 refine bw rfl ?_ (AK.bn rfl ?_)
 .simp only[au,bx,c,b,d];omega
 .simp only[au,au.cat,c,b,d,iJ,dl,aE];grind
abbrev Kz:dz:=n6 aS aI (λs i=>dB (iJ s i.toNat)) λs i=>[b9 s=ab,3<=i,i<=s.length,s.length<=4000000]
def RO:dK X 230 Kz:=.qK λs i h=>by
 obtain⟨a,c,d,b⟩:=h;obtain⟨m,rfl⟩:∃m:Nat,i=m:=⟨i.toNat,by omega⟩
 exact Ky s m a (by omega) (by omega) b
def RP(t:Bs)(f:Nat)(i:b9 t=ab)(l:f<=t.length)(q:t.length<=4000000):Ev X 220 [dS t,dI f] [] (dI (cutAt t f)) []:=by
 refine Ev.bQ Tryz.func220 rfl λp=>?_;have b:bG X [(230,Kz)]:=.cons RO .nil;refine bZ b rfl ar ?_;refine AK.ji (λj=>j<=5/\tr t f (5-j)=cutAt t f) (λj:Nat=>[(0,dS t),(1,dI f),(5,dI (3+j))]) (λ_=>[]) (λj=>5-j) 0 rfl ?_ rfl ar ⟨by omega,rfl⟩ ?_
 .simp
 rintro j ⟨o,a⟩;by_cases h:j<5
 .obtain⟨k,n⟩:∃k,5-j=k+1:=⟨4-j,by omega⟩
  have d:f+(7-k)=f+3+j:=by omega
  rw[n]at a;simp only[tr,d]at a;by_cases g:t.length<=f+3+j
  .rw[br g]at a;refine aR b [(7,ab),(15,ab)] rfl ?_ (AK.gI (ck.zero rfl ?_))
   .simp only[au,bx,bq,aF,aE];omega
   .simp[<-a]
  rw[a9 g]at a;have e:((f:Int)+(3+(j:Int))).toNat=f+3+j:=by omega
  cases c:iJ t (f+3+j)with
  |true =>
   rw[c,br rfl]at a;refine aR b [(7,ab),(15,ae),(22,ab)] rfl ?_ (AK.gI (ck.zero rfl ?_))
   .simp only[au,bx,e,c,i,bq,cd,aF,aE];omega
   .simp[<-a];omega
  |false =>
   rw[c,a9 (by simp)]at a;refine aR b [(7,ab),(15,ae),(22,ae)] rfl ?_ (AK.fG (j+1) rfl ?_ rfl ar ⟨by omega,by grind⟩ (by omega))
   .simp only[au,bx,e,c,i,bq,cd,aF,aE];omega
   .simp;omega
 .have e:cutAt t f=min (f+8) t.length:=by rw[<-a,show 5-j=0 by omega];rfl
  have m:bx .i64 ((min (f+8) t.length:Nat):Int):=by simp only[bx];omega
  refine aR b [(7,ae)] rfl ?_ (AK.leave rfl rfl ?_)
  .simp only[au,bx,bq,cd];omega
  refine bZ b rfl ?_ ?_
  .simp only[au,bx];omega
  refine AK.law (AE ((min (f+8) t.length:Nat):Int) rfl rfl rfl (by omega) m) rfl rfl ?_;refine bZ b rfl ar (AK.bn rfl ?_);simp[e]
abbrev UK:dz:=n6 aS aI (λs i=>dI (cutAt s i.toNat)) λs i=>[b9 s=ab,0<=i,i<=s.length,s.length<=4000000]
def XJ:dK X 220 UK:=.qK λs i h=>by
 obtain⟨a,c,d,b⟩:=h;obtain⟨m,rfl⟩:∃m:Nat,i=m:=⟨i.toNat,by omega⟩
 exact RP s m a (by omega) b
abbrev mq(t:Bs):List Int:=(AO t).map λn:Nat=>(n:Int)
def KA(t:Bs)(m:b9 t=ab)(p:t.length<=4000000):Ev X 198 [dS t] [] (cI.sl (mq t)) []:=by
 refine Ev.bQ Tryz.func198 rfl λo=>?_;have b:bG X [(220,UK)]:=.cons XJ .nil;refine aR b [(1000003,ab)] rfl ar ?_;refine AK.g6 3 3 1 rfl rfl ?_;refine bZ b rfl ar ?_;refine AK.bX 1 (λs:Nat×List Int=>s.1<=t.length/\s.2.length<=s.1/\∃k,t.length<=s.1+k/\mq t=s.2++(mr t k s.1).map λn:Nat=>(n:Int)) (λs=>[(0,dS t),(3,.e (.one (.vec 0 1 s.2.length (cI.fn s.2)))),(4,dI s.1)]) (λs=>[.vec 3 1 s.2.length (cI.fn s.2)]) (λs=>t.length-s.1) (0,[]) rfl ?_ rfl ?_ rfl ⟨by simp,by simp,t.length,by simp,by simp[mq,AO]⟩ ?_
 .simp
 .simp
 rintro⟨f,acc⟩ ⟨c,a,k,l,g⟩;simp only at c a l g;by_cases h:f<t.length
 .obtain⟨k,rfl⟩:∃k',k=k'+1:=⟨k-1,by omega⟩
  have j:=nb t f h;have d:=cI.cp acc (cutAt t f:Int);have i:acc.length+1=(acc++[(cutAt t f:Int)]).length:=by simp
  refine aR b [(9,ab)] rfl ?_ (AK.aQ (cutAt t f,acc++[(cutAt t f:Int)]) rfl ?_ ?_ ?_ ?_)
  .simp only[au,m,show i3.bytes=8 from rfl,bq,aF,aE];and_intros<;>omega
  .exact au.cat.2 ⟨rfl,au.cat.2 ⟨⟨i,d⟩,au.cat.2 ⟨rfl,ar⟩⟩⟩
  .exact au.cat.2 ⟨⟨i,d⟩,ar⟩
  .refine⟨j.2.1,by grind,k,by grind,?_⟩;rw[g];simp only[mr,br h];simp
  grind
 .have e:mq t=acc:=by
   have:mr t k f=[]:=by cases k<;>simp[mr,h]
   grind
  refine aR b [(9,ae)] rfl (by simp only[au,cd];omega) (AK.leaveD rfl rfl ?_);refine bZ b rfl ar (AK.bn rfl ?_);rw[e];simp
abbrev KB:dz:=kB aS (λt=>cI.sl (mq t)) λt=>[b9 t=ab,t.length<=4000000]
def RQ:dK X 198 KB:=.oL λt h=>KA t h.1 h.2
def drop_cons{l r:List α}{x:α}(h:l.drop i=x::r)(d:α):i<l.length/\l.getD i d=x/\l.drop (i+1)=r:=by grind[List.drop_eq_nil_of_le,List.drop_eq_getElem_cons]
def yO(t:Bs):∀k f,(mr t k f).length<=k
 |0,_=>ba _
 |k+1,f=>by
  simp only[mr];split
  .have:=yO t k (cutAt t f);grind
  .simp
def Og(t:Bs)(w:b9 t=ab)(A:t.length<=4000000):Ev X 147 [dS t] [] (cS.sl (pieces t)) []:=by
 refine Ev.bQ Tryz.func147 rfl λz=>?_;have g:bG X [(198,KB)]:=.cons RQ .nil;have y:(mq t).length<=t.length:=by simp only[mq,mJ];exact yO t _ _
 refine aR g [(1000002,ab)] rfl ar ?_;refine AK.g6 3 9 1 rfl rfl ?_;refine bZ g rfl (by simp only[au,w];grind) ?_;refine AK.bX 1 (λs:Nat×Nat×List Bs=>s.1<=(mq t).length/\s.2.1<=t.length/\s.2.2.length<=s.1/\∃k,t.length<=s.2.1+k/\(mq t).drop s.1=((mr t k s.2.1).map λn:Nat=>(n:Int))/\pieces t=s.2.2++fj t k s.2.1) (λs=>[(0,dS t),(3,.e (.one (.vec 0 1 s.2.2.length (cS.fn s.2.2)))),(4,dI s.2.1),(5,cI.sl (mq t)),(6,dI s.1)]) (λs=>[.vec 9 1 s.2.2.length (cS.fn s.2.2)]) (λs=>(mq t).length-s.1) (0,0,[]) rfl ?_ rfl ?_ rfl ⟨by simp,by simp,by simp,t.length,by simp,by simp[mq,AO],by simp[pieces]⟩ ?_
 .simp
 .simp
 rintro⟨i,f,acc⟩ ⟨hi,j,c,k,v,m,l⟩;simp only at hi j c v m l;by_cases h:i<(mq t).length
 .have d:mr t k f≠[]:=by grind[List.length_drop]
  obtain⟨k,rfl⟩:∃k',k=k'+1:=by
   cases k with
   |zero=>exact absurd rfl d
   |succ k=>grind
  have a:f<t.length:=by
   rcases cG f t.length with h|h
   .exact h
   .exact absurd (by simp only[mr,a9 (show¬f<t.length by omega)]) d
  simp only[mr,br a,jA]at m;obtain⟨_,B,g2⟩:=drop_cons m 0;have u:=nb t f a;have o:(mq t).getD (i:Int).toNat cI.bP=(cutAt t f:Int):=by grind
  have b:rY t (aa (f:Int)) (aa (cutAt t f:Int))=(t.drop f).take (cutAt t f-f):=by simp[rY,List.drop_take]
  have p:=cS.cp acc ((t.drop f).take (cutAt t f-f));have r:acc.length+1=(acc++[(t.drop f).take (cutAt t f-f)]).length:=by simp
  refine aR g [(13,ab)] rfl ?_ (AK.aQ (i+1,cutAt t f,acc++[(t.drop f).take (cutAt t f-f)]) rfl ?_ ?_ ?_ ?_)
  .simp only[au,o,bx,gA,show i9.bytes=16 from rfl,bq,aF,aE];and_intros<;>omega
  .simp only[au.cat,au,o,b,aF,aE];and_intros<;>first|exact r|exact p|exactλ_ _=>rfl|omega
  .simp only[au.cat,au,o,b,aF,aE];and_intros<;>first|exact r|exact p
  .refine⟨by grind,u.2.1,by grind,k,by grind,g2,?_⟩;rw[l];simp only[fj,br a];simp
  grind
 .have e:pieces t=acc:=by
   have q:mr t k f=[]:=by grind[List.map_eq_nil_iff]
   have a:¬f<t.length:=by
    intro x;cases k with
    |zero=>omega
    |succ k=>simp only[mr,br x]at q;cases q
   rw[l];cases k<;>simp[fj,a]
  refine aR g [(13,ae)] rfl (by simp only[au,cd];omega) (AK.leaveD rfl rfl ?_);refine bZ g rfl ar (AK.bn rfl ?_);rw[e];simp
abbrev Gh:dz:=kB aS (λt=>cS.sl (pieces t)) λt=>[b9 t=ab,t.length<=4000000]
def KC:dK X 147 Gh:=.oL λt h=>Og t h.1 h.2
def _root_.Go.AM.kh.nk(c:kh α)(l:List α)(x y:α):cw (l.length+1+1) (cT (l.length+1) (cT l.length (c.fn l) λq=>[c.enc x].getD q []) λq=>[c.enc y].getD q []) (c.fn (l++[x,y])):=by
 have h1:=c.cp l x;have h2:=c.cp (l++[x]) y;rw[show(l++[x]).length=l.length+1 by simp,show l++[x]++[y]=l++[x,y] by simp]at h2;intro q a;rw[<-h2 q a];simp only[cT];by_cases e:q<l.length+1
 .rw[br e,br e];exact h1 q e
 grind
abbrev RU(x:cv):D:=.e (.agg [.c (.int .i64 x.1),.c (.str x.2)])
def iF(x:cv)(acc:List cv×Bool)(y:cv):List cv×Bool:=if acc.2=ab then(acc.1++[y],ab)else if x.1<y.1 then(acc.1++[x,y],ab)else(acc.1++[y],ae)
def yT(x:cv):∀(l:List cv)(a:List cv),(l.foldl (iF x) (a,ab))=(a++l,ab)
 |[],a=>by simp
 |y::r,a=>by rw[iH,show iF x (a,ab) y=(a++[y],ab)from rfl,yT x r];simp
def tA(x:cv):∀(l:List cv)(a:List cv),(if(l.foldl (iF x) (a,ae)).2=ab then(l.foldl (iF x) (a,ae)).1 else(l.foldl (iF x) (a,ae)).1++[x])=a++l4 l x
 |[],a=>by simp[l4]
 |y::r,a=>by
  rw[iH];by_cases h:x.1<y.1
  .rw[show iF x (a,ae) y=(a++[x,y],ab) by simp[iF,h],yT];simp[l4,h]
  .rw[show iF x (a,ae) y=(a++[y],ae) by simp[iF,h],tA x r];simp[l4,h]
theorem yU(x:cv):∀(l:List cv)(a:List cv×Bool),(l.foldl (iF x) a).1.length<=a.1.length+l.length+1-(if a.2=ab then 1 else 0)
 |[],a=>by grind
 |y::r,a=>by rw[iH];have:=yU x r (iF x a y);unfold iF at this⊢;grind
abbrev mP(x:cv)(l:List cv)(i:Nat):List cv×Bool:=(l.take i).foldl (iF x) ([],ae)
def yV{x:cv}{l:List cv}(h:i<l.length):mP x l (i+1)=iF x (mP x l i) (l.getD i (0,[])):=by grind[bu]
def sr(x:cv)(l:List cv)(i:Nat):(mP x l i).1.length<=l.length+1:=by grind[yU]
abbrev Zi(l:List cv)(x:cv)(i:Nat)(a:List cv×Bool):Fr:=[(0,et.sl l),(3,.e (.one (.ptr 0 0))),(5,.e (.one (.vec 1 2 a.1.length (et.fn a.1)))),(6,dB a.2),(7,dI i)]
abbrev XN(x:cv)(a:List cv):List bm:=[.cells 68 [.c (.int .i64 x.1),.c (.str x.2)],.vec 68 2 a.length (et.fn a)]
def Om(l:List cv)(x:cv)(q:l.length<=4000000):Ev X 152 [et.sl l,RU x] [] (et.sl (l4 l x)) []:=by
 refine Ev.bQ Tryz.func152 rfl λp=>?_;refine bF [(1000002,ab)] rfl ar ?_;refine AK.g6 5 68 2 rfl rfl ?_;refine c9 rfl ar ?_;refine AK.bX 2 (λi=>i<=l.length) (λi:Nat=>Zi l x i (mP x l i)) (λi=>XN x (mP x l i).1) (λi=>l.length-i) 0 rfl ?_ rfl ?_ rfl (by omega) ?_
 .simp[mP]
 .simp[mP]
 intro i hi;by_cases h:i<l.length
 .have n:=yV (x:=x) h;have e:=sr x l i;have g:l.getD (i:Int).toNat et.bP=l.getD i (0,[]):=by grind
  generalize mP x l i=a at n e;obtain⟨a,b⟩:=a;simp only at e;have k:=et.cp a (l.getD i (0,[]));have m:=et.nk a x (l.getD i (0,[]));cases b with
  |true =>
   have c:mP x l (i+1)=(a++[l.getD i (0,[])],ab):=n;have j:a.length+1=(a++[l.getD i (0,[])]).length:=by simp
   refine bF [(12,ab)] rfl ?_ (AK.aQ (i+1) rfl ?_ ?_ ?_ ?_)
   .simp only[au,g,bx,show i68.bytes=24 from rfl,bq,aF,aE];and_intros<;>omega
   .rw[c];simp only[au.cat,au,g,aF,aE];and_intros<;>first|exact j|exact k|exactλ_ _=>rfl|rfl|omega
   .rw[c];simp only[au.cat,au,g,aF,aE];and_intros<;>first|exact j|exact k|exactλ_ _=>rfl|rfl|omega
   .grind
   .omega
  |false =>
   by_cases f:x.1<(l.getD i (0,[])).1
   .have c:mP x l (i+1)=(a++[x,l.getD i (0,[])],ab):=by rw[n];simp only[iF,br f];rfl
    have j:a.length+1+1=(a++[x,l.getD i (0,[])]).length:=by simp
    refine bF [(12,ab),(25,ab)] rfl ?_ (AK.aQ (i+1) rfl ?_ ?_ ?_ ?_)
    .simp only[au,g,bx,show i68.bytes=24 from rfl,f,l9,bq,aF,aE];and_intros<;>omega
    .rw[c];simp only[au.cat,au,g,aF,aE];and_intros<;>first|exact j|exact m|exactλ_ _=>rfl|rfl|omega
    .rw[c];simp only[au.cat,au,g,aF,aE];and_intros<;>first|exact j|exact m|exactλ_ _=>rfl|rfl|omega
    .grind
    .omega
   .have c:mP x l (i+1)=(a++[l.getD i (0,[])],ae):=by rw[n];simp only[iF,a9 f];rfl
    have j:a.length+1=(a++[l.getD i (0,[])]).length:=by simp
    refine bF [(12,ab),(25,ae)] rfl ?_ (AK.aQ (i+1) rfl ?_ ?_ ?_ ?_)
    .simp only[au,g,bx,show i68.bytes=24 from rfl,bq,f,kY,l6,cd,aF,aE];and_intros<;>omega
    .rw[c];simp only[au.cat,au,g,aF,aE];and_intros<;>first|exact j|exact k|exactλ_ _=>rfl|rfl|omega
    .rw[c];simp only[au.cat,au,g,aF,aE];and_intros<;>first|exact j|exact k|exactλ_ _=>rfl|rfl|omega
    .grind
    .omega
 .obtain rfl:i=l.length:=by omega
  have d:=tA x l [];have e:=sr x l l.length;refine bF [(12,ae)] rfl (by simp) (AK.leaveD rfl rfl ?_);have o:mP x l l.length=l.foldl (iF x) ([],ae):=by grind
  rw[o]at e⊢;generalize l.foldl (iF x) ([],ae)=a at *;obtain⟨a,b⟩:=a;simp only[uT]at d e;cases b with
  |true =>
   simp only[bY]at d;subst d;exact c9 rfl ar (AK.bn rfl)
  |false =>
   simp only[gO,bS]at d;have k:=et.cp a x;refine c9 rfl ?_ (AK.bn rfl ?_)
   .simp only[au,show i68.bytes=24 from rfl,aF,aE];grind
   .rw[<-d];simp only[au.cat,au,aF,aE];and_intros<;>first|exact k|simp
abbrev PW:dz:=n6 (aL et) SX (λl x=>et.sl (l4 l x)) λl _=>[l.length<=4000000]
def UR:dK X 152 PW:=.qK λl x h=>Om l x h
abbrev XO(x:dA):D:=.e (.agg [.c (.int .i64 x.1),.c (.int .i64 x.2)])
def eL(x:dA)(acc:List dA×Bool)(y:dA):List dA×Bool :=
 if acc.2=ab then(if y.1=x.1 then acc else(acc.1++[y],ab))else if x.1<=y.1 then(if y.1=x.1 then(acc.1++[x],ab)else(acc.1++[x,y],ab))else(acc.1++[y],ae)
def qv(x:dA):∀(l:List dA)(a:List dA),(l.foldl (eL x) (a,ab))=(a++l.filter λz=>!(z.1==x.1),ab)
 |[],a=>by simp
 |y::r,a=>by
  rw[iH];by_cases h:y.1=x.1
  .rw[show eL x (a,ab) y=(a,ab) by simp[eL,h],qv x r];simp[h]
  .rw[show eL x (a,ab) y=(a++[y],ab) by simp[eL,h],qv x r];simp[h]
def yW(x:dA):∀(l:List dA)(a:List dA),(if(l.foldl (eL x) (a,ae)).2=ab then(l.foldl (eL x) (a,ae)).1 else(l.foldl (eL x) (a,ae)).1++[x])=a++rm l x
 |[],a=>by simp[rm]
 |y::r,a=>by
  rw[iH];by_cases h:x.1<=y.1
  .have c:¬y.1<x.1:=by omega
   by_cases b:y.1=x.1
   .rw[show eL x (a,ae) y=(a++[x],ab) by simp[eL,b],qv];simp[rm,b]
   .rw[show eL x (a,ae) y=(a++[x,y],ab) by simp[eL,h,b],qv];simp[rm,c,b]
  .have c:y.1<x.1:=by omega
   rw[show eL x (a,ae) y=(a++[y],ae) by simp[eL,h],yW x r];simp[rm,c]
theorem yX(x:dA):∀(l:List dA)(a:List dA×Bool),(l.foldl (eL x) a).1.length<=a.1.length+l.length+1-(if a.2=ab then 1 else 0)
 |[],a=>by grind
 |y::r,a=>by
  rw[iH];have c:=yX x r (eL x a y);obtain⟨a,b⟩:=a;simp only[fQ];cases b with
  |true =>
   by_cases d:y.1=x.1
   .rw[show eL x (a,ab) y=(a,ab) by simp[eL,d]]at c⊢;grind
   .rw[show eL x (a,ab) y=(a++[y],ab) by simp[eL,d]]at c⊢;grind
  |false =>
   by_cases h:x.1<=y.1
   .by_cases d:y.1=x.1
    .rw[show eL x (a,ae) y=(a++[x],ab) by simp[eL,d]]at c⊢;grind
    .rw[show eL x (a,ae) y=(a++[x,y],ab) by simp[eL,h,d]]at c⊢;grind
   .rw[show eL x (a,ae) y=(a++[y],ae) by simp[eL,h]]at c⊢;grind
abbrev ss(x:dA)(l:List dA)(i:Nat):List dA×Bool:=(l.take i).foldl (eL x) ([],ae)
def Hz{x:dA}{l:List dA}(h:i<l.length):ss x l (i+1)=eL x (ss x l i) (l.getD i (0,0)):=by grind[bu]
def Ct(x:dA)(l:List dA)(i:Nat):(ss x l i).1.length<=l.length+1:=by grind[yX]
abbrev p4F(l:List dA)(x:dA)(i:Nat)(a:List dA×Bool):Fr:=[(0,oM.sl l),(3,.e (.one (.ptr 0 0))),(5,.e (.one (.vec 1 2 a.1.length (oM.fn a.1)))),(6,dB a.2),(7,dI i)]
abbrev p4B(x:dA)(a:List dA):List bm:=[.cells 189 [.c (.int .i64 x.1),.c (.int .i64 x.2)],.vec 189 2 a.length (oM.fn a)]
def On(l:List dA)(x:dA)(q:l.length<=4000000):Ev X 151 [oM.sl l,XO x] [] (oM.sl (rm l x)) []:=by
 refine Ev.bQ Tryz.func151 rfl λp=>?_;refine bF [(1000002,ab)] rfl ar ?_;refine AK.g6 5 189 2 rfl rfl ?_;refine c9 rfl ar ?_;refine AK.bX 2 (λi=>i<=l.length) (λi:Nat=>p4F l x i (ss x l i)) (λi=>p4B x (ss x l i).1) (λi=>l.length-i) 0 rfl ?_ rfl ?_ rfl (by omega) ?_
 .simp[ss]
 .simp[ss]
 intro i hi;by_cases h:i<l.length
 .have n:=Hz (x:=x) h;have k:=Ct x l i;have f:l.getD (i:Int).toNat oM.bP=l.getD i (0,0):=by grind
  generalize ss x l i=a at n k;obtain⟨a,b⟩:=a;simp only at k;have j:=oM.cp a (l.getD i (0,0));have m:=oM.cp a x;have d:=oM.nk a x (l.getD i (0,0));cases b with
  |true =>
   by_cases heq:(l.getD i (0,0)).1=x.1
   .have c:ss x l (i+1)=(a,ab):=by rw[n];simp only[eL,bY,br heq]
    refine bF [(12,ab),(38,ae)] rfl ?_ (AK.aQ (i+1) rfl ?_ ?_ ?_ ?_)
    .simp only[au,f,bx,show i189.bytes=16 from rfl,bq,cd,iZ,rD,gy,eW,pY,cU,heq,fe,l6,jW,kL,mG,l9,kY,aF,aE];and_intros<;>omega
    .rw[c];simp only[au.cat,au,f,aF,aE];and_intros<;>first|exact j|exact m|exact d|exactλ_ _=>rfl|rfl|omega|simp
    .rw[c];simp only[au.cat,au,f,aF,aE];and_intros<;>first|exact j|exact m|exact d|exactλ_ _=>rfl|rfl|omega|simp
    .grind
    .omega
   .have c:ss x l (i+1)=(a++[l.getD i (0,0)],ab):=by rw[n];simp only[eL,bY,a9 heq]
    refine bF [(12,ab),(38,ab)] rfl ?_ (AK.aQ (i+1) rfl ?_ ?_ ?_ ?_)
    .simp only[au,f,bx,show i189.bytes=16 from rfl,bq,cd,iZ,rD,gy,eW,pY,cU,heq,fe,l6,jW,kL,mG,l9,kY,aF,aE];and_intros<;>omega
    .rw[c];simp only[au.cat,au,f,aF,aE];and_intros<;>first|exact j|exact m|exact d|exactλ_ _=>rfl|rfl|omega|simp
    .rw[c];simp only[au.cat,au,f,aF,aE];and_intros<;>first|exact j|exact m|exact d|grind|rfl|omega|simp
    .grind
    .omega
  |false =>
   by_cases g:x.1<=(l.getD i (0,0)).1
   .by_cases heq:(l.getD i (0,0)).1=x.1
    .have c:ss x l (i+1)=(a++[x],ab):=by rw[n];simp only[eL,br g,br heq];rfl
     refine bF [(12,ab),(25,ab),(38,ae)] rfl ?_ (AK.aQ (i+1) rfl ?_ ?_ ?_ ?_)
     .simp only[au,f,bx,show i189.bytes=16 from rfl,bq,cd,iZ,rD,gy,eW,pY,cU,g,heq,fe,l6,jW,kL,mG,l9,kY,aF,aE];and_intros<;>omega
     .rw[c];simp only[au.cat,au,f,aF,aE];and_intros<;>first|exact j|exact m|exact d|exactλ_ _=>rfl|rfl|omega|simp
     .rw[c];simp only[au.cat,au,f,aF,aE];and_intros<;>first|exact j|exact m|exact d|grind|rfl|omega|simp
     .grind
     .omega
    .have c:ss x l (i+1)=(a++[x,l.getD i (0,0)],ab):=by rw[n];simp only[eL,br g,a9 heq];rfl
     refine bF [(12,ab),(25,ab),(38,ab)] rfl ?_ (AK.aQ (i+1) rfl ?_ ?_ ?_ ?_)
     .simp only[au,f,bx,show i189.bytes=16 from rfl,bq,cd,iZ,rD,gy,eW,pY,cU,g,heq,fe,l6,jW,kL,mG,l9,kY,aF,aE];and_intros<;>omega
     .rw[c];simp only[au.cat,au,f,aF,aE];and_intros<;>first|exact j|exact m|exact d|exactλ_ _=>rfl|rfl|omega|simp
     .rw[c];simp only[au.cat,au,f,aF,aE];and_intros<;>first|exact j|exact m|exact d|grind|rfl|omega|simp
     .grind
     .omega
   .have heq:¬(l.getD i (0,0)).1=x.1:=by omega
    have c:ss x l (i+1)=(a++[l.getD i (0,0)],ae):=by rw[n];simp only[eL,a9 g];rfl
    refine bF [(12,ab),(25,ae),(38,ab)] rfl ?_ (AK.aQ (i+1) rfl ?_ ?_ ?_ ?_)
    .simp only[au,f,bx,show i189.bytes=16 from rfl,bq,cd,iZ,rD,gy,eW,pY,cU,g,heq,fe,l6,jW,kL,mG,l9,kY,aF,aE];and_intros<;>omega
    .rw[c];simp only[au.cat,au,f,aF,aE];and_intros<;>first|exact j|exact m|exact d|exactλ_ _=>rfl|rfl|omega|simp
    .rw[c];simp only[au.cat,au,f,aF,aE];and_intros<;>first|exact j|exact m|exact d|grind|rfl|omega|simp
    .grind
    .omega
 .obtain rfl:i=l.length:=by omega
  have e:=yW x l [];have k:=Ct x l l.length;refine bF [(12,ae)] rfl (by simp) (AK.leaveD rfl rfl ?_);have o:ss x l l.length=l.foldl (eL x) ([],ae):=by grind
  rw[o]at k⊢;generalize l.foldl (eL x) ([],ae)=a at *;obtain⟨a,b⟩:=a;simp only[uT]at e k;cases b with
  |true =>
   simp only[bY]at e;subst e;exact c9 rfl ar (AK.bn rfl)
  |false =>
   simp only[gO,bS]at e;have j:=oM.cp a x;refine c9 rfl ?_ (AK.bn rfl ?_)
   .simp only[au,show i189.bytes=16 from rfl,aF,aE];grind
   .rw[<-e];simp only[au.cat,au,aF,aE];and_intros<;>first|exact j|simp
abbrev PX:dz:=n6 (aL oM) VP (λl x=>oM.sl (rm l x)) λl _=>[l.length<=4000000]
def US:dK X 151 PX:=.qK λl x h=>On l x h
abbrev AP(p:bc):List dA:=p.2.map λx=>(x.1,p.1)
def tB(l:List bc)(i j:Nat):List dA:=eT (l.take i)++(AP (l.getD i (0,[]))).take j
def wW{l:List bc}(h:i<l.length):eT (l.take (i+1))=eT (l.take i)++AP (l.getD i (0,[])):=by rw[bu h (0,[])];simp[eT]
theorem KI(l:List bc)(i:Nat):(eT (l.take i)).length<=(eT l).length:=by
 have h:eT l=eT (l.take i)++eT (l.drop i):=by unfold eT;grind[List.take_append_drop]
 grind
def Cu{l:List bc}(h:i<l.length):∃r,eT l=tB l i j++r:=by
 have a:eT l=eT (l.take (i+1))++eT (l.drop (i+1)):=by unfold eT;grind[List.take_append_drop]
 refine⟨(AP (l.getD i (0,[]))).drop j++eT (l.drop (i+1)),?_⟩;rw[a,wW h,tB,jV,jV];grind[List.take_append_drop]
theorem KJ(l:List dA)(x:dA):(rm l x).length<=l.length+1:=by
 induction l with
 |nil=>simp[rm]
 |cons y r a =>
  simp only[rm];grind
theorem yR(l:List dA):∀a:List dA,(l.foldl rm a).length<=a.length+l.length:=by
 induction l with
 |nil=>grind
 |cons y r b=>grind[KJ]
def EI(l:List bc)(x:l.length<=4000000)(y:(eT l).length<=100000):Ev X 107 [cP.sl l] [] (oM.sl (indexOf l)) []:=by
 refine Ev.bQ Tryz.func107 rfl λw=>?_;have a:bG X [(150,Kx),(151,PX)]:=.cons RN (.cons US .nil);refine cN a rfl ar ?_;refine AK.bX 0 (λi=>i<=l.length/\(eT (l.take i)).all kQ=ab) (λi:Nat=>[(0,cP.sl l),(3,oM.sl ((eT (l.take i)).foldl rm [])),(4,dI i)]) (λ_=>[]) (λi=>l.length-i) 0 rfl ?_ rfl ?_ rfl ⟨by omega,rfl⟩ ?_
 .simp[eT]
 .simp
 rintro i ⟨hi,b⟩;by_cases h:i<l.length
 .have e:l.getD (i:Int).toNat cP.bP=l.getD i (0,[]):=by grind
  have m:=wW h;refine bt a [(11,ab)] rfl (by simp only[au,bq];omega) ?_;refine AK.bX 0 (λj=>j<=(l.getD i (0,[])).2.length/\(tB l i j).all kQ=ab) (λj:Nat=>[(0,cP.sl l),(3,oM.sl ((tB l i j).foldl rm [])),(4,dI i),(5,dI j)]) (λ_=>[]) (λj=>(l.getD i (0,[])).2.length-j) 0 rfl ?_ rfl ?_ rfl ⟨by omega,by simpa[tB]using b⟩ ?_
  .simp[tB]
  .simp
  rintro j ⟨u,o⟩;obtain⟨r,t⟩:=Cu (l:=l) (j:=j) h;have k:(tB l i j).length<=100000:=by grind
  have f:=yR (tB l i j) [];simp only[jz]at f;have p:(l.getD i (0,[])).2.length<=100000:=by grind[KI]
  by_cases v:j<(l.getD i (0,[])).2.length
  .have c:(l.getD i (0,[])).2.getD (j:Int).toNat et.bP=(l.getD i (0,[])).2.getD j (0,[]):=by grind
   have n:tB l i (j+1)=tB l i j++[(((l.getD i (0,[])).2.getD j (0,[])).1,(l.getD i (0,[])).1)]:=by unfold tB;rw[jV];congr 1;rw[bu (by grind) (0,0)];grind
   cases d:kQ (((l.getD i (0,[])).2.getD j (0,[])).1,(l.getD i (0,[])).1)with
   |false =>
    have s:indexOf l=[]:=by obtain⟨r,t⟩:=Cu (l:=l) (j:=j+1) h;unfold indexOf;rw[a9];grind
    refine bt a [(21,ab),(40,ae)] rfl ?_ (AK.eY (ck.zero rfl ?_))
    .simp only[au,e,c,d,bq,aF,aE];and_intros<;>omega
    .rw[s];simp
   |true =>
    refine bt a [(21,ab),(40,ab)] rfl ?_ (AK.aQ (j+1) rfl ?_ ?_ ?_ ?_)
    .simp only[au,e,c,d,bx,oM.list_fn,bq,aF,aE];and_intros<;>first|exact oM.aJ _|omega
    .rw[n];simp only[uQ,iH,List.foldl_nil,au.cat,au,e,c,oM.list_fn,aF,aE];and_intros<;>first|exactλ_ _=>rfl|rfl|omega
    .simp
    .grind
    .omega
  .have q:j=(l.getD i (0,[])).2.length:=by omega
   have g:tB l i j=eT (l.take (i+1)):=by rw[m,tB];grind[List.length_map]
   refine bt a [(21,ae)] rfl ?_ (AK.leaveD rfl rfl ?_)
   .simp only[au,e,cd];and_intros<;>omega
   refine cN a rfl ?_ (AK.aQ (i+1) rfl ?_ ?_ ?_ ?_)
   .simp only[au,bx];omega
   .rw[g];simp
   .simp
   .grind
   .omega
 .obtain rfl:i=l.length:=by omega
  rw[cC]at b⊢;refine bt a [(11,ae)] rfl (by simp) (AK.leaveD rfl rfl ?_);refine cN a rfl ar (AK.bn rfl ?_);simp[indexOf,b]
abbrev KL:dz:=kB (aL cP) (λl=>oM.sl (indexOf l)) λl=>[l.length<=4000000,(eT l).length<=100000]
def RV:dK X 107 KL:=.oL λl h=>EI l h.1 h.2
abbrev wX:dz:=n6 aI aS (λk p=>dI (gp k p)) λk p=>[cJ k=ab,bJ p=ab]
abbrev Gi:dz:=kB aS (λp=>dS (gq p)) λp=>[bJ p=ab]
def KM:dK X 153 Gi:=.oL λp h=>Of p h
theorem KN(l:List cv)(x:cv):(l4 l x).length=l.length+1:=by
 induction l with
 |nil=>simp[l4]
 |cons y r a=>simp only[l4];split<;>simp[a]
def xQ(k:Int)(ps:List Bs):List cv:=ps.foldl (λl p=>l4 l (gp k p,gq p)) []
theorem AQ(k:Int)(ps:List Bs):(xQ k ps).length=ps.length:=by
 have h:∀(ps:List Bs) (a:List cv),(ps.foldl (λl p=>l4 l (gp k p,gq p)) a).length=a.length+ps.length:=by
  intro ps;induction ps with
  |nil=>grind
  |cons p r b=>grind[KN]
 have:=h ps [];rw[jz,bA]at this;exact this
def KO{k:Int}{ps:List Bs}(h:i<ps.length):xQ k (ps.take (i+1))=l4 (xQ k (ps.take i)) (gp k (ps.getD i []),gq (ps.getD i [])):=by unfold xQ;grind[bu]
abbrev pkB(no:Int)(l:List cv):bm:=.cells 43 [.c (.int .i64 no),.c (.sl ae 2 l.length (et.fn l))]
def HF(p:Bs):Ev X 200 [dS p] [] (dB (bJ p)) []:=by
 refine Ev.bQ Tryz.func200 rfl λb=>?_;have a:bG X [(56,EH),(155,Ot)]:=.cons Hu (.cons t155 .nil);by_cases h:1<=p.length/\p.length<=8
 .refine aR a [(6,ab)] rfl ?_ (AK.bn rfl ?_)
  .simp;omega
  .simp[bJ,h.1,h.2]
 .refine aR a [(6,ae)] rfl ?_ (AK.bn rfl ?_)
  .simp;omega
  .have:bJ p=ae:=by simp only[bJ,<-Bool.decide_and,gx h,rI]
   simp[this]
abbrev Gk:dz:=kB aS (λp=>dB (bJ p)) λ_=>[]
def Ou:dK X 200 Gk:=.oL λp _=>HF p
def HG(p:Bs):Ev X 156 [dS p] [] (dS (gq p)) []:=by
 refine Ev.bQ Tryz.func156 rfl λb=>?_;have a:bG X [(200,Gk),(153,Gi)]:=.cons Ou (.cons KM .nil);cases h:bJ p with
 |true=>exact aR a [(5,ae)] rfl (by simp[h]) (AK.bn rfl)
 |false=>exact aR a [(5,ab)] rfl (by simp[h]) (AK.bn rfl (by simp[gq,h]))
abbrev Gl:dz:=kB aS (λp=>dS (gq p)) λ_=>[]
def Ov:dK X 156 Gl:=.oL λp _=>HG p
def HH(p:Bs):(gq p).length<=8:=by
 unfold gq;split
 .rename_i h;simp only[bJ,bR,bq]at h;grind[wT]
 .simp
def CN(b:Bs):Ev X 115 [dS b] [] (AB (eQ b)) []:=by
 refine Ev.bQ Tryz.func115 rfl λr=>?_;have p:=r.str 0 rfl;have k:bG X [(156,Gl)]:=.cons Ov .nil;refine bw rfl ar ?_;have fin:∀n,n<=b.length->strip (b.take n)=strip b->(n=0∨strip (b.take n)=b.take n)->b.take n=strip b:=λn a h g=>by
  rcases g with rfl|g
  .simpa[strip]using h
  grind
 have rest:∀n,n<=b.length->b.take n=strip b->eQ b=if b.length<=8/\gq (strip b)=b/\n≠0 then aa (b.take n)else af:=λn a h=>by
  have t:=HH (strip b);have o:n=0↔strip b=[]:=by grind[List.take_eq_nil_iff]
  unfold eQ;rw[h];by_cases d:gq (strip b)=b
  .by_cases m:bJ (strip b)=ab
   .have:n≠0:=λq=>by rw[o.1 q]at m;cases m
    grind
   .have q:n=0:=o.2 (by rw[gq,a9 m]at d;grind);grind
  grind
 refine AK.kA (S2:=Nat) 0 rfl rfl (λn=>n<=b.length/\b.take n=strip b) (λn=>[(0,dS b),(4,dI n)]) (λ_=>[]) 0 (λn=>n<=b.length/\strip (b.take n)=strip b) (λn:Nat=>[(0,dS b),(4,dI n)]) (λ_=>[]) (λn=>n) b.length rfl (by simp) rfl ar rfl ⟨by omega,by simp⟩ ?_ ?_
 .rintro out n ⟨a,c⟩;rcases n with _|n
  .refine aX [(9,ae),(15,ae)] rfl (by simp) (AK.leaveD rfl rfl ?_);exact out 0 ⟨a,fin 0 a c (.inl rfl)⟩ rfl (by simp) rfl ar
  have o:=wG (s:=b) (n:=n) (by omega);have f:((n:Int)+1-1).toNat=n:=by omega
  by_cases g:b.getD n 0=46
  .refine aX [(9,ab),(15,ab)] rfl ?_ (AK.aQ n rfl ?_ ar ⟨by omega,?_⟩ (by omega))
   .have d:cz b n=46:=by unfold cz;rw[g];rfl
    simp[-ai,cE,f,d,bx];omega
   .simp
   grind
  .refine aX [(9,ab),(15,ae)] rfl ?_ (AK.leaveD rfl rfl ?_)
   .have d:cz b n≠46:=by unfold cz;intro e;exact g (pW.1 (by grind))
    simp[-ai,cE,f,d,bx];omega
   .exact out (n+1) ⟨a,fin _ a c (.inr (by grind))⟩ rfl (by simp) rfl ar
 rintro n ⟨a,l⟩;have j:=rest n a l;have i:rY b af (aa (n:Int))=strip b:=l▸rfl;have hi:((b.length:Int)<=8)↔b.length<=8:=by omega
 by_cases c1:b.length<=8
 .by_cases c2:gq (strip b)=b
  .by_cases c3:n=0
   .refine aR k [(21,ae),(29,ae),(32,ab)] rfl ?_ (AK.bn rfl ?_)
    .subst c3;simp only[au,i,c2];grind
    .simp[j,c3]
   .refine aR k [(21,ae),(29,ae),(32,ae)] rfl ?_ (AK.bn rfl ?_)
    .simp[i,hi,c1,c2,c3,a]
    .simp[j,i,l,c1,c2,c3]
  .refine aR k [(21,ae),(29,ab),(32,ab)] rfl ?_ (AK.bn rfl ?_)
   .simp[i,hi,c1,c2,a]
   .simp[j,c2]
 .refine aR k [(21,ab),(29,ab),(32,ab)] rfl ?_ (AK.bn rfl ?_)
  .simp;omega
  .simp[j,c1]
abbrev tD:dz:=kB aS (λb=>AB (eQ b)) λ_=>[]
def y0:dK X 115 tD:=.oL λb _=>CN b
def HI(k:Int)(x:cv)(c:cJ k=ab):Ev X 90 [dI k,Xs x] [] (dB (right k x)) []:=by
 refine Ev.bQ Tryz.func90 rfl λd=>?_;have b:bG X [(115,tD),(116,wX)]:=.cons y0 (.cons wS .nil);cases a:eQ x.2 with
 |none=>exact aR b [(14,ae)] rfl (by simp[a]) (AK.bn rfl (by simp[right,a]))
 |some p=>exact aR b [(14,ab)] rfl (by simp[a,c,wJ a]) (AK.bn rfl (by simp[right,a]))
abbrev AS:dz:=n6 aI SX (λk x=>dB (right k x)) λk _=>[cJ k=ab]
def Gm:dK X 90 AS:=.qK λk x h=>HI k x h
def Ow(k:Int):Ev X 58 [dI k] [] (dB (cJ k)) []:=by refine Ev.bQ Tryz.func58 rfl λb=>?_;have a:bG X [(56,EH)]:=.cons Hu .nil;exact bZ a rfl ar (AK.bn rfl (by simp[cJ]))
abbrev CO:dz:=kB aI (λk=>dB (cJ k)) λ_=>[]
def Gn:dK X 58 CO:=.oL λk _=>Ow k
abbrev Ox(p:bc):bm:=.cells 43 [.c (.int .i64 p.1),.c (sP p)]
def CP(k:Int)(p:bc)(n:Int):Ev X 158 [dI k,xP p,dI n] [] (AB (dv k p n)) []:=by
 refine Ev.bQ Tryz.func158 rfl λo=>?_;have c:bG X [(58,CO),(90,AS),(115,tD)]:=.cons Gn (.cons Gm (.cons y0 .nil));cases f:cJ k with
 |false =>
  refine aR c [(11,ab)] rfl (by simp[f]) (AK.bn rfl ?_);have:dv k p n=af:=by unfold dv chunk;grind
  simp[this]
 |true =>
 have m:=o.P0 1 rfl 1 rfl;refine aR c [(11,ae)] rfl (by simp[f]) ?_;refine AK.bX 1 (λi=>i<=p.2.length/\p.2.find? (λx=>x.1==n)=(p.2.drop i).find? (λx=>x.1==n)) (λi:Nat=>[(0,dI k),(4,.e (.one (.ptr 0 0))),(2,dI n),(8,dI i)]) (λ_=>[Ox p]) (λi=>p.2.length-i) 0 rfl (by simp) rfl (by simp) rfl ⟨by omega,rfl⟩ ?_;rintro i ⟨hi,a⟩;by_cases h:i<p.2.length
 .have g:p.2.getD i et.bP=fU p i:=rfl;have l:p.2.drop i=fU p i::p.2.drop (i+1):=by grind[List.drop_eq_getElem_cons]
  rw[l,List.find?_cons]at a;by_cases d:(fU p i).1=n
  .rw[show((fU p i).1==n)=ab by grind]at a;cases j:right k (fU p i)with
   |false =>
    have b:right k (n,(fU p i).2)=ae:=d▸j;refine aR c [(16,ab),(26,ab),(34,ab)] rfl ?_ (AK.eY (ck.zero rfl ?_))
    .simp[-ai,g,d,b,f,h]
    .have e:dv k p n=af:=by have:=ri (k:=k) (x:=fU p i) f;rw[j]at this;simp only[dv,a];simpa using this
     simp[e]
   |true =>
    have b:right k (n,(fU p i).2)=ab:=d▸j;refine aR c [(16,ab),(26,ab),(34,ae)] rfl ?_ (AK.eY (ck.zero rfl ?_))
    .simp[-ai,g,d,b,f,h]
    .have e:dv k p n=eQ (fU p i).2:=by simp only[dv,a,chunk];unfold right at j;grind
     simp[-ai,e,g]
  .rw[show((fU p i).1==n)=ae by grind]at a;refine aR c [(16,ab),(26,ae)] rfl ?_ (AK.aQ (i+1) rfl (by simp) (by simp) ⟨h,a⟩ (by omega));simp[-ai,g,d,bx,h];omega
 .obtain rfl:i=p.2.length:=by omega
  refine aR c [(16,ae)] rfl (by simp) (AK.leaveD rfl rfl ?_);refine bZ c rfl ar (AK.bn rfl ?_);simp[dv,a]
abbrev Gp:dz:=Ek aI (Dv et) aI (λk p n=>AB (dv k p n)) λ_ _ _=>[]
def Oy:dK X 158 Gp:=.J7 λk p n _=>CP k p n
theorem pC(k:Int)(p:bc):jd k p=(decide (1<=p.1/\p.1<=99)&&cJ k&&decide (1<=p.2.length/\p.2.length<=4)&&(bk p.2.length).all (iE k p)):=by grind[tv]
def HJ{k:Int}{p:bc}(a:i≠0):iE k p i=(right k (fU p i)&&decide ((fU p (i-1)).1<(fU p i).1)):=by unfold iE;grind
def EK(k:Int)(p:bc):Ev X 55 [dI k,xP p] [] (dB (jd k p)) []:=by
 refine Ev.bQ Tryz.func55 rfl λo=>?_;have b:bG X [(56,EH),(58,CO),(90,AS)]:=.cons Hu (.cons Gn (.cons Gm .nil));have l:=o.P0 1 rfl 1 rfl;rw[pC];by_cases c1:1<=p.1/\p.1<=99
 rotate_left
 .exact aR b [(10,ab),(14,ab),(21,ab)] rfl (by simp;omega) (AK.bn rfl (by simp[gx c1]))
 cases c:cJ k
 .exact aR b [(10,ae),(14,ab),(21,ab)] rfl (by simp[c,c1]) (AK.bn rfl)
 by_cases c3:1<=p.2.length/\p.2.length<=4
 rotate_left
 .exact aR b [(10,ae),(14,ae),(21,ab)] rfl (by simp[c,c1];omega) (AK.bn rfl (by simp[gx c3]))
 refine aR b [(10,ae),(14,ae),(21,ae)] rfl (by simp[c,c1];omega) ?_;rw[dc c1,dc c3,fC,fC,fC];refine AK.bX 1 (λi=>i<=p.2.length/\∀j,j<i->iE k p j=ab) (λi:Nat=>[(0,dI k),(3,.e (.one (.ptr 0 0))),(5,dI i)]) (λ_=>[Ox p]) (λi=>p.2.length-i) 0 rfl (by simp) rfl (by simp) rfl ⟨by omega,by omega⟩ ?_;rintro i ⟨hi,a⟩;by_cases h:i<p.2.length
 .have g:p.2.getD i et.bP=fU p i:=rfl;cases d:right k (fU p i)with
  |false =>
   refine aR b [(26,ab),(37,ab),(56,ab)] rfl ?_ (AK.eY (ck.zero rfl ?_))
   .simp[-ai,g,d,c,h]
   .rw[fV h (by simp only[iE,d,rI])];simp
  |true =>
   by_cases m:i=0
   .subst m;refine aR b [(26,ab),(37,ae),(40,ae),(56,ae)] rfl ?_ (AK.aQ 1 rfl (by simp) (by simp) ⟨h,g8 a (by simp only[iE,d,fC];rfl)⟩ (by omega));simp[-ai,g,d,c,h,bx]
   have f:p.2.getD (i-1) et.bP=fU p (i-1):=rfl;have q:=HJ (k:=k) (p:=p) m;by_cases n:(fU p (i-1)).1<(fU p i).1
   .refine aR b [(26,ab),(37,ae),(40,ab),(54,ae),(56,ae)] rfl ?_ (AK.aQ (i+1) rfl (by simp) (by simp) ⟨h,g8 a (by grind)⟩ (by omega));simp[-ai,g,f,d,c,h,n,bx];omega
   .refine aR b [(26,ab),(37,ae),(40,ab),(54,ab),(56,ab)] rfl ?_ (AK.eY (ck.zero rfl ?_))
    .simp[-ai,g,f,d,c,h,bx];omega
    .rw[fV h (by grind)];simp
 .obtain rfl:i=p.2.length:=by omega
  refine aR b [(26,ae)] rfl (by simp) (AK.leaveD rfl rfl ?_);exact bZ b rfl ar (AK.bn rfl (by simp[di.2 a]))
abbrev CQ:dz:=n6 aI (Dv et) (λk p=>dB (jd k p)) λ_ _=>[]
def KY:dK X 55 CQ:=.qK λk p _=>EK k p
def gM{l:List α}{d:α}(h:i<l.length):l.getD i d∈l:=by grind
def Oz{l:List Int}{n:Int}:l.contains n=!(bk l.length).all λi=>!(l.getD i 0==n):=by rw[pX,iZ,<-l8,di,zu];grind[List.mem_iff_getElem]
def OB(l:List Int)(n:Int):Ev X 26 [cI.sl l,dI n] [] (dB (l.contains n)) []:=by
 refine Ev.bQ Tryz.func26 rfl λe=>?_;have b:=e.sl 0 rfl;refine bw rfl ar ?_;rw[Oz];refine AK.ji (λi=>i<=l.length/\∀j,j<i->(!(l.getD j 0==n))=ab) (λi:Nat=>[(0,cI.sl l),(1,dI n),(5,dI i)]) (λ_=>[]) (λi=>l.length-i) 0 rfl (by simp) rfl ar ⟨by omega,by omega⟩ ?_;rintro i ⟨hi,a⟩;by_cases h:i<l.length
 .have c:l.getD i cI.bP=l.getD i 0:=rfl;by_cases d:l.getD i 0=n
  .refine aX [(9,ab),(17,ab)] rfl ?_ (AK.gI (ck.zero rfl ?_))
   .simp[-ai,c,d,h]
   .rw[fV h (by grind)];simp
  .refine aX [(9,ab),(17,ae)] rfl ?_ (AK.fG (i+1) rfl (by simp) rfl ar ⟨h,g8 a (by grind)⟩ (by omega));simp[-ai,c,d,h,bx];omega
 .obtain rfl:i=l.length:=by omega
  refine aX [(9,ae)] rfl (by simp) (AK.leave rfl rfl ?_);exact bw rfl ar (AK.bn rfl (by rw[di.2 a];simp))
abbrev KZ:dz:=n6 (aL cI) aI (λl n=>dB (l.contains n)) λ_ _=>[]
def P1:dK X 26 KZ:=.qK λl n _=>OB l n
def EL(k:Int)(ps:List bc)(n:Int):Ev X 117 [dI k,cP.sl ps,dI n] [] (AB (cY k ps n)) []:=by
 refine Ev.bQ Tryz.func117 rfl λg=>?_;have f:=g.sl 1 rfl;have e:bG X [(158,Gp)]:=.cons Oy .nil;refine bZ e rfl ar ?_;refine AK.ji (λi=>i<=ps.length/\cY k ps n=cY k (ps.drop i) n) (λi:Nat=>[(0,dI k),(1,cP.sl ps),(2,dI n),(8,dI i)]) (λ_=>[]) (λi=>ps.length-i) 0 rfl (by simp) rfl ar ⟨by omega,rfl⟩ ?_;rintro i ⟨hi,a⟩;by_cases h:i<ps.length
 .have c:ps.drop i=ps.getD i (0,[])::ps.drop (i+1):=by grind[List.drop_eq_getElem_cons]
  have d:((ps.getD i cP.bP).1,et.list (ps.getD i cP.bP).2.length (et.fn (ps.getD i cP.bP).2))=ps.getD i (0,[]):=by rw[et.list_fn];rfl
  rw[c,show cY k (ps.getD i (0,[])::ps.drop (i+1)) n=_ from List.findSome?_cons]at a;cases b:dv k (ps.getD i (0,[])) n with
  |some q =>
   rw[b]at a;refine aR e [(14,ab),(27,ab)] rfl ?_ (AK.gI (ck.zero rfl ?_))
   .simp[-ai,d,b,h,et.aJ]
   .simp[-ai,d,b,a]
  |none =>
   rw[b]at a;refine aR e [(14,ab),(27,ae)] rfl ?_ (AK.fG (i+1) rfl (by simp) rfl ar ⟨h,a⟩ (by omega));simp[-ai,d,b,h,bx,et.aJ];omega
 .obtain rfl:i=ps.length:=by omega
  refine aX [(14,ae)] rfl (by simp) (AK.leave rfl rfl ?_);exact bw rfl ar (AK.bn rfl (by rw[a,rF];simp[cY]))
abbrev CR:dz:=Ek aI (aL cP) aI (λk ps n=>AB (cY k ps n)) λ_ _ _=>[]
def K1:dK X 117 CR:=.J7 λk ps n _=>EL k ps n
def K2(a b:List Bs):Ev X 159 [cS.sl a,cS.sl b] [] (dB (a==b)) []:=by
 refine Ev.bQ Tryz.func159 rfl λk=>?_;have d:=k.sl 0 rfl;by_cases g:a.length=b.length
 rotate_left
 .have:(a==b)=ae:=eW.2 (by grind);exact aX [(10,ab)] rfl (by simp;omega) (AK.bn rfl (by simp[this]))
 refine aX [(10,ae)] rfl (by simp;omega) ?_;refine AK.ji (λi=>i<=a.length/\∀j,j<i->a.getD j []=b.getD j []) (λi:Nat=>[(0,cS.sl a),(1,cS.sl b),(5,dI i)]) (λ_=>[]) (λi=>a.length-i) 0 rfl (by simp) rfl ar ⟨by omega,by omega⟩ ?_;rintro i ⟨hi,e⟩;by_cases h:i<a.length
 .have f:∀l:List Bs,l.getD i cS.bP=l.getD i []:=λ_=>rfl;by_cases c:a.getD i []=b.getD i []
  .refine aX [(14,ab),(25,ae)] rfl ?_ (AK.fG (i+1) rfl (by simp) rfl ar ⟨h,λj m=>?_⟩ (by omega))
   .simp[-ai,f,c,bx];omega
   grind
  .refine aX [(14,ab),(25,ab)] rfl ?_ (AK.gI (ck.zero rfl ?_))
   .simp[-ai,f,c];omega
   .have:(a==b)=ae:=eW.2 (by grind);simp[this]
 .obtain rfl:i=a.length:=by omega
  have:a=b:=uR g λj c n=>by grind
  refine aX [(14,ae)] rfl (by simp) (AK.leave rfl rfl ?_);exact bw rfl ar (AK.bn rfl (by simp[this]))
def R3:dK X 159 N0:=.qK λa b _=>K2 a b
def uk(t:Bs):∀k f p,p∈fj t k f->p.length<=8
 |0,_,p,h=>by simp[fj]at h
 |k+1,f,p,h=>by
  simp only[fj]at h;split at h
  .rename_i a;rcases dC.1 h with rfl|h
   .grind [nb]
   .exact uk t k _ p h
  grind
def AT{l:List Bs}{p:Bs}(h:p∈l)(b:8<p.length):fZ l=af:=by unfold fZ;rw[a9];intro a;simp only[bR,gy]at a;have:=uk l.flatten l.flatten.length 0 p (by rw[show fj l.flatten l.flatten.length 0=l from a.2];exact h);omega
def uK(l:List Bs)(i:Nat):(l.take i).flatten.length<=l.flatten.length:=by grind[List.take_append_drop]
def EM{l:List Bs}(h:40<(l.take i).flatten.length):fZ l=af:=by have:=uK l i;unfold fZ;rw[a9];intro a;simp only[bR,eh,bq]at a;omega
def K3(l:List Bs):Ev X 118 [cS.sl l] [] (AB (fZ l)) []:=by
 refine Ev.bQ Tryz.func118 rfl λm=>?_;have g:=m.sl 0 rfl;have b:bG X [(111,OC),(147,Gh),(159,N0)]:=.cons t111 (.cons KC (.cons R3 .nil));refine bZ b rfl ar ?_;refine AK.ji (λi=>i<=l.length/\(l.take i).flatten.length<=48) (λi:Nat=>[(0,cS.sl l),(4,dS (l.take i).flatten),(5,dI i)]) (λ_=>[]) (λi=>l.length-i) 0 rfl (by simp) rfl ar ⟨by omega,by simp⟩ ?_;rintro i ⟨hi,e⟩;by_cases h:i<l.length
 .have f:l.getD i cS.bP=l.getD i []:=rfl;have k:(l.take (i+1)).flatten=(l.take i).flatten++l.getD i []:=by grind[bu]
  by_cases a:(l.getD i []).length<=8
  .by_cases c:(l.take i).flatten.length<=40
   .refine aR b [(9,ab),(18,ae),(22,ae)] rfl ?_ (AK.fG (i+1) rfl ?_ rfl ar ⟨h,by grind⟩ (by omega))
    .simp[-ai,-List.length_flatten,f,bx];omega
    .simp only[au.cat,au,k,aF,aE];grind[cw.same]
   .refine aR b [(9,ab),(18,ae),(22,ab)] rfl ?_ (AK.gI (ck.zero rfl ?_))
    .simp[-ai,-List.length_flatten,f];omega
    .simp[EM (l:=l) (i:=i) (by omega)]
  .refine aR b [(9,ab),(18,ab),(22,ab)] rfl ?_ (AK.gI (ck.zero rfl ?_))
   .simp[-ai,f];omega
   .simp[au,au.cat,AT (gM (d:=[]) h) (by omega)]
 .obtain rfl:i=l.length:=by omega
  rw[cC]at e⊢;refine aR b [(9,ae)] rfl (by simp) (AK.leave rfl rfl ?_);have el:=cS.list_fn l;cases a:eh l.flatten with
  |false=>exact aR b [(32,ab),(38,ab)] rfl (by simp[a]) (AK.bn rfl (by simp[fZ,a]))
  |true =>
   have j:b9 l.flatten=ab:=by simp only[eh,bR]at a;exact a.2
   cases c:(pieces l.flatten==l)with
   |false =>
    refine aR b [(32,ae),(38,ab)] rfl ?_ (AK.bn rfl (by simp[fZ,c]));simp[-List.length_flatten,a,j,el,cS.list_fn,cS.aJ,by simpa using c];omega
   |true =>
    refine aR b [(32,ae),(38,ae)] rfl ?_ (AK.bn rfl (by simp[fZ,a,c]));simp[-List.length_flatten,a,j,el,cS.list_fn,cS.aJ,by simpa using c];omega
abbrev K4:dz:=kB (aL cS) (λl=>AB (fZ l)) λ_=>[]
def R4:dK X 118 K4:=.oL λl _=>K3 l
abbrev VS(s:cg):bm:=.cells 39 [.c (.int .i64 s.1),.c (.sl ae 2 s.2.length (cL.fn s.2))]
abbrev K5(k:Int)(ps:List bc)(ns:List Int):List Bs:=ns.map λn=>(cY k ps n).getD []
def OD{k:Int}{ps:List bc}{ns:List Int}(h:j<ns.length):K5 k ps (ns.take (j+1))=K5 k ps (ns.take j)++[(cY k ps (ns.getD j 0)).getD []]:=by grind[bu]
def CU{k:Int}{ps:List bc}{ns:List Int}(h:j<ns.length)(a:cY k ps (ns.getD j 0)=af):dE k ps ns=af:=by unfold dE;rw[a9];grind
def AU{k:Int}{ps:List bc}{ns:List Int}(h:∀j,j<ns.length->(cY k ps (ns.getD j 0)).isSome=ab):dE k ps ns=aa (K5 k ps ns):=by unfold dE;rw[br];grind[List.mem_iff_getElem]
def AV(k:Int)(s:cg)(ps:List bc)(K:s.2.length<=4000000)(G:∀x∈s.2,x.2.length<=4000000):
  Ev X 91 [dI k,Cl s,cP.sl ps] [] (N1 ((cj k s ps).getD []) (cj k s ps).isSome) []:=by
 refine Ev.bQ Tryz.func91 rfl λJ=>?_;have a:bG X [(58,CO),(117,CR),(118,K4),(104,OE)]:=.cons Gn (.cons K1 (.cons R4 (.cons t104 .nil)));cases v:cJ k with
 |false =>
  refine aR a [(19,ab)] rfl ?_ (AK.bn rfl ?_)
  .simp[v]
  .simp[cj,v]
 |true =>
 refine aR a [(19,ae),(1000004,ab)] rfl (by simp[v]) ?_;refine AK.g6 8 110 2 rfl rfl ?_;refine bZ a rfl ar ?_;refine AK.bX 2 (λi=>i<=s.2.length/\∀j,j<i->(fileOf k ps (s.2.getD j ([],[]))).isSome=ab) (λi:Nat=>[(0,dI k),(2,cP.sl ps),(4,.e (.one (.ptr 0 0))),(8,.e (.one (.vec 1 2 (db k ps (s.2.take i)).length (cF.fn (db k ps (s.2.take i)))))),(9,dI i)]) (λi=>[VS s,.vec 110 2 (db k ps (s.2.take i)).length (cF.fn (db k ps (s.2.take i)))]) (λi=>s.2.length-i) 0 rfl (by simp[db]) rfl (by simp[db]) rfl ⟨by omega,by omega⟩ ?_;rintro i ⟨hi,D⟩;by_cases h:i<s.2.length
 .have B:=G _ (gM (d:=([],[])) h);have b:=pv (k:=k) (ps:=ps) h;have z:(db k ps (s.2.take i)).length=i:=by simp[db];omega
  have c:s.2.getD (i:Int).toNat cL.bP=s.2.getD i ([],[]):=by grind
  have g:=pw (k:=k) (ps:=ps) h;generalize E:s.2.getD i ([],[])=x at B b c g;generalize db k ps (s.2.take i)=fs at *;refine aR a [(25,ab),(1000008,ab)] rfl (by simp;omega) ?_;refine AK.g6 10 9 1 rfl rfl ?_;refine bZ a rfl ar ?_;refine AK.bX 3 (λj=>j<=x.2.length/\∀q,q<j->(cY k ps (x.2.getD q 0)).isSome=ab) (λj:Nat=>[(0,dI k),(2,cP.sl ps),(4,.e (.one (.ptr 0 0))),(8,.e (.one (.vec 1 2 fs.length (cF.fn fs)))),(9,dI i),(10,.e (.one (.vec 2 1 (K5 k ps (x.2.take j)).length (cS.fn (K5 k ps (x.2.take j)))))),(11,dI j)]) (λj=>[VS s,.vec 110 2 fs.length (cF.fn fs),.vec 9 1 (K5 k ps (x.2.take j)).length (cS.fn (K5 k ps (x.2.take j)))]) (λj=>x.2.length-j) 0 rfl (by simp) rfl (by simp) rfl ⟨by omega,by omega⟩ ?_;rintro j ⟨I,A⟩;by_cases y:j<x.2.length
  .have f:x.2.getD (j:Int).toNat cI.bP=x.2.getD j 0:=by grind
   cases m:cY k ps (x.2.getD j 0)with
   |none =>
    have e:fileOf k ps x=af:=by simp[fileOf,CU y m]
    refine aR a [(37,ab),(56,ab)] rfl ?_ (AK.eY (AK.sd (ck.zero rfl ?_)))
    .simp only[au,c,f,m,cP.list_fn,cP.aJ];grind
    .rw[g e];simp
   |some q =>
    have l:=OD (k:=k) (ps:=ps) y;rw[m]at l;have u:(K5 k ps (x.2.take j)).length=j:=by grind
    have o:=cS.cp (K5 k ps (x.2.take j)) q;refine aR a [(37,ab),(56,ae)] rfl ?_ (AK.aQ (j+1) rfl ?_ ?_ ⟨y,λr H=>?_⟩ (by omega))
    .simp only[au,c,f,m,cP.list_fn,cP.aJ,u,bx,show i9.bytes=16 from rfl];grind
    .rw[l];simp only[au.cat,au,c,f,m,cP.list_fn,cf,ey,aF,aE];and_intros<;>first|exact cw.same|exact o|rfl|omega
    .rw[l];simp only[au.cat,au,c,f,m,cP.list_fn,cf,ey,aF,aE];and_intros<;>first|exact cw.same|exact o|rfl|omega
    grind
  .obtain rfl:j=x.2.length:=by omega
   have p:=AU A;rw[cC];have u:(K5 k ps x.2).length=x.2.length:=by simp
   refine aR a [(37,ae)] rfl (by simp only[au,c];simp[h]) (AK.leaveD rfl rfl ?_);cases n:fZ (K5 k ps x.2)with
   |none =>
    have e:fileOf k ps x=af:=by simp[fileOf,p,n]
    refine aR a [(68,ab)] rfl ?_ (AK.eY (ck.zero rfl ?_))
    .simp only[au,cS.list_fn,cS.aJ,n];simp
    .rw[g e];simp
   |some t =>
    have e:fileOf k ps x=aa (x.1,t):=by simp[fileOf,p,n]
    rw[e]at b;have C:=cF.cp fs (x.1,t);refine aR a [(68,ae)] rfl ?_ (AK.aQ (i+1) rfl ?_ ?_ ⟨h,λr H=>?_⟩ (by omega))
    .simp only[au,c,cS.list_fn,cS.aJ,n,z,bx,show i110.bytes=32 from rfl];grind
    .rw[b];simp only[au.cat,au,c,cS.list_fn,n,ga,cf,ey,aF,aE];and_intros<;>first|exact cw.same|exact C|rfl|omega
    .rw[b];simp only[au.cat,au,c,cS.list_fn,n,ga,cf,ey,aF,aE];and_intros<;>first|exact cw.same|exact C|rfl|omega
    grind
 .obtain rfl:i=s.2.length:=by omega
  rw[cC];have F:s.2.all (λx=>(fileOf k ps x).isSome)=ab:=List.all_eq_true.2 λx B=>by grind[List.mem_iff_getElem]
  refine aR a [(25,ae)] rfl (by simp) (AK.leaveD rfl rfl ?_);cases w:du (db k ps s.2)with
  |false =>
   refine aR a [(83,ab)] rfl ?_ (AK.bn rfl ?_)
   .simp[cF.list_fn,cF.aJ,w]
   .simp[cj,w]
  |true =>
   refine aR a [(83,ae)] rfl ?_ (AK.bn rfl ?_)
   .simp[cF.list_fn,cF.aJ,w]
   .simp[cj,w,v,F]
abbrev xl:dz:=Ek aI (Dv cL) (aL cP) (λk s ps=>N1 ((cj k s ps).getD []) (cj k s ps).isSome) λ_ s _=>[s.2.length<=4000000,∀x∈s.2,x.2.length<=4000000]
def EN:dK X 91 xl:=.J7 λk s ps h=>AV k s ps h.1 h.2
abbrev sF:=Int×Int
def iN(h:sF):Bool:=decide (1<=h.1/\h.1<=2)&&decide (1<=h.2/\h.2<=20)
def pD(l:List sF):Bool:=(bk l.length).all (λi=>iN (l.getD i (0,0)))&&decide (l.length<=9)
abbrev XP(h:sF):D:=.e (.agg [.c (.int .i64 h.1),.c (.int .i64 h.2)])
def HK(h:sF):Ev X 92 [XP h] [] (dB (iN h)) []:=by
 refine Ev.bQ Tryz.func92 rfl λb=>?_;have a:bG X [(56,EH)]:=.cons Hu .nil;by_cases c:1<=h.1/\h.1<=2
 .exact aR a [(6,ab)] rfl (by simp[c]) (AK.bn rfl (by simp[iN,c]))
 .exact aR a [(6,ae)] rfl (by simp;omega) (AK.bn rfl (by simp only[au,iN,gx c];simp))
def HL(l:List sF):Ev X 59 [cH.sl l] [] (dB (pD l)) []:=by
 refine Ev.bQ Tryz.func59 rfl λf=>?_;have d:=f.sl 0 rfl;have b:bG X [(92,kB VP (λh=>dB (iN h)) λ_=>[])]:=.cons (.oL λh _=>HK h) .nil;refine bZ b rfl ar ?_;unfold pD;refine AK.ji (λi=>i<=l.length/\∀j,j<i->iN (l.getD j (0,0))=ab) (λi:Nat=>[(0,cH.sl l),(3,dI i)]) (λ_=>[]) (λi=>l.length-i) 0 rfl (by simp) rfl ar ⟨by omega,by omega⟩ ?_;rintro i ⟨hi,a⟩;by_cases h:i<l.length
 .have e:l.getD i cH.bP=l.getD i (0,0):=rfl;cases c:iN (l.getD i (0,0))with
  |false =>
   refine aR b [(7,ab),(15,ab)] rfl ?_ (AK.gI (ck.zero rfl ?_))
   .simp[-ai,e,c,h]
   .rw[fV h c];simp
  |true =>
   refine aR b [(7,ab),(15,ae)] rfl ?_ (AK.fG (i+1) rfl (by simp) rfl ar ⟨h,g8 a c⟩ (by omega));simp[-ai,e,c,h,bx];omega
 .obtain rfl:i=l.length:=by omega
  refine aR b [(7,ae)] rfl (by simp) (AK.leave rfl rfl ?_);exact bZ b rfl ar (AK.bn rfl (by rw[di.2 a];simp;omega))
abbrev vf:dz:=kB (aL cH) (λl=>dB (pD l)) λ_=>[]
def OF:dK X 59 vf:=.oL λl _=>HL l
def bD(ps:List bc):List Int:=ps.flatMap λp=>p.2.map (·.1)
def x9(f:α->Int)(d:α)(l:List α)(i:Nat):Bool:=i==0||decide (f (l.getD (i-1) d)<f (l.getD i d))
def lT(k:Int)(ps:List bc)(i:Nat):Bool:=jd k (ps.getD i (0,[]))&&x9 (·.1) (0,[]) ps i
def jN(k:Int)(s:bo)(i:Nat):Bool:=decide (1<=(s.2.1.getD i (0,[])).1/\(s.2.1.getD i (0,[])).1<=20)&&x9 (·.1) (0,[]) s.2.1 i&&(cj k (s.2.1.getD i (0,[])) s.1).isSome
def fp(k:Int)(s:bo):Bool:=(bk s.1.length).all (lT k s.1)&&decide (bD s.1).Nodup&&(bk s.2.1.length).all (jN k s)&&cJ k&&pD s.2.2&&decide (s.1.length<=20)
def xm{ps:List bc}(h:i<ps.length):bD (ps.take (i+1))=bD (ps.take i)++(ps.getD i (0,[])).2.map (·.1):=by rw[bu h (0,[])];simp[bD]
def HM{ps:List bc}(h:¬(bD (ps.take i)).Nodup):¬(bD ps).Nodup:=λa=>h (by
 have:bD ps=bD (ps.take i)++bD (ps.drop i):=by unfold bD;grind[List.take_append_drop]
 grind)
theorem Cv{s r:Bs}(h:b9 s=ab)(a:∀b∈r,b∈s):b9 r=ab:=by unfold b9 at h⊢;grind
def wY{t:Bs}(b:b9 t=ab):∀k f,∀p∈fj t k f,bJ p=ab
 |0,_,p,a=>by simp[fj]at a
 |k+1,f,p,a=>by
  simp only[fj]at a;split at a
  .rename_i h;have d:=nb t f h;rcases dC.1 a with rfl|a
   .have c:((t.drop f).take (cutAt t f-f)).length=cutAt t f-f:=by grind
    simp only[bJ,bR,bq];grind[Cv]
   .exact wY b k _ p a
  grind
def tz{t:Bs}(a:b9 t=ab):∀p∈pieces t,bJ p=ab:=wY a _ _
def ug(t:Bs):∀k f,(fj t k f).length<=k
 |0,_=>ba _
 |k+1,f=>by
  simp only[fj];split
  .have:=ug t k (cutAt t f);grind
  .simp
def n8(t:Bs):(pieces t).length<=t.length:=ug t _ _
def j4(t:List bC):List Bs:=t.flatMap λf=>pieces f.2
def HA{t:List bC}(h:i<t.length):j4 (t.take (i+1))=j4 (t.take i)++pieces (t.getD i ([],[])).2:=by rw[bu h ([],[])];simp[j4]
def Oo(t:List bC)(i:Nat):(j4 (t.take i)).length<=(j4 t).length:=by
 have h:j4 t=j4 (t.take i)++j4 (t.drop i):=by unfold j4;grind[List.take_append_drop]
 grind
def yQ(k:Int)(l:List dA)(ps:List Bs):∀a:List Bs,(ps.foldl (nj k l) a).length<=a.length+ps.length:=by
 induction ps with
 |nil=>grind
 |cons p r b =>
  intro a;have c:=b (nj k l a p);have d:(nj k l a p).length<=a.length+1:=by unfold nj;split<;>simp
  grind
abbrev KP:dz:=n6 (aL oM) aI (λl n=>dI (ue l n)) λl _=>[l.length<=4000000]
def RX:dK X 148 KP:=.qK λl n h=>Kv l n h
abbrev PY:dz:=n6 (aL cS) aS (λl p=>dB (l.contains p)) λl _=>[l.length<=4000000]
def UT:dK X 149 PY:=.qK λl p h=>Od l p h
abbrev Zj(a:List Bs):D:=.e (.one (.vec 0 1 a.length (cS.fn a)))
structure sq(t:List bC):Prop where
 len:t.length<=4000000
 uH:∀f∈t,b9 f.2=ab/\f.2.length<=4000000
 all:(j4 t).length<=100000
def KF(k:Int)(t:List bC)(l:List dA)(q:cJ k=ab)(u:sq t)(E:l.length<=4000000):Ev X 106 [dI k,cF.sl t,oM.sl l] [] (cS.sl (jL k t l)) []:=by
 refine Ev.bQ Tryz.func106 rfl λD=>?_;have c:bG X [(147,Gh),(116,wX),(148,KP),(149,PY)]:=.cons KC (.cons wS (.cons RX (.cons UT .nil)));refine bt c [(1000002,ab)] rfl ar ?_;refine AK.g6 7 9 1 rfl rfl ?_;refine cN c rfl ar ?_;refine AK.bX 1 (λi=>i<=t.length) (λi:Nat=>[(0,dI k),(1,cF.sl t),(2,oM.sl l),(7,Zj ((j4 (t.take i)).foldl (nj k l) [])),(8,dI i)]) (λi=>[.vec 9 1 ((j4 (t.take i)).foldl (nj k l) []).length (cS.fn ((j4 (t.take i)).foldl (nj k l) []))]) (λi=>t.length-i) 0 rfl ?_ rfl ?_ rfl (by omega) ?_
 .simp[j4]
 .simp[j4]
 intro i hi;by_cases h:i<t.length
 .have y:t.getD (i:Int).toNat cF.bP=t.getD i ([],[]):=by grind
  have m:t.getD i ([],[])∈t:=by grind
  obtain⟨x,q2⟩:=u.uH _ m;have d:=HA h;have s:=Oo t (i+1);have z:=u.all;have A:=u.len;have r:=tz x;generalize t.getD i ([],[])=f at *;rw[d,cf]at s;refine bt c [(15,ab)] rfl ?_ ?_
  .simp only[au,y,x,bq,aF,aE];and_intros<;>omega
  rw[y];refine AK.bX 1 (λj=>j<=(pieces f.2).length) (λj:Nat=>[(0,dI k),(1,cF.sl t),(2,oM.sl l),(7,Zj ((j4 (t.take i)++(pieces f.2).take j).foldl (nj k l) [])),(8,dI i),(9,cS.sl (pieces f.2)),(10,dI j)]) (λj=>[.vec 9 1 ((j4 (t.take i)++(pieces f.2).take j).foldl (nj k l) []).length (cS.fn ((j4 (t.take i)++(pieces f.2).take j).foldl (nj k l) []))]) (λj=>(pieces f.2).length-j) 0 rfl ?_ rfl ?_ rfl (by omega) ?_
  .simp
  .simp
  intro j B;have o:=yQ k l (j4 (t.take i)++(pieces f.2).take j) [];simp only[jz,cf,List.length_take]at o;by_cases C:j<(pieces f.2).length
  .have b:(pieces f.2).getD (j:Int).toNat cS.bP=(pieces f.2).getD j []:=by grind
   have e:bJ ((pieces f.2).getD j [])=ab:=r _ (by grind);have a:(j4 (t.take i)++(pieces f.2).take (j+1)).foldl (nj k l) []=nj k l ((j4 (t.take i)++(pieces f.2).take j).foldl (nj k l) []) ((pieces f.2).getD j []):=by grind[bu]
   generalize(j4 (t.take i)++(pieces f.2).take j).foldl (nj k l) []=out at *;generalize(pieces f.2).getD j []=p at *;have v:=cS.cp out p;by_cases g:ue l (gp k p)=0
   .cases w:out.contains p with
    |true =>
     rw[nj,a9 (by grind)]at a;refine bt c [(27,ab),(38,ab),(45,ab)] rfl ?_ (AK.aQ (j+1) rfl ?_ ?_ ?_ ?_)
     .simp only[au,b,q,e,g,w,bx,cS.list_fn,oM.list_fn,jW,bq,aF,aE];and_intros<;>first|exact cS.aJ _|exact oM.aJ _|omega
     .rw[a];simp
     .rw[a];simp
     .grind
     .omega
    |false =>
     rw[nj,br (by grind)]at a;refine bt c [(27,ab),(38,ab),(45,ae)] rfl ?_ (AK.aQ (j+1) rfl ?_ ?_ ?_ ?_)
     .simp only[au,b,q,e,g,w,bx,show i9.bytes=16 from rfl,cS.list_fn,oM.list_fn,jW,bq,aF,aE];and_intros<;>first|exact cS.aJ _|exact oM.aJ _|omega
     .rw[a];simp only[au.cat,au,b,cf,fQ,jz,aF,aE];and_intros<;>first|exactλ_ _=>rfl|exact v|rfl|omega
     .rw[a];simp only[au.cat,au,b,cf,fQ,jz,aF,aE];and_intros<;>first|exact v|rfl|omega
     .grind
     .omega
   .rw[nj,a9 (by grind)]at a;refine bt c [(27,ab),(38,ae)] rfl ?_ (AK.aQ (j+1) rfl ?_ ?_ ?_ ?_)
    .simp only[au,b,q,e,bx,oM.list_fn,eW,cU,g,l6,bq,aF,aE];and_intros<;>first|exact oM.aJ _|omega
    .rw[a];simp
    .rw[a];simp
    .grind
    .omega
  .have n:j=(pieces f.2).length:=by omega
   refine bt c [(27,ae)] rfl (by simp only[au,cd];omega) (AK.leaveD rfl rfl ?_);refine cN c rfl ?_ (AK.aQ (i+1) rfl ?_ ?_ ?_ ?_)
   .simp only[au,bx];omega
   .rw[d,n,cC];simp
   .rw[d,n,cC];simp
   .grind
   .omega
 .obtain rfl:i=t.length:=by omega
  rw[cC];refine bt c [(15,ae)] rfl (by simp) (AK.leaveD rfl rfl ?_);refine cN c rfl ar (AK.bn rfl ?_);simp[jL,j4]
abbrev su(k:Int)(ps:List Bs):List Int:=ps.map (gp k)
abbrev wZ(k:Int)(t:List bC):List gC:=t.map (w5 k)
abbrev PZ(no:Int)(ls:List gC):List bm:=[.cells 39 [.c (.int .i64 0),.c (.sl ab 0 0 λ_=>[])],.cells 39 [.c (.int .i64 no),.vec 2 2 ls.length (cL.fn ls)],.vec 95 2 ls.length (cL.fn ls)]
def Oh(no k:Int)(t:List bC)(v:cJ k=ab)(r:sq t):Ev X 109 [dI no,dI k,cF.sl t] [] (Cl (kR no k t)) []:=by
 refine Ev.wB tok Tryz.func109 rfl rfl rfl λA=>?_;have a:bG X [(147,Gh),(116,wX)]:=.cons KC (.cons wS .nil);refine bt a [(1000002,ab)] rfl ar ?_;refine AK.gd 1 1 95 2 (cL.fn []) rfl rfl ?_;refine cN a rfl ar ?_;refine AK.bX 3 (λi=>i<=t.length) (λi:Nat=>[(1,dI k),(2,cF.sl t),(6,.e (.one (.ptr 0 0))),(7,.e (.one (.ptr 1 0))),(8,dI i)]) (λi=>PZ no (wZ k (t.take i))) (λi=>t.length-i) 0 rfl ?_ rfl ?_ rfl (by omega) ?_
 .simp
 .simp
 intro i hi;by_cases h:i<t.length
 .have n:t.getD (i:Int).toNat cF.bP=t.getD i ([],[]):=by grind
  have d:t.getD i ([],[])∈t:=by grind
  obtain⟨q,q2⟩:=r.uH _ d;have x:=r.len;have l:=tz q;have w:=n8 (t.getD i ([],[])).2;have g:wZ k (t.take (i+1))=wZ k (t.take i)++[w5 k (t.getD i ([],[]))]:=by grind[bu]
  have u:(wZ k (t.take i)).length=i:=by grind
  generalize t.getD i ([],[])=f at *;generalize wZ k (t.take i)=ls at *;refine bt a [(18,ab),(1000007,ab)] rfl ?_ ?_
  .simp only[au,n,q,bq,aF,aE];and_intros<;>omega
  rw[n];refine AK.g6 10 3 1 rfl rfl ?_;refine cN a rfl ar ?_;refine AK.bX 4 (λj=>j<=(pieces f.2).length) (λj:Nat=>[(1,dI k),(2,cF.sl t),(6,.e (.one (.ptr 0 0))),(7,.e (.one (.ptr 1 0))),(8,dI i),(9,cS.sl (pieces f.2)),(10,.e (.one (.vec 3 1 j (cI.fn (su k ((pieces f.2).take j)))))),(11,dI j)]) (λj=>PZ no ls++[.vec 3 1 j (cI.fn (su k ((pieces f.2).take j)))]) (λj=>(pieces f.2).length-j) 0 rfl ?_ rfl ?_ rfl (by omega) ?_
  .simp
  .simp
  intro j p;by_cases z:j<(pieces f.2).length
  .have b:(pieces f.2).getD (j:Int).toNat cS.bP=(pieces f.2).getD j []:=by grind
   have m:bJ ((pieces f.2).getD j [])=ab:=l _ (by grind);have c:=cI.cp (su k ((pieces f.2).take j)) (gp k ((pieces f.2).getD j []));rw[show(su k ((pieces f.2).take j)).length=j by grind,show su k ((pieces f.2).take j)++[gp k ((pieces f.2).getD j [])]=su k ((pieces f.2).take (j+1)) by grind[bu]]at c;refine bt a [(31,ab)] rfl ?_ (AK.aQ (j+1) rfl ?_ ?_ ?_ ?_)
   .simp only[au,b,v,m,bx,show i3.bytes=8 from rfl,bq,aF,aE];and_intros<;>omega
   .simp only[au.cat,au,b,aF,aE];and_intros<;>first|exactλ_ _=>rfl|exact c|rfl|omega
   .simp only[au.cat,au,b,aF,aE];and_intros<;>first|exactλ_ _=>rfl|exact c|rfl|omega
   .grind
   .omega
  .have o:j=(pieces f.2).length:=by omega
   rw[o,cC];have c:=cL.cp ls (w5 k f);have s:ls.length+1=(ls++[w5 k f]).length:=by simp
   have y:cL.enc (w5 k f)=[C.str f.1,C.sl ae 1 (pieces f.2).length (cI.fn (su k (pieces f.2)))]:=by show[C.str f.1,C.sl ae 1 (su k (pieces f.2)).length (cI.fn (su k (pieces f.2)))]=_;grind
   rw[y,<-g]at c;rw[<-g]at s;refine bt a [(31,ae)] rfl (by simp only[au,cd];omega) (AK.leaveD rfl rfl ?_);refine cN a rfl ?_ (AK.aQ (i+1) rfl ?_ ?_ ?_ ?_)
   .simp only[au,bx,show i95.bytes=40 from rfl,aF,aE];and_intros<;>omega
   .simp
   .simp only[au.cat,au,n,aF,aE];and_intros<;>first|exact cw.same|exact c|exact s|rfl
   .grind
   .omega
 .obtain rfl:i=t.length:=by omega
  rw[cC];refine bt a [(18,ae)] rfl (by simp) (AK.leaveD rfl rfl ?_);refine cN a rfl ar ?_;refine AK.lO () [] rfl rfl rfl rfl rfl rfl rfl rfl ?_ rfl rfl rfl rfl (λj p=>absurd p (by simp));simp[kR]
def nn(f g:Nat->List C):cT 0 f g=g:=by funext i;simp[cT]
abbrev sv(s:bo):bm:=.cells 27 [.c (.sl ae 2 s.1.length (cP.fn s.1)),.c (.sl ae 2 s.2.1.length (ee.fn s.2.1)),.c (.sl ae 2 s.2.2.length (cH.fn s.2.2))]
def KQ{a b:Int}(m:Int)(h:o.op=.call {callee:=.builtin .max,args:=#[x,y],argTypes:=jP})(l:η x=dI a)(k:η y=dI b)(p:max a b=m)(n:bx .i64 m):bE ag o η σ (dI m) σ:=by
 refine .quiet λs j q d=>?_;have f:=d x;have c:=d y;rw[l]at f;rw[k]at c;replace f:=fI f;replace c:=fI c;generalize i:j x=vx at f;generalize g:j y=vy at c;cases f;cases c;have e:(if a<b then b else a)=m:=by grind
 exact⟨.int .i64 m,by simp[ak,h,resolve,invoke,builtin,i,g,Builtin.max_,Builtin.max2,e],.int n,by simp[ak,h,resolve,invoke,builtin,i,g,Builtin.max_,Builtin.max2]⟩
def gg(s:bo):Int:=if s.1.length=0 then 1 else(s.1.getD (s.1.length-1) (0,[])).1+1
def qM(l:List (Int×Int)):Int:=l.foldl (λm h=>max m (h.2+1)) 1
def gJ(s:bo):Int:=if s.2.1.length=0 then qM s.2.2 else max (qM s.2.2) ((s.2.1.getD (s.2.1.length-1) (0,[])).1+1)
structure HB(st:bo):Prop where
 p:∀x∈st.1,-4000000<=x.1/\x.1<=4000000
 s:∀x∈st.2.1,-4000000<=x.1/\x.1<=4000000
 h:∀x∈st.2.2,-4000000<=x.2/\x.2<=4000000
def sx(l:List (Int×Int))(h:∀x∈l,-4000000<=x.2/\x.2<=4000000):1<=qM l/\qM l<=4000001:=by
 have:∀(l:List (Int×Int)) (m:Int),(∀x∈l,-4000000<=x.2/\x.2<=4000000)->1<=m->m<=4000001->1<=l.foldl (λm h=>max m (h.2+1)) m/\l.foldl (λm h=>max m (h.2+1)) m<=4000001:=by
  intro l;induction l with
  |nil=>grind
  |cons x r a =>
   grind
 exact this l 1 h (by omega) (by omega)
def EJ{l:List (Int×Int)}(h:i<l.length):qM (l.take (i+1))=max (qM (l.take i)) ((l.getD i (0,0)).2+1):=by unfold qM;grind[bu]
def gh{l:List α}(h:i<l.length)(d:α):l.getD i d∈l:=by grind
def HC(s:bo)(d:iS s)(b:HB s):Ev X 105 [nc s] [] (.fz [.one (.c (.int .i64 (gg s))),.one (.c (.int .i64 (gJ s)))]) []:=by
 refine Ev.bQ Tryz.func105 rfl λo=>?_;have j:=d.p;have n:=d.sn;have m:=d.h;apply AK.join [(1,.e (.one (.ptr 0 0))),(4,dI (gg s)),(5,dI 1)] [sv s]
 .intro out;by_cases h:s.1.length=0
  .refine bF [(10,ae),(1000005,ab)] rfl (by simp only[au,cd];omega) ?_;exact out _ _ rfl (by simp[gg,h])
  .have f:=b.p _ (gh (show s.1.length-1<s.1.length by omega) (0,[]));have a:s.1.getD ((s.1.length:Int)-1).toNat cP.bP=s.1.getD (s.1.length-1) (0,[]):=by rw[show((s.1.length:Int)-1).toNat=s.1.length-1 by omega];rfl
   refine bF [(10,ab),(1000005,ab)] rfl ?_ ?_
   .simp only[au,a,bx,bq,aF,aE];and_intros<;>omega
   exact out _ _ rfl (by simp only[au.cat,au,gg,a9 h,a,aF,aE])
 refine c9 rfl ar ?_;refine AK.bX 1 (λi=>i<=s.2.2.length) (λi:Nat=>[(1,.e (.one (.ptr 0 0))),(4,dI (gg s)),(5,dI (qM (s.2.2.take i))),(6,dI i)]) (λi=>[sv s]) (λi=>s.2.2.length-i) 0 rfl ?_ rfl ?_ rfl (by omega) ?_
 .simp[qM]
 .simp
 intro i hi;by_cases h:i<s.2.2.length
 .have f:=b.h _ (gh h (0,0));have k:=sx (s.2.2.take i) λx l=>b.h x (jy l);have a:s.2.2.getD (i:Int).toNat cH.bP=s.2.2.getD i (0,0):=by grind
  have g:=EJ h;refine bF [(25,ab)] rfl ?_ ?_
  .simp only[au,a,bx,bq,aF,aE];and_intros<;>omega
  rw[a];refine AK.law (KQ (qM (s.2.2.take (i+1))) rfl rfl rfl g.symm (by simp only[bx];omega)) rfl rfl ?_;refine c9 rfl ?_ (AK.aQ (i+1) rfl ?_ ?_ ?_ ?_)
  .simp only[au,bx];omega
  .simp
  .simp
  .grind
  .omega
 obtain rfl:i=s.2.2.length:=by omega
 rw[cC];refine bF [(25,ae)] rfl (by simp) (AK.leaveD rfl rfl ?_);have k:=sx s.2.2 b.h;by_cases h:s.2.1.length=0
 .refine bF [(40,ae)] rfl (by simp only[au,cd];omega) (AK.bn rfl ?_);simp[gJ,h]
 .have f:=b.s _ (gh (show s.2.1.length-1<s.2.1.length by omega) (0,[]));have a:s.2.1.getD ((s.2.1.length:Int)-1).toNat ee.bP=s.2.1.getD (s.2.1.length-1) (0,[]):=by rw[show((s.2.1.length:Int)-1).toNat=s.2.1.length-1 by omega];rfl
  refine bF [(40,ab)] rfl ?_ ?_
  .simp only[au,a,bx,bq,aF,aE];and_intros<;>omega
  rw[a];refine AK.law (KQ (gJ s) rfl rfl rfl (by rw[gJ,a9 h]) (by rw[gJ,a9 h];simp only[bx];omega)) rfl rfl ?_;exact c9 rfl ar (AK.bn rfl)
abbrev RY(s:bo)(i:Nat)(p:List bc)(j:Nat)(q:List cg):List bm:=[sv s,.cells 27 [hO,hO,hO],.vec 101 2 s.2.2.length (cH.fn s.2.2),.cells 27 [.vec 4 2 i (cP.fn p),.vec 5 2 j (ee.fn q),.vec 2 2 s.2.2.length (cH.fn s.2.2)],.vec 43 2 i (cP.fn p),.vec 39 2 j (ee.fn q)]
def w6(s:bo)(r:s.1.length<=4000000)(g:∀p∈s.1,p.2.length<=4000000)(t:s.2.1.length<=4000000)(d:iM s)(o:s.2.2.length<=4000000):
  Ev X 25 [nc s] [] (.e (.agg [.vec 0 2 s.1.length (cP.fn s.1),.vec 1 2 s.2.1.length (ee.fn s.2.1),.vec 2 2 s.2.2.length (cH.fn s.2.2)])) [.vec 43 2 s.1.length (cP.fn s.1),.vec 39 2 s.2.1.length (ee.fn s.2.1),.vec 101 2 s.2.2.length (cH.fn s.2.2)]:=by
 refine Ev.wB tok Tryz.func25 rfl rfl rfl λn=>?_;refine bF [(1000002,ab)] rfl ?_ ?_
 .simp only[au,show i101.bytes=16 from rfl,aF,aE,true_or];grind
 refine AK.gd 3 0 43 2 (cP.fn []) rfl rfl ?_;refine AK.gd 3 1 39 2 (ee.fn []) rfl rfl ?_;refine c9 rfl ar ?_;refine AK.bX 6 (λi=>i<=s.1.length) (λi:Nat=>[(1,.e (.one (.ptr 0 0))),(2,.e (.one (.ptr 1 0))),(3,.e (.one (.ptr 3 0))),(4,dI i)]) (λi=>RY s i (s.1.take i) 0 []) (λi=>s.1.length-i) 0 rfl ?_ rfl ?_ rfl (by omega) ?_
 .simp
 .simp[cw,nn]
 intro i hi;by_cases h:i<s.1.length
 .have f:s.1.getD i (0,[])∈s.1:=by grind
  have a:s.1.getD (i:Int).toNat cP.bP=s.1.getD i (0,[]):=by grind
  have q:=g _ f;refine bF [(20,ab),(2000038,ab)] rfl ?_ (AK.aQ (i+1) rfl ?_ ?_ ?_ ?_)
  .simp only[au,a,bx,show i43.bytes=32 from rfl,show i68.bytes=24 from rfl,bq,true_or,aF,aE];and_intros<;>omega
  .simp
  .have e:=cP.mo s.1 h (0,[]);simp only[au.cat,au,a,nn,bA,aE,aF];and_intros<;>first|exactλ_ _=>rfl|exact e|rfl|omega
  .grind
  .omega
 obtain rfl:i=s.1.length:=by omega
 rw[cC];refine bF [(20,ae)] rfl (by simp) (AK.leaveD rfl rfl ?_);refine c9 rfl ar ?_;refine AK.bX 6 (λi=>i<=s.2.1.length) (λi:Nat=>[(1,.e (.one (.ptr 0 0))),(2,.e (.one (.ptr 1 0))),(3,.e (.one (.ptr 3 0))),(5,dI i)]) (λi=>RY s s.1.length s.1 i (s.2.1.take i)) (λi=>s.2.1.length-i) 0 rfl ?_ rfl ?_ rfl (by omega) ?_
 .simp
 .simp[cw]
 intro i hi;by_cases h:i<s.2.1.length
 .have f:s.2.1.getD i (0,[])∈s.2.1:=by grind
  have a:s.2.1.getD (i:Int).toNat ee.bP=s.2.1.getD i (0,[]):=by grind
  have q:=d _ f;have e:=ee.mo s.2.1 h (0,[]);generalize s.2.1.getD i (0,[])=x at *;refine bF [(47,ab),(1000010,ab)] rfl ?_ ?_
  .simp only[au,a,bq,true_or,aF,aE];and_intros<;>omega
  rw[a];refine AK.gd 6 1 95 2 (cL.fn []) rfl rfl ?_;refine c9 rfl ar ?_;refine AK.bX 8 (λj=>j<=x.2.length) (λj:Nat=>[(1,.e (.one (.ptr 0 0))),(2,.e (.one (.ptr 1 0))),(3,.e (.one (.ptr 3 0))),(5,dI i),(6,.e (.one (.ptr 6 0))),(7,dI j)]) (λj=>RY s s.1.length s.1 i (s.2.1.take i)++[.cells 39 [.c (.int .i64 x.1),.vec 7 2 j (cL.fn (x.2.take j))],.vec 95 2 j (cL.fn (x.2.take j))]) (λj=>x.2.length-j) 0 rfl ?_ rfl ?_ rfl (by omega) ?_
  .simp
  .simp[cw]
  intro j k;by_cases l:j<x.2.length
  .have b:x.2.getD (j:Int).toNat cL.bP=x.2.getD j ([],[]):=by grind
   have u:=q.2 (x.2.getD j ([],[])) (by grind);have m:=cL.mo x.2 l ([],[]);refine bF [(66,ab),(2000085,ab)] rfl ?_ (AK.aQ (j+1) rfl ?_ ?_ ?_ ?_)
   .simp only[au,a,b,bx,show i95.bytes=40 from rfl,show i3.bytes=8 from rfl,bq,true_or,aF,aE];and_intros<;>omega
   .simp
   .simp only[au.cat,au,a,b,nn,bA,aE,aF];and_intros<;>first|exactλ_ _=>rfl|exact m|rfl
   .grind
   .omega
  obtain rfl:j=x.2.length:=by omega
  rw[cC];refine bF [(66,ae)] rfl ?_ (AK.leaveD rfl rfl ?_)
  .simp only[au,a,cd];and_intros<;>omega
  refine c9 rfl ?_ (AK.aQ (i+1) rfl ?_ ?_ ?_ ?_)
  .simp only[au,a,bx,show i39.bytes=32 from rfl,aF,aE];and_intros<;>omega
  .simp
  .simp only[au.cat,au,aE,aF];and_intros<;>first|exactλ_ _=>rfl|exact e|rfl|omega
  .grind
  .omega
 obtain rfl:i=s.2.1.length:=by omega
 rw[cC];refine bF [(47,ae)] rfl (by simp) (AK.leaveD rfl rfl ?_);refine c9 rfl ar ?_;refine AK.lO () [4,5,2] rfl rfl rfl rfl rfl rfl rfl rfl ?_ rfl rfl rfl rfl (λj k=>absurd k (by simp))
 .simp
def KD(a b:Nat):min (a:Int) (b:Int)=((min a b:Nat):Int):=by grind
def gV(k:Int):Nat->Int->List Bs->List bc
 |0,_,_=>[]
 |f+1,no,ps=>if 0<ps.length then py no k (ps.take 4)::gV k f (no+1) (ps.drop 4)else[]
def yP(k:Int)(s:bo)(t:List bC):List bc:=gV k (jL k t (indexOf s.1)).length (gg s) (jL k t (indexOf s.1))
def uf(k:Int)(s:bo)(t:List bC):Bool:=decide (20<s.1.length+(yP k s t).length)||(decide (99<gg s+(yP k s t).length-1)||(decide (20<gJ s)||decide (9<=s.2.2.length)))
def g7(k:Int)(s:bo)(by_:Int)(t:List bC):bo:=(s.1++yP k s t,s.2.1++[kR (gJ s) k t],s.2.2++[(by_,gJ s)])
theorem wU(k:Int):∀f no ps,(gV k f no ps).length<=f
 |0,_,_=>ba _
 |f+1,no,ps=>by
  simp only[gV];split
  .have:=wU k f (no+1) (ps.drop 4);grind
  .simp
abbrev PU:dz:=Ek aI aI (aL cF) (λno k t=>Cl (kR no k t)) λ_ k t=>[cJ k=ab,sq t]
def UL:dK X 109 PU:=.J7 λno k t h=>Oh no k t h.1 h.2
abbrev KE:dz:=Ek aI (aL cF) (aL oM) (λk t l=>cS.sl (jL k t l)) λk t l=>[cJ k=ab,sq t,l.length<=4000000]
def RR:dK X 106 KE:=.J7 λk t l h=>KF k t l h.1 h.2.1 h.2.2
def wV{k:Int}{t:List bC}{l:List dA}(c:sq t):(∀p∈jL k t l,bJ p=ab)/\(jL k t l).length<=100000:=by
 constructor
 .have:∀(ps a:List Bs),(∀p∈ps,bJ p=ab)->(∀p∈a,bJ p=ab)->∀p∈ps.foldl (nj k l) a,bJ p=ab:=by
   intro ps;induction ps with
   |nil=>grind
   |cons q r g =>
    intro a h d;refine g _ (λp b=>h p (kI _ b)) λp b=>?_;unfold nj at b;grind
  refine this _ [] (λp b=>?_) (by simp);obtain⟨f,e,b⟩:=pV.1 b;exact tz (c.uH f e).1 p b
 .have:=yQ k l (j4 t) [];have d:=c.all;unfold jL;simp only[jz]at this;exact dT this (by omega)
def Cs{l:List bc}(h:(eT l).length<=100000):(indexOf l).length<=100000:=by unfold indexOf;grind[yR]
abbrev Zh(s:bo)(b:Bool):D:=.fz [.agg [.c (.sl ae 2 s.1.length (cP.fn s.1)),.c (.sl ae 2 s.2.1.length (ee.fn s.2.1)),.c (.sl ae 2 s.2.2.length (cH.fn s.2.2))],.one (.c (.bool b))]
abbrev MF(s:bo):bm:=.cells 27 [.c (.sl ae 2 s.1.length (cP.fn s.1)),.c (.sl ae 2 s.2.1.length (ee.fn s.2.1)),.c (.sl ae 2 s.2.2.length (cH.fn s.2.2))]
def K6(k:Int)(s:bo)(x:cg)(b:x.2.length<=4000000)(a:∀y∈x.2,y.2.length<=4000000):Ev X 57 [dI k,nc s,Cl x] [] (dB (cj k x s.1).isSome) []:=by
 refine Ev.bQ Tryz.func57 rfl λd=>?_;have c:bG X [(91,xl)]:=.cons EN .nil;have e:(x.1,cL.list x.2.length (cL.fn x.2))=x:=by rw[cL.list_fn]
 refine bZ c rfl ?_ (AK.bn rfl ?_)
 .simp only[au,cL.list_fn,cL.aJ,cP.aJ,b,aF,aE];exact a
 .simp[cL.list_fn,cP.list_fn]
abbrev K7:dz:=Ek aI Ki (Dv cL) (λk s x=>dB (cj k x s.1).isSome) λ_ _ x=>[x.2.length<=4000000,∀y∈x.2,y.2.length<=4000000]
def R5:dK X 57 K7:=.J7 λk s x h=>K6 k s x h.1 h.2
def oa{f:α->Int}{d:α}{l:List α}(h:i≠0):x9 f d l i=decide (f (l.getD (i-1) d)<f (l.getD i d)):=by unfold x9;grind
def CV(k:Int)(s:bo)(N:iM s)(R:s.1.length<=4000000)(S:s.2.1.length<=4000000):Ev X 24 [dI k,nc s] [] (dB (fp k s)) []:=by
 refine Ev.bQ Tryz.func24 rfl λP=>?_;have c:bG X [(55,CQ),(26,KZ),(56,EH),(57,K7),(58,CO),(59,vf)]:=.cons KY (.cons P1 (.cons Hu (.cons R5 (.cons Gn (.cons OF .nil)))));refine aR c [(1000002,ab)] rfl ar ?_;refine AK.g6 5 3 1 rfl rfl ?_;refine bZ c rfl ar ?_;unfold fp;refine AK.bX 2 (λi=>i<=s.1.length/\(∀j,j<i->lT k s.1 j=ab)/\(bD (s.1.take i)).Nodup/\(bD (s.1.take i)).length<=4*i) (λi:Nat=>[(0,dI k),(3,.e (.one (.ptr 0 0))),(5,.e (.one (.vec 1 1 (bD (s.1.take i)).length (cI.fn (bD (s.1.take i)))))),(6,dI i)]) (λi=>[MF s,.vec 3 1 (bD (s.1.take i)).length (cI.fn (bD (s.1.take i)))]) (λi=>s.1.length-i) 0 rfl (by simp[bD]) rfl (by simp[bD]) rfl ⟨by omega,by omega,by simp[bD],by simp[bD]⟩ ?_;rintro i ⟨hi,g,w,M⟩;by_cases h:i<s.1.length
 .have y:=xm h;have D:=HM (ps:=s.1) (i:=i+1);have m:s.1.getD i cP.bP=s.1.getD i (0,[]):=rfl;have n:s.1.getD (i-1) cP.bP=s.1.getD (i-1) (0,[]):=rfl;have b:lT k s.1 i=(jd k (s.1.getD i (0,[]))&&x9 (·.1) (0,[]) s.1 i):=rfl;have C:=oa (f:=λp:bc=>p.1) (d:=(0,[])) (l:=s.1) (i:=i);generalize H:s.1.getD i (0,[])=p at *;generalize s.1.getD (i-1) (0,[])=p' at *;cases u:jd k p with
  |false =>
   rw[u,rI]at b;refine aR c [(14,ab),(25,ab),(44,ab)] rfl ?_ (AK.eY (ck.zero rfl ?_))
   .simp[-ai,m,u,et.list_fn,et.aJ,h]
   .rw[fV h b];simp
  |true =>
   have Q:p.2.length<=4:=by grind[pC]
   rw[u,fC]at b;cases t:x9 (·.1) (0,[]) s.1 i with
   |false =>
    have r:i≠0:=by rintro rfl;cases t
    have A:¬p'.1<p.1:=by grind
    refine aR c [(14,ab),(25,ae),(28,ab),(42,ab),(44,ab)] rfl ?_ (AK.eY (ck.zero rfl ?_))
    .simp[-ai,m,n,u,et.list_fn,et.aJ,h,bx];omega
    .rw[fV h (b.trans t)];simp
   |true =>
   rw[t]at b;apply AK.join [(0,dI k),(3,.e (.one (.ptr 0 0))),(5,.e (.one (.vec 1 1 (bD (s.1.take i)).length (cI.fn (bD (s.1.take i)))))),(6,dI i),(7,dI 0)] [MF s,.vec 3 1 (bD (s.1.take i)).length (cI.fn (bD (s.1.take i)))]
   .intro z;by_cases r:i=0
    .subst r;refine aR c [(14,ab),(25,ae),(28,ae),(44,ae)] rfl ?_ (z _ _ rfl ?_)
     .simp[-ai,m,u,et.list_fn,et.aJ,h]
     .simp
    .have A:p'.1<p.1:=by grind
     refine aR c [(14,ab),(25,ae),(28,ab),(42,ae),(44,ae)] rfl ?_ (z _ _ rfl ?_)
     .simp[-ai,m,n,u,et.list_fn,et.aJ,h,bx];omega
     .simp
   generalize bD (s.1.take i)=ns at *;refine AK.bX 2 (λj=>j<=p.2.length/\(ns++(p.2.take j).map (·.1)).Nodup) (λj:Nat=>[(0,dI k),(3,.e (.one (.ptr 0 0))),(5,.e (.one (.vec 1 1 (ns++(p.2.take j).map (·.1)).length (cI.fn (ns++(p.2.take j).map (·.1)))))),(6,dI i),(7,dI j)]) (λj=>[MF s,.vec 3 1 (ns++(p.2.take j).map (·.1)).length (cI.fn (ns++(p.2.take j).map (·.1)))]) (λj=>p.2.length-j) 0 rfl (by simp) rfl (by simp) rfl ⟨by omega,by grind⟩ ?_;rintro j ⟨O,F⟩;by_cases o:j<p.2.length
   .have B:p.2.getD j et.bP=fU p j:=rfl;have v:ns++(p.2.take (j+1)).map (·.1)=(ns++(p.2.take j).map (·.1))++[(fU p j).1]:=by grind[bu]
    have x:(ns++(p.2.take j).map (·.1)).length=ns.length+j:=by grind
    generalize ns++(p.2.take j).map (·.1)=a at *;cases J:a.contains (fU p j).1 with
    |true =>
     refine aR c [(53,ab),(67,ab)] rfl ?_ (AK.eY (AK.sd (ck.zero rfl ?_)))
     .simp[-ai,-List.contains_eq_mem,m,B,h,o,J,cI.list_fn,cI.aJ]
     .have L:¬(bD s.1).Nodup:=D (by
       have e:ns++p.2.map (·.1)=(ns++(p.2.take (j+1)).map (·.1))++(p.2.drop (j+1)).map (·.1):=by grind[List.take_append_drop]
       grind)
      simp[L]
    |false =>
     have K:=cI.cp a (fU p j).1;have G:cI.list (ns.length+j) (cI.fn a)=a:=by rw[<-x];exact cI.list_fn a
     refine aR c [(53,ab),(67,ae)] rfl ?_ (AK.aQ (j+1) rfl ?_ ?_ ⟨o,?_⟩ (by omega))
     .simp[-ai,-List.contains_eq_mem,m,B,h,o,J,cI.list_fn,cI.aJ,x,G,bx,show i3.bytes=8 from rfl];omega
     .rw[v];simp only[au.cat,au,bM,m,B,cf,ey,aF,aE];and_intros<;>first|exact cw.same|exact K|rfl|omega
     .rw[v];simp only[au.cat,au,bM,m,B,cf,ey,aF,aE];and_intros<;>first|exact cw.same|exact K|rfl|omega
     grind
   .obtain rfl:j=p.2.length:=by omega
    rw[cC]at F⊢;refine aR c [(53,ae)] rfl ?_ (AK.leaveD rfl rfl ?_)
    .simp[-ai,m,h]
    refine bZ c rfl ?_ (AK.aQ (i+1) rfl ?_ ?_ ⟨h,g8 g b,by grind,by grind⟩ (by omega))
    .simp[bx];omega
    .rw[y];simp
    .rw[y];simp
 obtain rfl:i=s.1.length:=by omega
 rw[cC]at w⊢;refine aR c [(14,ae)] rfl (by simp) (AK.leaveD rfl rfl ?_);refine bZ c rfl ar ?_;rw[di.2 g,dc w,fC,fC];generalize bD s.1=ns;refine AK.bX 2 (λi=>i<=s.2.1.length/\(∀j,j<i->jN k s j=ab)) (λi:Nat=>[(0,dI k),(3,.e (.one (.ptr 0 0))),(8,dI i)]) (λ_=>[MF s,.vec 3 1 ns.length (cI.fn ns)]) (λi=>s.2.1.length-i) 0 rfl (by simp) rfl (by simp) rfl ⟨by omega,by omega⟩ ?_;rintro i ⟨hi,g⟩;by_cases h:i<s.2.1.length
 .have m:s.2.1.getD i ee.bP=s.2.1.getD i (0,[]):=rfl;have n:s.2.1.getD (i-1) ee.bP=s.2.1.getD (i-1) (0,[]):=rfl;have q:=N _ (gM (d:=(0,[])) h);have b:jN k s i=(decide (1<=(s.2.1.getD i (0,[])).1/\(s.2.1.getD i (0,[])).1<=20)&&x9 (·.1) (0,[]) s.2.1 i&&(cj k (s.2.1.getD i (0,[])) s.1).isSome):=rfl;have C:=oa (f:=λp:cg=>p.1) (d:=(0,[])) (l:=s.2.1) (i:=i);generalize H:s.2.1.getD i (0,[])=p at *;generalize s.2.1.getD (i-1) (0,[])=p' at *;by_cases c1:1<=p.1/\p.1<=20
  rotate_left
  .refine aR c [(85,ab),(96,ab),(116,ab),(126,ab)] rfl ?_ (AK.eY (ck.zero rfl ?_))
   .simp[-ai,m,h];omega
   .rw[fV h (by grind)];simp
  cases t:x9 (·.1) (0,[]) s.2.1 i with
  |false =>
   have r:i≠0:=by rintro rfl;cases t
   have A:¬p'.1<p.1:=by grind
   refine aR c [(85,ab),(96,ae),(99,ab),(113,ab),(116,ab),(126,ab)] rfl ?_ (AK.eY (ck.zero rfl ?_))
   .simp[-ai,m,n,h,c1,bx];omega
   .rw[fV h (by grind)];simp
  |true =>
   rw[dc c1,t,fC,fC]at b;cases o:(cj k p s.1).isSome with
   |false =>
    by_cases r:i=0
    .subst r;refine aR c [(85,ab),(96,ae),(99,ae),(116,ae),(126,ab)] rfl ?_ (AK.eY (ck.zero rfl ?_))
     .simp[-ai,m,h,c1,cL.list_fn,cL.aJ,cP.list_fn,cP.aJ,ee.aJ,cH.aJ,o,q.1];grind
     .rw[fV h (b.trans o)];simp
    .have A:p'.1<p.1:=by grind
     refine aR c [(85,ab),(96,ae),(99,ab),(113,ae),(116,ae),(126,ab)] rfl ?_ (AK.eY (ck.zero rfl ?_))
     .simp[-ai,m,n,h,c1,bx,cL.list_fn,cL.aJ,cP.list_fn,cP.aJ,ee.aJ,cH.aJ,o,q.1];and_intros<;>first|omega|grind
     .rw[fV h (b.trans o)];simp
   |true =>
    rw[o]at b;by_cases r:i=0
    .subst r;refine aR c [(85,ab),(96,ae),(99,ae),(116,ae),(126,ae)] rfl ?_ (AK.aQ 1 rfl (by simp) (by simp) ⟨h,g8 g b⟩ (by omega));simp[-ai,m,h,c1,bx,cL.list_fn,cL.aJ,cP.list_fn,cP.aJ,ee.aJ,cH.aJ,o,q.1];grind
    .have A:p'.1<p.1:=by grind
     refine aR c [(85,ab),(96,ae),(99,ab),(113,ae),(116,ae),(126,ae)] rfl ?_ (AK.aQ (i+1) rfl (by simp) (by simp) ⟨h,g8 g b⟩ (by omega));simp[-ai,m,n,h,c1,bx,cL.list_fn,cL.aJ,cP.list_fn,cP.aJ,ee.aJ,cH.aJ,o,q.1];and_intros<;>first|omega|grind
 obtain rfl:i=s.2.1.length:=by omega
 refine aR c [(85,ae)] rfl (by simp) (AK.leaveD rfl rfl ?_);rw[di.2 g,fC];cases E:cJ k
 .exact aR c [(129,ae),(134,ae)] rfl (by simp[E]) (AK.bn rfl)
 cases I:pD s.2.2
 .exact aR c [(129,ab),(134,ae)] rfl (by simp[E,I,cH.list_fn,cH.aJ]) (AK.bn rfl)
 exact aR c [(129,ab),(134,ab)] rfl (by simp[E,I,cH.list_fn,cH.aJ]) (AK.bn rfl (by simp;omega))
abbrev y3:dz:=n6 aI Ki (λk s=>dB (fp k s)) λ_ s=>[iM s,s.1.length<=4000000,s.2.1.length<=4000000]
def HN:dK X 24 y3:=.qK λk s h=>CV k s h.1 h.2.1 h.2.2
def gu(n:Int)(a:List Int×Bool)(y:Int):List Int×Bool :=
 if a.2=ab then(if y=n then a else(a.1++[y],ab))else if n<=y then(if y=n then(a.1++[n],ab)else(a.1++[n,y],ab))else(a.1++[y],ae)
abbrev pE(n:Int)(l:List Int)(i:Nat):List Int×Bool:=(l.take i).foldl (gu n) ([],ae)
def lg(l:List Int)(n:Int):List Int:=if(l.foldl (gu n) ([],ae)).2=ab then(l.foldl (gu n) ([],ae)).1 else(l.foldl (gu n) ([],ae)).1++[n]
def CW{n:Int}{l:List Int}(h:i<l.length):pE n l (i+1)=gu n (pE n l i) (l.getD i 0):=by grind[bu]
def xn(n:Int)(l:List Int):∀i,i<=l.length->(pE n l i).1.length+(if(pE n l i).2=ab then 0 else 1)<=i+1
 |0,_=>by simp[pE]
 |i+1,h=>by have:=xn n l i (by omega);rw[CW (by omega)];generalize pE n l i=a at *;obtain⟨a,b⟩:=a;unfold gu;grind
theorem K8(l:List Int)(n:Int):(lg l n).length<=l.length+1:=by
 have:=xn n l l.length (ba _);simp only[pE,cC]at this;unfold lg;split at this<;>rename_i h
 .grind
 grind
def nk{α:Type}(c:kh α)(l:List α)(x y:α):cw (l.length+1+1) (cT (l.length+1) (cT l.length (c.fn l) λq=>[c.enc x].getD q []) λq=>[c.enc y].getD q []) (c.fn (l++[x,y])):=c.nk l x y
def K9(l:List Int)(n:Int)(q:l.length<=100000000):Ev X 61 [cI.sl l,dI n] [] (cI.sl (lg l n)) []:=by
 refine Ev.bQ Tryz.func61 rfl λp=>?_;refine aX [(1000002,ab)] rfl ar ?_;refine AK.g6 5 3 1 rfl rfl ?_;refine bw rfl ar ?_;refine AK.bX 1 (λi=>i<=l.length) (λi:Nat=>[(0,cI.sl l),(1,dI n),(5,.e (.one (.vec 0 1 (pE n l i).1.length (cI.fn (pE n l i).1)))),(6,dB (pE n l i).2),(7,dI i)]) (λi=>[.vec 3 1 (pE n l i).1.length (cI.fn (pE n l i).1)]) (λi=>l.length-i) 0 rfl (by simp[pE]) rfl (by simp[pE]) rfl (by omega) ?_;intro i hi;have j:=xn n l i hi;by_cases h:i<l.length
 .have c:=CW (n:=n) h;have d:l.getD (i:Int).toNat cI.bP=l.getD i 0:=by rw[bM];rfl
  generalize l.getD i 0=y at *;generalize pE n l i=a at *;obtain⟨a,b⟩:=a;have g:=λy=>cI.cp a y;have o:=λx y=>cI.nk a x y;have r:(a.length+1+1)*8<=140737488355328:=by grind
  have fin:∀a',pE n l (i+1)=a'->True:=λ_ _=>trivial;have k:l.length-(i+1)<l.length-i:=by omega
  by_cases f:y=n
  .cases b with
   |true =>
    rw[show gu n (a,ab) y=(a,ab) by simp[gu,f]]at c;refine aX [(12,ab),(34,ae)] rfl ?_ (AK.aQ (i+1) rfl ?_ ?_ h k)
    .simp only[au,d,f,bx];simp;omega
    .rw[c];simp
    .rw[c];simp
   |false =>
    rw[show gu n (a,ae) y=(a++[n],ab) by simp[gu,f]]at c;refine aX [(12,ab),(24,ab),(34,ae)] rfl ?_ (AK.aQ (i+1) rfl ?_ ?_ h k)
    .simp only[au,d,f,bx,show i3.bytes=8 from rfl];simp;omega
    .rw[c];simp only[au.cat,au,cf,ey,aF,aE];and_intros<;>first|exact cw.same|exact g n|rfl|omega
    .rw[c];simp only[au.cat,au,cf,ey,aF,aE];and_intros<;>first|exact cw.same|exact g n|rfl|omega
  .cases b with
   |true =>
    rw[show gu n (a,ab) y=(a++[y],ab) by simp[gu,f]]at c;refine aX [(12,ab),(34,ab)] rfl ?_ (AK.aQ (i+1) rfl ?_ ?_ h k)
    .simp only[au,d,bx,show i3.bytes=8 from rfl];simp[f];omega
    .rw[c];simp only[au.cat,au,d,cf,ey,aF,aE];and_intros<;>first|exact cw.same|exact g y|rfl|omega
    .rw[c];simp only[au.cat,au,d,cf,ey,aF,aE];and_intros<;>first|exact cw.same|exact g y|rfl|omega
   |false =>
    by_cases m:n<=y
    .rw[show gu n (a,ae) y=(a++[n,y],ab) by simp[gu,f,m]]at c;refine aX [(12,ab),(24,ab),(34,ab)] rfl ?_ (AK.aQ (i+1) rfl ?_ ?_ h k)
     .simp only[au,d,bx,show i3.bytes=8 from rfl];simp[f,m];omega
     .rw[c];simp only[au.cat,au,d,cf,fQ,jz,aF,aE];and_intros<;>first|exact cw.same|exact o n y|rfl|omega
     .rw[c];simp only[au.cat,au,d,cf,fQ,jz,aF,aE];and_intros<;>first|exact cw.same|exact o n y|rfl|omega
    .rw[show gu n (a,ae) y=(a++[y],ae) by simp[gu,m]]at c;refine aX [(12,ab),(24,ae),(34,ab)] rfl ?_ (AK.aQ (i+1) rfl ?_ ?_ h k)
     .simp only[au,d,bx,show i3.bytes=8 from rfl];simp[f,m];omega
     .rw[c];simp only[au.cat,au,d,cf,ey,aF,aE];and_intros<;>first|exact cw.same|exact g y|rfl|omega
     .rw[c];simp only[au.cat,au,d,cf,ey,aF,aE];and_intros<;>first|exact cw.same|exact g y|rfl|omega
 .obtain rfl:i=l.length:=by omega
  unfold lg;simp only[pE,cC]at j⊢;generalize l.foldl (gu n) ([],ae)=a at *;obtain⟨a,b⟩:=a;have g:=cI.cp a n;refine aX [(12,ae)] rfl (by simp) (AK.leaveD rfl rfl ?_);cases b with
  |true=>exact bw rfl (by simp) (AK.bn rfl)
  |false =>
   refine bw rfl ?_ (AK.bn rfl ?_)
   .simp only[au,show i3.bytes=8 from rfl];simp at j⊢;omega
   .simp only[au,gO,bS,cf,ey];and_intros<;>first|exact g|trivial
abbrev EO:dz:=n6 (aL cI) aI (λl n=>cI.sl (lg l n)) λl _=>[l.length<=100000000]
def La:dK X 61 EO:=.qK λl n h=>K9 l n h
theorem jO(a:List Int):∀l:List Int,(l.foldl lg a).length<=a.length+l.length
 |[]=>by simp
 |x::l=>by have:=jO (lg a x) l;grind[K8]
def y4{b:Type}(f:b->Int->b)(a:b){l:List Int}(h:j<l.length):(l.take (j+1)).foldl f a=f ((l.take j).foldl f a) (l.getD j 0):=by grind[bu]
def gj(l:List gC):List Int:=(b5 l).foldl lg []
theorem rn(l:List gC):(gj l).length<=(b5 l).length:=by
 have:=jO [] (b5 l)
 rwa [jz,bA]at this
def ya(s:cg)(t:s.2.length<=4000000)(p:(b5 s.2).length<=4000000):Ev X 60 [Cl s] [] (cI.sl (gj s.2)) []:=by
 refine Ev.bQ Tryz.func60 rfl λq=>?_;have b:bG X [(61,EO)]:=.cons La .nil;refine bZ b rfl ar ?_;refine AK.bX 1 (λi=>i<=s.2.length) (λi:Nat=>[(1,.e (.one (.ptr 0 0))),(3,cI.sl (gj (s.2.take i))),(4,dI i)]) (λ_=>[VS s]) (λi=>s.2.length-i) 0 rfl (by simp[gj,b5]) rfl (by simp) rfl (by omega) ?_;intro i hi;by_cases h:i<s.2.length
 .have l:s.2.getD i cL.bP=s.2.getD i ([],[]):=rfl;have c:=sG h;have m:=nt s.2 (i+1);have r:=rn (s.2.take i);have n:gj (s.2.take (i+1))=(s.2.getD i ([],[])).2.foldl lg (gj (s.2.take i)):=by simp only[gj,c,uQ]
  rw[c,cf]at m;generalize s.2.getD i ([],[])=x at *;generalize gj (s.2.take i)=a at *;refine aR b [(11,ab)] rfl (by simp[h]) ?_;refine AK.bX 1 (λj=>j<=x.2.length) (λj:Nat=>[(1,.e (.one (.ptr 0 0))),(3,cI.sl ((x.2.take j).foldl lg a)),(4,dI i),(5,dI j)]) (λ_=>[VS s]) (λj=>x.2.length-j) 0 rfl (by simp) rfl (by simp) rfl (by omega) ?_;intro j o;by_cases f:j<x.2.length
  .have d:x.2.getD j cI.bP=x.2.getD j 0:=rfl;have k:=y4 lg a f;have g:=jO a (x.2.take j);rw[List.length_take]at g;generalize(x.2.take j).foldl lg a=a2 at *;have e:=cI.list_fn a2;refine aR b [(22,ab)] rfl ?_ (AK.aQ (j+1) rfl ?_ ?_ f (by omega))
   .simp[-ai,l,d,h,f,e,cI.aJ,bx];omega
   .rw[k];simp[-ai,l,d,e]
   .simp
  .obtain rfl:j=x.2.length:=by omega
   rw[cC,<-n];refine aR b [(22,ae)] rfl ?_ (AK.leaveD rfl rfl ?_)
   .simp[-ai,l,h]
   refine bZ b rfl ?_ (AK.aQ (i+1) rfl ?_ ?_ h (by omega))
   .simp[bx];omega
   .simp
   .simp
 .obtain rfl:i=s.2.length:=by omega
  rw[cC];refine aR b [(11,ae)] rfl (by simp) (AK.leaveD rfl rfl ?_);exact bZ b rfl ar (AK.bn rfl)
abbrev Gq:dz:=kB (Dv cL) (λs=>cI.sl (gj s.2)) λs=>[s.2.length<=4000000,(b5 s.2).length<=4000000]
def OG:dK X 60 Gq:=.oL λs h=>ya s h.1 h.2
def gv(l:List cg):List Int:=l.flatMap λx=>b5 x.2
def cy(l:List cg):List Int:=l.foldl (λout x=>(gj x.2).foldl lg out) []
theorem rq{l:List cg}(h:i<l.length):gv (l.take (i+1))=gv (l.take i)++b5 (l.getD i (0,[])).2:=by rw[bu h (0,[])];simp[gv]
def CX(l:List cg)(i:Nat):(gv (l.take i)).length<=(gv l).length:=by
 have h:gv l=gv (l.take i)++gv (l.drop i):=by unfold gv;grind[List.take_append_drop]
 grind
theorem xo{l:List cg}(h:i<l.length):cy (l.take (i+1))=(gj (l.getD i (0,[])).2).foldl lg (cy (l.take i)):=by unfold cy;grind[bu]
def tE(l:List cg):∀i,i<=l.length->(cy (l.take i)).length<=(gv (l.take i)).length
 |0,_=>by simp[cy]
 |i+1,h=>by have a:=tE l i (by omega);grind[jO,rn,xo,rq]
def EP(s:bo)(n:iM s)(u:s.2.1.length<=4000000)(w:(gv s.2.1).length<=4000000):Ev X 27 [nc s] [] (cI.sl (cy s.2.1)) []:=by
 refine Ev.bQ Tryz.func27 rfl λv=>?_;have b:bG X [(61,EO),(60,Gq)]:=.cons La (.cons OG .nil);refine bZ b rfl ar ?_;refine AK.bX 1 (λi=>i<=s.2.1.length) (λi:Nat=>[(1,.e (.one (.ptr 0 0))),(3,cI.sl (cy (s.2.1.take i))),(4,dI i)]) (λ_=>[MF s]) (λi=>s.2.1.length-i) 0 rfl (by simp[cy]) rfl (by simp) rfl (by omega) ?_;intro i hi;by_cases h:i<s.2.1.length
 .have o:s.2.1.getD i ee.bP=s.2.1.getD i (0,[]):=rfl;have p:=n _ (gM (d:=(0,[])) h);have f:=rq h;have r:=CX s.2.1 (i+1);have y:=tE s.2.1 i hi;have n:=xo h;rw[f,cf]at r;generalize s.2.1.getD i (0,[])=x at *;have q:=rn x.2;generalize cy (s.2.1.take i)=a at *;refine aR b [(12,ab)] rfl ?_ ?_
  .simp[-ai,h,o,cL.list_fn,cL.aJ];omega
  have k:s.2.1.getD (i:Int).toNat ee.bP=x:=by rw[bM];exact o
  rw[k,cL.list_fn];refine AK.bX 1 (λj=>j<=(gj x.2).length) (λj:Nat=>[(1,.e (.one (.ptr 0 0))),(3,cI.sl (((gj x.2).take j).foldl lg a)),(4,dI i),(5,cI.sl (gj x.2)),(6,dI j)]) (λ_=>[MF s]) (λj=>(gj x.2).length-j) 0 rfl (by simp) rfl (by simp) rfl (by omega) ?_;intro j t;generalize gj x.2=ns at *;by_cases g:j<ns.length
  .have c:ns.getD j cI.bP=ns.getD j 0:=rfl;have l:=y4 lg a g;have m:=jO a (ns.take j);rw[List.length_take]at m;generalize(ns.take j).foldl lg a=a2 at *;have e:=cI.list_fn a2;refine aR b [(24,ab)] rfl ?_ (AK.aQ (j+1) rfl ?_ ?_ g (by omega))
   .simp[-ai,c,g,e,cI.aJ,bx];omega
   .rw[l];simp[-ai,c,e]
   .simp
  .obtain rfl:j=ns.length:=by omega
   rw[cC,<-n];refine aR b [(24,ae)] rfl (by simp) (AK.leaveD rfl rfl ?_);refine bZ b rfl ?_ (AK.aQ (i+1) rfl ?_ ?_ h (by omega))
   .simp[bx];omega
   .simp
   .simp
 .obtain rfl:i=s.2.1.length:=by omega
  rw[cC];refine aR b [(12,ae)] rfl (by simp) (AK.leaveD rfl rfl ?_);exact bZ b rfl ar (AK.bn rfl)
abbrev CY:dz:=kB Ki (λs=>cI.sl (cy s.2.1)) λs=>[iM s,s.2.1.length<=4000000,(gv s.2.1).length<=4000000]
def Lb:dK X 27 CY:=.oL λs h=>EP s h.1 h.2.1 h.2.2
abbrev dN:=bo×List Int×List Int
abbrev fSt:FA bo:=fP (fL cP) (fP (fL ee) (fL cH))
abbrev fSw:FA dN:=fP fSt (fP (fL cI) (fL cI))
abbrev qD(c:kh α)(l:List α):A:=.c (.sl ae c.k l.length (c.fn l))
abbrev XQ(w:dN):List A:=[qD cP w.1.1,qD ee w.1.2.1,qD cH w.1.2.2,qD cI w.2.1,qD cI w.2.2]
abbrev CZ(w:dN):D:=.e (.agg (XQ w))
structure Zk(s:bo):Prop where
 pN:s.1.length<=4000000
 sm:iM s
 sN:s.2.1.length<=4000000
 aN:(gv s.2.1).length<=4000000
def oc(ps:List bc)(l:List Int)(i:Nat):Bool:=(ps.any λp=>p.1==l.getD i 0)&&x9 (λx=>x) 0 l i
def mx(k:Int)(w:dN):Bool:=(cy w.1.2.1).all (λn=>w.2.1.contains n)&&(bk w.2.2.length).all (oc w.1.1 w.2.2)&&fp k w.1
abbrev Dw(w:dN):bm:=.cells 32 (XQ w)
def Dx(ps:List bc)(q:Nat->aj)(j:Nat):List C:=[.int .i64 (ps.getD j (0,[])).1,.val (q j)]
def Bj(ps:List bc)(q:Nat->aj)(i:Nat):Mem->Prop:=λM=>∀j,j<i->Rd M (q j) (.sl ae 2 (ps.getD j (0,[])).2.length (et.fn (ps.getD j (0,[])).2))
def Iv(q:Nat->aj)(i:Nat)(v:aj)(j:Nat):aj:=if j=i then v else q j
def LV{ps:List bc}{q:Nat->aj}:cw (i+1) (cT i (Dx ps q) (λj=>([[.int .i64 (ps.getD i (0,[])).1,.val v]]:List (List C)).getD j [])) (Dx ps (Iv q i v)):=by
 intro j a;by_cases h:j<i
 .simp[cT,h,Dx,Iv,show j≠i by omega]
 .obtain rfl:j=i:=by omega
  simp[cT,Dx,Iv]
def Bj.up{ps:List bc}{q:Nat->aj}{bf:uz}{xs:List aj}(n:0<(ps.getD i (0,[])).2.length)(f:iq 2 (ps.getD i (0,[])).2.length (et.fn (ps.getD i (0,[])).2) xs)(hb:∃b cap,bf=.row b cap/\(ps.getD i (0,[])).2.length<=cap/\cap<=9223372036854775807):
  ∀M M',wz M M'->Bj ps q i M->(∀b cap,bf=.row b cap->∀j v,xs[j]?=aa v->M' b j=aa v)->Bj ps (Iv q i (sT bf (ps.getD i (0,[])).2.length)) (i+1) M':=by
 intro M M' hle hK hx j hj;by_cases h:j<i
 .have:=(hK j h).mono hle;simpa[Iv,show j≠i by omega]using this
 .obtain rfl:j=i:=by omega
  obtain⟨b,cap,rfl,l,k⟩:=hb;rw[Iv,br rfl];have hx:=hx b cap rfl;refine .sl b 0 (λd e=>xs.getD (d*2+e) ah) l k (λh=>by cases h) (λd a=>f.wid d a) (λ_=>rfl) (λd a e c g=>?_) λd a e c g=>?_
  .obtain⟨v,v1,m⟩:=f.at' d a e c g;grind
  .obtain⟨v,v1,m⟩:=f.at' d a e c g;grind
abbrev O3(s:bo)(i:Nat)(es:Nat->List C)(j:Nat)(l:List cg)(K:Mem->Prop):List bm:=[sv s,.cells 27 [hO,hO,hO],.buf 43 2 i es,.buf 39 2 j (ee.fn l),.buf 101 2 s.2.2.length (cH.fn s.2.2),.cells 27 [.bp 2 (.sl i 2 0 i),.bp 3 (.sl j 2 0 j),.bp 4 (.sl s.2.2.length 2 0 s.2.2.length)],.cq (PM K)]
def E7(s:bo)(z:∀p∈s.1,0<p.2.length)(F:s.1.length<=4000000)(m:∀p∈s.1,p.2.length<=4000000)(D:s.2.1.length<=4000000)(o:iM s)(E:s.2.2.length<=4000000):
  dO (ι:=Nat->aj) X 25 [nc s] [] (λ_=>.e (.agg [.bp 0 (.sl s.1.length 2 0 s.1.length),.bp 1 (.sl s.2.1.length 2 0 s.2.1.length),.bp 2 (.sl s.2.2.length 2 0 s.2.2.length)]))
   (λq=>[.buf 43 2 s.1.length (Dx s.1 q),.buf 39 2 s.2.1.length (ee.fn s.2.1),.buf 101 2 s.2.2.length (cH.fn s.2.2),.cq (PM (Bj s.1 q s.1.length))]):=by
 refine dO.oz tok Tryz.func25 rfl rfl rfl λB=>?_;refine bF [(1000001,ab)] rfl ar ?_;refine AK.region ?_;refine Eo [] 5 rfl ar ?_;refine AK.JA 9 43 2 (cP.fn []) rfl ?_;refine AK.JA 10 39 2 (ee.fn []) rfl ?_;refine AK.JA 11 101 2 (cH.fn []) rfl ?_;refine bF [(1000002,ab)] rfl ?_ ?_
 .simp only[au,show i101.bytes=16 from rfl,aF,aE];grind
 refine AK.spare 68 2 ?_;refine AK.IG (ι:=Unit) 6 (λ_=>PM (Bj s.1 (λ_=>ah) 0)) rfl (λv A h=>⟨(),PM.start (λ_ _ h=>absurd h (gR _)) v A h⟩) λ_=>?_;refine c9 rfl ar ?_;refine AK.bX 7 (λx:Nat×(Nat->aj)=>x.1<=s.1.length) (λx=>[(1,.e (.one (.ptr 0 0))),(2,.e (.one (.ptr 1 0))),(3,.e (.one (.ptr 5 0))),(4,dI x.1)]) (λx=>O3 s x.1 (Dx s.1 x.2) 0 [] (Bj s.1 x.2 x.1)) (λx=>s.1.length-x.1) (0,λ_=>ah) rfl ?_ rfl ?_ rfl (iT _) ?_
 .simp
 .simp[cw,nn];rfl
 rintro⟨i,b⟩ hi;simp only at hi;by_cases h:i<s.1.length
 .have g:s.1.getD i (0,[])∈s.1:=by grind
  have a:s.1.getD (i:Int).toNat cP.bP=s.1.getD i (0,[]):=by grind
  have q:=m _ g;have d:=z _ g;rw[<-a]at d q;refine aX [(20,ab),(1000005,ab)] rfl ?_ ?_
  .simp only[au,bx,bq,aF,aE];omega
  refine AK.Q6 (ι:=Own (s.1.getD (i:Int).toNat cP.bP).2) dn 15 18 8 (λk=>bz k 14)
   (λk=>[.e (.one (.ptr 5 0)),.e (.one (.bp 2 (.sl i 2 0 i))),.e (.one (.ptr 0 0)),cP.sl s.1,dI i,SZ [.int .i64 (s.1.getD (i:Int).toNat cP.bP).1,sP (s.1.getD (i:Int).toNat cP.bP)],SZ [.int .i64 (s.1.getD (i:Int).toNat cP.bP).1,sP (s.1.getD (i:Int).toNat cP.bP)],dI (s.1.getD (i:Int).toNat cP.bP).1,
    .e (.one (.c (.sl ab 2 0 (λj=>[].getD j [])))),.e (.one (.ptr 0 0)),cP.sl s.1,dI i,SZ [.int .i64 (s.1.getD (i:Int).toNat cP.bP).1,sP (s.1.getD (i:Int).toNat cP.bP)],SZ [sP (s.1.getD (i:Int).toNat cP.bP)],.e (.one (.c (sP (s.1.getD (i:Int).toNat cP.bP))))].getD k .any)
   (λq k=>[.e (.one (.c (AR _ q))),.e (.agg [.c (.int .i64 (s.1.getD (i:Int).toNat cP.bP).1),.c (AR _ q)]),.e (.one (.c (.sl ab 2 1 (λj=>[[.int .i64 (s.1.getD (i:Int).toNat cP.bP).1,AR _ q]].getD j []))))].getD (k-15) .any)
   (λq=>O3 s i (Dx s.1 b) 0 [] (Bj s.1 b i)++[HD _ q])
   rfl rfl rfl rfl rfl rfl rfl (λk h=>by have:=dM h;omega) rfl
   ⟨OA.dw tok bG.nil rfl,OA.dw tok bG.nil rfl,OA.dw tok bG.nil rfl,OA.dw tok bG.nil rfl,OA.dw tok bG.nil rfl,OA.eval (ds:=[]) tok bG.nil rfl ?_,OA.dw tok bG.nil rfl,OA.dw tok bG.nil rfl,OA.dw tok bG.nil rfl,OA.dw tok bG.nil rfl,OA.dw tok bG.nil rfl,OA.dw tok bG.nil rfl,OA.eval (ds:=[]) tok bG.nil rfl ?_,OA.dw tok bG.nil rfl,OA.dw tok bG.nil rfl,ar,ar,ar,ar,ar,ar,ar⟩
   (λq=>⟨OA.dw tok bG.nil rfl,OA.dw tok bG.nil rfl,OA.dw tok bG.nil rfl,OA.dw tok bG.nil rfl,OA.dw tok bG.nil rfl,OA.eval (ds:=[]) tok bG.nil rfl ?_,OA.dw tok bG.nil rfl,OA.dw tok bG.nil rfl,OA.dw tok bG.nil rfl,OA.dw tok bG.nil rfl,OA.dw tok bG.nil rfl,OA.dw tok bG.nil rfl,OA.eval (ds:=[]) tok bG.nil rfl ?_,OA.dw tok bG.nil rfl,OA.dw tok bG.nil rfl,ar,OA.dw tok bG.nil rfl,OA.dw tok bG.nil rfl,ar⟩)
   (qj.QW rfl (jR.fresh (UU rfl) rfl rfl rfl d (by show _*24<=_;omega) (Gj _ _))) ?_
  .simp only[au,aE];omega
  .simp only[au,aE];omega
  .simp only[au,aE];omega
  .simp only[au,aE];omega
  rw[a];rw[a]at d q;generalize t:s.1.getD i (0,[])=p at *;intro r;refine aX [(1000004,ab)] rfl ?_ ?_
  .simp only[au,show i43.bytes=32 from rfl,aF,aE];grind
  refine AK.fact (iR.T3 (l:=7) (n:=p.2.length) (bf:=r.1.1) (xs:=r.1.2) rfl d) λC=>?_;refine AK.merge 6 7 (by decide) rfl rfl (λ_ _ h=>h.1) (PM.add (Bj.up (by grind) (by grind) (by grind))) ?_;have e:=LV (ps:=s.1) (q:=b) (i:=i) (v:=sT r.1.1 (s.1.getD i (0,[])).2.length);rw[t]at *;refine bw rfl ?_ (AK.aQ (i+1,Iv b i (sT r.1.1 p.2.length)) rfl ?_ ?_ ?_ ?_)
  .simp only[au,bx,aE];omega
  .simp
  .simp only[au.cat,au,aE,aF];and_intros<;>first|exactλ_ _=>rfl|exact e|rfl
  .grind
  grind
 obtain rfl:i=s.1.length:=by omega
 refine bF [(20,ae)] rfl (by simp) (AK.leaveD rfl rfl ?_);refine c9 rfl ar ?_;refine AK.bX 7 (λi=>i<=s.2.1.length) (λi:Nat=>[(1,.e (.one (.ptr 0 0))),(2,.e (.one (.ptr 1 0))),(3,.e (.one (.ptr 5 0))),(5,dI i)]) (λi=>O3 s s.1.length (Dx s.1 b) i (s.2.1.take i) (Bj s.1 b s.1.length)) (λi=>s.2.1.length-i) 0 rfl ?_ rfl ?_ rfl (by omega) ?_
 .simp
 .simp[cw]
 intro i hi;by_cases h:i<s.2.1.length
 .have g:s.2.1.getD i (0,[])∈s.2.1:=by grind
  have a:s.2.1.getD (i:Int).toNat ee.bP=s.2.1.getD i (0,[]):=by grind
  have q:=o _ g;have e:=ee.mo s.2.1 h (0,[]);generalize s.2.1.getD i (0,[])=x at *;refine bF [(47,ab),(1000010,ab)] rfl ?_ ?_
  .simp only[au,a,bq,true_or,aF,aE];and_intros<;>omega
  rw[a];refine AK.gd 7 1 95 2 (cL.fn []) rfl rfl ?_;refine c9 rfl ar ?_;refine AK.bX 9 (λj=>j<=x.2.length) (λj:Nat=>[(1,.e (.one (.ptr 0 0))),(2,.e (.one (.ptr 1 0))),(3,.e (.one (.ptr 5 0))),(5,dI i),(6,.e (.one (.ptr 7 0))),(7,dI j)]) (λj=>O3 s s.1.length (Dx s.1 b) i (s.2.1.take i) (Bj s.1 b s.1.length)++[.cells 39 [.c (.int .i64 x.1),.vec 8 2 j (cL.fn (x.2.take j))],.vec 95 2 j (cL.fn (x.2.take j))]) (λj=>x.2.length-j) 0 rfl ?_ rfl ?_ rfl (by omega) ?_
  .simp
  .simp[cw]
  intro j u;by_cases w:j<x.2.length
  .have f:x.2.getD (j:Int).toNat cL.bP=x.2.getD j ([],[]):=by grind
   have G:=q.2 (x.2.getD j ([],[])) (by grind);have y:=cL.mo x.2 w ([],[]);refine bF [(66,ab),(2000085,ab)] rfl ?_ (AK.aQ (j+1) rfl ?_ ?_ ?_ ?_)
   .simp only[au,a,f,bx,show i95.bytes=40 from rfl,show i3.bytes=8 from rfl,bq,true_or,aF,aE];and_intros<;>omega
   .simp
   .simp only[au.cat,au,a,f,nn,bA,aE,aF];and_intros<;>first|exactλ_ _=>rfl|exact y|rfl
   .grind
   .omega
  obtain rfl:j=x.2.length:=by omega
  rw[cC];refine bF [(66,ae)] rfl ?_ (AK.leaveD rfl rfl ?_)
  .simp only[au,a,cd];and_intros<;>omega
  refine c9 rfl ?_ (AK.aQ (i+1) rfl ?_ ?_ ?_ ?_)
  .simp only[au,a,bx,show i39.bytes=32 from rfl,aF,aE];and_intros<;>omega
  .simp
  .simp only[au.cat,au,aE,aF];and_intros<;>first|exactλ_ _=>rfl|exact e|rfl
  .grind
  .omega
 obtain rfl:i=s.2.1.length:=by omega
 rw[cC];refine bF [(47,ae)] rfl (by simp) (AK.leaveD rfl rfl ?_);refine c9 rfl ar ?_;refine AK.lO b [2,3,4,6] rfl rfl rfl rfl rfl rfl rfl rfl ?_ rfl rfl rfl rfl (λj u=>absurd u (by simp))
 .simp
def LW(l:List cv)(x:cv)(s:l.length<=4000000):Ev X 152 [et.sl l,RU x] [] (.e (.one (.vec 0 2 (l4 l x).length (et.fn (l4 l x))))) [.vec 68 2 (l4 l x).length (et.fn (l4 l x))]:=by
 refine Ev.bQ Tryz.func152 rfl λr=>?_;refine bF [(1000002,ab)] rfl ar ?_;refine AK.g6 5 68 2 rfl rfl ?_;refine c9 rfl ar ?_;refine AK.bX 2 (λi=>i<=l.length) (λi:Nat=>Zi l x i (mP x l i)) (λi=>XN x (mP x l i).1) (λi=>l.length-i) 0 rfl ?_ rfl ?_ rfl (by omega) ?_
 .simp[mP]
 .simp[mP]
 intro i hi;by_cases h:i<l.length
 .have p:=yV (x:=x) h;have f:=sr x l i;have j:l.getD (i:Int).toNat et.bP=l.getD i (0,[]):=by grind
  generalize mP x l i=a at p f;obtain⟨a,b⟩:=a;simp only at f;have m:=et.cp a (l.getD i (0,[]));have o:=et.nk a x (l.getD i (0,[]));cases b with
  |true =>
   have c:mP x l (i+1)=(a++[l.getD i (0,[])],ab):=p;have k:a.length+1=(a++[l.getD i (0,[])]).length:=by simp
   refine bF [(12,ab)] rfl ?_ (AK.aQ (i+1) rfl ?_ ?_ ?_ ?_)
   .simp only[au,j,bx,show i68.bytes=24 from rfl,bq,aF,aE];and_intros<;>omega
   .rw[c];simp only[au.cat,au,j,aF,aE];and_intros<;>first|exact k|exact m|exactλ_ _=>rfl|rfl|omega
   .rw[c];simp only[au.cat,au,j,aF,aE];and_intros<;>first|exact k|exact m|exactλ_ _=>rfl|rfl|omega
   .grind
   .omega
  |false =>
   by_cases g:x.1<(l.getD i (0,[])).1
   .have c:mP x l (i+1)=(a++[x,l.getD i (0,[])],ab):=by rw[p];simp only[iF,br g];rfl
    have k:a.length+1+1=(a++[x,l.getD i (0,[])]).length:=by simp
    refine bF [(12,ab),(25,ab)] rfl ?_ (AK.aQ (i+1) rfl ?_ ?_ ?_ ?_)
    .simp only[au,j,bx,show i68.bytes=24 from rfl,g,l9,bq,aF,aE];and_intros<;>omega
    .rw[c];simp only[au.cat,au,j,aF,aE];and_intros<;>first|exact k|exact o|exactλ_ _=>rfl|rfl|omega
    .rw[c];simp only[au.cat,au,j,aF,aE];and_intros<;>first|exact k|exact o|exactλ_ _=>rfl|rfl|omega
    .grind
    .omega
   .have c:mP x l (i+1)=(a++[l.getD i (0,[])],ae):=by rw[p];simp only[iF,a9 g];rfl
    have k:a.length+1=(a++[l.getD i (0,[])]).length:=by simp
    refine bF [(12,ab),(25,ae)] rfl ?_ (AK.aQ (i+1) rfl ?_ ?_ ?_ ?_)
    .simp only[au,j,bx,show i68.bytes=24 from rfl,bq,g,kY,l6,cd,aF,aE];and_intros<;>omega
    .rw[c];simp only[au.cat,au,j,aF,aE];and_intros<;>first|exact k|exact m|exactλ_ _=>rfl|rfl|omega
    .rw[c];simp only[au.cat,au,j,aF,aE];and_intros<;>first|exact k|exact m|exactλ_ _=>rfl|rfl|omega
    .grind
    .omega
 .obtain rfl:i=l.length:=by omega
  have d:=tA x l [];have f:=sr x l l.length;refine bF [(12,ae)] rfl (by simp) (AK.leaveD rfl rfl ?_);have q:mP x l l.length=l.foldl (iF x) ([],ae):=by grind
  rw[q]at f⊢;generalize l.foldl (iF x) ([],ae)=a at *;obtain⟨a,b⟩:=a;simp only[uT]at d f;cases b with
  |true =>
   simp only[bY]at d;subst d;refine c9 rfl ar (AK.dJ [1] rfl ?_ ?_ rfl rfl uD)
   .simp
   .rfl
  |false =>
   simp only[gO,bS]at d;have m:=et.cp a x;refine bF [(1000012,ab)] rfl ?_ ?_
   .simp only[au,show i68.bytes=24 from rfl,aF,aE];grind
   have n:(a++[x]).length=a.length+1:=by simp
   refine AK.G7 (φ':=[(5,.e (.one (.vec 1 2 (a++[x]).length (et.fn (a++[x])))))]) (σ':=XN x (a++[x])) ?_ rfl ?_ rfl ?_
   .rw[<-d];refine c9 rfl ar (AK.dJ [1] rfl ?_ ?_ rfl rfl uD)
    .simp
    .rfl
   .simp only[au.cat,au,n,aF,aE];and_intros<;>first|exact m|rfl
   .simp only[au.cat,au,n,aF,aE];and_intros<;>first|exact m|rfl
def LX[X.im](l:List cv)(x:cv)(a:l.length<=4000000):dO (ι:=Own (l4 l x)) X 152 [et.sl l,RU x] [] (λq=>.e (.one (.c (AR (l4 l x) q)))) (λq=>[HD (l4 l x) q]) :=
 Ev.thaw (LW l x a) Tryz.func152 rfl (by simp[va,qt,mn]) λi hi=>⟨rfl,Gj _ _ i hi⟩
def Zs(no:Int)(L:List cv):Option (Own L)->List cv->List bm
 |none,l=>[.cells 43 [.c (.int .i64 0),.c (.sl ab 0 0 λ_=>[])],pkB no l,.cq (iR 68 2 (.nil af) 0 [])]
 |some q,_=>[.cells 43 [.c (.int .i64 0),.c (.sl ab 0 0 λ_=>[])],.cells 43 [.c (.int .i64 no),.c (AR L q)],HD L q]
def H8[X.im](no k:Int)(ps:List Bs)(n:cJ k=ab)(w:∀p∈ps,bJ p=ab)(B:ps.length<=4000000)(z:0<ps.length):
  dO (ι:=Own (xQ k ps)) X 108 [dI no,dI k,cS.sl ps] [] (λq=>.e (.agg [.c (.int .i64 no),.c (AR (xQ k ps) q)])) (λq=>[HD (xQ k ps) q]):=by
 refine dO.oz tok Tryz.func108 rfl rfl rfl λA=>?_;have f:bG X [(116,wX),(153,Gi),(152,PW)]:=.cons wS (.cons KM (.cons UR .nil));refine bt f [(1000002,ab)] rfl ar ?_;refine AK.spare 68 2 ?_;refine cN f rfl ar ?_;refine AK.bX 3 (λx:Option (Own (xQ k ps))×Nat=>x.2<=ps.length/\(x.1.isSome=ab↔x.2=ps.length)) (λx=>[(1,dI k),(2,cS.sl ps),(6,.e (.one (.ptr 0 0))),(7,.e (.one (.ptr 1 0))),(8,dI x.2)]) (λx=>Zs no (xQ k ps) x.1 (xQ k (ps.take x.2))) (λx=>ps.length-x.2) (af,0) rfl ?_ rfl ?_ rfl ⟨iT _,by grind⟩ ?_
 .simp
 .simp[xQ]
 rintro⟨q,i⟩ ⟨hi,t⟩;simp only at hi t;cases q with
 |some q =>
  obtain rfl:i=ps.length:=t.1 rfl;refine bt f [(15,ae)] rfl (by simp) (AK.leaveD rfl rfl ?_);refine cN f rfl ar ?_;refine AK.lO q [2] rfl rfl rfl rfl rfl rfl rfl rfl ?_ rfl rfl rfl rfl (λj u=>absurd u (by simp));simp
 |none =>
  have h:i<ps.length:=by grind
  have m:ps.getD (i:Int).toNat cS.bP=ps.getD i []:=by grind
  have b:bJ (ps.getD i [])=ab:=w _ (by grind);have v:=KO (k:=k) h;have o:=AQ k (ps.take i);rw[List.length_take]at o;by_cases C:i+1<ps.length
  .refine bt f [(15,ab)] rfl ?_ (AK.aQ (af,i+1) rfl ?_ ?_ ?_ ?_)
   .simp only[au,m,n,b,bx,et.list_fn,bq,aF,aE];and_intros<;>first|exact et.aJ _|omega
   .simp
   .show au _;rw[v];simp only[au.cat,au,m,et.list_fn,aF,aE];and_intros<;>first|exactλ_ _=>rfl|rfl|omega
   .grind
   grind
  .have y:i+1=ps.length:=by omega
   have d:xQ k ps=l4 (xQ k (ps.take i)) (gp k (ps.getD i []),gq (ps.getD i [])):=by grind
   refine bt f [(15,ab),(1000005,ab)] rfl ?_ ?_
   .simp only[au,bq];omega
   have g:=LX (X:=X) (xQ k (ps.take i)) (gp k (ps.getD i []),gq (ps.getD i [])) (by omega);rw[<-d]at g;have a:bG X [(116,wX),(153,Gi)]:=.cons wS (.cons KM .nil);generalize s:ps.getD i []=p at *;generalize xQ k (ps.take i)=l at *;refine AK.Q6 (ι:=Own (xQ k ps)) dn 14 15 16 (λj=>bz j 13)
    (λj=>([.e (.one (.ptr 1 1)),et.sl l,dI k,cS.sl ps,dI i,SZ [.str (ps.getD (i:Int).toNat cS.bP)],dS (ps.getD (i:Int).toNat cS.bP),dI (gp k (ps.getD (i:Int).toNat cS.bP)),cS.sl ps,dI i,SZ [.str (ps.getD (i:Int).toNat cS.bP)],dS (ps.getD (i:Int).toNat cS.bP),dS (gq (ps.getD (i:Int).toNat cS.bP)),.e (.agg [.c (.int .i64 (gp k (ps.getD (i:Int).toNat cS.bP))),.c (.str (gq (ps.getD (i:Int).toNat cS.bP)))])]:List D).getD j .any)
    (λq _=>.e (.one (.c (AR (xQ k ps) q)))) (λq=>Zs no (xQ k ps) af l++[HD (xQ k ps) q])
    rfl rfl rfl rfl rfl rfl rfl (λj h=>by have:=dM h;omega) rfl
    ⟨OA.dw tok a rfl,OA.dw tok a rfl,OA.dw tok a rfl,OA.dw tok a rfl,OA.dw tok a rfl,OA.eval (ds:=[]) tok a rfl ?_,OA.dw tok a rfl,OA.eval (ds:=[]) tok a rfl ?_,OA.dw tok a rfl,OA.dw tok a rfl,OA.eval (ds:=[]) tok a rfl ?_,OA.dw tok a rfl,OA.eval (ds:=[]) tok a rfl ?_,OA.dw tok a rfl,ar,ar,ar,ar⟩
    (λq=>⟨OA.dw tok a rfl,OA.dw tok a rfl,OA.dw tok a rfl,OA.dw tok a rfl,OA.dw tok a rfl,OA.eval (ds:=[]) tok a rfl ?_,OA.dw tok a rfl,OA.eval (ds:=[]) tok a rfl ?_,OA.dw tok a rfl,OA.dw tok a rfl,OA.eval (ds:=[]) tok a rfl ?_,OA.dw tok a rfl,OA.eval (ds:=[]) tok a rfl ?_,OA.dw tok a rfl,ar,ar⟩)
    (qj.zO (s▸g) [] rfl rfl rfl rfl rfl rfl rfl (λ_=>rfl) rfl (λ_=>rfl)) ?_
   all_goals first|(simp only[au,m,n,b,aE,aF];omega)|(simp only[au.cat,au,m,n,b,and_self];done)|skip
   intro r;refine bt a [(1000004,ab)] rfl ar ?_;refine AK.swap 2 3 (by decide) rfl rfl (λ_ _ h=>h.1) (λ_ _ h=>h.1) ?_;refine cN a rfl ?_ (AK.aQ (aa r,i+1) rfl ?_ ?_ ?_ ?_)
   .simp only[au,bx];omega
   .simp
   .simp
   .grind
   grind
def Bj.snoc{ps:List bc}{x:bc}{q:Nat->aj}{bf:uz}{xs:List aj}(a:0<x.2.length)(c:iq 2 x.2.length (et.fn x.2) xs)(hb:∃b cap,bf=.row b cap/\x.2.length<=cap/\cap<=9223372036854775807):
  ∀M M',wz M M'->Bj ps q ps.length M->(∀b cap,bf=.row b cap->∀j v,xs[j]?=aa v->M' b j=aa v)->Bj (ps++[x]) (Iv q ps.length (sT bf x.2.length)) (ps++[x]).length M':=by
 intro M M' hle hK hx;have e:(ps++[x]).getD ps.length (0,[])=x:=by simp
 have h:=Bj.up (ps:=ps++[x]) (q:=q) (i:=ps.length) (bf:=bf) (xs:=xs) (by grind) (by grind) (by grind) M M' hle (λj hj=>by
  have e2:(ps++[x]).getD j (0,[])=ps.getD j (0,[]):=by grind
  rw[e2];exact hK j hj) hx
 grind
def LY{ps:List bc}{x:bc}{q:Nat->aj}:cw (ps.length+1) (cT ps.length (Dx ps q) (λj=>([[.int .i64 x.1,.val v]]:List (List C)).getD j [])) (Dx (ps++[x]) (Iv q ps.length v)):=by
 intro j b;by_cases h:j<ps.length
 .have a:(ps++[x]).getD j (0,[])=ps.getD j (0,[]):=by grind
  simp only[cT,h,bY,Dx,Iv,a,a9 (show j≠ps.length by omega)]
 .obtain rfl:j=ps.length:=by omega
  have e:(ps++[x]).getD ps.length (0,[])=x:=by simp
  simp only[cT,Dx,Iv,e,bY];simp
abbrev Ya(k by_ no:Int)(s:bo)(t:List bC)(rest:List Bs):Fr:=[(0,dI k),(2,dI by_),(3,cF.sl t),(5,.e (.one (.ptr 0 0))),(8,.e (.one (.ptr 1 0))),(10,.e (.one (.ptr 6 0))),(11,dI no),(12,dI (gJ s)),(13,cS.sl rest)]
abbrev O4(s:bo)(ps:List bc)(q:Nat->aj):List bm:=[sv s,.cells 27 [hO,hO,hO],.buf 43 2 ps.length (Dx ps q),.buf 39 2 s.2.1.length (ee.fn s.2.1),.buf 101 2 s.2.2.length (cH.fn s.2.2),.cq (PM (Bj ps q ps.length)),.cells 27 [.bp 2 (.sl ps.length 2 0 ps.length),.bp 3 (.sl s.2.1.length 2 0 s.2.1.length),.bp 4 (.sl s.2.2.length 2 0 s.2.2.length)]]
def xJ[X.im](k:Int)(s:bo)(by_:Int)(t:List bC)(B:cJ k=ab)(b:iS s)(z:HB s)(A:sq t)(J:(eT s.1).length<=100000)(h0:∀p∈s.1,0<p.2.length){y:Bool}(F:uf k s t=y):
  dO (ι:=Nat->aj) X 85 [dI k,nc s,dI by_,cF.sl t] [] (λ_=>cond y (Zh s ae) (.fz [.agg [.bp 0 (.sl (g7 k s by_ t).1.length 2 0 (g7 k s by_ t).1.length),.c (Ob (g7 k s by_ t).2.1),.c (Oc (g7 k s by_ t).2.2)],.one (.c (.bool ab))]))
   (λq=>cond y [] [.buf 43 2 (g7 k s by_ t).1.length (Dx (g7 k s by_ t).1 q),.cq (PM (Bj (g7 k s by_ t).1 q (g7 k s by_ t).1.length))]):=by
 refine dO.oz tok Tryz.func85 rfl rfl rfl λhf=>?_;have a:bG X [(107,KL),(106,KE),(109,PU)]:=.cons RV (.cons RR (.cons UL .nil));have h1:=b.p;have h2:=b.sn;have h3:=b.h;have hix:=Cs J;refine cN a rfl ar ?_;refine AK.cP (E7 s h0 b.p b.p2 b.sn b.s2 b.h) [] rfl (λ_=>rfl) λU=>?_;refine cN a rfl ar ?_;refine AK.cQ (HC s b z) [] rfl ?_;refine cN a rfl ?_ ?_
 .simp only[au,cP.list_fn,oM.list_fn,cF.list_fn,B,A];and_intros<;>first|exact cP.aJ _|exact oM.aJ _|exact cF.aJ _|trivial|exact A|omega
 simp only[cP.list_fn,oM.list_fn,cF.list_fn];obtain⟨G,hpl⟩:=wV (k:=k) (l:=indexOf s.1) A;have hN:yP k s t=gV k (jL k t (indexOf s.1)).length (gg s) (jL k t (indexOf s.1)):=rfl;generalize jL k t (indexOf s.1)=pc at *;generalize P:yP k s t=np at *;have W:-4000000<=gg s/\gg s<=4000001:=by
  unfold gg;split
  .omega
  .rename_i h;have:=z.p _ (gh (show s.1.length-1<s.1.length by omega) (0,[]));omega
 have SE:np.length<=100000:=by grind[wU]
 refine AK.kA (S2:=Nat->aj) 0 rfl rfl (λ_=>True) (λ_=>[(0,dI k),(2,dI by_),(3,cF.sl t),(5,.e (.one (.ptr 0 0))),(8,.e (.one (.ptr 1 0))),(10,.e (.one (.ptr 6 0))),(11,dI (gg s+np.length)),(12,dI (gJ s))]) (λq=>O4 s (s.1++np) q) 7
  (λx:List Bs×List bc×(Nat->aj)=>(∀p∈x.1,bJ p=ab)/\x.2.1.length+x.1.length<=5000000/\s.1.length<=x.2.1.length/\∃f,x.1.length<=f/\s.1++np=x.2.1++gV k f (gg s+(x.2.1.length-s.1.length:Nat)) x.1) (λx=>Ya k by_ (gg s+(x.2.1.length-s.1.length:Nat)) s t x.1) (λx=>O4 s x.2.1 x.2.2) (λx=>x.1.length) (pc,s.1,U) rfl ?_ rfl ?_ rfl ⟨G,by grind,ba _,pc.length,ba _,by grind⟩ ?_ ?_
 .simp
 .simp
 .rintro out ⟨rest,ps,q⟩ ⟨M,g2,g3,f,g4,I⟩;simp only at M g2 g3 g4 I;by_cases h:0<rest.length
  .obtain⟨f,rfl⟩:∃S,f=S+1:=⟨f-1,by omega⟩
   simp only[gV,br h]at I;have hm:bx .i64 ((min rest.length 4:Nat):Int):=by simp only[bx];omega
   refine bt a [(30,ab)] rfl (by simp only[au,bq];omega) ?_;refine AK.law (AE ((min rest.length 4:Nat):Int) rfl rfl rfl (KD rest.length 4) hm) rfl rfl ?_;have N:cD rest.length (aa ((min rest.length 4:Nat):Int))-cD 0 af=min rest.length 4:=by simp[cD]
   have hD:cw (rest.length-min rest.length 4) (mN (min rest.length 4) (cS.fn rest)) (cS.fn (rest.drop 4)):=by
    intro i hi;have R:min rest.length 4=4:=by omega
    rw[R];simp only[mN,kh.fn,x8,ai,oS]
   have hT:cw (cD rest.length (aa ((min rest.length 4:Nat):Int))-cD 0 af) (mN (cD 0 af) (cS.fn rest)) (cS.fn (rest.take 4)):=by intro i hi;rw[N]at hi;simp only[mN,cD,kh.fn,x8,ai,bA];grind
   have hTl:(rest.take 4).length=min rest.length 4:=by grind
   have K:∀p∈rest.take 4,bJ p=ab:=λp H=>M p (jy H);have L:=H8 (X:=X) (gg s+(ps.length-s.1.length:Nat)) k (rest.take 4) B K (by omega) (by omega);have Z:py (gg s+(ps.length-s.1.length:Nat)) k (rest.take 4)=(gg s+(ps.length-s.1.length:Nat),xQ k (rest.take 4)):=rfl;have w:0<(xQ k (rest.take 4)).length:=by grind[AQ]
   generalize V:gg s+(ps.length-s.1.length:Nat)=no at *;have O:-5000000<=no/\no<=10000000:=by omega
   generalize hit:xQ k (rest.take 4)=LZ at *;refine bt a [(1000006,ab)] rfl ar ?_;refine AK.Q6 (ι:=Own LZ) dn 7 9 12 (λj=>bz j 6)
    (λj=>([.e (.one (.ptr 6 0)),.e (.one (.bp 2 (.sl ps.length 2 0 ps.length))),dI no,dI k,cS.sl rest,dI (min rest.length 4:Nat),.e (.one (.c (.sl ae 1 (cD rest.length (aa ((min rest.length 4:Nat):Int))-cD 0 af) (mN (cD 0 af) (cS.fn rest)))))]:List D).getD j .any)
    (λr j=>match j with|7=>.e (.agg [.c (.int .i64 no),.c (AR LZ r)])|_=>.e (.one (.c (.sl ab 2 1 (λj=>([[.int .i64 no,AR LZ r]]:List (List C)).getD j []))))) (λr=>O4 s ps q++[HD LZ r])
    rfl rfl rfl rfl rfl rfl rfl (λj h=>by have:=dM h;omega) rfl
    ⟨OA.dw tok a rfl,OA.dw tok a rfl,OA.dw tok a rfl,OA.dw tok a rfl,OA.dw tok a rfl,OA.dw tok a rfl,OA.eval (ds:=[]) tok a rfl ?_,ar,ar,ar,ar,ar,ar⟩
    (λr=>⟨OA.dw tok a rfl,OA.dw tok a rfl,OA.dw tok a rfl,OA.dw tok a rfl,OA.dw tok a rfl,OA.dw tok a rfl,OA.eval (ds:=[]) tok a rfl ?_,ar,OA.dw tok a rfl,ar⟩)
    (qj.nT L [] rfl rfl rfl rfl ?_ rfl rfl rfl (λ_=>rfl) rfl (λ_=>rfl)) ?_
   .simp only[gA,au];omega
   .simp only[gA,au];omega
   .simp only[au.cat,au,aF,aE];grind
   intro r;refine bt a [(1000007,ab)] rfl ?_ ?_
   .simp only[au,show i43.bytes=32 from rfl,aF];omega
   refine AK.fact (iR.T3 (l:=7) (n:=LZ.length) (bf:=r.1.1) (xs:=r.1.2) rfl w) λT=>?_;refine AK.merge 5 7 (by decide) rfl rfl (λ_ _ h=>h.1) (PM.add (Bj.snoc (x:=(no,LZ)) w r.2 T)) ?_;have e:=LY (ps:=ps) (x:=(no,LZ)) (q:=q) (v:=sT r.1.1 LZ.length);have o:(ps++[(no,LZ)]).length=ps.length+1:=by simp
   refine cN a rfl ?_ (AK.aQ (rest.drop 4,ps++[(no,LZ)],Iv q ps.length (sT r.1.1 LZ.length)) rfl ?_ ?_ ?_ ?_)
   .simp only[au,bx,gA];omega
   .simp only[au.cat,au,o,rE,cD,bM,aF,aE];and_intros<;>first|rfl|omega|exactλ_ _=>rfl|exact hD
   .simp only[au.cat,au,o,aF,aE];and_intros<;>first|rfl|exactλ_ _=>rfl|exact e|omega
   .refine⟨λp H=>M p (zx H),by grind,by grind,f,by grind,?_⟩;grind
   grind
  .have e:ps=s.1++np:=by rw[I];cases f<;>simp[gV,h]
   refine bt a [(30,ae)] rfl (by simp only[au,cd];omega) (AK.leaveD rfl rfl ?_);refine out q ar rfl ?_ rfl ?_
   .simp only[au.cat,au,e,cf,aF,aE];and_intros<;>first|rfl|omega|exactλ_ _=>rfl
   .simp[e]
 rintro q -;have d:uf k s t=(decide (20<s.1.length+np.length)||(decide (99<gg s+np.length-1)||(decide (20<gJ s)||decide (9<=s.2.2.length)))):=by unfold uf;rw[P]
 rw[F]at d;have g:(s.1++np).length=s.1.length+np.length:=cf;have Yl:-4000000<=gJ s/\gJ s<=4000001:=by
  have:=sx s.2.2 z.h;unfold gJ;split
  .omega
  .have:=z.s _ (gh (show s.2.1.length-1<s.2.1.length by omega) (0,[]));omega
 cases y with
 |true =>
  apply AK.join [(5,.e (.one (.ptr 0 0))),(8,.e (.one (.ptr 1 0)))] (O4 s (s.1++np) q)
  .intro out;by_cases c1:20<s.1.length+np.length
   .refine bt a [(53,ab),(1000010,ab)] rfl ?_ (out _ _ rfl (by simp));simp[g];omega
   by_cases c2:99<gg s+np.length-1
   .refine bt a [(53,ae),(57,ab),(1000010,ab)] rfl ?_ (out _ _ rfl (by simp));simp[g,bx];omega
   by_cases c3:20<gJ s
   .refine bt a [(53,ae),(57,ae),(61,ab),(1000010,ab)] rfl ?_ (out _ _ rfl (by simp));simp[g,bx];omega
   refine bt a [(53,ae),(57,ae),(61,ae),(67,ab),(1000010,ab)] rfl ?_ (out _ _ rfl (by simp));simp[g,bx];grind
  refine cN a rfl ar ?_;refine AK.cQ (w6 s b.p b.p2 b.sn b.s2 b.h) [] rfl ?_;refine cN a rfl ar ?_;refine AK.PC q [] rfl rfl rfl rfl rfl rfl rfl rfl rfl ?_ rfl rfl rfl rfl uD;simp
 |false =>
 have d:=d.symm;simp only[Bool.or_eq_false_iff,cd]at d;obtain⟨c1,c2,c3,c4⟩:=d;have N:=ee.cp s.2.1 (kR (gJ s) k t);have e2:=cH.cp s.2.2 (by_,gJ s);have E:g7 k s by_ t=(s.1++np,s.2.1++[kR (gJ s) k t],s.2.2++[(by_,gJ s)]):=by unfold g7;rw[P]
 rw[E];refine bt a [(53,ae),(57,ae),(61,ae),(67,ae),(1000013,ab)] rfl ?_ ?_
 .simp only[au,B,cF.list_fn,g,bx,show i39.bytes=32 from rfl,show i101.bytes=16 from rfl,bq,cd,aF,aE];and_intros<;>first|exact A|exact cF.aJ _|rfl|omega
 generalize s.1++np=ps at *;generalize hsw:s.2.1++[kR (gJ s) k t]=sw at *;generalize Y:s.2.2++[(by_,gJ s)]=hw at *;have u:sw.length=s.2.1.length+1:=by grind
 have m:hw.length=s.2.2.length+1:=by grind
 refine AK.G7 (φ':=[(8,.e (.one (.ptr 1 0))),(10,.e (.one (.ptr 6 0)))]) (σ':=[sv s,.cells 27 [hO,hO,hO],.buf 43 2 ps.length (Dx ps q),.buf 39 2 sw.length (ee.fn sw),.buf 101 2 hw.length (cH.fn hw),.cq (PM (Bj ps q ps.length)),.cells 27 [.bp 2 (.sl ps.length 2 0 ps.length),.bp 3 (.sl sw.length 2 0 sw.length),.bp 4 (.sl hw.length 2 0 hw.length)]]) ?_ rfl ?_ rfl ?_
 .refine AK.rT 3 rfl rfl rfl (by simp) (by simp) ?_;refine AK.rT 4 rfl rfl rfl (by simp) (by simp) ?_;refine bw rfl ar ?_;refine AK.PC q [2,5] rfl rfl rfl rfl rfl rfl rfl rfl rfl ?_ rfl rfl rfl rfl (λj Q=>absurd Q (by simp));simp[sX]
 .simp
 .simp only[au.cat,au,u,m,cF.list_fn,aF,aE];and_intros<;>first|exact cw.same|exact N|exact e2|rfl
abbrev SA(v:aj)(ps:List bc):Mem->Prop:=λM=>Rd M v (.sl ae 2 ps.length (cP.fn ps))
def E8[X.im](k:Int)(s:bo)(by_:Int)(t:List bC)(m:cJ k=ab)(n:iS s)(o:HB s)(g:sq t)(d:(eT s.1).length<=100000)(l:∀p∈s.1,0<p.2.length)(f:uf k s t=ae):
  dO (ι:=aj) X 85 [dI k,nc s,dI by_,cF.sl t] [.cq (iR 43 2 (.nil af) 0 [])] (λv=>.fz [.agg [.c (.val v),.c (Ob (g7 k s by_ t).2.1),.c (Oc (g7 k s by_ t).2.2)],.one (.c (.bool ab))])
   (λv=>[.cq (PM (SA v (g7 k s by_ t).1))]):=by
 refine dO.T4 (dO.Bh (cP.fn (g7 k s by_ t).1) (xJ k s by_ t m n o g d l f) (λq M M' hle hK j b=>(hK j b).mono hle) λq M hK j b=>?_) (λ_ _ _ h=>h.1) (λ_=>rfl) (λ_=>rfl) rfl rfl;have hK:=hK j b;generalize(g7 k s by_ t).1=ps at *;have e:cP.fn ps j=[.int .i64 (ps.getD j (0,[])).1,sP (ps.getD j (0,[]))]:=rfl;rw[e];refine⟨rfl,λp c a=>?_⟩
 match p,a with
 |0,a=>cases a;exact⟨_,rfl,λv i h=>by cases h with|int h=>exact .int h⟩
 |1,a=>cases a;exact⟨_,rfl,λv i h=>by grind[Rd.fu]⟩
def Hw(l:List Int):Ev X 35 [cI.sl l,cI.sl l] [] (dB ab) []:=by
 refine Ev.bQ Tryz.func35 rfl λa=>?_;have b:=a.sl 0 rfl;refine aX [(10,ae)] rfl (by simp) ?_;refine AK.bX 0 (λi=>i<=l.length) (λi:Nat=>[(0,cI.sl l),(1,cI.sl l),(5,dI i)]) (λ_=>[]) (λi=>l.length-i) 0 rfl (by simp) rfl (by simp) rfl (by omega) ?_;intro i hi;by_cases h:i<l.length
 .refine bF [(14,ab),(25,ae)] rfl ?_ (AK.aQ (i+1) rfl ?_ ?_ ?_ ?_)
  .simp only[au,bx,jW,kL,mG,bq,aF,aE];and_intros<;>omega
  .simp
  .simp
  .grind
  .omega
 .refine bF [(14,ae)] rfl (by simp;omega) (AK.leaveD rfl rfl ?_);exact c9 rfl ar (AK.bn rfl)
abbrev RS:dz:=n6 (aL cI) (aL cI) (λ_ _=>dB ab) λa b=>[b=a]
def UN:dK X 35 RS:=.qK λa b h=>by have:b=a:=h;subst this;exact Hw _
def KH(l:List (Int×Int)):Ev X 45 [cH.sl l,cH.sl l] [] (dB ab) []:=by
 refine Ev.bQ Tryz.func45 rfl λa=>?_;have b:=a.sl 0 rfl;refine aX [(10,ae)] rfl (by simp) ?_;refine AK.bX 0 (λi=>i<=l.length) (λi:Nat=>[(0,cH.sl l),(1,cH.sl l),(5,dI i)]) (λ_=>[]) (λi=>l.length-i) 0 rfl (by simp) rfl (by simp) rfl (by omega) ?_;intro i hi;by_cases h:i<l.length
 .refine bF [(14,ab),(25,ae)] rfl ?_ (AK.aQ (i+1) rfl ?_ ?_ ?_ ?_)
  .simp[bx,h];omega
  .simp
  .simp
  .grind
  .omega
 .refine bF [(14,ae)] rfl (by simp;omega) (AK.leaveD rfl rfl ?_);exact c9 rfl ar (AK.bn rfl)
abbrev UO:dz:=n6 (aL cH) (aL cH) (λ_ _=>dB ab) λa b=>[b=a]
def XK:dK X 45 UO:=.qK λa b h=>by have:b=a:=h;subst this;exact KH _
abbrev pB(p:bc):bm:=.cells 43 [.c (.int .i64 p.1),.c (.sl ae 2 p.2.length (et.fn p.2))]
def Hx(p:bc):Ev X 13 [xP p,xP p] [] (dB ab) []:=by
 refine Ev.bQ Tryz.func13 rfl λl=>?_;by_cases o:p.2.length<=9223372036854775807
 .refine aX [(10,ae),(18,ae)] rfl (by simp) ?_;refine AK.bX 2 (λi=>i<=p.2.length) (λi:Nat=>[(2,.e (.one (.ptr 0 0))),(3,.e (.one (.ptr 1 0))),(5,dI i)]) (λ_=>[pB p,pB p]) (λi=>p.2.length-i) 0 rfl (by simp) rfl (by simp) rfl (by omega) ?_;intro i hi;by_cases h:i<p.2.length
  .refine bF [(24,ab),(37,ae)] rfl ?_ (AK.aQ (i+1) rfl ?_ ?_ ?_ ?_)
   .simp[bx,h];omega
   .simp
   .simp
   .grind
   .omega
  .refine bF [(24,ae)] rfl (by simp;omega) (AK.leaveD rfl rfl ?_);exact c9 rfl ar (AK.bn rfl)
 .exfalso;obtain⟨s,vs,g,_⟩:=l;obtain⟨q,k⟩:∃v,dm [] s v (xP p):=by
   match vs,g with
   |[a,_],g=>exact⟨a,g.1⟩
  obtain⟨m,_,d⟩:=k
  match m,d with
  |[a,c],d =>
   have:=d.2.1;cases(show Rd s.M c (.sl ae 2 p.2.length (et.fn p.2))from this)with
   |sl b off f j n=>omega
abbrev UP:dz:=n6 (Dv et) (Dv et) (λ_ _=>dB ab) λa b=>[b=a]
def XL:dK X 13 UP:=.qK λa b h=>by have:b=a:=h;subst this;exact Hx _
abbrev sB(p:cg):bm:=.cells 39 [.c (.int .i64 p.1),.c (.sl ae 2 p.2.length (cL.fn p.2))]
def Hy(x:cg)(b:x.2.length<=4000000):Ev X 46 [Cl x,Cl x] [] (dB ab) []:=by
 refine Ev.bQ Tryz.func46 rfl λc=>?_;have a:bG X [(35,RS)]:=.cons UN .nil;refine aR a [(10,ae),(18,ae)] rfl (by simp) ?_;refine AK.bX 2 (λi=>i<=x.2.length) (λi:Nat=>[(2,.e (.one (.ptr 0 0))),(3,.e (.one (.ptr 1 0))),(5,dI i)]) (λ_=>[sB x,sB x]) (λi=>x.2.length-i) 0 rfl (by simp) rfl (by simp) rfl (by omega) ?_;intro i hi;by_cases h:i<x.2.length
 .refine bt a [(24,ab),(39,ae),(53,ab)] rfl ?_ (AK.aQ (i+1) rfl ?_ ?_ ?_ ?_)
  .simp only[au,bx,jW,kL,mG,bq,aF,aE];and_intros<;>first|exact cI.aJ _|omega
  .simp
  .simp
  .grind
  .omega
 .refine bt a [(24,ae)] rfl (by simp;omega) (AK.leaveD rfl rfl ?_);exact cN a rfl ar (AK.bn rfl)
abbrev UQ:dz:=n6 (Dv cL) (Dv cL) (λ_ _=>dB ab) λa b=>[b=a,b.2.length<=4000000]
def XM:dK X 46 UQ:=.qK λa b h=>by obtain⟨rfl,c⟩:b=a/\_:=h;exact Hy _ c
abbrev Ol(s:bo):bm:=.cells 27 [.c (.sl ae 2 s.1.length (cP.fn s.1)),.c (.sl ae 2 s.2.1.length (ee.fn s.2.1)),.c (.sl ae 2 s.2.2.length (cH.fn s.2.2))]
def rl(s:bo)(b:iS s):Ev X 18 [nc s,nc s] [] (dB ab) []:=by
 refine Ev.bQ Tryz.func18 rfl λf=>?_;have a:bG X [(45,UO),(13,UP),(46,UQ)]:=.cons XK (.cons XL (.cons XM .nil));have j:=b.p;have d:=b.sn;refine bt a [(13,ae),(21,ae),(28,ab)] rfl ?_ ?_
 .simp only[au,bx,jW,kL,mG,bq,aF,aE];and_intros<;>first|exact cH.aJ _|omega
 refine AK.bX 2 (λi=>i<=s.1.length) (λi:Nat=>[(2,.e (.one (.ptr 0 0))),(3,.e (.one (.ptr 1 0))),(5,dI i)]) (λ_=>[Ol s,Ol s]) (λi=>s.1.length-i) 0 rfl (by simp) rfl (by simp) rfl (by omega) ?_;intro i hi;by_cases h:i<s.1.length
 .refine bt a [(35,ab),(48,ab)] rfl ?_ (AK.aQ (i+1) rfl ?_ ?_ ?_ ?_)
  .simp only[au,bx,bq,aF,aE];and_intros<;>first|exact et.aJ _|omega
  .simp
  .simp
  .grind
  .omega
 refine bt a [(35,ae)] rfl (by simp;omega) (AK.leaveD rfl rfl ?_);refine cN a rfl ar ?_;refine AK.bX 2 (λi=>i<=s.2.1.length) (λi:Nat=>[(2,.e (.one (.ptr 0 0))),(3,.e (.one (.ptr 1 0))),(6,dI i)]) (λ_=>[Ol s,Ol s]) (λi=>s.2.1.length-i) 0 rfl (by simp) rfl (by simp) rfl (by omega) ?_;intro i hi;by_cases h:i<s.2.1.length
 .have g:=(b.s2 _ (gh h (0,[]))).1;have c:s.2.1.getD (i:Int).toNat ee.bP=s.2.1.getD i (0,[]):=by grind
  refine bt a [(54,ab),(67,ab)] rfl ?_ (AK.aQ (i+1) rfl ?_ ?_ ?_ ?_)
  .simp only[au,bx,c,cL.list_fn,bq,aF,aE];and_intros<;>first|exact cL.aJ _|omega
  .simp
  .simp
  .grind
  .omega
 refine bt a [(54,ae)] rfl (by simp;omega) (AK.leaveD rfl rfl ?_);exact cN a rfl ar (AK.bn rfl)
def R0(l:List bC):Ev X 37 [cF.sl l,cF.sl l] [] (dB ab) []:=by
 refine Ev.bQ Tryz.func37 rfl λa=>?_;have b:=a.sl 0 rfl;refine aX [(10,ae)] rfl (by simp) ?_;refine AK.bX 0 (λi=>i<=l.length) (λi:Nat=>[(0,cF.sl l),(1,cF.sl l),(5,dI i)]) (λ_=>[]) (λi=>l.length-i) 0 rfl (by simp) rfl (by simp) rfl (by omega) ?_;intro i hi;by_cases h:i<l.length
 .refine bF [(14,ab),(25,ae)] rfl ?_ (AK.aQ (i+1) rfl ?_ ?_ ?_ ?_)
  .simp[bx,h];omega
  .simp
  .simp
  .show i+1<=_;omega
  .omega
 .refine bF [(14,ae)] rfl (by simp;omega) (AK.leaveD rfl rfl ?_);exact c9 rfl ar (AK.bn rfl)
end
def y9{l:List Int}:∀{k:Nat},(jQ l k).length=k->∀i,1<=i->i<k->l.getD i 0≠l.getD (i-1) 0
 |0,_,i,_,h=>by omega
 |k+1,h,i,a,c=>by
  have b:=sI l k;rw[jQ]at h;split at h
  .omega
  .rename_i d;simp only[cf,ey]at h;by_cases e:i=k
   .grind
   .exact y9 (k:=k) (by omega) i a (by omega)
def A1(l:List Int):(kF l).Pairwise λx y=>x<=y:=by have:=List.pairwise_mergeSort (le:=λx y:Int=>decide (x<=y)) (λa b c d e=>by grind) (λa b=>by grind) l;exact this.imp λh=>by grind
def og(l:List Int):(kF l).Perm l:=List.mergeSort_perm _ _
def AY(l:List Int):(dZ (kF l)).length=l.length↔l.Nodup:=by
 rw[<-ft l,<-(og l).nodup_iff];have d:=A1 l;generalize kF l=s at *;have a:∀{i:Nat} (h:i<s.length),s.getD i 0=s[i]:=λ{i} h=>by grind
 constructor
 .intro h;have f:=y9 h;refine List.Pairwise.imp (R:=λx y=>x<y) (λh e=>by omega) (mE.2 λi j hi hj XT=>?_);have b:=mE.1 d;have c:=f j (by omega) hj;rw[a hj,a (by omega)]at c;have g:=b (j-1) j (by omega) hj (by omega);by_cases e:i=j-1
  .grind
  .have:=b i (j-1) hi (by omega) (by omega);omega
 .intro h;unfold dZ;rw[nv (ba _),cC];grind[List.pairwise_iff_getElem]
structure UZ(x:bc):Prop where
 ex:∃no ps,1<=no/\no<=99/\0<ps.length/\ps.length<=4/\(∀q∈ps,bJ q=ab)/\x=py no 7 ps
structure U0(x:cg):Prop where
 ex:∃no t,1<=no/\no<=20/\du t=ab/\x=kR no 7 t
structure D7(st:bo):Prop where
 p:∀x∈st.1,UZ x
 pl:st.1.length<=20
 s:∀x∈st.2.1,U0 x
 x9:st.2.1.Pairwise λa b=>a.1<b.1
 h:∀x∈st.2.2,(1<=x.1/\x.1<=2)/\1<=x.2/\x.2<=20
 hl:st.2.2.length<=9
 U1:st.1.Pairwise λa b=>a.1<b.1
def my{t:List bC}(h:du t=ab):sq t:=by
 obtain⟨m,_,_,n⟩:=pF.1 h;have j:∀f∈t,b9 f.2=ab/\f.2.length<=40:=λf d=>by have:=(m f d).2;simp only[eh,bR,bq]at this;grind
 refine⟨by omega,λf d=>⟨(j f d).1,by grind⟩,?_⟩;have:∀l:List bC,(∀f∈l,f.2.length<=40)->(j4 l).length<=40*l.length:=by
  intro l;induction l with
  |nil=>intro _;simp[j4]
  |cons f r k =>
   intro e;have a:=k λg i=>e g (kI _ i);have b:=e f iG;have c:=n8 f.2;simp only[j4,l7,cf,fQ]at a⊢;omega
 grind
theorem Lh(no k:Int)(ps:List Bs):(py no k ps).2.length=ps.length:=AQ k ps
def UZ.len{x:bc}(h:UZ x):1<=x.2.length/\x.2.length<=4:=by obtain⟨no,ps,_,_,b,a,_,rfl⟩:=h.ex;grind[Lh]
def UZ.no{x:bc}(h:UZ x):1<=x.1/\x.1<=99:=by obtain⟨no,ps,h1,h2,_,_,_,rfl⟩:=h.ex;exact⟨h1,h2⟩
def U0.no{x:cg}(h:U0 x):1<=x.1/\x.1<=20:=by obtain⟨no,t,h1,h2,_,rfl⟩:=h.ex;exact⟨h1,h2⟩
def U0.len{x:cg}(h:U0 x):x.2.length<=6/\∀y∈x.2,y.2.length<=4000000:=by obtain⟨no,t,_,_,b,rfl⟩:=h.ex;have d:=oe b;refine⟨by simpa[kR]using d,λy a=>?_⟩;simp only[kR,jC]at a;obtain⟨f,c,rfl⟩:=a;have:=((my b).uH f c).2;have:=n8 f.2;simp only[w5,mJ];omega
def OI{l:List cg}:∀(a:Int),l.Pairwise (λa b=>a.1<b.1)->(∀x∈l,a<=x.1/\x.1<=20)->(l.length:Int)<=max 0 (21-a):=by
 induction l with
 |nil=>grind
 |cons x r e =>
  intro a f c;obtain⟨h,d⟩:=lz.1 f;have i:=c x iG;have:=e (x.1+1) d λy g=>⟨by grind,(c y (kI _ g)).2⟩
  grind
def D7.sl{s:bo}(h:D7 s):s.2.1.length<=20:=by have:=OI 1 h.x9 λx a=>(h.s x a).no;omega
def D7.size{s:bo}(h:D7 s):iS s:=by have h1:=h.pl;have h2:=h.sl;have c:=h.hl;refine⟨by omega,λp b=>by have:=(h.p p b).len;omega,by omega,λx a=>?_,by omega⟩;have:=(h.s x a).len;grind
def D7.num{s:bo}(h:D7 s):HB s :=
 ⟨λx a=>by have:=(h.p x a).no;omega,λx a=>by have:=(h.s x a).no;omega,λx a=>by have:=(h.h x a).2;omega⟩
def D7.eT{s:bo}(h:D7 s):(eT s.1).length<=100000:=by
 have:∀l:List bc,(∀x∈l,x.2.length<=4)->(R1.eT l).length<=4*l.length:=by
  intro l;induction l with
  |nil=>intro _;simp[R1.eT]
  |cons f r d =>
   intro hl;have a:=d λg c=>hl g (kI _ c);have b:=hl f iG;simp only[R1.eT,l7,cf,mJ,fQ]at a⊢;omega
 have:=this s.1 λx e=>(h.p x e).len.2;have:=h.pl;omega
def D7.nil:D7 ([],[],[]):=⟨by simp,by simp,by simp,by simp,by simp,by simp,by simp⟩
def y8(k:Int):∀(f:Nat) (no:Int)(ps:List Bs),(∀q∈ps,bJ q=ab)->∀x∈gV k f no ps,∃a qs,no<=a/\a<no+(gV k f no ps).length/\0<qs.length/\qs.length<=4/\(∀q∈qs,bJ q=ab)/\x=py a k qs
 |0,_,_,_,x,b=>by simp[gV]at b
 |f+1,no,ps,c,x,b=>by
  simp only[gV]at b⊢;split at b
  .rename_i h;rw[br h];rcases dC.1 b with rfl|b
   .grind
   .obtain⟨a,qs,i,e,g⟩:=y8 k f (no+1) (ps.drop 4) (λq d=>c q (zx d)) x b;grind
  grind
def HV{l:List α}(h:l.length≠0)(d:α):l.getD (l.length-1) d∈l:=gh (by omega) d
def D7.gg{s:bo}(h:D7 s):1<=gg s:=by
 unfold R1.gg;split
 .omega
 .rename_i a;have:=(h.p _ (HV a (0,[]))).no;omega
def tH(k:Int):∀(f:Nat) (no:Int)(ps:List Bs),∀x∈gV k f no ps,no<=x.1
 |0,_,_,x,a=>by simp[gV]at a
 |f+1,no,ps,x,a=>by
  simp only[gV]at a;split at a
  .rcases dC.1 a with rfl|a
   .exact rJ _
   .have:=tH k f (no+1) (ps.drop 4) x a;omega
  grind
def xw(k:Int):∀(f:Nat) (no:Int)(ps:List Bs),(gV k f no ps).Pairwise λa b=>a.1<b.1
 |0,_,_=>by simp[gV]
 |f+1,no,ps=>by
  simp only[gV];split
  .refine lz.2 ⟨λx c=>?_,xw k f (no+1) (ps.drop 4)⟩;have:=tH k f (no+1) (ps.drop 4) x c;show no<x.1;omega
  .simp
def D7.Lj{s:bo}(h:D7 s):∀x∈s.1,x.1<R1.gg s:=by
 unfold R1.gg;split
 .grind
 .rename_i e;intro x c;obtain⟨i,hi,rfl⟩:=dH c;have a:s.1.getD (s.1.length-1) (0,[])=s.1[s.1.length-1]:=by grind
  rw[a];rcases cG i (s.1.length-1)with b|d
  .have:=mE.1 h.U1 i (s.1.length-1) hi (by omega) b;omega
  grind
def D7.Lk{s:bo}(h:D7 s):1<=gJ s/\∀x∈s.2.1,x.1<gJ s:=by
 have hb:=sx s.2.2 h.num.h;unfold gJ;split
 .grind
 .rename_i e;refine⟨by omega,λx c=>?_⟩;obtain⟨i,hi,rfl⟩:=dH c;have a:s.2.1.getD (s.2.1.length-1) (0,[])=s.2.1[s.2.1.length-1]:=by grind
  rw[a];rcases cG i (s.2.1.length-1)with b|d
  .have:=mE.1 h.x9 i (s.2.1.length-1) hi (by omega) b;omega
  grind
def D7.save{s:bo}{t:List bC}{by_:Int}(h:D7 s)(i:du t=ab)(hb:1<=by_/\by_<=2)(j:uf 7 s t=ae):D7 (g7 7 s by_ t):=by
 simp only[uf,Bool.or_eq_false_iff,cd]at j;obtain⟨r,n,o,q⟩:=j;have m:=h.gg;obtain⟨g,f⟩:=h.Lk;refine⟨λx c=>?_,by simp only[g7,cf];omega,λx c=>?_,?_,λx c=>?_,by simp only[g7,cf,ey];omega,?_⟩
 .simp only[g7]at c;rcases eJ.1 c with c|c
  .exact h.p x c
  .obtain⟨d,qs,a1,a2,a3,a4,a5,a6⟩:=y8 7 _ _ _ (wV (k:=7) (l:=indexOf s.1) (my i)).1 x c;have a2:d<R1.gg s+(yP 7 s t).length:=a2;exact⟨d,qs,by omega,by omega,a3,a4,a5,a6⟩
 .simp only[g7]at c;rcases eJ.1 c with c|c
  .exact h.s x c
  .rw[gN]at c;exact⟨gJ s,t,g,by omega,i,c⟩
 .simp only[g7];rw[pP];refine⟨h.x9,by simp,λa e b hb=>?_⟩;rw[gN]at hb;subst hb;exact f a e
 .simp only[g7]at c;rcases eJ.1 c with c|c
  .exact h.h x c
  grind
 .simp only[g7];rw[pP];refine⟨h.U1,xw _ _ _ _,λa e b hb=>?_⟩;have h1:=h.Lj a e;have h2:=tH _ _ _ _ b hb;omega
def za(n m:Int):∀(l:List Int)(a:List Int)(b:Bool),(b=ab->n∈a) ->
  ((m∈(l.foldl (gu n) (a,b)).1∨(m=n/\(l.foldl (gu n) (a,b)).2=ae))↔((m∈a∨(m=n/\b=ae))∨m∈l))
 |[],a,b,_=>by simp
 |y::l,a,b,h=>by
  rw[iH];have one:∀a' b',gu n (a,b) y=(a',b')->(b'=ab->n∈a')/\((m∈a'∨(m=n/\b'=ae))↔((m∈a∨(m=n/\b=ae))∨m=y)):=λa' b' e=>by unfold gu at e;grind
  cases d:gu n (a,b) y with
  |mk a' b' =>
   obtain⟨c,f⟩:=one a' b' d;rw[za n m l a' b' c,f,dC,or_assoc]
def Ll{l:List Int}{n m:Int}:m∈lg l n↔m∈l∨m=n:=by have:=za n m l [] ae (by simp);unfold lg;grind
def tI{m:Int}:∀{l a:List Int},m∈l.foldl lg a↔m∈a∨m∈l
 |[],a=>by simp
 |x::l,a=>by rw[iH,tI,Ll,dC,or_assoc]
def EY{l:List gC}{m:Int}:m∈gj l↔m∈b5 l:=by unfold gj;rw[tI];simp
def zb{m:Int}:∀{l:List cg}{a:List Int},m∈l.foldl (λout x=>(gj x.2).foldl lg out) a↔m∈a∨∃x∈l,m∈b5 x.2
 |[],a=>by simp
 |x::l,a=>by rw[iH,zb,tI,EY,or_assoc];simp
def iC{l:List cg}{m:Int}:m∈cy l↔∃x∈l,m∈b5 x.2:=by unfold cy;rw[zb];simp
def C4{l:List Int}{m:Int}:∀{j:Nat},j<=l.length->(m∈jQ l j↔m∈l.take j)
 |0,_=>by simp[jQ]
 |j+1,h=>by
  have b:=C4 (l:=l) (m:=m) (j:=j) (by omega);rw[jQ,bu (by omega) 0];split
  .rename_i c;rw[b,eJ];constructor
   .exact .inl
   .rintro(a|a)
    .exact a
    .simp only[gN]at a;subst a;rw[c.2,ai,bg (by omega)];exact ly.2 ⟨j-1,by simp;omega,by simp⟩
  grind
def oh{x:cg}{m:Int}:m∈c6 x↔m∈b5 x.2:=by unfold c6 dZ;rw[C4 (ba _),cC];exact(og _).mem_iff
def HT{l:List cg}{p:Int->Bool}:(cy l).all p=(bk l.length).all λi=>!(c6 (l.getD i (0,[]))).any λn=>!p n:=by
 rw[pX,List.all_eq_true,di];constructor
 .intro h i hi;rw[iZ,List.any_eq_false];intro n a;have:=h n (iC.2 ⟨_,gM hi,oh.1 a⟩);simp[this]
 .intro h n a;obtain⟨x,d,c⟩:=iC.1 a;obtain⟨i,hi,rfl⟩:=ly.1 d;have b:=h i hi;rw[ai,bg hi,ga,iZ,List.any_eq_false]at b;simpa using b n (oh.2 c)
def vg{l:List α}(h:i<l.length)(d:α):l.getD i d=l[i]:=by grind
def vh{f:α->Int}{d:α}{l:List α}:(∀i,i<l.length->x9 f d l i=ab)↔l.Pairwise λx y=>f x<f y:=by
 constructor
 .intro h;have key:∀n i j (hi:i<l.length) (a:j<l.length),j=i+n->0<n->f l[i]<f l[j]:=by
   intro n;induction n with
   |zero=>grind
   |succ n g =>
    intro i j hi a b _;have c:=h j a;rw[oa (by omega),decide_eq_true_iff,vg (by omega),vg a]at c;by_cases e:n=0
    .subst e;grind
    grind
  exact mE.2 λi j hi a b=>key (j-i) i j hi a (by omega) (by omega)
 .intro h i hi;by_cases e:i=0
  .subst e;rfl
  .rw[oa e,decide_eq_true_iff,vg (by omega),vg hi];exact(mE.1 h) (i-1) i (by omega) hi (by omega)
def vj{l:List α}{p:α->Bool}{d:α}:(∀i,i<l.length->p (l.getD i d)=ab)↔∀x∈l,p x=ab:=by grind[List.mem_iff_getElem]
structure Gt(k:Int)(p:bc):Prop where
 no:1<=p.1/\p.1<=99
 key:cJ k=ab
 len:1<=p.2.length/\p.2.length<=4
 rt:∀x∈p.2,right k x=ab
 x9:p.2.Pairwise λx y=>x.1<y.1
def xx{k:Int}{p:bc}:jd k p=ab↔Gt k p:=by
 rw[pC];simp only[bR,bq,di];have e:(∀i,i<p.2.length->iE k p i=ab)↔(∀x∈p.2,right k x=ab)/\p.2.Pairwise λx y=>x.1<y.1:=by
  rw[<-vj (d:=(0,[])),<-vh (f:=λx:cv=>x.1) (d:=(0,[]))];constructor
  .intro h;exact⟨λi hi=>by have:=h i hi;simp only[iE,bR]at this;exact this.1,λi hi=>by have:=h i hi;simp only[iE,bR]at this;exact this.2⟩
  .intro h i hi;simp only[iE,bR];exact⟨h.1 i hi,h.2 i hi⟩
 rw[e];constructor
 .rintro⟨⟨⟨j,a⟩,b⟩,c,g⟩;exact⟨j,a,b,c,g⟩
 .rintro⟨j,a,b,c,g⟩;grind
structure rr(k:Int)(s:bo):Prop where
 pk:∀p∈s.1,Gt k p
 pa:s.1.Pairwise λp q=>p.1<q.1
 nd:(bD s.1).Nodup
 sn:∀x∈s.2.1,(1<=x.1/\x.1<=20)/\(cj k x s.1).isSome=ab
 sa:s.2.1.Pairwise λx y=>x.1<y.1
 key:cJ k=ab
 log:pD s.2.2=ab
 len:s.1.length<=20
def jl{k:Int}{s:bo}:fp k s=ab↔rr k s:=by
 unfold fp;simp only[bR,bq,di];have o:(∀i,i<s.1.length->lT k s.1 i=ab)↔(∀p∈s.1,Gt k p)/\s.1.Pairwise λp q=>p.1<q.1:=by
  rw[<-vh (f:=λp:bc=>p.1) (d:=(0,[]))];have:(∀p∈s.1,Gt k p)↔∀p∈s.1,jd k p=ab:=⟨λh p b=>xx.2 (h p b),λh p b=>xx.1 (h p b)⟩
  rw[this,<-vj (d:=(0,[]))];constructor
  .intro h;exact⟨λi hi=>by have:=h i hi;simp only[lT,bR]at this;exact this.1,λi hi=>by have:=h i hi;simp only[lT,bR]at this;exact this.2⟩
  .intro h i hi;simp only[lT,bR];grind
 have r:(∀i,i<s.2.1.length->jN k s i=ab)↔(∀x∈s.2.1,(1<=x.1/\x.1<=20)/\(cj k x s.1).isSome=ab)/\s.2.1.Pairwise λx y=>x.1<y.1:=by
  rw[<-vh (f:=λp:cg=>p.1) (d:=(0,[]))];have:(∀x∈s.2.1,(1<=x.1/\x.1<=20)/\(cj k x s.1).isSome=ab)↔∀x∈s.2.1,(decide (1<=x.1/\x.1<=20)&&(cj k x s.1).isSome)=ab:=by grind
  rw[this,<-vj (d:=(0,[]))];constructor
  .intro h;exact⟨λi hi=>by have:=h i hi;simp only[jN,bR]at this⊢;grind,λi hi=>by have:=h i hi;simp only[jN,bR]at this;exact this.1.2⟩
  .intro h i hi;have a:=h.1 i hi;simp only[jN,bR]at a⊢;grind
 rw[o,r];constructor
 .rintro⟨⟨⟨⟨⟨⟨a,e⟩,j⟩,l,m⟩,c⟩,n⟩,g⟩;exact⟨a,e,j,l,m,c,n,g⟩
 .rintro⟨a,e,j,l,m,c,n,g⟩;grind
structure mQ(k:Int)(w:dN):Prop extends rr k w.1 where
 mk':∀x∈w.1.2.1,∀n∈b5 x.2,n∈w.2.1
 lp:∀n∈w.2.2,∃p∈w.1.1,p.1=n
 la:w.2.2.Pairwise λx y=>x<y
def um{k:Int}{w:dN}:mx k w=ab↔mQ k w:=by
 unfold mx;simp only[bR,jl,di];have l:(cy w.1.2.1).all (λn=>w.2.1.contains n)=ab↔∀x∈w.1.2.1,∀n∈b5 x.2,n∈w.2.1:=by
  rw[List.all_eq_true];constructor
  .intro h x g n a;simpa using h n (iC.2 ⟨x,g,a⟩)
  .intro h n a;obtain⟨x,g,a⟩:=iC.1 a;grind
 have m:(∀i,i<w.2.2.length->oc w.1.1 w.2.2 i=ab)↔(∀n∈w.2.2,∃p∈w.1.1,p.1=n)/\w.2.2.Pairwise λx y=>x<y:=by
  rw[<-vh (f:=λn:Int=>n) (d:=0)];have:(∀n∈w.2.2,∃p∈w.1.1,p.1=n)↔∀n∈w.2.2,(w.1.1.any λp=>p.1==n)=ab:=by simp
  rw[this,<-vj (d:=0)];constructor
  .intro h;exact⟨λi hi=>by have:=h i hi;simp only[oc,bR]at this;exact this.1,λi hi=>by have:=h i hi;simp only[oc,bR]at this;exact this.2⟩
  .intro h i hi;simp only[oc,bR];grind
 rw[l,m];constructor
 .rintro⟨⟨j,b,c⟩,e⟩;exact⟨e,j,b,c⟩
 .rintro⟨e,j,b,c⟩;grind
def jf(no:Int)(ms:List Int)(p:bc):bc:=if p.1=no then cA p ms else p
def eN(no:Int)(ms:List Int)(ps:List bc):List bc:=(ps.map (jf no ms)).filter λp=>!p.2.isEmpty
def ru(w:dN):dN:=match w.2.2 with
 |[]=>w
 |no::r=>((eN no w.2.1 w.1.1,w.1.2),w.2.1,r)
def HW{l:List cv}{ms:List Int}{n:Int}(h:n∈ms):(l.filter λx=>ms.contains x.1).find? (λx=>x.1==n)=l.find? (λx=>x.1==n):=by grind
def A2{k no:Int}{ms:List Int}{p:bc}{n:Int}(h:n∈ms):dv k (jf no ms p) n=dv k p n:=by
 unfold jf;split
 .simp only[dv,cA,HW h]
 .rfl
def rv{k no:Int}{ms:List Int}{n:Int}(h:n∈ms):∀ps:List bc,cY k (eN no ms ps) n=cY k ps n
 |[]=>rfl
 |p::ps=>by
  have c:=rv (k:=k) (no:=no) h ps;have b:=A2 (k:=k) (no:=no) (p:=p) h;unfold eN cY at *;rw[jA,nI];split
  .grind
  .rename_i a;have a:(jf no ms p).2=[]:=by grind
   have:dv k p n=af:=by rw[<-b];unfold dv;grind
   grind
def xy{k:Int}{ps qs:List bc}{ns:List Int}(h:∀n∈ns,cY k ps n=cY k qs n):dE k ps ns=dE k qs ns:=by unfold dE;grind[List.map_congr_left]
def pG{k:Int}{ps qs:List bc}{x:cg}(h:∀n∈b5 x.2,cY k ps n=cY k qs n):cj k x ps=cj k x qs:=by
 have c:∀y∈x.2,fileOf k ps y=fileOf k qs y:=λy b=>by unfold fileOf;rw[xy λn a=>h n (pV.2 ⟨y,b,a⟩)]
 unfold cj db;grind[List.map_congr_left]
theorem zc{no:Int}{ms:List Int}{p:bc}:(jf no ms p).1=p.1:=by unfold jf cA;split<;>rfl
def xz{no:Int}{ms:List Int}{p:bc}:List.Sublist (jf no ms p).2 p.2:=by unfold jf cA;split<;>simp
def xA{no:Int}{ms:List Int}{ps:List bc}{q:bc}(h:q∈eN no ms ps):∃p∈ps,q=jf no ms p/\q.2≠[]:=by unfold eN at h;grind
def xB{no:Int}{ms:List Int}:∀ps:List bc,List.Sublist (bD (eN no ms ps)) (bD ps)
 |[]=>.refl _
 |p::ps=>by
  have a:=xB (no:=no) (ms:=ms) ps;unfold eN bD at *;rw[jA,nI,l7];split
  .rw[l7];exact(xz.map _).append a
  grind
def mQ.step{k:Int}{w:dN}(h:mQ k w):mQ k (ru w):=by
 unfold ru;split
 .exact h
 rename_i no r hl;have d:=h.lp;have a:=h.la;rw[hl]at d a;have m:∀x∈w.1.2.1,cj k x (eN no w.2.1 w.1.1)=cj k x w.1.1:=λx b=>pG λn i=>rv (h.mk' x b n i) _;refine⟨⟨λq l=>?_,?_,h.nd.sublist (xB _),λx b=>?_,h.sa,h.key,h.log,?_⟩,h.mk',λn i=>?_,(lz.1 a).2⟩
 .obtain⟨p,f,rfl,e⟩:=xA l;have c:=h.pk p f;have g:=xz (no:=no) (ms:=w.2.1) (p:=p);refine⟨by rw[zc];exact c.no,c.key,⟨zz.2 e,dT g.length_le c.len.2⟩,λx b=>c.rt x (g.subset b),c.x9.sublist g⟩
 .show (eN no w.2.1 w.1.1).Pairwise _;unfold eN;refine List.Pairwise.filter _ (List.pairwise_map.2 (h.pa.imp λj=>?_));grind[zc]
 .have:=h.sn x b;grind
 .show (eN no w.2.1 w.1.1).length<=20;have:(eN no w.2.1 w.1.1).length<=w.1.1.length:=by unfold eN;grind
  exact dT this h.len
 .obtain⟨p,f,rfl⟩:=d n (kI _ i);have e:p.1≠no:=by grind[List.pairwise_cons]
  refine⟨p,?_,rfl⟩;show p∈eN no w.2.1 w.1.1;unfold eN;refine hZ.2 ⟨jC.2 ⟨p,f,by unfold jf;grind⟩,?_⟩;have:=(h.pk p f).len.1;grind
def Fj{k:Int}{ps:List bc}{n:Int}{p:Bs}(h:cY k ps n=aa p):bJ p=ab/\gp k p=n/\n∈bD ps:=by
 unfold cY at h;obtain⟨pk,d,a⟩:=List.exists_of_findSome?_eq_some h;unfold dv at a;split at a
 .rename_i x b;have e:x.1=n:=by simpa using List.find?_some b
  have c:=List.mem_of_find?_eq_some b;unfold chunk eQ at a;refine⟨by grind,by grind,pV.2 ⟨pk,d,jC.2 ⟨x,c,e⟩⟩⟩
 .cases a
section
variable {X:Cx ag}[X.im]
abbrev PV:List bC:=[([97],[104,101,108,108,111])]
def KG:du PV=ab:=by decide +kernel
abbrev UM(k:Nat):={q:List bC×Nat // du q.1=ab/\k<=q.2/\q.2<=k+400}
def Oi(m:Nat)(b:Nat->Int)(g:Bytes b)(k:Nat)(j:k<=50000)(h:m<=1048576):
  dO (ι:=UM k) X 84 [.e (.one (.ptr 0 0))] [kE m b k] (λq=>cF.sl q.1.1) (λq=>[kE m b q.1.2]):=by
 refine dO.oC Tryz.func84 rfl rfl rfl λf=>?_;refine bw rfl ar ?_;refine AK.cP (Oj m b g k j h) [0] rfl (λ_=>rfl) ?_;rintro⟨t,bf,xs,k1,fl,l,c,a⟩;refine aX [(1000002,ab)] rfl ar ?_;refine AK.vt 3 1 (cF.fn t) rfl rfl fl.rd ?_;refine bw rfl ar ?_;refine AK.cQ (yS t) [] rfl ?_;cases d:du t with
 |true =>
  refine bw rfl ar (AK.kP ⟨(t,k1),d,c,a⟩ (AK.dJ [0] rfl ?_ rfl rfl rfl hU));simp
 |false =>
  refine bw rfl ar (AK.kP ⟨(PV,k1),KG,c,a⟩ (AK.dJ [0] rfl ?_ rfl rfl rfl hU));refine⟨rfl,λi hi=>?_⟩;have:i=0:=by grind
  subst this;rfl
end
end R1
def dO.die{X:Cx P}{f:aK}{args:List D}{E:Nat}{b:Nat->List C}{w:BP}{es:ι->Nat->List C}{m:ι->Nat}(h:dO X f args [.buf E k n b] (λ_=>.e (.one (.bp 0 w))) (λi=>[.buf E k (m i) (es i)])):Ev X f args [.buf E k n b] (.e (.one (.bp 0 w))) [.dead] :=
 ⟨h.1,λs vs hr hh S cs hS=>h.2 s vs hr hh S cs λi fr v s' hl lX jq st=>hS fr v s' hl (by
  obtain⟨lv,h1,_,_⟩:gb _ _ _ (.bp 0 w):=lX;exact(⟨lv,h1,by simp,λ_ _ _ _ hb=>by grind⟩:gb [.dead] s' v (.bp 0 w))) jq.k7
  ⟨st.size,st.keep,st.mem,st.iO,st.uW,λl B L a c=>by
   obtain⟨B',L',h1,h2,d⟩:=st.box l B L a c;cases l with
   |zero=>simp at a;subst a;exact⟨.dead,L',rfl,h2,ar⟩
   |succ l=>grind,st.os,st.tape,st.output,st.own⟩⟩
namespace R1
variable {X:Cx ag}
def ER(h:sF):Ev X 83 [XP h] [] (dB (iN h)) []:=by
 refine Ev.bQ Tryz.func83 rfl λb=>?_;have a:bG X []:=.nil;unfold iN;by_cases c1:h.1=1
 .by_cases c3:1<=h.2
  .exact aR a [(6,ab),(11,ab),(16,ab)] rfl (by simp[c1,c3]) (AK.bn rfl (by simp[c1,c3]))
  .exact aR a [(6,ab),(11,ab),(16,ae)] rfl (by simp[c1];omega) (AK.bn rfl (by simp[c3]))
 .by_cases c2:h.1=2
  .by_cases c3:1<=h.2
   .exact aR a [(6,ae),(11,ab),(16,ab)] rfl (by simp[c2,c3]) (AK.bn rfl (by simp[c2,c3]))
   .exact aR a [(6,ae),(11,ab),(16,ae)] rfl (by simp[c2];omega) (AK.bn rfl (by simp[c3]))
  .exact aR a [(6,ae),(11,ae),(16,ae)] rfl (by simp[c1,c2]) (AK.bn rfl (by
    have:¬(1<=h.1/\h.1<=2):=by omega
    simp only[au,gx this];simp))
def HO(h:sF):Ev X 82 [XP h] [] (dB (!iN h)) []:=by refine Ev.bQ Tryz.func82 rfl λb=>?_;have a:bG X [(83,kB VP (λh=>dB (iN h)) λ_=>[])]:=.cons (.oL λh _=>ER h) .nil;exact bZ a rfl ar (AK.bn rfl)
def HP(l:List sF):pD l=(decide (l.length<=9)&&!l.any λh=>!iN h):=by
 have:(bk l.length).all (λi=>iN (l.getD i (0,0)))=!l.any λh=>!iN h:=by rw[pX,di,iZ,List.any_eq_false];grind[List.mem_iff_getElem]
 rw[pD,this,Bool.and_comm]
def HQ(l:List sF):Ev X 52 [cH.sl l] [] (dB (pD l)) []:=by
 refine Ev.bQ Tryz.func52 rfl λd=>?_;have a:=KS (X:=X) l 82 (λh=>!iN h) λx _=>HO x;have b:bG X [(81,pt [cH.sl l,.e (.one (.c (.fn (.func 82) [] [])))] (dB (l.any λh=>!iN h)))]:=.cons (rh a) .nil;rw[HP];by_cases h:l.length<=9
 .exact aR b [(6,ab)] rfl ⟨rfl,dc (by omega)⟩ (AK.bn rfl (by simp[h]))
 .exact aR b [(6,ae)] rfl (by simp;omega) (AK.bn rfl (by simp[gx h]))
def OH:dK X 52 vf:=.oL λl _=>HQ l
def AX(p:bc)(f:p.2.length<=4000000):Ev X 79 [xP p] [] (cI.sl (p.2.map (·.1))) []:=by
 refine Ev.bQ Tryz.func79 rfl λd=>?_;refine aX [(1000002,ab)] rfl ar ?_;refine AK.g6 3 3 1 rfl rfl ?_;refine bw rfl ar ?_;refine AK.bX 2 (λi=>i<=p.2.length) (λi:Nat=>[(1,.e (.one (.ptr 0 0))),(3,.e (.one (.vec 1 1 i (cI.fn ((p.2.take i).map (·.1)))))),(7,et.sl p.2),(8,dI p.2.length),(9,dI i)]) (λi=>[Ox p,.vec 3 1 i (cI.fn ((p.2.take i).map (·.1)))]) (λi=>p.2.length-i) 0 rfl (by simp) rfl (by simp) rfl (by omega) ?_;intro i hi;by_cases h:i<p.2.length
 .have b:p.2.getD (i:Int).toNat et.bP=fU p i:=by grind
  have a:(p.2.take (i+1)).map (·.1)=(p.2.take i).map (·.1)++[(fU p i).1]:=by grind[bu]
  have c:((p.2.take i).map (·.1)).length=i:=by grind
  have e:=cI.cp ((p.2.take i).map (·.1)) (fU p i).1;rw[c]at e;refine aX [(10,ab)] rfl ?_ (AK.aQ (i+1) rfl ?_ ?_ h (by omega))
  .simp only[au,bx,show i3.bytes=8 from rfl];grind
  .rw[a];simp only[au.cat,au,b,aF,aE];and_intros<;>first|exact cw.same|exact e|rfl|omega
  .rw[a];simp only[au.cat,au,b,aF,aE];and_intros<;>first|exact cw.same|exact e|rfl|omega
 obtain rfl:i=p.2.length:=by omega
 rw[cC];refine aX [(10,ae)] rfl (by simp) (AK.leaveD rfl rfl ?_);exact bw rfl ar (AK.bn rfl)
abbrev C0:dz:=kB (Dv et) (λp=>cI.sl (p.2.map (·.1))) λp=>[p.2.length<=4000000]
def Lc:dK X 79 C0:=.oL λp h=>AX p h
def HR(ps:List bc)(i:Nat):(bD (ps.take i)).length<=(bD ps).length:=by
 have:bD ps=bD (ps.take i)++bD (ps.drop i):=by unfold bD;grind[List.take_append_drop]
 grind
abbrev XR(l:List Int):D:=.e (.one (.bp 0 (.sl l.length 1 0 l.length)))
def C1(ps:List bc)(n:∀p∈ps,p.2.length<=4000000)(q:(bD ps).length<=4000000):Ev X 48 [cP.sl ps] [] (XR (bD ps)) [Bi (bD ps).length (bD ps)]:=by
 refine Ev.bQ Tryz.func48 rfl λm=>?_;have k:=m.sl 0 rfl;have f:bG X [(79,C0)]:=.cons Lc .nil;refine aR f [(1000002,ab)] rfl ar ?_;refine AK.Uf 3 3 1 (cI.fn []) rfl ?_;refine bZ f rfl ar ?_;refine AK.bX 1 (λi=>i<=ps.length) (λi:Nat=>[(3,.e (.one (.bp 0 (.sl (bD (ps.take i)).length 1 0 (bD (ps.take i)).length)))),(6,cP.sl ps),(7,dI ps.length),(8,dI i)]) (λi=>[Bi (bD (ps.take i)).length (bD (ps.take i))]) (λi=>ps.length-i) 0 rfl (by simp[bD]) rfl (by simp[cw,bD]) rfl (by omega) ?_;intro i hi;by_cases h:i<ps.length
 .have g:ps.getD (i:Int).toNat cP.bP=ps.getD i (0,[]):=by grind
  have b:=xm h;have c:=HR ps (i+1);have o:=n _ (gM (d:=(0,[])) h);generalize ps.getD i (0,[])=p at *;rw[b]at c;generalize bD (ps.take i)=a at *;have e:=cI.Ld a (p.2.map (·.1)) _ rfl;simp only[cf,mJ]at c e;refine aR f [(9,ab)] rfl ?_ (AK.aQ (i+1) rfl ?_ ?_ h (by omega))
  .simp only[au,g,bx,et.list_fn,et.aJ,mJ,show i3.bytes=8 from rfl];grind
  .rw[b];simp only[au.cat,au,g,et.list_fn,cf,mJ,aF,aE];and_intros<;>first|exact cw.same|rfl|omega
  .rw[b];simp only[au.cat,au,g,et.list_fn,cf,mJ,aF,aE];grind
 obtain rfl:i=ps.length:=by omega
 rw[cC];refine aR f [(9,ae)] rfl (by simp) (AK.leaveD rfl rfl ?_);refine bZ f rfl ar (AK.dJ [0] rfl ?_ rfl rfl rfl (λj l=>absurd l (by simp)));simp
def y5(ps:List bc)(b:∀p∈ps,p.2.length<=4000000)(a:(bD ps).length<=4000000):Ev X 48 [cP.sl ps] [] (cI.sl (bD ps)) [] :=
 Ev.Cb (σ1:=[]) (E:=3) (k:=1) (n:=(bD ps).length) (es:=cI.fn (bD ps)) (C1 ps b a) rfl (by simp) rfl (ba _)
end R1
section
namespace R1
variable {X:Cx ag}[X.im]
abbrev je:bm:=.cells 27 [hO,hO,hO]
abbrev f92(t:List bC)(n:Nat):Fr:=[(0,.e (.one (.ptr 0 0))),(2,.e (.one (.ptr 1 0))),(3,.e (.one (.ptr 2 0))),(4,cF.sl t),(5,dI n)]
end R1
end
namespace R1
section
variable {X:Cx ag}
def ES(s:bo):Ev X 47 [nc s] [] (nc s) []:=by refine Ev.oz Tryz.func47 rfl rfl rfl λb=>?_;refine bw rfl (by simp) ?_;refine AK.freeze 2 1 rfl rfl rfl ?_;exact AK.zR tok [] rfl (by simp) rfl rfl rfl (λj a=>absurd a (by simp))
abbrev ET:dz:=kB Ki (λs=>nc s) λ_=>[]
def Le:dK X 47 ET:=.oL λs _=>ES s
abbrev Ip(s:bo):bm:=.cells 85 [.c (.sl ae 2 s.1.length (cP.fn s.1)),.c (.sl ae 2 s.2.1.length (ee.fn s.2.1)),.c (.sl ae 2 s.2.2.length (cH.fn s.2.2))]
structure EU(s:bo):Prop extends Zk s where
 pk:∀p∈s.1,p.2.length<=4000000
 nm:(bD s.1).length<=4000000
def y6(k:Int)(s:bo):Bool:=(bk s.1.length).all (lT k s.1)&&decide (s.1.length<=20)&&decide (bD s.1).Nodup
def EV(k:Int)(s:bo)(v:cJ k=ab)(b:EU s):Ev X 50 [nc s,dI k] [] (dB (y6 k s)) []:=by
 refine Ev.bQ Tryz.func50 rfl λD=>?_;have F:=b.pN;have z:=b.pk;have x:=y5 (X:=X) s.1 b.pk b.nm;have n:bG X [(80,Gc)]:=.cons N2 .nil;refine bZ n rfl ar ?_;unfold y6;refine AK.bX 1 (λi=>i<=s.1.length/\∀j,j<i->lT k s.1 j=ab) (λi:Nat=>[(1,dI k),(2,.e (.one (.ptr 0 0))),(9,cP.sl s.1),(10,dI s.1.length),(11,dI i)]) (λ_=>[Ip s]) (λi=>s.1.length-i) 0 rfl (by simp) rfl (by simp) rfl ⟨by omega,by omega⟩ ?_;rintro i ⟨hi,a⟩;by_cases h:i<s.1.length
 .have w:s.1.getD i cP.bP=s.1.getD i (0,[]):=rfl;have u:s.1.getD (i-1) cP.bP=s.1.getD (i-1) (0,[]):=rfl;have c:lT k s.1 i=(jd k (s.1.getD i (0,[]))&&x9 (·.1) (0,[]) s.1 i):=rfl;have q:=oa (f:=λp:bc=>p.1) (d:=(0,[])) (l:=s.1) (i:=i);have g:=z _ (gM (d:=(0,[])) h);generalize s.1.getD i (0,[])=p at *;generalize s.1.getD (i-1) (0,[])=p' at *;cases o:jd k p with
  |false =>
   rw[o,rI]at c;refine aR n [(12,ab),(20,ab),(35,ab)] rfl ?_ (AK.eY (ck.zero rfl ?_))
   .simp[-ai,w,v,g,o,et.list_fn,et.aJ];omega
   .rw[fV h c];simp
  |true =>
   rw[o,fC]at c;by_cases A:i=0
   .subst A;refine aR n [(12,ab),(20,ae),(23,ae),(35,ae)] rfl ?_ (AK.aQ 1 rfl (by simp) (by simp) ⟨h,g8 a (by rw[c];rfl)⟩ (by omega));simp[-ai,w,v,g,o,et.list_fn,et.aJ,bx];omega
   have q:=q A;by_cases E:p'.1<p.1
   .refine aR n [(12,ab),(20,ae),(23,ab),(33,ae),(35,ae)] rfl ?_ (AK.aQ (i+1) rfl (by simp) (by simp) ⟨h,g8 a (by grind)⟩ (by omega));simp[-ai,w,u,v,g,o,et.list_fn,et.aJ,bx];omega
   .refine aR n [(12,ab),(20,ae),(23,ab),(33,ab),(35,ab)] rfl ?_ (AK.eY (ck.zero rfl ?_))
    .simp[-ai,w,u,v,g,o,et.list_fn,et.aJ,bx];omega
    .rw[fV h (by grind)];simp
 obtain rfl:i=s.1.length:=by omega
 rw[di.2 a,fC];refine aR n [(12,ae)] rfl (by simp) (AK.leaveD rfl rfl ?_);refine bZ n rfl ar ?_;refine AK.cQ (C1 s.1 b.pk b.nm) [] rfl ?_;refine bZ n rfl ar ?_;refine AK.cQ (xp (bD s.1) b.nm) [1] rfl ?_;have C:=AY (bD s.1);have t:=(xq (X:=X) (kF (bD s.1)) (by rw[ft];exact b.nm)).die;rw[ft]at t;have y:=od (kF (bD s.1));rw[ft]at y;have B:=b.nm;generalize dZ (kF (bD s.1))=cs at *;generalize kF (bD s.1)=so at *;have qu:bG X [(72,Kf [ki (bD s.1).length] [Bi (bD s.1).length so] (.e (.one (.bp 0 (.sl (bD s.1).length 1 0 cs.length)))) [.dead]),(48,pt [cP.sl s.1] (cI.sl (bD s.1)))]:=.cons (PK t) (.cons (rh x) .nil);refine aR qu [(1000009,ab)] rfl ar ?_;by_cases r:s.1.length<=20
 rotate_left
 .refine aR qu [(46,ae)] rfl ?_ (AK.bn rfl ?_)
  .simp;omega
  .simp[r]
 have m:(s.1.length:Int)<=20:=by omega
 generalize G:bD s.1=N at *;refine AK.MB (ι:=Unit) dn 6 (λi=>match bz i 5 with|true=>ab|false=>match av i 8 with|true=>ab|false=>av i 9) (λi=>[.e (.one (.ptr 0 0)),cP.sl s.1,dI s.1.length,dB (decide ((s.1.length:Int)<=20)),dB ab,.e (.one (.bp 1 (.sl N.length 1 0 N.length))),.any,.any,.e (.one (.ptr 0 0)),cP.sl s.1].getD i .any)
  (λ_ i=>[.any,.any,.any,.any,.any,.any,.e (.one (.bp 1 (.sl N.length 1 0 cs.length))),dI cs.length,.any,.any,cI.sl N,dI N.length,dB ((cs.length:Int)==N.length),dB ((cs.length:Int)==N.length),dB ((cs.length:Int)==N.length)].getD i .any) (λ_=>[Ip s,.dead]) rfl rfl rfl rfl rfl rfl ?_ ?_ ?_ ?_
 .exact⟨.dw tok qu rfl,.dw tok qu rfl,.dw tok qu rfl,.dw tok qu rfl,.eval tok qu (ds:=[(46,ab)]) rfl (dc m),.dw tok qu rfl,ar,ar,.dw tok qu rfl,.dw tok qu rfl,ar,ar,ar,ar,ar,ar⟩
 .intro _;exact⟨.dw tok qu rfl,.dw tok qu rfl,.dw tok qu rfl,.dw tok qu rfl,.eval tok qu (ds:=[(46,ab)]) rfl (dc m),.dw tok qu rfl,ar,.dw tok qu rfl,.dw tok qu rfl,.dw tok qu rfl,.eval tok qu (ds:=[]) rfl rfl,.dw tok qu rfl,.dw tok qu rfl,.dw tok qu rfl,.dw tok qu rfl,ar⟩
 .exact .An (fJ tok qu (ds:=[]) (σ':=aa [Ip s,.dead]) rfl ⟨rfl,rfl⟩)
 .intro _;refine bZ qu rfl ar (AK.bn rfl ?_);have:((cs.length:Int)==N.length)=decide N.Nodup:=by grind
  simp[this,r]
def lk:List (Int×Int)->C
 |[]=>.oY
 |h::t=>.rp [.int .i64 h.1,.int .i64 h.2,lk t]
end
abbrev cTr:List (Nat×dz):=[(70,tu)]
def EW(k:Int)(s:bo)(u:EU s):Ev (Cx.beside ag) 51 [nc s,dI k] [] (dB ((bk s.2.1.length).all (jN k s))) []:=by
 refine Ev.bQ Tryz.func51 rfl λw=>?_;have x:=u.sN;have r:=u.sm;have c:bG (Cx.beside ag) cTr:=.cons yM .nil;refine bZ c rfl ar ?_;refine AK.bX 1 (λi=>i<=s.2.1.length/\∀j,j<i->jN k s j=ab) (λi:Nat=>[(1,dI k),(2,.e (.one (.ptr 0 0))),(10,ee.sl s.2.1),(11,dI s.2.1.length),(12,dI i)]) (λ_=>[Ip s]) (λi=>s.2.1.length-i) 0 rfl (by simp) rfl (by simp) rfl ⟨by omega,by omega⟩ ?_;rintro i ⟨hi,b⟩;by_cases h:i<s.2.1.length
 .have n:s.2.1.getD i ee.bP=s.2.1.getD i (0,[]):=rfl;have o:s.2.1.getD (i-1) ee.bP=s.2.1.getD (i-1) (0,[]):=rfl;have a:jN k s i=(decide (1<=(s.2.1.getD i (0,[])).1/\(s.2.1.getD i (0,[])).1<=20)&&x9 (·.1) (0,[]) s.2.1 i&&(cj k (s.2.1.getD i (0,[])) s.1).isSome):=rfl;have q:=oa (f:=λp:cg=>p.1) (d:=(0,[])) (l:=s.2.1) (i:=i);have m:=r _ (gM (d:=(0,[])) h);generalize s.2.1.getD i (0,[])=p at *;generalize s.2.1.getD (i-1) (0,[])=p' at *;by_cases c1:1<=p.1
  rotate_left
  .refine aR c [(13,ab),(20,ab),(25,ab),(40,ab)] rfl ?_ (AK.eY (ck.zero rfl ?_))
   .simp[-ai,n];omega
   .rw[fV h (by grind)];simp
  by_cases c2:p.1<=20
  rotate_left
  .refine aR c [(13,ab),(20,ae),(25,ab),(40,ab)] rfl ?_ (AK.eY (ck.zero rfl ?_))
   .simp[-ai,n];omega
   .rw[fV h (by grind)];simp
  rw[dc ⟨c1,c2⟩,fC]at a;by_cases t:i=0
  .subst t;rw[show x9 (·.1) (0,[]) s.2.1 0=ab from rfl,fC]at a;cases g:(cj k p s.1).isSome with
   |false =>
    refine aR c [(13,ab),(20,ae),(25,ae),(27,ae),(40,ae),(50,ab)] rfl ?_ (AK.eY (ck.zero rfl ?_))
    .simp[-ai,n,bx,cL.list_fn,cL.aJ,cP.list_fn,cP.aJ,g,m.1];and_intros<;>first|omega|grind
    .rw[fV h (a.trans g)];simp
   |true =>
    refine aR c [(13,ab),(20,ae),(25,ae),(27,ae),(40,ae),(50,ae)] rfl ?_ (AK.aQ 1 rfl (by simp) (by simp) ⟨h,g8 b (a.trans g)⟩ (by omega));simp[-ai,n,bx,cL.list_fn,cL.aJ,cP.list_fn,cP.aJ,g,m.1];and_intros<;>first|omega|grind
  rw[q t]at a;by_cases v:p'.1<p.1
  rotate_left
  .refine aR c [(13,ab),(20,ae),(25,ae),(28,ab),(38,ab),(40,ab)] rfl ?_ (AK.eY (ck.zero rfl ?_))
   .simp[-ai,n,o,bx];omega
   .rw[fV h (by grind)];simp
  rw[dc v,fC]at a;cases g:(cj k p s.1).isSome with
  |false =>
   refine aR c [(13,ab),(20,ae),(25,ae),(28,ab),(38,ae),(40,ae),(50,ab)] rfl ?_ (AK.eY (ck.zero rfl ?_))
   .simp[-ai,n,o,bx,cL.list_fn,cL.aJ,cP.list_fn,cP.aJ,g,m.1];and_intros<;>first|omega|grind
   .rw[fV h (a.trans g)];simp
  |true =>
   refine aR c [(13,ab),(20,ae),(25,ae),(28,ab),(38,ae),(40,ae),(50,ae)] rfl ?_ (AK.aQ (i+1) rfl (by simp) (by simp) ⟨h,g8 b (a.trans g)⟩ (by omega));simp[-ai,n,o,bx,cL.list_fn,cL.aJ,cP.list_fn,cP.aJ,g,m.1];and_intros<;>first|omega|grind
 obtain rfl:i=s.2.1.length:=by omega
 rw[di.2 b];refine aR c [(13,ae)] rfl (by simp) (AK.leaveD rfl rfl ?_);exact bZ c rfl ar (AK.bn rfl)
def yb(k:Int)(s:bo):fp k s=(cJ k&&y6 k s&&(bk s.2.1.length).all (jN k s)&&pD s.2.2):=by unfold fp y6;cases(bk s.1.length).all (lT k s.1)<;>cases decide (bD s.1).Nodup<;>cases(bk s.2.1.length).all (jN k s)<;>cases cJ k<;>cases pD s.2.2<;>cases decide (s.1.length<=20)<;>rfl
abbrev R6:dz:=n6 Ki aI (λs k=>dB (y6 k s)) λs k=>[cJ k=ab,EU s]
abbrev R7:dz:=n6 Ki aI (λs k=>dB ((bk s.2.1.length).all (jN k s))) λs _=>[EU s]
def C2(k:Int)(s:bo)(f:EU s):Ev (Cx.beside ag) 20 [dI k,nc s] [] (dB (fp k s)) []:=by
 refine Ev.bQ Tryz.func20 rfl λj=>?_;have d:bG (Cx.beside ag) [(47,ET),(49,kB aI (λk=>dB (cJ k)) λ_=>[]),(50,R6),(51,R7),(52,vf)]:=.cons Le (.cons t49 (.cons (.qK λs k h=>EV k s h.1 h.2) (.cons (.qK λs k h=>EW k s h) (.cons OH .nil))));have c:=cP.list_fn s.1;have e:=ee.list_fn s.2.1;have a:=cH.list_fn s.2.2;rw[yb];cases b:cJ k
 .exact aR d [(10,ae),(15,ae),(20,ae)] rfl (by simp[b,c,e,a,cP.aJ,ee.aJ,cH.aJ]) (AK.bn rfl)
 cases g:y6 k s
 .exact aR d [(10,ab),(15,ae),(20,ae)] rfl (by simp[b,c,e,a,cP.aJ,ee.aJ,cH.aJ,f,g]) (AK.bn rfl)
 cases i:(bk s.2.1.length).all (jN k s)
 .exact aR d [(10,ab),(15,ab),(20,ae)] rfl (by simp[-List.all_eq_true,-List.all_eq_false,b,c,e,a,cP.aJ,ee.aJ,cH.aJ,f,g,i]) (AK.bn rfl)
 exact aR d [(10,ab),(15,ab),(20,ab)] rfl (by simp[-List.all_eq_true,-List.all_eq_false,b,c,e,a,cP.aJ,ee.aJ,cH.aJ,f,g,i]) (AK.bn rfl (by simp[a]))
abbrev qx:dz:=n6 aI Ki (λk s=>dB (fp k s)) λ_ s=>[EU s]
def tF:dK (Cx.beside ag) 20 qx:=.qK λk s h=>C2 k s h
structure U2(s:bo):Prop where
 a1:s.1.length<=20
 a2:∀p∈s.1,(1<=p.1/\p.1<=99)/\p.2.length<=4
 a3:s.2.1.length<=21
 a4:∀x∈s.2.1,(1<=x.1/\x.1<=20)/\x.2.length<=6/\∀y∈x.2,y.2.length<=40
 a5:s.2.2.length<=9
 a6:∀h∈s.2.2,1<=h.2/\h.2<=20
def oi{α a:Type}{f:α->List a}{n:Nat}:∀{l:List α},(∀x∈l,(f x).length<=n)->(l.flatMap f).length<=n*l.length
 |[],_=>by simp
 |x::l,h=>by have c:=h x iG;have d:=oi (l:=l) λy b=>h y (kI _ b);grind[Nat.mul_succ]
def EZ{x:cg}(h:x.2.length<=6/\∀y∈x.2,y.2.length<=40):(b5 x.2).length<=240:=by have:=oi (f:=λy:gC=>y.2) (n:=40) h.2;unfold b5;omega
structure TA(s:bo):Prop extends U2 s where
 pa:s.1.Pairwise λp q=>p.1<q.1
 sa:s.2.1.Pairwise λx y=>x.1<y.1
 hb:∀h∈s.2.2,1<=h.1/\h.1<=2
structure TW(n:Nat)(w:dN):Prop where
 s:TA w.1
 m:w.2.1.length<=n
 l:w.2.2.length<=20
abbrev Ib:dN:=(([],[],[]),[],[])
def yj(k:Int)(s:bo)(keep:List Int):dN×Bool :=
 if fp k s=ab then(((s.1,s.2.1.filter λx=>keep.contains x.1,s.2.2),cy (s.2.1.filter λx=>keep.contains x.1),s.1.map (·.1)),ab)else(Ib,ae)
section
variable {X:Cx ag}
end
def Fa(k:Int)(s x:bo)(d:iM s)(b:iM x)(j:s.2.1.length<=4000000)(h:∀y∈s.2.1,eR k x y.1=eR k s y.1):Ev (Cx.beside ag) 14 [dI k,nc s,nc x] [] (dB ab) []:=by
 refine Ev.bQ Tryz.func14 rfl λg=>?_;refine bw rfl ar ?_;refine AK.loop (λi=>i<=s.2.1.length) (λi:Nat=>[(0,dI k),(4,.e (.one (.ptr 0 0))),(5,.e (.one (.ptr 1 0))),(7,dI i)]) (λ_=>[sv s,sv x]) (λi=>s.2.1.length-i) 0 (by omega) (dj rfl (by simp)) rfl ?_;intro i hi;by_cases a:i<s.2.1.length
 .have c:s.2.1.getD (i:Int).toNat ee.bP=s.2.1.getD i (0,[]):=rfl;have e:=h _ (gh a (0,[]));generalize s.2.1.getD i (0,[])=y at *;have f:bG (Cx.beside ag) [(36,wM),(37,pt [cF.sl ((eR k s y.1).getD []),cF.sl ((eR k s y.1).getD [])] (dB ab))]:=.cons Ey (.cons (rh (R0 _)) .nil);refine bt f [(16,ab),(46,ae),(51,ae)] rfl ?_ ⟨i+1,a,by omega,dj rfl (by simp),rfl⟩;simp only[au,c,cP.list_fn,ee.list_fn,cH.list_fn,e,bx];and_intros<;>first|rfl|exact cP.aJ _|exact ee.aJ _|exact cH.aJ _|exact d|exact b|omega|simp;omega|simp
 obtain rfl:i=s.2.1.length:=by omega
 refine aX [(16,ae)] rfl (by simp) (AK.leave rfl rfl ?_);exact bw rfl ar (AK.bn rfl)
def Mb{X:Cx ag}(s:bo)(b:∀p∈s.1,p.2.length<=4000000)(a:(bD s.1).length<=4000000):Ev X 19 [nc s] [] (dI (bD s.1).length) []:=by
 refine Ev.bQ Tryz.func19 rfl λd=>?_;have c:bG X [(47,ET)]:=.cons Le .nil;refine cN c rfl ?_ ?_
 .simp[cP.aJ,ee.aJ,cH.aJ]
 simp only[cP.list_fn,ee.list_fn,cH.list_fn];refine AK.cQ (y5 s.1 b a) [] rfl ?_;exact bw rfl ar (AK.bn rfl)
abbrev GB:dz:=kB Ki (λs=>dI (bD s.1).length) λs=>[∀p∈s.1,p.2.length<=4000000,(bD s.1).length<=4000000]
def Mc{X:Cx ag}:dK X 19 GB:=.oL λs h=>Mb s h.1 h.2
section
variable {X:Cx ag}
def i63:TI:=⟨1,8,ae,TypeDesc.map 3 4,[.val (.map af)],[]⟩
def g63:dD ag 63 i63:=⟨Tryz.underlying63,rfl,⟨Tryz.t63,_,fh Tryz.type63,rfl,rfl,rfl,rfl,⟨#[],rfl⟩,rfl⟩,λh=>absurd rfl h⟩
def eF:dg ag ((63,i63)::tt):=dg.cons g63 tok
abbrev P2(v:aj):D:=.e (.one (.v v))
abbrev oO(a:aj)(l:List Int):bm:=.cq (oN a l)
def Lf(c:aj)(a l:List Int):Ev X 32 [P2 c,cI.sl l] [oO c a] (.fz []) [oO c (a++l)]:=by
 refine Ev.bQ Tryz.func32 rfl λe=>?_;have d:=e.sl 1 rfl;refine AK.dk dn eF bG.nil [] 100 rfl ar ?_;refine AK.bX 1 (λi=>i<=l.length) (λi:Nat=>[(0,P2 c),(6,cI.sl l),(7,dI l.length),(8,dI i)]) (λi=>[oO c (a++l.take i)]) (λi=>l.length-i) 0 rfl (by simp) rfl (by simp) rfl (by omega) ?_;intro i hi;by_cases h:i<l.length
 .have f:l.getD (i:Int).toNat cI.bP=l.getD i 0:=by rw[bM];rfl
  refine AK.dk dn eF bG.nil [(9,ab)] 100 rfl (by simp;omega) ?_;refine AK.law (bE.R2 rfl Tryz.underlying63 Tryz.underlying3 (b:=0) rfl rfl rfl rfl) rfl rfl ?_;refine AK.dk dn eF bG.nil [] 100 rfl ?_ (AK.aQ (i+1) rfl ?_ ?_ h (by omega))
  .simp[bx];omega
  .simp
  .rw[bu h 0,<-jV];simp only[au.cat,au,f,aE]
 obtain rfl:i=l.length:=by omega
 rw[cC];refine AK.dk dn eF bG.nil [(9,ae)] 100 rfl (by simp) (AK.leaveD rfl rfl ?_);exact ck.tk [0] rfl (by simp) rfl rfl rfl l0
def AZ(a:aj)(l:List Int)(n:Int):Ev X 40 [dI n,.e (.one (.c (.rp [.val a])))] [oO a l] (dB (!l.contains n)) [oO a l]:=by refine Ev.bQ Tryz.func40 rfl λd=>?_;refine AK.dk dn eF bG.nil [] 100 rfl ar ?_;refine AK.law (bE.Oq rfl Tryz.underlying63 Tryz.underlying3 (λw=>Tryz.zeroValue4 w) (b:=0) rfl rfl rfl) rfl rfl ?_;exact AK.dk dn eF bG.nil [] 100 rfl ar (AK.dJ [0] rfl (by simp) rfl rfl rfl l0)
def HS(p:bc)(n:Int):Ev X 42 [xP p,.e (.one (.c (.rp [.int .i64 n])))] [] (dB (p.1==n)) []:=by refine Ev.bQ Tryz.func42 rfl λa=>?_;exact bw rfl ar (AK.bn rfl)
def xr(x:cg)(a:x.2.length<=4000000)(b:(b5 x.2).length<=4000000):Ev X 33 [Cl x] [] (cI.sl (c6 x)) []:=by refine Ev.bQ Tryz.func33 rfl λc=>?_;refine bw rfl ar ?_;refine AK.cQ (sH x a b) [] rfl ?_;exact bw rfl ar (AK.bn rfl)
def Ba(d:aj)(r:Nat)(es:Array MapEntry)(c:Nat):aj->(Nat->Option Obj)->Prop:=λv a=>v=d/\∀b,a b=if b=r then aa (.map es c)else af
def ot(e:MapEntry):Int:=match e.key with|.int _ n=>n|_=>0
structure Bb(d:aj)(l:List Int)(r:Nat)(es:Array MapEntry)(c:Nat):Prop where
 m:d=.map (aa r)
 st:MapKept.Stamped es c
 kv:∀e∈es.toList,e.key=.int .i64 (ot e)/\bx .i64 (ot e)/\e.val=.bool ab
 mem:∀n,n∈l↔n∈es.toList.map ot
def oN.tell{d:aj}{l:List Int}{ch:Nat->Option Obj}(h:oN d l v ch):∃q:{q:Nat×Array MapEntry×Nat // Bb d l q.1 q.2.1 q.2.2},Ba d q.1.1 q.1.2.1 q.1.2.2 v ch:=by
 obtain⟨h1,r,es,c,h2,i,j,m,f⟩:=h;have b:∀e∈es.toList,e.key=.int .i64 (ot e)/\bx .i64 (ot e)/\e.val=.bool ab:=λe a=>by
  obtain⟨n,k1,g,o⟩:=m e a;have:ot e=n:=by simp[ot,k1]
  rw[this];exact⟨k1,o,g⟩
 refine⟨⟨(r,es,c),h2,j,b,λn=>?_⟩,h1,i⟩;rw[f,jC];constructor
 .rintro⟨e,a,k⟩;exact⟨e,a,by simp[ot,k]⟩
 .rintro⟨e,a,rfl⟩;exact⟨e,a,(b e a).1⟩
def Bb.back{d:aj}{l:List Int}{r:Nat}{es:Array MapEntry}{c:Nat}{ch:Nat->Option Obj}(q:Bb d l r es c)(h:Ba d r es c v ch):oN d l v ch:=by
 refine⟨h.1,r,es,c,q.m,h.2,q.st,λe a=>⟨_,(q.kv e a).1,(q.kv e a).2.2,(q.kv e a).2.1⟩,λn=>?_⟩;rw[q.mem,jC];constructor
 .rintro⟨e,a,rfl⟩;exact⟨e,a,(q.kv e a).1⟩
 .rintro⟨e,a,k⟩;exact⟨e,a,by simp[ot,k]⟩
def Mf(es:Array MapEntry)(pre:List Int)(sn:Array Nat):Prop:=pre.Nodup/\(∀x∈pre,x∈es.toList.map ot)/\∀e∈es.toList,e.born∈sn↔ot e∈pre
section
variable {d:aj}{l:List Int}{r c:Nat}{es:Array MapEntry}(q:Bb d l r es c)
include q
def Bb.nd:(es.toList.map ot).Nodup:=by
 have h:es.toList.map (·.key)=(es.toList.map ot).map (Value.int .i64):=by rw[List.map_map];exact pQ λe a=>(q.kv e a).1
 have:=q.st.2.2;rw[h]at this;rw[List.Nodup,List.pairwise_map]at this;exact this.imp λh e=>h (dy (Value.int .i64) e)
def Bb.step{pre:List Int}{sn:Array Nat}(h:Mf es pre sn){e:MapEntry}(b:e∈es.toList)(i:e.born∉sn):Mf es (pre++[ot e]) (sn.push e.born)/\ot e∉pre:=by
 have f:ot e∉pre:=λg=>i ((h.2.2 e b).2 g);refine⟨⟨by grind[Mf],λx a=>?_,λe2 Pd=>?_⟩,f⟩
 .rcases eJ.1 a with a|a
  .exact h.2.1 x a
  .rw[gN.1 a];exact List.mem_map_of_mem b
 .simp only[Array.mem_push,eJ,gN,h.2.2 e2 Pd];refine or_congr_right ⟨λh1=>?_,λh1=>?_⟩
  .rw[tf q.st.2.1 Pd b h1]
  .rw[tf q.nd Pd b h1]
def Bb.over{pre:List Int}{sn:Array Nat}(h:Mf es pre sn)(f:∀e∈es.toList,e.born∈sn):pre.Nodup/\∀n,n∈pre↔n∈l:=by refine⟨h.1,λn=>⟨λa=>(q.mem n).2 (h.2.1 n a),λa=>?_⟩⟩;obtain⟨e,b,rfl⟩:=jC.1 ((q.mem n).1 a);exact(h.2.2 e b).1 (f e b)
end
def GD{a:List Nat}:∀j,j<1->(0::a)[j]?=aa j:=λj b=>by
 obtain rfl:j=0:=by omega
 rfl
abbrev Bc(d:aj):C:=.fn (.func 95) [] [.rp [.val d]]
def Mg(d:aj):Ev X 68 [P2 d] [] (.e (.one (.c (Bc d)))) []:=by refine Ev.bQ Tryz.func68 rfl λa=>?_;refine AK.dk dn eF bG.nil [(1000001,ab)] 100 rfl ar ?_;refine AK.freeze 1 0 rfl rfl rfl ?_;exact AK.dk dn eF bG.nil [] 100 rfl ar (AK.bn rfl)
set_option maxRecDepth 20000 in
def Fc{T:Type}{d:aj}{l:List Int}{r:Nat}{es:Array MapEntry}{c:Nat}(q:Bb d l r es c){k:Nat}{a:Fr}{j:Loop}(B1 B2:T->bm)(R:List Int->T->Prop)(o:T)(H:R [] o)(C:∀t,B1 t≠.qT/\B2 t≠.qT)(b:∀pre x t D,x∉pre->pre.Nodup->(∀y∈pre++[x],y∈l)->R pre t->Yields (ι:={f:T // R (pre++[x]) f}) X 3 [dI x] [.cq (Ba d r es c),B1 t,B2 t,.loop k a j,.cq D] ab (λf=>[.cq (Ba d r es c),B1 f.1,B2 f.1,.loop k a j,.cq D])):
  dO (ι:={p:T×List Int×Array Nat // (p.2.1.Nodup/\∀n,n∈p.2.1↔n∈l)/\R p.2.1 p.1}) X 95 [.e (.one (.ref 3)),.e (.one (.c (.rp [.val d])))] [.cq (Ba d r es c),B1 o,B2 o,.loop k a j] (λ_=>.fz []) (λi=>[.cq (Ba d r es c),B1 i.1.1,B2 i.1.1,.loop k a j,.cq (F3 r c i.1.2.2)]):=by
 obtain rfl:=q.m;have z:JM (Ba (.map (aa r)) r es c) r es c:=λv K h=>by rw[h.2];simp
 refine dO.DZ Tryz.func95 rfl rfl rfl (AK.of_code ?_);refine AK.dk dn eF bG.nil [] 100 rfl ar ?_;refine AK.range (mb:=0) (r:=r) rfl rfl rfl rfl Tryz.underlying63 (cr.T8 rfl) rfl z ?_;refine AK.dk dn eF bG.nil [] 100 rfl ar ?_;show AW X _ (.loop _) _ _ _;refine AW.loop (S:=T×List Int×Array Nat) (λx=>Mf es x.2.1 x.2.2/\R x.2.1 x.1) (λ_=>[(0,.e (.one (.ref 3))),(5,.e (.one (.ref 4)))]) (λx=>[.cq (Ba (.map (aa r)) r es c),B1 x.1,B2 x.1,.loop k a j,.cq (F3 r c x.2.2)]) (λx=>es.toList.length-x.2.1.length) (o,[],#[]) ⟨⟨List.nodup_nil,by simp,by simp⟩,H⟩ (dj rfl (by simp)) rfl ?_;rintro⟨t,pre,sn⟩ ⟨w,A⟩;refine AK.of_code ?_;refine AK.dk dn eF bG.nil [] 100 rfl ar ?_;refine AK.next (mb:=0) (ib:=4) (r:=r) (c:=c) (sn:=sn) (es:=es) rfl rfl rfl rfl rfl rfl rfl rfl z q.st (λe g=>⟨by rw[(q.kv e g).1];rfl,by rw[(q.kv e g).2.2];rfl⟩) λi=>?_;cases i with
 |over ha =>
  refine AK.dk dn eF bG.nil [(7,ae)] 100 rfl (by simp) ?_;refine AK.Jz rfl rfl ?_;exact⟨⟨(t,pre,sn),q.over w ha,A⟩,.inr rfl,rfl,j3 (B:=.cq _) (by simp) (j3 (C t).1 (j3 (C t).2 rfl)),[],.fz [],[],rfl,rfl,rfl,ar⟩
 |one e g G =>
  refine AK.dk dn eF bG.nil [(7,ab)] 100 rfl (by simp) ?_;obtain⟨k1,E,I⟩:=q.kv e g;obtain⟨u,F⟩:=q.step w g G;refine AK.entry (mb:=0) (ib:=4) (r:=r) (c:=c) (sn:=sn) (es:=es) (e:=e) (y:=.fz [.one (.c (.int .i64 (ot e))),.one .any]) rfl rfl rfl rfl rfl rfl rfl z q.st g (λs=>⟨[e.key,e.val],rfl,?_,by rw[I];rfl,ar⟩) ?_
  .rw[k1];exact Rd.int E
  refine AK.dk dn eF bG.nil [] 100 rfl ar ?_;refine AK.yield (b pre (ot e) t _ F w.1 (λy J=>(q.mem y).2 (u.2.1 y J)) A) rfl rfl rfl rfl rfl rfl λf=>?_;refine AK.dk dn eF bG.nil [(13,ae)] 100 rfl (by simp) ?_;refine⟨(f.1,pre++[ot e],sn.push e.born),⟨u,f.2⟩,?_,dj rfl (by simp),rfl⟩;have:=qN _ _ u.1 u.2.1;simp at this⊢;omega
abbrev SC(l:List Int):Type:={q:List Int // q.Nodup/\∀n,n∈q↔n∈l}
set_option maxRecDepth 20000 in
def yk(d:aj)(l:List Int)(s:l.length<=4000000):
  dO (ι:=SC l) X 119 [.e (.one (.c (.sl ab 0 0 λ_=>[]))),.e (.one (.c (Bc d)))] [oO d l] (λq=>.e (.one (.bp 1 (.sl q.1.length 1 0 q.1.length)))) (λq=>[oO d l,Bi q.1.length q.1]):=by
 refine dO.Al Tryz.func119 rfl rfl rfl λg=>?_;refine nZ.seq (AW.top (AK.of_code ?_));refine bw rfl ar ?_;refine nZ.seq (nZ.seq (AW.top (AK.of_code ?_)));refine AK.IG 0 (λq:{q:Nat×Array MapEntry×Nat // Bb d l q.1 q.2.1 q.2.2}=>Ba d q.1.1 q.1.2.1 q.1.2.2) rfl (λv k h=>oN.tell h) ?_;rintro⟨⟨r,es,c⟩,q⟩;refine AK.wC 1 0 3 1 (cI.fn []) rfl rfl ?_;refine bw rfl ar ?_;refine nZ.block ?_;refine nZ.rangeFunc (capD:=fD [.rp [.val d]]) (cr.callee rfl) (Fc (T:=List Int) q (λt=>.cells 28 [.bp 2 (.sl t.length 1 0 t.length)]) (λt=>Bi t.length t) (λpre t=>t=pre) [] rfl (λt=>⟨by simp,by simp⟩) ?_) (λi=>⟨rfl,by simp⟩) λi=>⟨.normal,rfl,?_⟩
 .rintro pre x t p o m a rfl;have f:t.length+1<=4000000:=by have:=qN (t++[x]) l (by grind) a;simp at this;omega
  refine Yields.intro (j:=af) rfl rfl rfl rfl (AK.of_code ?_);refine bw rfl ar ?_;refine⟨rfl,rfl,AK.of_code ?_⟩;refine bw rfl (by simp[bx,show i3.bytes=8 from rfl];omega) ?_;have e:=cI.cp t x;refine⟨rfl,rfl,⟨t++[x],rfl⟩,lb rfl ?_⟩;simp only[au.cat,au,cf,ey,aF,aE];and_intros<;>first|exact e|rfl|exact cw.same
 .show nZ X _ _ _ _ _;obtain⟨⟨t,pre,sn⟩,n,b⟩:=i;obtain rfl:t=pre:=b;refine AW.top (AK.of_code ?_);refine AK.IG (ι:=Unit) 0 (λ_=>oN d l) rfl (λv k h=>⟨(),q.back h⟩) λ_=>?_;refine bw rfl ar ?_;refine AK.iv (λe φ σ q=>⟨⟨t,n⟩,q⟩) (AK.dJ [0,2] rfl ?_ rfl rfl rfl GD);simp
def Dl(d:aj)(l:List Int)(a:l.length<=4000000):
  dO (ι:=SC l) X 94 [.e (.one (.c (Bc d)))] [oO d l] (λq=>.e (.one (.bp 1 (.sl q.1.length 1 0 q.1.length)))) (λq=>[oO d l,Bi q.1.length q.1]):=by refine dO.oC Tryz.func94 rfl rfl rfl λb=>?_;refine bw rfl ar ?_;refine AK.nT (yk d l a) [0] rfl rfl rfl rfl (by simp) rfl rfl rfl (λ_=>rfl) rfl (λ_=>rfl) rfl λq=>?_;refine bw rfl ar (AK.kP q (AK.dJ [0,1] rfl ?_ rfl rfl rfl GD));simp
def Ic{l Q:List Int}(g:Q.Pairwise (· < ·))(i:∀n,n∈Q↔n∈l)(q:SC l):kF q.1=Q:=by
 have e:(kF q.1).Pairwise λa b=>a<=b:=(List.pairwise_mergeSort (λa b c e f=>by grind) (λa b=>by grind) q.1).imp λh=>by grind
 have f:(kF q.1).Nodup:=(og _).nodup_iff.2 q.2.1;refine Gr ?_ g λn=>by rw[(og _).mem_iff,q.2.2,i]
 exact(e.and f).imp λh=>by omega
def Fe(d:aj)(l Q:List Int)(g:l.length<=4000000)(h:Q.Pairwise (· < ·))(f:∀n,n∈Q↔n∈l):
  Ev X 67 [.e (.one (.c (Bc d)))] [oO d l] (.e (.one (.bp 1 (.sl Q.length 1 0 Q.length)))) [oO d l,Bi Q.length Q]:=by
 refine Ev.bQ Tryz.func67 rfl λj=>?_;refine bw rfl ar ?_;refine AK.cP (Dl d l g) [0] rfl (λ_=>rfl) λq=>?_;have e:=Ic h f q;have k:=qN q.1 l q.2.1 λn i=>(q.2.2 n).1 i;have a:=xp (X:=X) q.1 (by omega);have b:q.1.length=Q.length:=by rw[<-e,ft]
 rw[e,b]at a;rw[b];refine bw rfl ar ?_;refine AK.cQ a [1] rfl ?_;refine bw rfl ar (AK.dJ [0,1] rfl ?_ rfl rfl rfl GD);simp
def Mh(d:aj)(l Q:List Int)(a:l.length<=4000000)(b:Q.Pairwise (· < ·))(f:∀n,n∈Q↔n∈l):
  Ev X 34 [P2 d] [oO d l] (cI.sl Q) [oO d l]:=by
 have h:Ev X 34 [P2 d] [oO d l] (.e (.one (.bp 1 (.sl Q.length 1 0 Q.length)))) ([oO d l]++[Bi Q.length Q]):=by refine Ev.bQ Tryz.func34 rfl λg=>?_;refine AK.dk dn eF bG.nil [] 100 rfl ar ?_;refine AK.cQ (Mg d) [] rfl ?_;refine AK.dk dn eF bG.nil [] 100 rfl ar ?_;refine AK.cQ (Fe d l Q a b f) [0] rfl ?_;refine AK.dk dn eF bG.nil [] 100 rfl ar (AK.dJ [0,1] rfl ?_ rfl rfl rfl GD);simp
 exact Ev.Cb h rfl (by simp) rfl (ba _)
def Fb(s:bo)(a:iS s):Ev X 25 [nc s] [] (nc s) []:=by refine(w6 s a.p a.p2 a.sn a.s2 a.h).forget rfl ?_ rfl;simp
abbrev GC:dz:=kB Ki (λs=>nc s) λs=>[iS s]
def O6:dK X 25 GC:=.oL λs h=>Fb s h
abbrev Yb(p:bc)(a:List cv):List bm:=[Ox p,.cells 43 [.c (.int .i64 0),hO],.cells 43 [.c (.int .i64 p.1),.vec 3 2 a.length (et.fn a)],.vec 68 2 a.length (et.fn a)]
def xK{l:List α}{q:α->Bool}(h:i<l.length)(d:α):(l.take (i+1)).filter q=if q (l.getD i d)=ab then(l.take i).filter q++[l.getD i d]else(l.take i).filter q:=by rw[bu h d,List.filter_append,nI];split<;>simp
def filter_le(l:List α)(q:α->Bool)(h:i<=l.length):((l.take i).filter q).length<=i:=dT (kH _ _) (by simp;omega)
abbrev Zy(w:dN)(b:Bool):D:=.fz [.agg (XQ w),.one (.c (.bool b))]
abbrev Md:List A:=[hO,hO,hO,hO,hO]
abbrev Vl(s:bo)(a:List cg)(l:List Int):List bm:=[sv s,.cells 32 Md,.cells 32 [qD cP s.1,.vec 4 2 a.length (ee.fn a),qD cH s.2.2,hO,.vec 5 1 l.length (cI.fn l)],sv s,.vec 39 2 a.length (ee.fn a),.vec 3 1 l.length (cI.fn l)]
def map_take{a:Type}{l:List α}{f:α->a}(h:i<l.length)(d:α):(l.take (i+1)).map f=(l.take i).map f++[f (l.getD i d)]:=by rw[bu h d,List.map_append];rfl
def ll(l:List cg)(q:cg->Bool):(gv (l.filter q)).length<=(gv l).length:=by
 induction l with
 |nil=>simp
 |cons x l a =>
  unfold gv at *;grind
def tN(k:Int)(s:bo)(keep:List Int)(d:iS s)(n:Zk s):Ev X 9 [dI k,nc s,cI.sl keep] [] (Zy (yj k s keep).1 (yj k s keep).2) []:=by
 refine Ev.oz Tryz.func9 rfl rfl rfl λw=>?_;have c:bG X [(24,y3),(25,GC),(26,KZ),(27,CY)]:=.cons HN (.cons O6 (.cons P1 (.cons Lb .nil)));have y:=d.p;have u:=d.sn;unfold yj;cases q:fp k s with
 |false =>
  refine bt c [(15,ab)] rfl ?_ ?_
  .simp only[au,cP.list_fn,cP.aJ,ee.list_fn,ee.aJ,cH.list_fn,cH.aJ,q,d.p,d.sn,aF,aE,kX];exact n.sm
  refine AK.freeze 6 1 rfl rfl rfl ?_;refine AK.zR tok [] rfl ?_ rfl rfl rfl uD;simp
 |true =>
 rw[br rfl];refine bt c [(15,ae),(1000006,ab)] rfl ?_ ?_
 .simp only[au,cP.list_fn,cP.aJ,ee.list_fn,ee.aJ,cH.list_fn,cH.aJ,q,d.p,d.sn,d,aF,aE,kL];exact n.sm
 refine AK.gd 2 1 39 2 (ee.fn []) rfl rfl ?_;refine AK.gd 2 4 3 1 (cI.fn []) rfl rfl ?_;refine cN c rfl ar ?_;refine AK.bX 6 (λi=>i<=s.2.1.length) (λi:Nat=>[(2,cI.sl keep),(4,.e (.one (.ptr 0 0))),(6,.e (.one (.ptr 1 0))),(8,.e (.one (.ptr 2 0))),(9,.e (.one (.ptr 3 0))),(10,dI i)])
  (λi=>Vl s ((s.2.1.take i).filter λx=>keep.contains x.1) []) (λi=>s.2.1.length-i) 0 rfl ?_ rfl ?_ rfl (by omega) ?_
 .simp
 .simp[cP.list_fn,ee.list_fn,cH.list_fn]
 .intro i hi;have o:=filter_le s.2.1 (λx=>keep.contains x.1) hi;by_cases h:i<s.2.1.length
  .have g:s.2.1.getD i ee.bP=s.2.1.getD i (0,[]):=rfl;have b:(s.2.1.take (i+1)).filter (λx=>keep.contains x.1)=if keep.contains (s.2.1.getD i (0,[])).1=ab then(s.2.1.take i).filter (λx=>keep.contains x.1)++[s.2.1.getD i (0,[])]else(s.2.1.take i).filter (λx=>keep.contains x.1):=xK h (0,[]);generalize(s.2.1.take i).filter (λx=>keep.contains x.1)=a at *;generalize s.2.1.getD i (0,[])=x at *;cases l:keep.contains x.1 with
   |true =>
    rw[br l]at b;have j:=ee.cp a x;refine bt c [(30,ab),(40,ab)] rfl ?_ (AK.aQ (i+1) rfl (by simp) ?_ h (by omega))
    .simp[-ai,-List.contains_eq_mem,g,h,l,cI.list_fn,cI.aJ,bx,show i39.bytes=32 from rfl];omega
    .rw[b];simp only[au.cat,au,bM,g,cf,ey,aF,aE];and_intros<;>first|exact cw.same|exact j|rfl|omega
   |false =>
    rw[a9 (by rw[l];simp)]at b;refine bt c [(30,ab),(40,ae)] rfl ?_ (AK.aQ (i+1) rfl (by simp) ?_ h (by omega))
    .simp[-ai,-List.contains_eq_mem,g,h,l,cI.list_fn,cI.aJ,bx];omega
    .rw[b];simp
  obtain rfl:i=s.2.1.length:=by omega
  rw[cC]at o⊢;have r:=ll s.2.1 λx=>keep.contains x.1;have m:iM (s.1,s.2.1.filter (λx=>keep.contains x.1),s.2.2):=λx j=>d.s2 x (hZ.1 j).1;have t:=n.aN;generalize s.2.1.filter (λx=>keep.contains x.1)=sn at *;refine bt c [(30,ae)] rfl (by simp) (AK.leaveD rfl rfl ?_);refine cN c rfl ar ?_;refine AK.bX 6 (λi=>i<=s.1.length) (λi:Nat=>[(2,cI.sl keep),(4,.e (.one (.ptr 0 0))),(6,.e (.one (.ptr 1 0))),(8,.e (.one (.ptr 2 0))),(11,dI i)])
   (λi=>Vl s sn ((s.1.take i).map (·.1))) (λi=>s.1.length-i) 0 rfl (by simp) rfl (by simp) rfl (by omega) ?_
  intro i hi;have v:((s.1.take i).map (·.1)).length=i:=by simp;omega
  by_cases h:i<s.1.length
  .have g:s.1.getD i cP.bP=s.1.getD i (0,[]):=rfl;have b:=map_take (f:=λp:bc=>p.1) h (0,[]);generalize(s.1.take i).map (λp:bc=>p.1)=a at *;generalize s.1.getD i (0,[])=p at *;have j:=cI.cp a p.1;refine bt c [(57,ab)] rfl ?_ (AK.aQ (i+1) rfl (by simp) ?_ h (by omega))
   .simp[-ai,g,h,bx,show i3.bytes=8 from rfl];omega
   .rw[b];simp only[au.cat,au,bM,g,cf,ey,aF,aE];and_intros<;>first|exact cw.same|exact j|rfl|omega
  obtain rfl:i=s.1.length:=by omega
  rw[cC];refine bt c [(57,ae)] rfl (by simp) (AK.leaveD rfl rfl ?_);refine cN c rfl ?_ ?_
  .simp only[au,cP.list_fn,cP.aJ,ee.list_fn,ee.aJ,cH.list_fn,cH.aJ,aF,aE];exact⟨m,by omega,by omega⟩
  refine AK.freeze 8 2 rfl rfl rfl ?_;refine AK.freeze 6 1 rfl rfl rfl ?_;refine AK.zR tok [] rfl ?_ rfl rfl rfl uD;simp[ee.list_fn]
end
structure VT(w:dN):Prop extends EU w.1 where
 mrk:w.2.1.length<=4000000
 XS:w.2.2.length<=4000000
def tG{l:List cg}(h:i<l.length):(b5 (l.getD i (0,[])).2).length<=(gv l).length:=by have:=CX l (i+1);grind[rq]
def yc(k:Int)(w:dN):mx k w=(fp k w.1&&(bk w.1.2.1.length).all (λi=>!(c6 (w.1.2.1.getD i (0,[]))).any λn=>!w.2.1.contains n)&&(bk w.2.2.length).all (oc w.1.1 w.2.2)):=by rw[mx,HT];cases fp k w.1<;>simp
def C3(k:Int)(w:dN)(q:VT w):Ev (Cx.beside ag) 16 [dI k,CZ w] [] (dB (mx k w)) []:=by
 refine Ev.bQ Tryz.func16 rfl λK=>?_;have b:bG (Cx.beside ag) [(20,qx)]:=.cons tF .nil;have z:=cP.list_fn w.1.1;have y:=ee.list_fn w.1.2.1;have A:=cH.list_fn w.1.2.2;have r:=q.toEU;rw[yc];cases v:fp k w.1
 .exact AK.dk dn eF b [(14,ab)] 100 rfl (by simp[v,z,y,A,cP.aJ,ee.aJ,cH.aJ,r]) (AK.bn rfl)
 refine AK.dk dn eF b [(14,ae)] 100 rfl (by simp[v,z,y,A,cP.aJ,ee.aJ,cH.aJ,r]) ?_;rw[fC];refine AK.KX rfl rfl rfl λm=>?_;refine AK.dk dn eF b [] 100 rfl ar ?_;refine AK.cQ (Lf m [] w.2.1) [1] rfl ?_;rw[uT];refine AK.dk dn eF b [(1000005,ab)] 100 rfl ar ?_;refine AK.freeze 5 2 rfl rfl rfl ?_;refine AK.dk dn eF b [] 100 rfl ar ?_;refine AK.bX 3 (λi=>i<=w.1.2.1.length/\∀j,j<i->(!(c6 (w.1.2.1.getD j (0,[]))).any λn=>!w.2.1.contains n)=ab) (λi:Nat=>[(0,dI k),(3,.e (.one (.ptr 0 0))),(5,.e (.one (.c (.rp [.val m])))),(22,ee.sl w.1.2.1),(23,dI w.1.2.1.length),(24,dI i)]) (λ_=>[Dw w,oO m w.2.1,.dead]) (λi=>w.1.2.1.length-i) 0 rfl (by simp) rfl (by simp) rfl ⟨by omega,by omega⟩ ?_;have I:=q.sN;rintro i ⟨hi,a⟩;by_cases h:i<w.1.2.1.length
 .have u:w.1.2.1.getD (i:Int).toNat ee.bP=w.1.2.1.getD i (0,[]):=by grind
  have t:=q.sm _ (gM (d:=(0,[])) h);have G:=tG h;have J:=q.aN;have D:=fV (p:=λj=>!(c6 (w.1.2.1.getD j (0,[]))).any λn=>!w.2.1.contains n) h;have s:=g8 (p:=λj=>!(c6 (w.1.2.1.getD j (0,[]))).any λn=>!w.2.1.contains n) (i:=i);generalize w.1.2.1.getD i (0,[])=x at *;refine AK.dk dn eF b [(25,ab)] 100 rfl (by simp;omega) ?_;rw[u];refine AK.cQ (xr x t.1 (by omega)) [] rfl ?_;refine AK.dk dn eF b [] 100 rfl ar ?_;refine AK.cQ (KW (c6 x) 40 [.val m] (oN m w.2.1) (λn=>!w.2.1.contains n) λn _=>AZ m w.2.1 n) [1] rfl ?_;cases C:(c6 x).any λn=>!w.2.1.contains n with
  |true =>
   refine AK.dk dn eF b [] 100 rfl ar (AK.eY (ck.zero rfl ?_));rw[D (by grind)];simp
  |false =>
   refine AK.dk dn eF b [] 100 rfl ?_ (AK.aQ (i+1) rfl (by simp) (by simp) ⟨h,s a (by grind)⟩ (by omega));simp[bx];omega
 obtain rfl:i=w.1.2.1.length:=by omega
 rw[di.2 a,fC];refine AK.dk dn eF b [(25,ae)] 100 rfl (by simp) (AK.leaveD rfl rfl ?_);refine AK.dk dn eF b [] 100 rfl ar ?_;have E:=q.XS;refine AK.bX 3 (λi=>i<=w.2.2.length/\∀j,j<i->oc w.1.1 w.2.2 j=ab) (λi:Nat=>[(0,dI k),(3,.e (.one (.ptr 0 0))),(34,cI.sl w.2.2),(35,dI w.2.2.length),(36,dI i)]) (λ_=>[Dw w,oO m w.2.1,.dead]) (λi=>w.2.2.length-i) 0 rfl (by simp) rfl (by simp) rfl ⟨by omega,by omega⟩ ?_;rintro i ⟨hi,a⟩;by_cases h:i<w.2.2.length
 .have u:w.2.2.getD (i:Int).toNat cI.bP=w.2.2.getD i 0:=by grind
  have o:w.2.2.getD (i-1) cI.bP=w.2.2.getD (i-1) 0:=rfl;have H:oc w.1.1 w.2.2 i=((w.1.1.any λp=>p.1==w.2.2.getD i 0)&&x9 (λx=>x) 0 w.2.2 i):=rfl;have B:=oa (f:=λx:Int=>x) (d:=0) (l:=w.2.2) (i:=i);generalize w.2.2.getD i 0=n at *;generalize w.2.2.getD (i-1) 0=n' at *;have qu:bG (Cx.beside ag) [(41,pt [cP.sl w.1.1,.e (.one (.c (.fn (.func 42) [] [.rp [.int .i64 n]])))] (dB (w.1.1.any λp=>p.1==n)))]:=.cons (rh (KU w.1.1 42 [.int .i64 n] (λp=>p.1==n) λp _=>HS p n)) .nil;refine AK.dk dn eF b [(37,ab),(1000014,ab)] 100 rfl (by simp;omega) ?_;rw[u];refine AK.freeze 9 3 rfl rfl rfl ?_;have fin:w.1.1.any (λp=>p.1==n)=ab->x9 (λx=>x) 0 w.2.2 i=ab->oc w.1.1 w.2.2 i=ab:=λC M=>by grind
  by_cases F:i=0
  .subst F;cases g:w.1.1.any (λp=>p.1==n)with
   |true =>
    refine AK.dk dn eF qu [(43,ae),(60,ae)] 100 rfl ?_ (AK.aQ 1 rfl (by simp) (by simp) ⟨h,g8 a (fin g rfl)⟩ (by omega));simp[bx,g,kh.sl]
   |false =>
    refine AK.dk dn eF qu [(43,ae),(60,ab)] 100 rfl ?_ (AK.eY (ck.zero rfl ?_))
    .simp[g,kh.sl]
    .rw[fV h (by grind)];simp
  by_cases L:n'<n
  rotate_left
  .refine AK.dk dn eF qu [(43,ab),(51,ab),(60,ab)] 100 rfl ?_ (AK.eY (ck.zero rfl ?_))
   .simp[-ai,o,bx];omega
   .rw[fV h (by grind)];simp
  cases g:w.1.1.any (λp=>p.1==n)with
  |true =>
   refine AK.dk dn eF qu [(43,ab),(51,ae),(60,ae)] 100 rfl ?_ (AK.aQ (i+1) rfl (by simp) (by simp) ⟨h,g8 a (fin g (by grind))⟩ (by omega));simp[-ai,o,bx,g,kh.sl];omega
  |false =>
   refine AK.dk dn eF qu [(43,ab),(51,ae),(60,ab)] 100 rfl ?_ (AK.eY (ck.zero rfl ?_))
   .simp[-ai,o,bx,g,kh.sl];omega
   .rw[fV h (by grind)];simp
 obtain rfl:i=w.2.2.length:=by omega
 rw[di.2 a];refine AK.dk dn eF b [(37,ae)] 100 rfl (by simp) (AK.leaveD rfl rfl ?_);exact AK.dk dn eF b [] 100 rfl ar (AK.bn rfl)
abbrev y7:dz:=n6 aI (aAg fSw) (λk w=>dB (mx k w)) λ_ w=>[VT w]
def HU:dK (Cx.beside ag) 16 y7:=.qK λk w h=>C3 k w h
section
variable {X:Cx ag}
abbrev KpI:={q:List Int // q.length<=5}
def Ia(m:Nat)(b:Nat->Int)(i:Bytes b)(k:Nat)(p:k<=500000)(j:m<=1048576):
  dO (ι:=KpI) X 23 [.e (.one (.ptr 0 0))] [kE m b k] (λq=>cI.sl q.1) (λ_=>[kE m b (k+5:Nat)]):=by
 refine dO.oC Tryz.func23 rfl rfl rfl λo=>?_;refine aX [(1000002,ab)] rfl ar ?_;refine AK.g6 3 3 1 rfl rfl ?_;refine bw rfl ar ?_;refine AK.bX 2 (λs:Nat×List Int=>1<=s.1/\s.1<=6/\s.2.length+1<=s.1) (λs=>[(0,.e (.one (.ptr 0 0))),(3,.e (.one (.vec 1 1 s.2.length (cI.fn s.2)))),(4,dI s.1)]) (λs=>[kE m b (k+(s.1-1):Nat),.vec 3 1 s.2.length (cI.fn s.2)]) (λs=>6-s.1) (1,[]) rfl ?_ rfl ?_ rfl ⟨by decide,by decide,by decide⟩ ?_
 .simp
 .simp
 rintro⟨n,a⟩ ⟨l,f,g⟩;simp only at l f g;by_cases h:n<=5
 .refine aX [(7,ab)] rfl (by simp only[au,bq];omega) ?_;refine AK.cP (gD m b i (k+(n-1)) 2 (by omega) j (by omega)) [0] rfl (λ_=>rfl) ?_;rintro⟨v,v0,v1⟩;by_cases c:v=0
  .have d:=cI.cp a (n:Int);refine aX [(12,ab)] rfl ?_ (AK.aQ (n+1,a++[(n:Int)]) rfl ?_ ?_ ⟨by simp only;omega,by simp only;omega,by grind⟩ (by simp only;omega))
   .simp only[au,c,bx,show i3.bytes=8 from rfl,jW,aF,aE];and_intros<;>omega
   .simp only[au.cat,au,cf,ey,aF,aE];and_intros<;>first|exact cw.same|exact d|rfl|omega
   .simp only[au.cat,au,cf,ey,aF,aE];and_intros<;>first|exact cw.same|exact d|rfl|omega
  .refine aX [(12,ae)] rfl ?_ (AK.aQ (n+1,a) rfl ?_ ?_ ⟨by simp only;omega,by simp only;omega,by simp only;omega⟩ (by simp only;omega))
   .simp only[au,bx,eW,cU,aF,aE];and_intros<;>first|exact c|omega
   .simp only[au.cat,au,aF,aE];and_intros<;>first|exact cw.same|rfl|omega
   .simp only[au.cat,au,aF,aE];and_intros<;>first|exact cw.same|rfl|omega
 obtain rfl:n=6:=by omega
 refine aX [(7,ae)] rfl (by simp) (AK.leaveD rfl rfl ?_);refine bw rfl ar ?_;refine AK.kP ⟨a,by omega⟩ (AK.dJ [0] rfl ?_ rfl rfl rfl yd);simp
end
end R1
end Go.AM
