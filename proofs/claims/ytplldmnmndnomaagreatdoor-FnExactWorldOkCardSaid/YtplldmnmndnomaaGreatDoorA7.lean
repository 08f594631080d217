/-
  Part 7 of a machine of values without memory, proved sound over the model, and of contracts of the functions that the laws reach. Nothing is taken for granted: no condition.
-/
import Derived.Test.YtplldmnmndnomaaGreatDoorA6
import Derived.ProofKit
import Derived.OpenShut
import Derived.OpenVars
import Derived.LaidMore
import Derived.Lay
import Derived.SevenTiedAt
import Derived.Below
set_option linter.unusedVariables false
set_option linter.unusedSimpArgs false
set_option linter.defProp false
set_option linter.deprecated false
namespace Go.AM.R1
open Go.Proofs
variable {X:Cx Tryz.prog}
theorem yE(s:cX):Ev X 52 [Ba s] [] (Ba s) []:=by
 refine Ev.kR Tryz.func52 rfl rfl rfl λa=>?_
 refine bq rfl (by simp[aa]) ?_
 refine AK.freeze 2 1 rfl rfl rfl ?_;exact AK.oX tok [] rfl (by simp[aa,aa.cat,aw.same]) rfl rfl rfl (λj b=>absurd b (by simp))
abbrev EK:bE:=fZ zS (λs=>Ba s) λ_=>[]
theorem Kd:bO X 52 EK:=.je λs _=>yE s
abbrev Cf(s:cX):ak:=.cells 106 [.c (.sl false 2 s.1.length (cP.fn s.1)),.c (.sl false 2 s.2.1.length (cD.fn s.2.1)),.c (.sl false 2 s.2.2.length (cH.fn s.2.2))]
structure Ke (s:cX):Prop extends MO s where
 pk:∀ p∈s.1,p.2.length<=4000000
 nm:(aK s.1).length<=4000000
def sY(k:Int)(s:cX):Bool:=(List.range s.1.length).all (mO k s.1)&&decide (s.1.length<=20)&&decide (aK s.1).Nodup
set_option maxHeartbeats 4000000 in
theorem yF(k:Int)(s:cX)(v:bJ k=true)(c:Ke s):Ev X 54 [Ba s,dI k] [] (dB (sY k s)) []:=by
 refine Ev.body Tryz.func54 rfl rfl rfl λE=>?_
 have F:=c.pN;have y:=c.pk;have z:=BD (X:=X) s.1 c.pk c.nm;have o:aM X [(71,zT)]:=.cons GZ .nil;refine af o [] 100 rfl ab ?_;unfold sY;refine AK.bU 1 (λi=>i<=s.1.length/\∀ j,j<i->mO k s.1 j=true) (λi:Nat=>[(1,dI k),(2,.e (.one (.ptr 0 0))),(9,cP.sl s.1),(10,dI s.1.length),(11,dI i)]) (λ_=>[Cf s]) (λi=>s.1.length-i) 0 rfl (by simp[aa.cat,aa,aw.same]) rfl (by simp[aa.cat,aa,aw.same]) rfl ⟨by omega,by omega⟩ ?_
 rintro i ⟨hi,b⟩
 by_cases h:i<s.1.length
 ·have w:s.1.getD i cP.bx=s.1.getD i (0,[]):=rfl;have u:s.1.getD (i-1) cP.bx=s.1.getD (i-1) (0,[]):=rfl;have a:mO k s.1 i=(gI k (s.1.getD i (0,[]))&&yA (·.1) (0,[]) s.1 i):=rfl;have g:=ma (f:=λp:aV=>p.1) (d:=(0,[])) (l:=s.1) (i:=i)
  have m:=y _ (cE (d:=(0,[])) h);generalize s.1.getD i (0,[])=p at *;generalize s.1.getD (i-1) (0,[])=p' at *;cases q:gI k p with
  |false =>
   rw[q,ku] at a;refine af o [(12,true),(20,true),(35,true)] 100 rfl ?_ (AK.cR (aR.zero rfl ?_))
   ·simp[-List.getD_eq_getElem?_getD,aa,w,v,m,q,cG.list_fn,cG.ae];omega
   ·rw[cq h a];simp[aa]
  |true =>
   rw[q,cf] at a
   by_cases C:i=0
   ·subst C;refine af o [(12,true),(20,false),(23,false),(35,false)] 100 rfl ?_ (AK.aA 1 rfl (by simp[aa.cat,aa,aw.same]) rfl rfl rfl (by simp[aa.cat,aa,aw.same]) rfl ⟨h,dc b (by rw[a];rfl)⟩ (by omega))
    simp[-List.getD_eq_getElem?_getD,aa,w,v,m,q,cG.list_fn,cG.ae,aB];omega
   have g:=g C
   by_cases B:p'.1<p.1
   ·refine af o [(12,true),(20,false),(23,true),(33,false),(35,false)] 100 rfl ?_ (AK.aA (i+1) rfl (by simp[aa.cat,aa,aw.same]) rfl rfl rfl (by simp[aa.cat,aa,aw.same]) rfl ⟨h,dc b (by rw[a,g];exact aP B)⟩ (by omega))
    simp[-List.getD_eq_getElem?_getD,aa,w,u,v,m,q,cG.list_fn,cG.ae,aB];omega
   ·refine af o [(12,true),(20,false),(23,true),(33,true),(35,true)] 100 rfl ?_ (AK.cR (aR.zero rfl ?_))
    ·simp[-List.getD_eq_getElem?_getD,aa,w,u,v,m,q,cG.list_fn,cG.ae,aB];omega
    ·rw[cq h (by rw[a,g];exact bR B)];simp[aa]
 obtain rfl:i=s.1.length:=by omega
 rw[ba.2 b,cf];refine af o [(12,false)] 100 rfl (by simp[aa]) (AK.leaveD rfl rfl ?_)
 refine af o [] 100 rfl ab ?_;refine AK.aO (wG s.1 c.pk c.nm) [] rfl rfl rfl rfl rfl rfl rfl rfl rfl rfl rfl ?_;refine af o [] 100 rfl ab ?_;refine AK.aO (wH (aK s.1) c.nm) [1] rfl rfl rfl rfl rfl rfl rfl rfl rfl rfl rfl ?_;have x:=uQ (aK s.1);have r:=(rj (X:=X) (jC (aK s.1)) (by rw[ek];exact c.nm)).die
 rw[ek] at r;have A:=nF (jC (aK s.1));rw[ek] at A;have D:=c.nm;generalize cm (jC (aK s.1))=cs at *;generalize jC (aK s.1)=so at *;have l8:aM X [(74,Is [gQ (aK s.1).length] [BC (aK s.1).length so] (.e (.one (.bp 0 (.sl (aK s.1).length 1 0 cs.length)))) [.dead]),(72,Bi [cP.sl s.1] (cI.sl (aK s.1)))]:=.cons (MH r) (.cons (G9 z) .nil);refine af l8 [(1000009,true)] 100 rfl ab ?_
 by_cases t:s.1.length<=20
 rotate_left
 ·refine af l8 [(46,false)] 100 rfl ?_ (AK.au rfl ?_)
  ·simp[aa];omega
  ·simp[aa,t]
 have n:(s.1.length:Int)<=20:=by omega
 generalize G:aK s.1=N at *;refine AK.x2 (ι:=Unit) di 6 (λi=>match Nat.ble i 5 with|true=>true|false=>match Nat.beq i 8 with|true=>true|false=>Nat.beq i 9) (λi=>[.e (.one (.ptr 0 0)),cP.sl s.1,dI s.1.length,dB (decide ((s.1.length:Int)<=20)),dB true,.e (.one (.bp 1 (.sl N.length 1 0 N.length))),.any,.any,.e (.one (.ptr 0 0)),cP.sl s.1].getD i .any)
  (λ_ i=>[.any,.any,.any,.any,.any,.any,.e (.one (.bp 1 (.sl N.length 1 0 cs.length))),dI cs.length,.any,.any,cI.sl N,dI N.length,dB ((cs.length:Int)==N.length),dB ((cs.length:Int)==N.length),dB ((cs.length:Int)==N.length)].getD i .any) (λ_=>[Cf s,.dead]) rfl rfl rfl rfl rfl rfl ?_ ?_ ?_ ?_
 ·exact⟨.dA tok l8 rfl,.dA tok l8 rfl,.dA tok l8 rfl,.dA tok l8 rfl,.eval tok l8 (ds:=[(46,true)]) rfl (aP n),.dA tok l8 rfl,ab,ab,.dA tok l8 rfl,.dA tok l8 rfl,ab,ab,ab,ab,ab,ab⟩
 ·intro _;exact⟨.dA tok l8 rfl,.dA tok l8 rfl,.dA tok l8 rfl,.dA tok l8 rfl,.eval tok l8 (ds:=[(46,true)]) rfl (aP n),.dA tok l8 rfl,ab,.dA tok l8 rfl,.dA tok l8 rfl,.dA tok l8 rfl,.eval tok l8 (ds:=[]) rfl rfl,.dA tok l8 rfl,.dA tok l8 rfl,.dA tok l8 rfl,.dA tok l8 rfl,ab⟩
 ·exact .uu (kG tok l8 (ds:=[]) (σ':=some [Cf s,.dead]) rfl ⟨rfl,rfl⟩)
 ·intro _;refine af l8 [] 100 rfl ab (AK.au rfl ?_);have:((cs.length:Int)==N.length)=decide N.Nodup:=by
   rw[ld,gg,decide_eq_true_iff,<-x];omega
  simp[aa,this,t]
end Go.AM.R1
namespace Go.AM.R1
open Go.Proofs
abbrev TC:List (Nat×bE):=[(75,sL)]
set_option maxHeartbeats 4000000 in
theorem yG(k:Int)(s:cX)(y:Ke s):Ev (Cx.beside Tryz.prog) 55 [Ba s,dI k] [] (dB ((List.range s.2.1.length).all (jQ k s))) []:=by
 refine Ev.body Tryz.func55 rfl rfl rfl λB=>?_
 have A:=y.sN;have v:=y.sm;have o:aM (Cx.beside Tryz.prog) TC:=.cons Bb .nil;refine af o [] 100 rfl ab ?_;refine AK.bU 1 (λi=>i<=s.2.1.length/\∀ j,j<i->jQ k s j=true) (λi:Nat=>[(1,dI k),(2,.e (.one (.ptr 0 0))),(10,cD.sl s.2.1),(11,dI s.2.1.length),(12,dI i)]) (λ_=>[Cf s]) (λi=>s.2.1.length-i) 0 rfl (by simp[aa.cat,aa,aw.same]) rfl (by simp[aa.cat,aa,aw.same]) rfl ⟨by omega,by omega⟩ ?_
 rintro i ⟨hi,n⟩
 by_cases h:i<s.2.1.length
 ·have t:s.2.1.getD i cD.bx=s.2.1.getD i (0,[]):=rfl;have r:s.2.1.getD (i-1) cD.bx=s.2.1.getD (i-1) (0,[]):=rfl;have c:jQ k s i=(decide (1<=(s.2.1.getD i (0,[])).1/\(s.2.1.getD i (0,[])).1<=20)&&yA (·.1) (0,[]) s.2.1 i&&(bY k (s.2.1.getD i (0,[])) s.1).isSome):=rfl;have u:=ma (f:=λp:cK=>p.1) (d:=(0,[])) (l:=s.2.1) (i:=i)
  have g:=v _ (cE (d:=(0,[])) h);generalize s.2.1.getD i (0,[])=p at *;generalize s.2.1.getD (i-1) (0,[])=p' at *
  by_cases z:1<=p.1
  rotate_left
  ·refine af o [(13,true),(20,true),(25,true),(40,true)] 100 rfl ?_ (AK.cR (aR.zero rfl ?_))
   ·simp[-List.getD_eq_getElem?_getD,aa,t];omega
   ·rw[cq h (by rw[c,bR (by omega)];rfl)];simp[aa]
  by_cases c2:p.1<=20
  rotate_left
  ·refine af o [(13,true),(20,false),(25,true),(40,true)] 100 rfl ?_ (AK.cR (aR.zero rfl ?_))
   ·simp[-List.getD_eq_getElem?_getD,aa,t];omega
   ·rw[cq h (by rw[c,bR (by omega)];rfl)];simp[aa]
  rw[aP ⟨z,c2⟩,cf] at c
  by_cases w:i=0
  ·subst w;rw[show yA (·.1) (0,[]) s.2.1 0=true from rfl,cf] at c
   cases q:(bY k p s.1).isSome with
   |false =>
    refine af o [(13,true),(20,false),(25,false),(27,false),(40,false),(50,true)] 100 rfl ?_ (AK.cR (aR.zero rfl ?_))
    ·simp[-List.getD_eq_getElem?_getD,aa,t,aB,cL.list_fn,cL.ae,cP.list_fn,cP.ae,q,g.1];and_intros <;> first|omega|exactλa b m=>g.2 (a,b) m
    ·rw[cq h (c.trans q)];simp[aa]
   |true =>
    refine af o [(13,true),(20,false),(25,false),(27,false),(40,false),(50,false)] 100 rfl ?_ (AK.aA 1 rfl (by simp[aa.cat,aa,aw.same]) rfl rfl rfl (by simp[aa.cat,aa,aw.same]) rfl ⟨h,dc n (c.trans q)⟩ (by omega))
    simp[-List.getD_eq_getElem?_getD,aa,t,aB,cL.list_fn,cL.ae,cP.list_fn,cP.ae,q,g.1];and_intros <;> first|omega|exactλa b m=>g.2 (a,b) m
  rw[u w] at c
  by_cases x:p'.1<p.1
  rotate_left
  ·refine af o [(13,true),(20,false),(25,false),(28,true),(38,true),(40,true)] 100 rfl ?_ (AK.cR (aR.zero rfl ?_))
   ·simp[-List.getD_eq_getElem?_getD,aa,t,r,aB];omega
   ·rw[cq h (by rw[c,bR x];rfl)];simp[aa]
  rw[aP x,cf] at c;cases q:(bY k p s.1).isSome with
  |false =>
   refine af o [(13,true),(20,false),(25,false),(28,true),(38,false),(40,false),(50,true)] 100 rfl ?_ (AK.cR (aR.zero rfl ?_))
   ·simp[-List.getD_eq_getElem?_getD,aa,t,r,aB,cL.list_fn,cL.ae,cP.list_fn,cP.ae,q,g.1];and_intros <;> first|omega|exactλa b m=>g.2 (a,b) m
   ·rw[cq h (c.trans q)];simp[aa]
  |true =>
   refine af o [(13,true),(20,false),(25,false),(28,true),(38,false),(40,false),(50,false)] 100 rfl ?_ (AK.aA (i+1) rfl (by simp[aa.cat,aa,aw.same]) rfl rfl rfl (by simp[aa.cat,aa,aw.same]) rfl ⟨h,dc n (c.trans q)⟩ (by omega))
   simp[-List.getD_eq_getElem?_getD,aa,t,r,aB,cL.list_fn,cL.ae,cP.list_fn,cP.ae,q,g.1];and_intros <;> first|omega|exactλa b m=>g.2 (a,b) m
 obtain rfl:i=s.2.1.length:=by omega
 rw[ba.2 n];refine af o [(13,false)] 100 rfl (by simp[aa]) (AK.leaveD rfl rfl ?_)
 exact af o [] 100 rfl ab (AK.au rfl (by simp[aa]))
theorem rY(k:Int)(s:cX):gw k s=(bJ k&&sY k s&&(List.range s.2.1.length).all (jQ k s)&&mn s.2.2):=by
 unfold gw sY;cases (List.range s.1.length).all (mO k s.1) <;> cases decide (aK s.1).Nodup <;> cases (List.range s.2.1.length).all (jQ k s) <;> cases bJ k <;> cases mn s.2.2 <;> cases decide (s.1.length<=20) <;> rfl
abbrev Kf:bE:=gb zS aI (λs k=>dB (sY k s)) λs k=>[bJ k=true,Ke s]
abbrev Kg:bE:=gb zS aI (λs k=>dB ((List.range s.2.1.length).all (jQ k s))) λs _=>[Ke s]
theorem wI(k:Int)(s:cX)(g:Ke s):Ev (Cx.beside Tryz.prog) 31 [dI k,Ba s] [] (dB (gw k s)) []:=by
 refine Ev.body Tryz.func31 rfl rfl rfl λj=>?_
 have d:aM (Cx.beside Tryz.prog) [(52,EK),(53,fZ aI (λk=>dB (bJ k)) λ_=>[]),(54,Kf),(55,Kg),(56,pP)]:=.cons Kd (.cons t53 (.cons (.gO λs k h=>yF k s h.1 h.2) (.cons (.gO λs k h=>yG k s h) (.cons Hn .nil))))
 have c:=cP.list_fn s.1;have e:=cD.list_fn s.2.1;have a:=cH.list_fn s.2.2;rw[rY];cases b:bJ k
 ·exact af d [(10,false),(15,false),(20,false)] 100 rfl (by simp[aa,b,c,e,a,cP.ae,cD.ae,cH.ae]) (AK.au rfl (by simp[aa]))
 cases f:sY k s
 ·exact af d [(10,true),(15,false),(20,false)] 100 rfl (by simp[aa,b,c,e,a,cP.ae,cD.ae,cH.ae,g,f]) (AK.au rfl (by simp[aa]))
 cases i:(List.range s.2.1.length).all (jQ k s)
 ·exact af d [(10,true),(15,true),(20,false)] 100 rfl (by simp[-List.all_eq_true,-List.all_eq_false,aa,b,c,e,a,cP.ae,cD.ae,cH.ae,g,f,i]) (AK.au rfl (by simp[aa]))
 exact af d [(10,true),(15,true),(20,true)] 100 rfl (by simp[-List.all_eq_true,-List.all_eq_false,aa,b,c,e,a,cP.ae,cD.ae,cH.ae,g,f,i]) (AK.au rfl (by simp[aa,a]))
abbrev sZ:bE:=gb aI zS (λk s=>dB (gw k s)) λ_ s=>[Ke s]
theorem BE:bO (Cx.beside Tryz.prog) 31 sZ:=.gO λk s h=>wI k s h
end Go.AM.R1
namespace Go.AM
open Go.Conc (G)
def oo(f:Value)(l:List Int):Value->(Nat->Option Obj)->Prop:=λv a=>v=f/\∃ r es c,f=.map (some r)/\(∀ b,a b=if b=r then some (.map es c) else none)/\MapKept.Stamped es c /\
 (∀ e∈es.toList,∃ n,e.key=.int .i64 n/\e.val=.bool true)/\∀ n,n∈l↔∃ e∈es.toList,e.key=.int .i64 n
structure MJ (σ:List ak)(s:St)(b:Nat)(f:Value)(l:List Int)(L:Loc)(r:Nat)(es:Array MapEntry)(c:Nat):Prop where
 at':s.β[b]?=some L
 v:L.v=f
 m:f=.map (some r)
 st:MapKept.Stamped es c
 kv:∀ e∈es.toList,∃ n,e.key=.int .i64 n/\e.val=.bool true
 mem:∀ n,n∈l↔∃ e∈es.toList,e.key=.int .i64 n
 heap:s.w.heap[r]?=some (.map es c)
 bs:∀ b,b∈L.bs↔b=r
theorem oo.open{σ:List ak}{s:St}{b:Nat}{f:Value}{l:List Int}(hh:ag σ s)(hl:σ[b]?=some (.eB (oo f l))):∃ L r es c,MJ σ s b f l L r es c:=by
 have d:b<s.β.length:=by rw[hh.len];exact(aF.1 hl).1
 obtain⟨ch,⟨h1,r,es,c,h2,a,g,i,h⟩,k,j,_⟩:=hh.box b _ _ hl (aj d);exact⟨_,r,es,c,aj d,h1,h2,g,i,h,k r _ (by rw[a,ar rfl]),λb=>by rw[j,a];by_cases e:b=r <;> simp[e]⟩
section
variable {P:Program}{o:Oper}{p:Operand->D}{σ:List ak}{T q t:TypeId}{x y z:Operand}{f:Value}{l:List Int}{n:Int}{b:Nat}
theorem MK{es:Array MapEntry}(h:∀ e∈es.toList,∃ n,e.key=.int .i64 n/\e.val=.bool true):∀ e∈es.toList,MapKept.IsKey (.int .i64) e.key:=λe c=>by
 obtain⟨n,a,_⟩:=h e c;rw[a];rfl
theorem Re{σ:List ak}{s:St}{v f:Value}{d:D}(h:cd σ s v d)(e:d=.e (.one (.v f))):v=f:=by subst e;exact Rd.fD h
theorem Rf{σ:List ak}{s:St}{v:Value}{n:Int}{d:D}(h:cd σ s v d)(e:d=.e (.one (.c (.int .i64 n)))):v=.int .i64 n:=by
 subst e;have:=ei h;generalize v=w at this;cases this;rfl
theorem aG.Hb(h:o.op=.lookup T x y false)(F:P.underlying T=some (.map q t))(A:P.underlying q=some (.int .i64))(O:∀ w,(zeroValue t).run P w=.ok (.bool false) w)(hl:σ[b]?=some (.eB (oo f l)))
  (S:p x=.e (.one (.v f))) (R:p y=.e (.one (.c (.int .i64 n)))):aG P o p σ (.e (.one (.c (.bool (l.contains n))))) σ:=by
 refine aG.kA λs I hh hr=>?_
 obtain⟨L,r,es,c,g⟩:=oo.open hh hl;have ex:I x=.map (some r):=(Re (hr x) S).trans g.m;have C:=Rf (hr y) R;obtain⟨a,B⟩:=sv (d:=.int .i64) (k:=.int .i64 n) rfl (MK g.kv);have M:lf s ⟨.obj r,false,false⟩:=iP (aH g.at') ((g.bs r).2 rfl);have key:∃ v:Bool,(Instr.lookup T (.map (some r)) (.int .i64 n) false).run P s.w=.ok (.bool v) s.w/\(Instr.lookup T (.map (some r)) (.int .i64 n) false).events P s.w #[]=#[⟨.obj r,false,false⟩]/\v=l.contains n:=by
  cases a with
  |none =>
   obtain⟨i,u⟩:=oH (ok:=false) F A g.heap B (λ_=>O s.w)
   exact⟨false,i,u,by
    symm;rw[<-kl,tC,g.mem]
    rintro⟨e,Q,A⟩;exact B.no rfl e Q A⟩
  |some jv =>
   obtain⟨j,v⟩:=jv;obtain⟨i,u⟩:=oH (ok:=false) (z:=undef) F A g.heap B (λh=>by cases h)
   obtain⟨e,h1,h2,J⟩:=B.yes j v rfl;have E:e∈es.toList:=by rw[Array.mem_toList_iff];exact nQ h1
   obtain⟨_,_,G⟩:=g.kv e E;exact⟨true,i.trans (show Result.ok v s.w=_ by rw[show v=.bool true from J.symm.trans G]),u,by symm;rw[tC,g.mem];exact⟨e,E,h2⟩⟩
 obtain⟨v,i,u,H⟩:=key;refine⟨.bool v,?_,by rw[<-H];exact Rd.bool,?_⟩
 ·simp only[execOp,h,ex,C,aU,i,bh,b8]
 ·simp only[execOp,h,ex,C,Sem.events_bind,i,u,Result.evThen_ok,Sem.events_pure];exact .one M
theorem aG.J5(h:o.op=.mapUpdate T x y z)(R:P.underlying T=some (.map q t))(Q:P.underlying q=some (.int .i64))(hl:σ[b]?=some (.eB (oo f l)))
  (W:p x=.e (.one (.v f))) (hy:p y=.e (.one (.c (.int .i64 n)))) (V:p z=.e (.one (.c (.bool true)))):aG P o p σ .any (σ.set b (.eB (oo f (l++[n])))):=by
 intro s I hh hr;obtain⟨L,r,es,c,g⟩:=oo.open hh hl;have ex:I x=.map (some r):=(Re (hr x) W).trans g.m;have U:=Rf (hr y) hy;have S:I z=.bool true:=by
  have:=hr z;rw[V] at this;have:=ei this;generalize I z=w at this;cases this;rfl
 obtain⟨a,F⟩:=sv (d:=.int .i64) (k:=.int .i64 n) rfl (MK g.kv);have M:∀ w,lf s ⟨.obj r,w,false⟩:=λw=>iP (aH g.at') ((g.bs r).2 rfl)
 have G:r<s.w.heap.size:=(ey.1 g.heap).1;have key:∃ es' c',(Instr.mapUpdate T (.map (some r)) (.int .i64 n) (.bool true)).run P s.w=.ok () { s.w with heap:=s.w.heap.setIfInBounds r (.map es' c') }/\(Instr.mapUpdate T (.map (some r)) (.int .i64 n) (.bool true)).events P s.w #[]=#[⟨.obj r,false,false⟩,⟨.obj r,true,false⟩] /\
   MapKept.Stamped es' c'/\(∀ e∈es'.toList,∃ n,e.key=.int .i64 n/\e.val=.bool true)/\∀ m,m∈l++[n]↔∃ e∈es'.toList,e.key=.int .i64 m:=by
  cases a with
  |none =>
   obtain⟨B,C⟩:=oI (x:=.bool true) R Q g.heap F;refine⟨_,_,B,C,MapKept.stamped_push g.st (F.no rfl),λe A=>?_,λm=>?_⟩
   ·rw[Array.toList_push,dE] at A;rcases A with A|A
    ·exact g.kv e A
    ·simp at A;subst A;exact⟨n,rfl,rfl⟩
   ·rw[dE,g.mem,Array.toList_push]
    constructor
    ·rintro(⟨e,h1,h2⟩|h1)
     ·exact⟨e,List.mem_append_left _ h1,h2⟩
     ·simp at h1;subst h1;exact⟨_,List.mem_append_right _ (fp.2 rfl),rfl⟩
    ·rintro⟨e,h1,h2⟩;rcases dE.1 h1 with h1|h1
     ·exact .inl ⟨e,h1,h2⟩
     ·simp at h1;subst h1;cases h2;exact .inr (by simp)
  |some jv =>
   obtain⟨j,v⟩:=jv;obtain⟨e,h1,h2,h3⟩:=F.yes j v rfl;have O:e∈es.toList:=by rw[Array.mem_toList_iff];exact nQ h1
   obtain⟨_,_,Y⟩:=g.kv e O;have J:es.modify j (λe=>{ key:=.int .i64 n,val:=.bool true,born:=e.born })=es:=by
    apply Array.ext_getElem?
    intro i;rw[tD];split
    ·rename_i hi;subst hi;rw[h1,<-h2,<-Y];rfl
    ·rfl
   obtain⟨B,C⟩:=oI (x:=.bool true) R Q g.heap F;refine⟨es,c,B.trans (show Result.ok () { s.w with heap:=s.w.heap.setIfInBounds r (.map (es.modify j λe=>{ key:=.int .i64 n,val:=.bool true,born:=e.born }) c) }=_ by rw[J]),C,g.st,g.kv,λm=>?_⟩
   rw[dE,g.mem]
   constructor
   ·rintro(E|E)
    ·exact E
    ·simp at E;subst E;exact⟨e,O,h2⟩
   ·exactλh=>.inl h
 obtain⟨es',c',B,C,k2,Z,k4⟩:=key;have H:=hh.jf (H':=oo f (l++[n])) (L':=L) (w':={ s.w with heap:=s.w.heap.setIfInBounds r (.map es' c') }) hl g.at' rfl (by simp) (λb _ u=>by
   show (s.w.heap.setIfInBounds r _)[b]?=_;rw[hO (by rintro rfl;exact u ((g.bs r).2 rfl))]) (λb u=>.inl u)
  ⟨λb=>if b=r then some (.map es' c') else none,⟨g.v,r,es',c',g.m,λ_=>rfl,k2,Z,k4⟩,λb ob u=>by
   show (s.w.heap.setIfInBounds r _)[b]?=_
   by_cases e:b=r
   ·subst e;simp only[aZ] at u;cases u;rw[jF G]
   ·simp[e] at u,λb=>by rw[g.bs];by_cases e:b=r <;> simp[e]⟩ rfl rfl rfl
 have e1:s.β.set b L=s.β:=by
  apply k8
  intro i
  by_cases e:b=i
  ·subst e;rw[bo (aF.1 g.at').1,g.at']
  ·rw[b7 e]
 rw[e1] at H;refine⟨.skip,_,?_,rfl,H.1,H.2,?_⟩
 ·simp only[execOp,h,ex,U,S,aU,B,bh,b8]
 ·simp only[execOp,h,ex,U,S,Sem.events_bind,B,C,Result.evThen_ok,Sem.events_pure];exact .two (M _) (M _)
end
section
variable {P:Program}{X:Cx P}{N:Nat}{Qf:Post}{K:List It}{φ:Fr}{σ:List ak}{all rest:List Oper}{o:Oper}{T:TypeId}
theorem AK.J6(h:o.op=.makeMap T none)(m:o.guard=none)(j:ij N o.dst=true)
  (k:∀ f,AK X N Qf (.ops all rest::K) .normal (mF o.dst (.e (.one (.v f))) φ) (σ++[.eB (oo f [])])):AK X N Qf (.ops all (o::rest)::K) .normal φ σ:=by
 refine AK.hand (ι:=Value) (λf=>.e (.one (.v f))) (λf=>σ++[.eB (oo f [])]) m j (λs a C hh=>?_) k
 let w':World:={ s.w with heap:=s.w.heap.push (.map #[] 0) }
 have d:w'.heap[s.w.heap.size]?=some (.map #[] 0):=by simp[w']
 have u:w'.heap.size=s.w.heap.size+1:=by simp[w']
 obtain⟨g1,g2⟩:=hh.grow (M':=s.M) (w':=w') (by simp[w']) (λb c=>by show (s.w.heap.push _)[b]?=_;rw[mT c,b0 c]) (λ_ _ _=>rfl) (λb c o v g=>by have:=hh.block g;omega) rfl rfl rfl
 obtain⟨r,i⟩:=g1.hY g2 rfl hh (B:=.eB (oo (.map (some s.w.heap.size)) [])) (L:=⟨.map (some s.w.heap.size),[s.w.heap.size]⟩)
  ⟨λb=>if b=s.w.heap.size then some (.map #[] 0) else none,⟨rfl,_,#[],0,rfl,λ_=>rfl,MapKept.stamped_empty 0,λe A=>by simp at A,λn=>by simp⟩,λb o c=>by
   by_cases e:b=s.w.heap.size
   ·subst e;simp only[aZ] at c;cases c;exact d
   ·simp[e] at c,λb=>by by_cases e:b=s.w.heap.size <;> simp[e],λb c o=>by
   simp at c;subst c;show s.M _ _=none;cases g:s.M s.w.heap.size o with
   |none=>rfl
   |some v=>have:=hh.block g;omega⟩ (λb c=>by simp at c;subst c;exact⟨aq _,by show _<w'.heap.size;omega⟩)
 refine⟨.map (some s.w.heap.size),.value (.map (some s.w.heap.size)),_,.map (some s.w.heap.size),?_,.inl rfl,Rd.val rfl,r,i,?_⟩
 ·simp[execOp,h,Instr.makeMap,run_newObj,w']
 ·simp[execOp,h,Instr.makeMap];exact .nil
end
end Go.AM
namespace Go.AM.R1
open Go.Proofs
variable {X:Cx Tryz.prog}
def i79:TI:=⟨1,8,false,TypeDesc.map 3 4,[.val (.map none)],[]⟩
theorem TD:aC Tryz.prog 79 i79:=⟨Tryz.underlying79,rfl,⟨Tryz.t79,_,av Tryz.type79,rfl,rfl,rfl,rfl,⟨#[],rfl⟩,rfl⟩,λh=>absurd rfl h⟩
theorem eH:bV Tryz.prog ((79,i79)::tt):=bV.cons TD tok
abbrev Rh(v:Value):D:=.e (.one (.v v))
abbrev yH(a:Value)(l:List Int):ak:=.eB (oo a l)
theorem Kh(c:Value)(a l:List Int):Ev X 32 [Rh c,cI.sl l] [yH c a] (.eY []) [yH c (a++l)]:=by
 refine Ev.body Tryz.func32 rfl rfl rfl λf=>?_
 have d:=f.sl 1 rfl;refine AK.c7 di eH aM.nil [] 100 rfl ab ?_;refine AK.bU 1 (λi=>i<=l.length) (λi:Nat=>[(0,Rh c),(6,cI.sl l),(7,dI l.length),(8,dI i)]) (λi=>[yH c (a++l.take i)]) (λi=>l.length-i) 0 rfl (by simp[aa.cat,aa,aw.same]) rfl (by simp[aa.cat,aa]) rfl (by omega) ?_
 intro i hi
 by_cases h:i<l.length
 ·have e:l.getD (i:Int).toNat cI.bx=l.getD i 0:=by rw[az];rfl
  refine AK.c7 di eH aM.nil [(9,true)] 100 rfl (by simp[aa];omega) ?_
  refine AK.law (aG.J5 rfl Tryz.underlying79 Tryz.underlying3 (b:=0) rfl rfl rfl rfl) rfl rfl ?_;refine AK.c7 di eH aM.nil [] 100 rfl ?_ (AK.aA (i+1) rfl ?_ rfl rfl rfl ?_ rfl h (by omega))
  ·simp[aa,aB];omega
  ·simp[aa.cat,aa,aw.same]
  ·rw[bu h 0,<-dt];simp only[aa.cat,aa,e,ah]
 obtain rfl:i=l.length:=by omega
 rw[cW];refine AK.c7 di eH aM.nil [(9,false)] 100 rfl (by simp[aa]) (AK.leaveD rfl rfl ?_)
 exact aR.oa [0] rfl (by simp[aa]) rfl rfl rfl mL
theorem uR(a:Value)(l:List Int) (n:Int):Ev X 35 [dI n,.e (.one (.c (.rp [.val a])))] [yH a l] (dB (!l.contains n)) [yH a l]:=by
 refine Ev.body Tryz.func35 rfl rfl rfl λd=>?_
 refine AK.c7 di eH aM.nil [] 100 rfl ab ?_;refine AK.law (aG.Hb rfl Tryz.underlying79 Tryz.underlying3 (λw=>Tryz.zeroValue4 w) (b:=0) rfl rfl rfl) rfl rfl ?_
 exact AK.c7 di eH aM.nil [] 100 rfl ab (AK.eF [0] rfl (by simp[aa]) rfl rfl rfl mL)
theorem BF(p:aV) (n:Int):Ev X 37 [Ii p,.e (.one (.c (.rp [.int .i64 n])))] [] (dB (p.1==n)) []:=by
 refine Ev.body Tryz.func37 rfl rfl rfl λa=>?_
 exact bq rfl ab (AK.au rfl (by simp[aa]))
theorem yI(x:cK)(a:x.2.length<=4000000)(b:(aW x.2).length<=4000000):Ev X 34 [JJ x] [] (cI.sl (eJ x)) []:=by
 refine Ev.body Tryz.func34 rfl rfl rfl λc=>?_
 refine bq rfl ab ?_;refine AK.aO (uS x a b) [] rfl rfl rfl rfl rfl rfl rfl rfl rfl rfl rfl ?_;exact bq rfl ab (AK.au rfl (by simp[aa,aw.same]))
end Go.AM.R1
namespace Go.AM.R1
theorem ta(n m:Int):∀ (l:List Int)(a:List Int)(b:Bool),(b=true->n∈a) ->
  ((m∈(l.foldl (fg n) (a,b)).1∨(m=n/\(l.foldl (fg n) (a,b)).2=false))↔((m∈a∨(m=n/\b=false))∨m∈l))
 |[],a,b,_=>by simp
 |y::l,a,b,h=>by
  rw[kt];have one:∀ a' b',fg n (a,b) y=(a',b')->(b'=true->n∈a')/\((m∈a'∨(m=n/\b'=false))↔((m∈a∨(m=n/\b=false))∨m=y)):=λa' b' e=>by
   unfold fg at e;cases b with
   |true =>
    have h:=h rfl;simp only[aZ] at e;split at e
    ·rename_i c;subst c;cases e
     exact⟨λ_=>h,by simp;rintro rfl;exact h⟩
    ·cases e;exact⟨λ_=>by simp[h],by simp⟩
   |false =>
    simp only[fQ,aQ] at e;split at e
    ·split at e
     ·rename_i c;subst c;cases e;exact⟨λ_=>by simp,by simp⟩
     ·cases e;exact⟨λ_=>by simp,by simp;grind⟩
    ·cases e;exact⟨λh=>(by cases h),by simp;grind⟩
  cases g:fg n (a,b) y with
  |mk a' b' =>
   obtain⟨d,f⟩:=one a' b' g;rw[ta n m l a' b' d,f,dF,or_assoc]
theorem EL{l:List Int}{n m:Int}:m∈jR l n↔m∈l∨m=n:=by
 have:=ta n m l [] false (by simp)
 unfold jR;generalize l.foldl (fg n) ([],false)=r at *;obtain⟨a,b⟩:=r;cases b <;> simp at this ⊢ <;> rw[this] <;> exact or_comm
theorem ou{m:Int}:∀ {l a:List Int},m∈l.foldl jR a↔m∈a∨m∈l
 |[],a=>by simp
 |x::l,a=>by rw[kt,ou,EL,dF,or_assoc]
theorem yJ{l:List cU}{m:Int}:m∈dZ l↔m∈aW l:=by unfold dZ;rw[ou];simp
theorem tb{m:Int}:∀ {l:List cK}{a:List Int},m∈l.foldl (λout x=>(dZ x.2).foldl jR out) a↔m∈a∨∃ x∈l,m∈aW x.2
 |[],a=>by simp
 |x::l,a=>by
  rw[kt,tb,ou,yJ,or_assoc];simp
theorem tc{l:List cK}{m:Int}:m∈dT l↔∃ x∈l,m∈aW x.2:=by unfold dT;rw[tb];simp
theorem wL{l:List Int}{m:Int}:∀ {j:Nat},j<=l.length->(m∈gC l j↔m∈l.take j)
 |0,_=>by simp[gC]
 |j+1,h=>by
  have b:=wL (l:=l) (m:=m) (j:=j) (by omega)
  rw[gC,bu (by omega) 0]
  split
  ·rename_i c
   rw[b,dE]
   constructor
   ·exact .inl
   ·rintro(a|a)
    ·exact a
    ·simp only[fp] at a;subst a;rw[c.2,List.getD_eq_getElem?_getD,aj (by omega)]
     exact jK.2 ⟨j-1,by simp;omega,by simp⟩
  ·rw[dE,dE,b]
theorem rm{x:cK}{m:Int}:m∈eJ x↔m∈aW x.2:=by
 unfold eJ cm;rw[wL (aq _),cW];exact(rl _).mem_iff
theorem BH{l:List cK}{p:Int->Bool}:(dT l).all p=(List.range l.length).all λi=>!(eJ (l.getD i (0,[]))).any λn=>!p n:=by
 rw[ld,List.all_eq_true,ba]
 constructor
 ·intro h i hi;rw[iC,pr];intro n a;have:=h n (tc.2 ⟨_,cE hi,rm.1 a⟩);simp[this]
 ·intro h n a;obtain⟨x,d,c⟩:=tc.1 a;obtain⟨i,hi,rfl⟩:=jK.1 d;have b:=h i hi;rw[List.getD_eq_getElem?_getD,aj hi,cw,iC,pr] at b;simpa using b n (rm.2 c)
end Go.AM.R1
namespace Go.AM.R1
open Go.Proofs
structure NG (w:fU):Prop extends Ke w.1 where
 UP:w.2.1.length<=4000000
 TE:w.2.2.length<=4000000
theorem BG{l:List cK}{i:Nat}(h:i<l.length):(aW (l.getD i (0,[])).2).length<=(im l).length:=by
 have:=wB l (i+1);rw[mQ h,bd] at this;omega
theorem rZ(k:Int)(w:fU):gy k w=(gw k w.1&&(List.range w.1.2.1.length).all (λi=>!(eJ (w.1.2.1.getD i (0,[]))).any λn=>!w.2.1.contains n)&&(List.range w.2.2.length).all (mR w.1.1 w.2.2)):=by
 rw[gy,BH];cases gw k w.1 <;> simp
set_option maxHeartbeats 4000000 in
theorem wJ(k:Int)(w:fU)(s:NG w):Ev (Cx.beside Tryz.prog) 20 [dI k,MN w] [] (dB (gy k w)) []:=by
 refine Ev.body Tryz.func20 rfl rfl rfl λM=>?_
 have b:aM (Cx.beside Tryz.prog) [(31,sZ)]:=.cons BE .nil;have D:=cP.list_fn w.1.1;have E:=cD.list_fn w.1.2.1;have F:=cH.list_fn w.1.2.2;have r:=s.toKe;rw[rZ];cases C:gw k w.1
 ·exact AK.c7 di eH b [(14,true)] 100 rfl (by simp[aa,C,D,E,F,cP.ae,cD.ae,cH.ae,r]) (AK.au rfl (by simp[aa]))
 refine AK.c7 di eH b [(14,false)] 100 rfl (by simp[aa,C,D,E,F,cP.ae,cD.ae,cH.ae,r]) ?_
 rw[cf];refine AK.J6 rfl rfl rfl λq=>?_
 refine AK.c7 di eH b [] 100 rfl ab ?_;refine AK.aO (Kh q [] w.2.1) [1] rfl rfl rfl rfl rfl rfl rfl rfl rfl rfl rfl ?_;rw[List.nil_append];refine AK.c7 di eH b [(1000005,true)] 100 rfl ab ?_;refine AK.freeze 5 2 rfl rfl rfl ?_;refine AK.c7 di eH b [] 100 rfl ab ?_;refine AK.bU 3 (λi=>i<=w.1.2.1.length/\∀ j,j<i->(!(eJ (w.1.2.1.getD j (0,[]))).any λn=>!w.2.1.contains n)=true) (λi:Nat=>[(0,dI k),(3,.e (.one (.ptr 0 0))),(5,.e (.one (.c (.rp [.val q])))),(22,cD.sl w.1.2.1),(23,dI w.1.2.1.length),(24,dI i)]) (λ_=>[MP w,yH q w.2.1,.dead]) (λi=>w.1.2.1.length-i) 0 rfl (by simp[aa.cat,aa,aw.same]) rfl (by simp[aa.cat,aa,aw.same]) rfl ⟨by omega,by omega⟩ ?_
 have J:=s.sN;rintro i ⟨hi,a⟩
 by_cases h:i<w.1.2.1.length
 ·have z:w.1.2.1.getD (i:Int).toNat cD.bx=w.1.2.1.getD i (0,[]):=by rw[az];rfl
  have y:=s.sm _ (cE (d:=(0,[])) h);have H:=BG h;have I:=s.aN;have L:=cq (p:=λj=>!(eJ (w.1.2.1.getD j (0,[]))).any λn=>!w.2.1.contains n) h
  have A:=dc (p:=λj=>!(eJ (w.1.2.1.getD j (0,[]))).any λn=>!w.2.1.contains n) (i:=i)
  generalize w.1.2.1.getD i (0,[])=x at *;refine AK.c7 di eH b [(25,true)] 100 rfl (by simp[aa];omega) ?_
  rw[z];refine AK.aO (yI x y.1 (by omega)) [] rfl rfl rfl rfl rfl rfl rfl rfl rfl rfl rfl ?_
  refine AK.c7 di eH b [] 100 rfl ab ?_;refine AK.aO (En (eJ x) 35 [.val q] (oo q w.2.1) (λn=>!w.2.1.contains n) λn _=>uR q w.2.1 n) [1] rfl rfl rfl rfl rfl rfl rfl rfl rfl rfl rfl ?_
  cases u:(eJ x).any λn=>!w.2.1.contains n with
  |true =>
   refine AK.c7 di eH b [] 100 rfl ab (AK.cR (aR.zero rfl ?_));rw[L (by rw[u];rfl)];simp[aa]
  |false =>
   refine AK.c7 di eH b [] 100 rfl ?_ (AK.aA (i+1) rfl (by simp[aa.cat,aa,aw.same]) rfl rfl rfl (by simp[aa.cat,aa,aw.same]) rfl ⟨h,A a (by rw[u];rfl)⟩ (by omega))
   simp[aa,aB];omega
 obtain rfl:i=w.1.2.1.length:=by omega
 rw[ba.2 a,cf];refine AK.c7 di eH b [(25,false)] 100 rfl (by simp[aa]) (AK.leaveD rfl rfl ?_)
 refine AK.c7 di eH b [] 100 rfl ab ?_;have G:=s.TE;refine AK.bU 3 (λi=>i<=w.2.2.length/\∀ j,j<i->mR w.1.1 w.2.2 j=true) (λi:Nat=>[(0,dI k),(3,.e (.one (.ptr 0 0))),(34,cI.sl w.2.2),(35,dI w.2.2.length),(36,dI i)]) (λ_=>[MP w,yH q w.2.1,.dead]) (λi=>w.2.2.length-i) 0 rfl (by simp[aa.cat,aa,aw.same]) rfl (by simp[aa.cat,aa,aw.same]) rfl ⟨by omega,by omega⟩ ?_
 rintro i ⟨hi,a⟩
 by_cases h:i<w.2.2.length
 ·have z:w.2.2.getD (i:Int).toNat cI.bx=w.2.2.getD i 0:=by rw[az];rfl
  have o:w.2.2.getD (i-1) cI.bx=w.2.2.getD (i-1) 0:=rfl;have m:mR w.1.1 w.2.2 i=((w.1.1.any λp=>p.1==w.2.2.getD i 0)&&yA (λx=>x) 0 w.2.2 i):=rfl
  have t:=ma (f:=λx:Int=>x) (d:=0) (l:=w.2.2) (i:=i)
  generalize w.2.2.getD i 0=n at *;generalize w.2.2.getD (i-1) 0=n' at *;have l8:aM (Cx.beside Tryz.prog) [(36,Bi [cP.sl w.1.1,.e (.one (.c (.fn (.func 37) [] [.rp [.int .i64 n]])))] (dB (w.1.1.any λp=>p.1==n)))]:=.cons (G9 (El w.1.1 37 [.int .i64 n] (λp=>p.1==n) λp _=>BF p n)) .nil
  refine AK.c7 di eH b [(37,true),(1000014,true)] 100 rfl (by simp[aa];omega) ?_
  rw[z];refine AK.freeze 9 3 rfl rfl rfl ?_;have fin:w.1.1.any (λp=>p.1==n)=true->yA (λx=>x) 0 w.2.2 i=true->mR w.1.1 w.2.2 i=true:=λu K=>by rw[m,u,K];rfl
  by_cases v:i=0
  ·subst v;cases g:w.1.1.any (λp=>p.1==n) with
   |true =>
    refine AK.c7 di eH l8 [(43,false),(60,false)] 100 rfl ?_ (AK.aA 1 rfl (by simp[aa.cat,aa,aw.same]) rfl rfl rfl (by simp[aa.cat,aa,aw.same]) rfl ⟨h,dc a (fin g rfl)⟩ (by omega))
    simp[aa,aB,g,jd.sl]
   |false =>
    refine AK.c7 di eH l8 [(43,false),(60,true)] 100 rfl ?_ (AK.cR (aR.zero rfl ?_))
    ·simp[aa,g,jd.sl]
    ·rw[cq h (by rw[m,g];rfl)];simp[aa]
  by_cases B:n'<n
  rotate_left
  ·refine AK.c7 di eH l8 [(43,true),(51,true),(60,true)] 100 rfl ?_ (AK.cR (aR.zero rfl ?_))
   ·simp[-List.getD_eq_getElem?_getD,aa,o,aB];omega
   ·rw[cq h (by rw[m,t v,bR B,kx])];simp[aa]
  cases g:w.1.1.any (λp=>p.1==n) with
  |true =>
   refine AK.c7 di eH l8 [(43,true),(51,false),(60,false)] 100 rfl ?_ (AK.aA (i+1) rfl (by simp[aa.cat,aa,aw.same]) rfl rfl rfl (by simp[aa.cat,aa,aw.same]) rfl ⟨h,dc a (fin g (by rw[t v];exact aP B))⟩ (by omega))
   simp[-List.getD_eq_getElem?_getD,aa,o,aB,g,jd.sl];omega
  |false =>
   refine AK.c7 di eH l8 [(43,true),(51,false),(60,true)] 100 rfl ?_ (AK.cR (aR.zero rfl ?_))
   ·simp[-List.getD_eq_getElem?_getD,aa,o,aB,g,jd.sl];omega
   ·rw[cq h (by rw[m,g];rfl)];simp[aa]
 obtain rfl:i=w.2.2.length:=by omega
 rw[ba.2 a];refine AK.c7 di eH b [(37,false)] 100 rfl (by simp[aa]) (AK.leaveD rfl rfl ?_)
 exact AK.c7 di eH b [] 100 rfl ab (AK.au rfl (by simp[aa]))
abbrev s8:bE:=gb aI (kT EE) (λk w=>dB (gy k w)) λ_ w=>[NG w]
theorem BI:bO (Cx.beside Tryz.prog) 20 s8:=.gO λk w h=>wJ k w h
end Go.AM.R1
namespace Go.AM.R1
open Go.Proofs
variable {X:Cx Tryz.prog}
structure Qo (s:cX):Prop where
 c1:s.1.length<=4000000
 c2:∀ x∈s.1,x.2.length<=4000000
 c3:s.2.1.length<=4000000
 c4:∀ x∈s.2.1,(x.2.length<=4000000)/\(∀ y∈x.2,y.2.length<=4000000)
 c5:s.2.2.length<=4000000
theorem y7(x:cX)(h:Qo x):Ev X 29 [Ba x] [] (Ba x) []:=by
 refine Ev.kR Tryz.func29 rfl rfl rfl λb=>?_
 have a:aM X [(49,xi),(50,xj),(51,xk)]:=.cons FG (.cons FH (.cons FI .nil));refine af a [] 100 rfl ?_ (AK.freeze 2 1 rfl rfl rfl (AK.oX tok [] rfl ?_ rfl rfl rfl xl))
 ·simp only[aa,aa.cat,cP.list_fn,cP.ae,cD.list_fn,cD.ae,cH.list_fn,cH.ae,ai,ah]
  and_intros <;> first|exact h.c1|exact h.c2|exact h.c3|exact h.c4|exact h.c5
 ·simp[aa,aa.cat,aw.same,cP.list_fn,cD.list_fn,cH.list_fn]
abbrev xm:bE:=fZ zS (λx=>Ba x) λx=>[Qo x]
theorem FJ:bO X 29 xm:=.je λx h=>y7 x h
structure Qp (w:fU):Prop extends Qo w.1 where
 d1:w.2.1.length<=4000000
 d2:w.2.2.length<=4000000
theorem y8(x:fU)(h:Qp x):Ev X 16 [MN x] [] (MN x) []:=by
 refine Ev.kR Tryz.func16 rfl rfl rfl λb=>?_
 have a:aM X [(29,xm),(19,pS)]:=.cons FJ (.cons va .nil);refine af a [] 100 rfl ?_ (AK.freeze 2 1 rfl rfl rfl (AK.oX tok [] rfl ?_ rfl rfl rfl xl))
 ·simp only[aa,aa.cat,cP.list_fn,cP.ae,cD.list_fn,cD.ae,cH.list_fn,cH.ae,cI.list_fn,cI.ae,ai,ah]
  and_intros <;> first|exact h.toQo|exact h.d1|exact h.d2
 ·simp[aa,aa.cat,aw.same,cP.list_fn,cD.list_fn,cH.list_fn,cI.list_fn]
abbrev xn:bE:=fZ (kT EE) (λx=>MN x) λx=>[Qp x]
theorem FK:bO X 16 xn:=.je λx h=>y8 x h
theorem FL(x:Int×Int×Int×Bs):Ev X 17 [(kT pe).enc x] [] ((kT pe).enc x) []:=by
 refine Ev.kR Tryz.func17 rfl rfl rfl λa=>?_
 refine bq rfl ?_ (AK.freeze 2 1 rfl rfl rfl (AK.oX tok [] rfl ?_ rfl rfl rfl xl))
 ·trivial
 ·simp[aa,aa.cat]
abbrev FM:bE:=fZ (kT pe) (λx=>(kT pe).enc x) λ_=>[]
theorem KI:bO X 17 FM:=.je λx _=>FL x
structure Qq (w:eG):Prop extends Qp w.2.1 where
 g1:w.2.2.2.1.length<=4000000
 g2:w.2.2.2.2.length<=4000000
theorem y9(x:eG)(h:Qq x):Ev X 6 [Kc x] [] (Kc x) []:=by
 refine Ev.kR Tryz.func6 rfl rfl rfl λb=>?_
 have a:aM X [(16,xn),(17,FM),(18,rC),(19,pS)]:=.cons FK (.cons KI (.cons za (.cons va .nil)));refine af a [] 100 rfl ?_ (AK.freeze 2 1 rfl rfl rfl (AK.oX tok [] rfl ?_ rfl rfl rfl xl))
 ·simp only[aa,aa.cat,cP.list_fn,cP.ae,cD.list_fn,cD.ae,cH.list_fn,cH.ae,cI.list_fn,cI.ae,ai,ah]
  and_intros <;> first|exact h.toQp|exact h.g1|exact h.g2
 ·simp[aa,aa.cat,aw.same,cP.list_fn,cD.list_fn,cH.list_fn,cI.list_fn]
abbrev xo:bE:=fZ (kT F1) (λx=>Kc x) λx=>[Qq x]
theorem FN:bO X 6 xo:=.je λx h=>y9 x h
theorem BR(a:List (Int)):Ev X 24 [cI.sl a,cI.sl a] [] (dB true) []:=by
 refine Ev.body Tryz.func24 rfl rfl rfl λc=>?_
 have e:=c.sl 0 rfl;have b:aM X []:=.nil;refine af b [(10,false)] 100 rfl (by simp[aa]) ?_
 refine AK.dX (λi=>i<=a.length) (λi:Nat=>[(0,cI.sl a),(1,cI.sl a),(5,dI i)]) (λ_=>[]) (λi=>a.length-i) 0 rfl (by simp[aa.cat,aa,aw.same]) rfl ab (by omega) ?_
 intro i hi
 by_cases h:i<a.length
 ·have d:a.getD (i:Int).toNat cI.bx=a.getD i 0:=by rw[az];rfl
  refine af b [(14,true),(25,false)] 100 rfl ?_ (AK.cN (i+1) rfl (by simp[aa.cat,aa,aw.same]) rfl ab h (by omega))
  simp only[aa,d,aB];simp;omega
 obtain rfl:i=a.length:=by omega
 refine af b [(14,false)] 100 rfl (by simp[aa]) (AK.leave rfl rfl ?_)
 exact af b [] 100 rfl ab (AK.au rfl (by simp[aa]))
abbrev pQ:bE:=gb (aL cI) (aL cI) (λ_ _=>dB true) λa b=>[a=b]
theorem uZ:bO X 24 pQ:=.gO λa b h=>by obtain rfl:a=b:=h;exact BR a
theorem BS(x:fb):Ev X 139 [yd.enc x,yd.enc x] [] (dB true) []:=by
 refine Ev.body Tryz.func139 rfl rfl rfl λb=>?_
 have a:aM X []:=.nil;exact af a [(9,false),(14,false)] 100 rfl (by simp[aa,aa.cat]) (AK.au rfl (by simp[aa]))
abbrev Ag:bE:=gb yd yd (λ_ _=>dB true) λa b=>[a=b]
theorem HE:bO X 139 Ag:=.gO λa b h=>by obtain rfl:a=b:=h;exact BS a
theorem yN(a:List (fb)):Ev X 99 [cG.sl a,cG.sl a] [] (dB true) []:=by
 refine Ev.body Tryz.func99 rfl rfl rfl λc=>?_
 have e:=c.sl 0 rfl;have b:aM X [(139,Ag)]:=.cons HE .nil;refine af b [(10,false)] 100 rfl (by simp[aa]) ?_
 refine AK.dX (λi=>i<=a.length) (λi:Nat=>[(0,cG.sl a),(1,cG.sl a),(5,dI i)]) (λ_=>[]) (λi=>a.length-i) 0 rfl (by simp[aa.cat,aa,aw.same]) rfl ab (by omega) ?_
 intro i hi
 by_cases h:i<a.length
 ·have d:a.getD (i:Int).toNat cG.bx=a.getD i (0,[]):=by rw[az];rfl
  refine af b [(14,true),(26,false)] 100 rfl ?_ (AK.cN (i+1) rfl (by simp[aa.cat,aa,aw.same]) rfl ab h (by omega))
  simp only[aa,d,aB];simp;omega
 obtain rfl:i=a.length:=by omega
 refine af b [(14,false)] 100 rfl (by simp[aa]) (AK.leave rfl rfl ?_)
 exact af b [] 100 rfl ab (AK.au rfl (by simp[aa]))
abbrev wW:bE:=gb (aL cG) (aL cG) (λ_ _=>dB true) λa b=>[a=b]
theorem Fj:bO X 99 wW:=.gO λa b h=>by obtain rfl:a=b:=h;exact yN a
theorem BT(x:aV):Ev X 79 [(mS cG).enc x,(mS cG).enc x] [] (dB true) []:=by
 refine Ev.body Tryz.func79 rfl rfl rfl λb=>?_
 have a:aM X [(99,wW)]:=.cons Fj (.nil);exact af a [(9,false),(15,false)] 100 rfl (by simp[aa,aa.cat,cG.list_fn,cG.ae]) (AK.au rfl (by simp[aa]))
abbrev Ah:bE:=gb (mS cG) (mS cG) (λ_ _=>dB true) λa b=>[a=b]
theorem HF:bO X 79 Ah:=.gO λa b h=>by obtain rfl:a=b:=h;exact BT a
theorem yO(a:List (aV)):Ev X 60 [cP.sl a,cP.sl a] [] (dB true) []:=by
 refine Ev.body Tryz.func60 rfl rfl rfl λc=>?_
 have e:=c.sl 0 rfl;have b:aM X [(79,Ah)]:=.cons HF .nil;refine af b [(10,false)] 100 rfl (by simp[aa]) ?_
 refine AK.dX (λi=>i<=a.length) (λi:Nat=>[(0,cP.sl a),(1,cP.sl a),(5,dI i)]) (λ_=>[]) (λi=>a.length-i) 0 rfl (by simp[aa.cat,aa,aw.same]) rfl ab (by omega) ?_
 intro i hi
 by_cases h:i<a.length
 ·have d:a.getD (i:Int).toNat cP.bx=a.getD i (0,[]):=by rw[az];rfl
  refine af b [(14,true),(26,false)] 100 rfl ?_ (AK.cN (i+1) rfl (by simp[aa.cat,aa,aw.same]) rfl ab h (by omega))
  simp only[aa,d,aB,cG.list_fn,cG.ae];simp;omega
 obtain rfl:i=a.length:=by omega
 refine af b [(14,false)] 100 rfl (by simp[aa]) (AK.leave rfl rfl ?_)
 exact af b [] 100 rfl ab (AK.au rfl (by simp[aa]))
abbrev wX:bE:=gb (aL cP) (aL cP) (λ_ _=>dB true) λa b=>[a=b]
theorem Fl:bO X 60 wX:=.gO λa b h=>by obtain rfl:a=b:=h;exact yO a
theorem wY(x:cU):Ev X 140 [(kT F2).enc x,(kT F2).enc x] [] (dB true) []:=by
 refine Ev.body Tryz.func140 rfl rfl rfl λb=>?_
 have a:aM X [(24,pQ)]:=.cons uZ (.nil);exact af a [(9,false),(15,false)] 100 rfl (by simp[aa,aa.cat,cI.list_fn,cI.ae]) (AK.au rfl (by simp[aa]))
abbrev tj:bE:=gb (kT F2) (kT F2) (λ_ _=>dB true) λa b=>[a=b]
theorem BU:bO X 140 tj:=.gO λa b h=>by obtain rfl:a=b:=h;exact wY a
theorem u4(a:List (cU)):Ev X 100 [cL.sl a,cL.sl a] [] (dB true) []:=by
 refine Ev.body Tryz.func100 rfl rfl rfl λc=>?_
 have e:=c.sl 0 rfl;have b:aM X [(140,tj)]:=.cons BU .nil;refine af b [(10,false)] 100 rfl (by simp[aa]) ?_
 refine AK.dX (λi=>i<=a.length) (λi:Nat=>[(0,cL.sl a),(1,cL.sl a),(5,dI i)]) (λ_=>[]) (λi=>a.length-i) 0 rfl (by simp[aa.cat,aa,aw.same]) rfl ab (by omega) ?_
 intro i hi
 by_cases h:i<a.length
 ·have d:a.getD (i:Int).toNat cL.bx=a.getD i ([],[]):=by rw[az];rfl
  refine af b [(14,true),(26,false)] 100 rfl ?_ (AK.cN (i+1) rfl (by simp[aa.cat,aa,aw.same]) rfl ab h (by omega))
  simp only[aa,d,aB,cI.list_fn,cI.ae];simp;omega
 obtain rfl:i=a.length:=by omega
 refine af b [(14,false)] 100 rfl (by simp[aa]) (AK.leave rfl rfl ?_)
 exact af b [] 100 rfl ab (AK.au rfl (by simp[aa]))
abbrev ry:bE:=gb (aL cL) (aL cL) (λ_ _=>dB true) λa b=>[a=b]
theorem yP:bO X 100 ry:=.gO λa b h=>by obtain rfl:a=b:=h;exact u4 a
theorem BV(x:cK):Ev X 80 [(mS cL).enc x,(mS cL).enc x] [] (dB true) []:=by
 refine Ev.body Tryz.func80 rfl rfl rfl λb=>?_
 have a:aM X [(100,ry)]:=.cons yP (.nil);exact af a [(9,false),(15,false)] 100 rfl (by simp[aa,aa.cat,cL.list_fn,cL.ae]) (AK.au rfl (by simp[aa]))
abbrev Ai:bE:=gb (mS cL) (mS cL) (λ_ _=>dB true) λa b=>[a=b]
theorem HG:bO X 80 Ai:=.gO λa b h=>by obtain rfl:a=b:=h;exact BV a
theorem yQ(a:List (cK)):Ev X 61 [cD.sl a,cD.sl a] [] (dB true) []:=by
 refine Ev.body Tryz.func61 rfl rfl rfl λc=>?_
 have e:=c.sl 0 rfl;have b:aM X [(80,Ai)]:=.cons HG .nil;refine af b [(10,false)] 100 rfl (by simp[aa]) ?_
 refine AK.dX (λi=>i<=a.length) (λi:Nat=>[(0,cD.sl a),(1,cD.sl a),(5,dI i)]) (λ_=>[]) (λi=>a.length-i) 0 rfl (by simp[aa.cat,aa,aw.same]) rfl ab (by omega) ?_
 intro i hi
 by_cases h:i<a.length
 ·have d:a.getD (i:Int).toNat cD.bx=a.getD i (0,[]):=by rw[az];rfl
  refine af b [(14,true),(26,false)] 100 rfl ?_ (AK.cN (i+1) rfl (by simp[aa.cat,aa,aw.same]) rfl ab h (by omega))
  simp only[aa,d,aB,cL.list_fn,cL.ae];simp;omega
 obtain rfl:i=a.length:=by omega
 refine af b [(14,false)] 100 rfl (by simp[aa]) (AK.leave rfl rfl ?_)
 exact af b [] 100 rfl ab (AK.au rfl (by simp[aa]))
abbrev wZ:bE:=gb (aL cD) (aL cD) (λ_ _=>dB true) λa b=>[a=b]
theorem Fo:bO X 61 wZ:=.gO λa b h=>by obtain rfl:a=b:=h;exact yQ a
theorem BW(x:gv):Ev X 81 [sJ.enc x,sJ.enc x] [] (dB true) []:=by
 refine Ev.body Tryz.func81 rfl rfl rfl λb=>?_
 have a:aM X []:=.nil;exact af a [(9,false),(14,false)] 100 rfl (by simp[aa,aa.cat]) (AK.au rfl (by simp[aa]))
abbrev Aj:bE:=gb sJ sJ (λ_ _=>dB true) λa b=>[a=b]
theorem HH:bO X 81 Aj:=.gO λa b h=>by obtain rfl:a=b:=h;exact BW a
theorem yR(a:List (gv)):Ev X 62 [cH.sl a,cH.sl a] [] (dB true) []:=by
 refine Ev.body Tryz.func62 rfl rfl rfl λc=>?_
 have e:=c.sl 0 rfl;have b:aM X [(81,Aj)]:=.cons HH .nil;refine af b [(10,false)] 100 rfl (by simp[aa]) ?_
 refine AK.dX (λi=>i<=a.length) (λi:Nat=>[(0,cH.sl a),(1,cH.sl a),(5,dI i)]) (λ_=>[]) (λi=>a.length-i) 0 rfl (by simp[aa.cat,aa,aw.same]) rfl ab (by omega) ?_
 intro i hi
 by_cases h:i<a.length
 ·have d:a.getD (i:Int).toNat cH.bx=a.getD i (0,0):=by rw[az];rfl
  refine af b [(14,true),(26,false)] 100 rfl ?_ (AK.cN (i+1) rfl (by simp[aa.cat,aa,aw.same]) rfl ab h (by omega))
  simp only[aa,d,aB];simp;omega
 obtain rfl:i=a.length:=by omega
 refine af b [(14,false)] 100 rfl (by simp[aa]) (AK.leave rfl rfl ?_)
 exact af b [] 100 rfl ab (AK.au rfl (by simp[aa]))
abbrev w5:bE:=gb (aL cH) (aL cH) (λ_ _=>dB true) λa b=>[a=b]
theorem Fp:bO X 62 w5:=.gO λa b h=>by obtain rfl:a=b:=h;exact yR a
theorem w6(x:gv):Ev X 39 [sJ.enc x,sJ.enc x] [] (dB true) []:=by
 refine Ev.body Tryz.func39 rfl rfl rfl λb=>?_
 have a:aM X []:=.nil;exact af a [(9,false),(14,false)] 100 rfl (by simp[aa,aa.cat]) (AK.au rfl (by simp[aa]))
abbrev tk:bE:=gb sJ sJ (λ_ _=>dB true) λa b=>[a=b]
theorem BX:bO X 39 tk:=.gO λa b h=>by obtain rfl:a=b:=h;exact w6 a
theorem u5(a:List (gv)):Ev X 23 [cH.sl a,cH.sl a] [] (dB true) []:=by
 refine Ev.body Tryz.func23 rfl rfl rfl λc=>?_
 have e:=c.sl 0 rfl;have b:aM X [(39,tk)]:=.cons BX .nil;refine af b [(10,false)] 100 rfl (by simp[aa]) ?_
 refine AK.dX (λi=>i<=a.length) (λi:Nat=>[(0,cH.sl a),(1,cH.sl a),(5,dI i)]) (λ_=>[]) (λi=>a.length-i) 0 rfl (by simp[aa.cat,aa,aw.same]) rfl ab (by omega) ?_
 intro i hi
 by_cases h:i<a.length
 ·have d:a.getD (i:Int).toNat cH.bx=a.getD i (0,0):=by rw[az];rfl
  refine af b [(14,true),(26,false)] 100 rfl ?_ (AK.cN (i+1) rfl (by simp[aa.cat,aa,aw.same]) rfl ab h (by omega))
  simp only[aa,d,aB];simp;omega
 obtain rfl:i=a.length:=by omega
 refine af b [(14,false)] 100 rfl (by simp[aa]) (AK.leave rfl rfl ?_)
 exact af b [] 100 rfl ab (AK.au rfl (by simp[aa]))
abbrev rz:bE:=gb (aL cH) (aL cH) (λ_ _=>dB true) λa b=>[a=b]
theorem yS:bO X 23 rz:=.gO λa b h=>by obtain rfl:a=b:=h;exact u5 a
theorem Fq(x:Int×Int×Int×Bs):Ev X 22 [(kT pe).enc x,(kT pe).enc x] [] (dB true) []:=by
 refine Ev.body Tryz.func22 rfl rfl rfl λb=>?_
 have a:aM X []:=.nil;exact af a [(9,false),(14,false),(19,false),(24,false)] 100 rfl (by simp[aa,aa.cat]) (AK.au rfl (by simp[aa]))
abbrev Fs:bE:=gb (kT pe) (kT pe) (λ_ _=>dB true) λa b=>[a=b]
theorem KE:bO X 22 Fs:=.gO λa b h=>by obtain rfl:a=b:=h;exact Fq a
theorem yT(x:cX):Ev X 38 [zS.enc x,zS.enc x] [] (dB true) []:=by
 refine Ev.body Tryz.func38 rfl rfl rfl λb=>?_
 have a:aM X [(60,wX),(61,wZ),(62,w5)]:=.cons Fl (.cons Fo (.cons Fp (.nil)));exact af a [(10,false),(16,false),(22,false)] 100 rfl (by simp[aa,aa.cat,cP.list_fn,cP.ae,cD.list_fn,cD.ae,cH.list_fn,cH.ae]) (AK.au rfl (by simp[aa]))
abbrev w7:bE:=gb zS zS (λ_ _=>dB true) λa b=>[a=b]
theorem Ft:bO X 38 w7:=.gO λa b h=>by obtain rfl:a=b:=h;exact yT a
theorem yU(x:fU):Ev X 21 [(kT EE).enc x,(kT EE).enc x] [] (dB true) []:=by
 refine Ev.body Tryz.func21 rfl rfl rfl λb=>?_
 have a:aM X [(38,w7),(24,pQ)]:=.cons Ft (.cons uZ (.nil));exact af a [(10,false),(16,false),(22,false)] 100 rfl (by simp[aa,aa.cat,cP.list_fn,cP.ae,cD.list_fn,cD.ae,cH.list_fn,cH.ae,cI.list_fn,cI.ae]) (AK.au rfl (by simp[aa]))
abbrev w8:bE:=gb (kT EE) (kT EE) (λ_ _=>dB true) λa b=>[a=b]
theorem Fu:bO X 21 w8:=.gO λa b h=>by obtain rfl:a=b:=h;exact yU a
theorem yV(x:eG):Ev X 8 [(kT F1).enc x,(kT F1).enc x] [] (dB true) []:=by
 refine Ev.body Tryz.func8 rfl rfl rfl λb=>?_
 have a:aM X [(21,w8),(22,Fs),(23,rz),(24,pQ)]:=.cons Fu (.cons KE (.cons yS (.cons uZ (.nil))));exact af a [(9,false),(15,false),(21,false),(27,false),(33,false)] 100 rfl (by simp[aa,aa.cat,cP.list_fn,cP.ae,cD.list_fn,cD.ae,cH.list_fn,cH.ae,cI.list_fn,cI.ae]) (AK.au rfl (by simp[aa]))
abbrev w9:bE:=gb (kT F1) (kT F1) (λ_ _=>dB true) λa b=>[a=b]
theorem Fv:bO X 8 w9:=.gO λa b h=>by obtain rfl:a=b:=h;exact yV a
def sW(m:Int×Int):Bool:=decide (0<=m.1/\m.1<=9)&&decide (0<=m.2)
abbrev rX(w:eG)(i:Nat):Int×Int:=w.2.2.2.1.getD i (0,0)
abbrev pf(w:eG)(i:Nat):Int:=w.2.2.2.2.getD i 0
def oQ(w:eG)(i:Nat):Bool:=sW (rX w i)&&decide (0<=pf w i/\pf w i<=2)
def kO(w:eG):Bool:=decide (w.2.2.2.1.length=2)&&decide (w.2.2.2.2.length=2)&&(List.range 2).all (oQ w)&&gy w.1 w.2.1
theorem EH(m:Int×Int):Ev X 13 [sJ.enc m] [] (dB (sW m)) []:=by
 refine Ev.body Tryz.func13 rfl rfl rfl λb=>?_
 have a:aM X [(14,wh)]:=.cons yv .nil
 by_cases c:0<=m.1/\m.1<=9
 ·exact af a [(6,true)] 100 rfl (by simp[aa,c]) (AK.au rfl (by simp[aa,sW,c]))
 ·exact af a [(6,false)] 100 rfl (by simp[aa];omega) (AK.au rfl (by simp only[aa,sW,bR c];simp))
theorem wE(w:eG)(n:MO w.2.1.1):Ev X 5 [Kc w] [] (dB (kO w)) []:=by
 refine Ev.body Tryz.func5 rfl rfl rfl λo=>?_
 have b:aM X [(13,fZ sJ (λm=>dB (sW m)) λ_=>[]),(14,wh),(15,sV)]:=.cons (.je λm _=>EH m) (.cons yv (.cons Bv .nil))
 unfold kO
 by_cases l:w.2.2.2.1.length=2
 rotate_left
 ·exact af b [(8,true),(13,true)] 100 rfl (by simp[aa];omega) (AK.au rfl (by simp[aa,bR l]))
 by_cases g:w.2.2.2.2.length=2
 rotate_left
 ·exact af b [(8,false),(13,true)] 100 rfl (by simp[aa];omega) (AK.au rfl (by simp[aa,bR g]))
 refine af b [(8,false),(13,false)] 100 rfl (by simp[aa];omega) ?_
 rw[aP l,aP g,cf,cf];refine AK.bU 1 (λi=>i<=2/\∀ j,j<i->oQ w j=true) (λi:Nat=>[(1,.e (.one (.ptr 0 0))),(3,dI i)]) (λ_=>[.cells 47 (Pv w)]) (λi=>2-i) 0 rfl (by simp[aa.cat,aa]) rfl (by simp[aa.cat,aa,aw.same]) rfl ⟨by omega,by omega⟩ ?_
 rintro i ⟨hi,a⟩
 by_cases h:i<2
 ·have f:w.2.2.2.1.getD i cH.bx=rX w i:=rfl;have d:w.2.2.2.2.getD i cI.bx=pf w i:=rfl;cases c:sW (rX w i) with
  |false =>
   refine af b [(15,true),(25,true),(33,true)] 100 rfl ?_ (AK.cR (aR.zero rfl ?_))
   ·simp[-List.getD_eq_getElem?_getD,aa,f,c];omega
   ·rw[cq h (by rw[oQ,c];rfl)];simp[aa]
  |true =>
   by_cases k:0<=pf w i/\pf w i<=2
   ·refine af b [(15,true),(25,false),(33,false)] 100 rfl ?_ (AK.aA (i+1) rfl (by simp[aa.cat,aa]) rfl rfl rfl (by simp[aa.cat,aa,aw.same]) rfl ⟨h,dc a (by rw[oQ,c,aP k];rfl)⟩ (by omega))
    simp[-List.getD_eq_getElem?_getD,aa,f,d,c,aB];omega
   ·refine af b [(15,true),(25,false),(33,true)] 100 rfl ?_ (AK.cR (aR.zero rfl ?_))
    ·simp[-List.getD_eq_getElem?_getD,aa,f,d,c];omega
    ·rw[cq h (by rw[oQ,bR k,kx])];simp[aa]
 obtain rfl:i=2:=by omega
 rw[ba.2 a,cf];refine af b [(15,false)] 100 rfl (by simp[aa]) (AK.leaveD rfl rfl ?_)
 refine af b [] 100 rfl ?_ (AK.au rfl ?_)
 ·simp[aa.cat,aa,cP.list_fn,cP.ae,cD.list_fn,cD.ae,cH.list_fn,cH.ae,cI.list_fn,cI.ae,n]
 ·simp[aa,cP.list_fn,cD.list_fn,cH.list_fn,cI.list_fn]
abbrev sX:bE:=fZ (kT F1) (λw=>dB (kO w)) λw=>[MO w.2.1.1]
theorem Bw:bO X 5 sX:=.je λw h=>wE w h
end Go.AM.R1
namespace Go.AM.R1
open Go.Proofs
abbrev TG(w:eG):ak:=.cells 47 (Pv w)
theorem r5(w:eG):kO w=(gy w.1 w.2.1&&decide (w.2.2.2.1.length=2)&&decide (w.2.2.2.2.length=2)&&(List.range 2).all (oQ w)):=by
 unfold kO;cases gy w.1 w.2.1 <;> cases decide (w.2.2.2.1.length=2) <;> cases decide (w.2.2.2.2.length=2) <;> simp
set_option maxHeartbeats 4000000 in
theorem wK(w:eG)(q:NG w.2.1):Ev (Cx.beside Tryz.prog) 7 [Kc w] [] (dB (kO w)) []:=by
 refine Ev.body Tryz.func7 rfl rfl rfl λv=>?_
 have b:aM (Cx.beside Tryz.prog) [(20,s8)]:=.cons BI .nil;have l:=cP.list_fn w.2.1.1.1;have o:=cD.list_fn w.2.1.1.2.1;have n:=cH.list_fn w.2.1.1.2.2;have k:=cI.list_fn w.2.1.2.1;have m:=cI.list_fn w.2.1.2.2;rw[r5];cases g:gy w.1 w.2.1
 ·exact AK.c7 di eH b [(11,true),(17,true),(22,true)] 100 rfl (by simp[aa.cat,aa,g,l,o,n,k,m,cP.ae,cD.ae,cH.ae,cI.ae,q]) (AK.au rfl (by simp[aa]))
 by_cases s:w.2.2.2.1.length=2
 rotate_left
 ·exact AK.c7 di eH b [(11,false),(17,true),(22,true)] 100 rfl (by simp[aa.cat,aa,g,l,o,n,k,m,cP.ae,cD.ae,cH.ae,cI.ae,q];omega) (AK.au rfl (by simp[aa,bR s]))
 by_cases r:w.2.2.2.2.length=2
 rotate_left
 ·exact AK.c7 di eH b [(11,false),(17,false),(22,true)] 100 rfl (by simp[aa.cat,aa,g,l,o,n,k,m,cP.ae,cD.ae,cH.ae,cI.ae,q];omega) (AK.au rfl (by simp[aa,bR r]))
 refine AK.c7 di eH b [(11,false),(17,false),(22,false)] 100 rfl (by simp[aa.cat,aa,g,l,o,n,k,m,cP.ae,cD.ae,cH.ae,cI.ae,q];omega) ?_
 rw[aP s,aP r,cf,cf,cf];refine AK.bU 1 (λi=>i<=2/\∀ j,j<i->oQ w j=true) (λi:Nat=>[(1,.e (.one (.ptr 0 0))),(24,cH.sl w.2.2.2.1),(25,dI w.2.2.2.1.length),(26,dI i)]) (λ_=>[TG w]) (λi=>2-i) 0 rfl (by simp[aa.cat,aa,aw.same]) rfl (by simp[aa.cat,aa,aw.same]) rfl ⟨by omega,by omega⟩ ?_
 rintro i ⟨hi,c⟩
 by_cases h:i<2
 ·have f:w.2.2.2.1.getD i cH.bx=rX w i:=rfl;have d:w.2.2.2.2.getD i cI.bx=pf w i:=rfl;have a:oQ w i=(decide (0<=(rX w i).1/\(rX w i).1<=9)&&decide (0<=(rX w i).2)&&decide (0<=pf w i/\pf w i<=2)):=rfl
  by_cases t:0<=(rX w i).1
  rotate_left
  ·refine AK.c7 di eH b [(27,true),(34,true),(39,true),(44,true),(52,true),(59,true)] 100 rfl ?_ (AK.cR (aR.zero rfl ?_))
   ·simp[-List.getD_eq_getElem?_getD,aa,f];omega
   ·rw[cq h (by rw[a,bR (by omega)];rfl)];simp[aa]
  by_cases c2:(rX w i).1<=9
  rotate_left
  ·refine AK.c7 di eH b [(27,true),(34,false),(39,true),(44,true),(52,true),(59,true)] 100 rfl ?_ (AK.cR (aR.zero rfl ?_))
   ·simp[-List.getD_eq_getElem?_getD,aa,f];omega
   ·rw[cq h (by rw[a,bR (by omega)];rfl)];simp[aa]
  by_cases c3:0<=(rX w i).2
  rotate_left
  ·refine AK.c7 di eH b [(27,true),(34,false),(39,false),(44,true),(52,true),(59,true)] 100 rfl ?_ (AK.cR (aR.zero rfl ?_))
   ·simp[-List.getD_eq_getElem?_getD,aa,f];omega
   ·rw[cq h (by rw[a,bR c3,kx];rfl)];simp[aa]
  by_cases c4:0<=pf w i
  rotate_left
  ·refine AK.c7 di eH b [(27,true),(34,false),(39,false),(44,false),(52,true),(59,true)] 100 rfl ?_ (AK.cR (aR.zero rfl ?_))
   ·simp[-List.getD_eq_getElem?_getD,aa,f,d];omega
   ·rw[cq h (by rw[a,bR (p:=0<=pf w i/\_) (by omega),kx])];simp[aa]
  by_cases u:pf w i<=2
  rotate_left
  ·refine AK.c7 di eH b [(27,true),(34,false),(39,false),(44,false),(52,false),(59,true)] 100 rfl ?_ (AK.cR (aR.zero rfl ?_))
   ·simp[-List.getD_eq_getElem?_getD,aa,f,d];omega
   ·rw[cq h (by rw[a,bR (p:=0<=pf w i/\_) (by omega),kx])];simp[aa]
  refine AK.c7 di eH b [(27,true),(34,false),(39,false),(44,false),(52,false),(59,false)] 100 rfl ?_ (AK.aA (i+1) rfl (by simp[aa.cat,aa,aw.same]) rfl rfl rfl (by simp[aa.cat,aa,aw.same]) rfl ⟨h,dc c (by rw[a,aP ⟨t,c2⟩,aP c3,aP ⟨c4,u⟩];rfl)⟩ (by omega))
  simp[-List.getD_eq_getElem?_getD,aa,f,d,aB];omega
 obtain rfl:i=2:=by omega
 rw[ba.2 c];refine AK.c7 di eH b [(27,false)] 100 rfl (by simp[aa];omega) (AK.leaveD rfl rfl ?_)
 exact AK.c7 di eH b [] 100 rfl ab (AK.au rfl (by simp[aa]))
theorem nL{α:Type}(f:α->Nat)(a:List α):a.length<=fh f a:=by unfold fh;omega
theorem Ar{α:Type}{f:α->Nat}:∀ {a:List α}{x:α},x∈a->f x<=(a.map f).sum
 |y::r,x,h=>by
  rcases dF.1 h with rfl|h
  ·simp
  ·have:=Ar (f:=f) h;simp only[iF,List.sum_cons];omega
theorem rE{α:Type}{f:α->Nat}{a:List α}{x:α}(h:x∈a):f x<=fh f a:=by have:=Ar (f:=f) h;unfold fh;omega
theorem pT{α b:Type}{f:α->List b}{g:α->Nat}(h:∀ x,(f x).length<=g x):∀ a:List α,(a.flatMap f).length<=(a.map g).sum
 |[]=>by simp
 |x::r=>by have:=pT h r;have:=h x;simp only[List.flatMap_cons,bd,iF,List.sum_cons];omega
theorem FP{w:eG}(h:mc w<=1048576):Qq w/\NG w.2.1:=by
 unfold mc gV iy at h;have d:∀ p:aV,p.2.length<=dr p:=λp=>nL _ _
 have j:∀ y:cU,y.2.length<=cu y:=λy=>by unfold cu;omega
 have c:∀ x:cK,x.2.length<=c8 x:=λx=>nL _ _
 have a:∀ x:cK,(aW x.2).length<=c8 x:=λx=>by
  have:=pT (f:=λy:cU=>y.2) (g:=cu) j x.2
  unfold c8 fh aW;omega
 have q:=nL dr w.2.1.1.1;have o:=nL c8 w.2.1.1.2.1;have p2:∀ x∈w.2.1.1.1,x.2.length<=4000000:=λx b=>by have:=rE (f:=dr) b;have:=d x;omega
 have s2:∀ x∈w.2.1.1.2.1,x.2.length<=4000000/\∀ y∈x.2,y.2.length<=4000000:=λx b=>by
  have i:=rE (f:=c8) b;have e:=c x;refine⟨by omega,λy k=>?_⟩
  have n:cu y<=c8 x:=rE (f:=cu) k;have:=j y;omega
 have m:(aK w.2.1.1.1).length<=4000000:=by
  have i:=pT (f:=λp:aV=>p.2.map (·.1)) (g:=dr) (λp=>by rw[iD];exact d p) w.2.1.1.1
  have e:fh dr w.2.1.1.1=w.2.1.1.1.length+(w.2.1.1.1.map dr).sum:=rfl;unfold aK;omega
 have l:(im w.2.1.1.2.1).length<=4000000:=by
  have i:=pT (f:=λx:cK=>aW x.2) (g:=c8) a w.2.1.1.2.1
  have e:fh c8 w.2.1.1.2.1=w.2.1.1.2.1.length+(w.2.1.1.2.1.map c8).sum:=rfl;unfold im;omega
 exact⟨⟨⟨⟨by omega,p2,by omega,s2,by omega⟩,by omega,by omega⟩,by omega,by omega⟩,⟨⟨⟨by omega,s2,by omega,l⟩,p2,m⟩,by omega,by omega⟩⟩
set_option maxHeartbeats 4000000 in
theorem pc(w:eG):Ev (Cx.beside Tryz.prog) 3 [Kc w] [] (dB true) []:=by
 refine Ev.body Tryz.func3 rfl rfl rfl λp=>?_
 have o:=(kT F1).enc w;have d:=cP.list_fn w.2.1.1.1;have h:=cD.list_fn w.2.1.1.2.1;have g:=cH.list_fn w.2.1.1.2.2;have c:=cI.list_fn w.2.1.2.1;have f:=cI.list_fn w.2.1.2.2;have j:=cH.list_fn w.2.2.2.1;have i:=cI.list_fn w.2.2.2.2;have b:aM (Cx.beside Tryz.prog) [(4,xh)]:=.cons FF .nil
 by_cases a:((mc w:Nat):Int)<=1048576
 rotate_left
 ·have e:=bz a;exact af b [(11,true)] 100 rfl (by simp[aa.cat,aa,e,d,h,g,c,f,j,i,cP.ae,cD.ae,cH.ae,cI.ae]) (AK.au rfl (by simp[aa]))
 have e:=bF a;obtain⟨m,k⟩:=FP (w:=w) (by omega)
 have n:=k.toMO;refine af b [(11,false)] 100 rfl (by simp[aa.cat,aa,e,d,h,g,c,f,j,i,cP.ae,cD.ae,cH.ae,cI.ae];omega) ?_
 have l:aM (Cx.beside Tryz.prog) [(6,xo),(5,sX),(7,Bi [Kc w] (dB (kO w))),(8,w9)]:=.cons FN (.cons Bw (.cons (G9 (wK w k)) (.cons Fv .nil)));refine af l [(21,false),(26,false)] 100 rfl ?_ (AK.au rfl (by simp[aa]))
 simp[aa.cat,aa,d,h,g,c,f,j,i,cP.ae,cD.ae,cH.ae,cI.ae,m,n]
end Go.AM.R1
namespace Go.AM.R1
open Go.Proofs
variable {H:Type}{enc:TypeId×Value->H}{W:World}
abbrev rI:Reads enc Tryz.prog W 3 (λn:Int=>[.int .i64 n]):=.int Tryz.underlying3
abbrev rS:Reads enc Tryz.prog W 9 (λs:Bs=>[.str s]):=.str Tryz.underlying9
theorem NH:Reads enc Tryz.prog W 27 (fL cI).enc:=.sl cI Tryz.underlying27 (by kernel_rfl) (by decide) rI
theorem M3:Reads enc Tryz.prog W 163 cG.enc:=(Reads.struct Tryz.underlying163 (tot:=2) (by kernel_rfl) (.cons rI rfl (n:=1) (by kernel_rfl) (.one rS rfl (by kernel_rfl)))).to λ_=>rfl
theorem M4:Reads enc Tryz.prog W 116 cP.enc:=(Reads.struct Tryz.underlying116 (tot:=2) (by kernel_rfl) (.cons rI rfl (n:=1) (by kernel_rfl) (.one (.sl cG Tryz.underlying114 (by kernel_rfl) (by decide) M3) rfl (by kernel_rfl)))).to λ_=>rfl
theorem HI:Reads enc Tryz.prog W 165 cL.enc:=(Reads.struct Tryz.underlying165 (tot:=2) (by kernel_rfl) (.cons rS rfl (n:=1) (by kernel_rfl) (.one NH rfl (by kernel_rfl)))).to λ_=>rfl
theorem M5:Reads enc Tryz.prog W 120 cD.enc:=(Reads.struct Tryz.underlying120 (tot:=2) (by kernel_rfl) (.cons rI rfl (n:=1) (by kernel_rfl) (.one (.sl cL Tryz.underlying118 (by kernel_rfl) (by decide) HI) rfl (by kernel_rfl)))).to λ_=>rfl
theorem M6:Reads enc Tryz.prog W 133 cH.enc:=(Reads.struct Tryz.underlying133 (tot:=2) (by kernel_rfl) (.cons rI rfl (n:=1) (by kernel_rfl) (.one rI rfl (by kernel_rfl)))).to λ_=>rfl
theorem Qm:Reads enc Tryz.prog W 77 cH.enc:=(Reads.struct Tryz.underlying77 (tot:=2) (by kernel_rfl) (.cons rI rfl (n:=1) (by kernel_rfl) (.one rI rfl (by kernel_rfl)))).to λ_=>rfl
theorem KF:Reads enc Tryz.prog W 26 Rg.enc:=(Reads.struct Tryz.underlying26 (tot:=3) (by kernel_rfl) (.cons (.sl cP Tryz.underlying22 (by kernel_rfl) (by decide) M4) rfl (n:=1) (by kernel_rfl) (.cons (.sl cD Tryz.underlying23 (by kernel_rfl) (by decide) M5) rfl (n:=1) (by kernel_rfl) (.one (.sl cH Tryz.underlying24 (by kernel_rfl) (by decide) M6) rfl (by kernel_rfl))))).to λ_=>rfl
theorem KG:Reads enc Tryz.prog W 29 EE.enc:=(Reads.struct Tryz.underlying29 (tot:=5) (by kernel_rfl) (.cons KF rfl (n:=3) (by kernel_rfl) (.cons NH rfl (n:=1) (by kernel_rfl) (.one NH rfl (by kernel_rfl))))).to λ_=>rfl
theorem Qn:Reads enc Tryz.prog W 31 pe.enc:=(Reads.struct Tryz.underlying31 (tot:=4) (by kernel_rfl) (.cons rI rfl (n:=1) (by kernel_rfl) (.cons rI rfl (n:=1) (by kernel_rfl) (.cons rI rfl (n:=1) (by kernel_rfl) (.one rS rfl (by kernel_rfl)))))).to λ_=>rfl
theorem JV:Reads enc Tryz.prog W 34 F1.enc:=(Reads.struct Tryz.underlying34 (tot:=12) (by kernel_rfl) (.cons rI rfl (n:=1) (by kernel_rfl) (.cons KG rfl (n:=5) (by kernel_rfl) (.cons Qn rfl (n:=4) (by kernel_rfl) (.cons (.sl cH Tryz.underlying32 (by kernel_rfl) (by decide) Qm) rfl (n:=1) (by kernel_rfl) (.one NH rfl (by kernel_rfl))))))).to λ_=>rfl
end Go.AM.R1
namespace Go.AM
open Go.ChangeShapes Go.WideShapes Go.ChangeAt Go.RowKit
theorem we{H:Type}{enc:TypeId×Value->H}{a:Assume}{C:Checked}{os:Os}{f:FuncId}{fn:Func}{s:ChangeSpec}{d:List PathCond}{apart fresh handsOn again:Bool}{X:World->Array Value->Prop}
  (L:∀ (w w':World) (args:Array Value),w.heap=w'.heap->X w args->X w' args)
  (own:ownKnob C.prog.godebug=none) (h:os.Started) (u:C.prog.funcs[f]?=some fn)
  (g:∃ (w:World) (b:Tape) (i:Input),w.os=os/\(w.forCall b i).Shaped C.prog/\i.vars=[]/\Input.okWide C.prog (w.forCall b i) .any w.heap.size f i /\
   ((s.pre enc C.prog fn d apart (w.forCall b i).memory i.args/\X (w.forCall b i).memory i.args)/\sizedMet enc C.prog fn (OpenSpec.ofChange s) apart (w.forCall b i).memory i.args)/\a.holds C.prog (lone (Frame.enter C.prog f i.args .normal) [] (w.forCall b i)))
  (n:∀ (W:World) (base:Nat) (args:Array Value) (ds gs:List (DataW H)) (c:List MemPlace),
   (∀ (j:Nat) t v,fn.params[j]?=some t->args[j]?=some v->Value.okWide C.prog W .any base t v) ->
   DataW.Whole enc C.prog fn.params.toList s.vars apart W args.toList ds gs c ->
   ∃ M last o w' t',runNT C.prog (M+1) (Conc.solo (Conc.G (Frame.enter C.prog f args .normal) []) W) #[]=(.ended o w',t')/\runN C.prog M (Conc.solo (Conc.G (Frame.enter C.prog f args .normal) []) W)=.next last /\
    step C.prog last=.ended o w'/\Conc.Good C.prog (λv y=>s.post enc C.prog fn apart fresh handsOn again W args v y) last o w' t') :
  ReturnsInLeavingWide a C os f .any (λw args=>(s.pre enc C.prog fn d apart w args/\X w args)/\sizedMet enc C.prog fn (OpenSpec.ofChange s) apart w args) (s.post enc C.prog fn apart fresh handsOn again):=by
 refine returnsInLeavingWide_of_good own h g ?_;intro w b i _ _ _ r m p;obtain⟨_,_,_,q,l,_,_,_,_,k⟩:=r;have e:q=fn:=lb (l.symm.trans u);subst e;obtain⟨⟨⟨ds,gs,c,D,K⟩,J⟩,I⟩:=m;have x:=DataW.Whole.of_heap (w':=w.forCall b i) (by rfl) D
 obtain⟨M,last,o,w',t',B,E,F,z⟩:=n (w.forCall b i) w.heap.size i.args ds gs c k x;exact⟨M,last,o,w',t',B,E,F,z.mono λv A=>ChangeSpec.post_blind A⟩
theorem Bg(l:Looks){p:Pinned}{s:OpenSpec}{c:OpenClaim}(n:List (List PathCond))(kinds:List LaidKind)(a:Bool)(b:Bool×String)(d:Bool)
  (w:c.holds p s) (m:∀ D∈n,(c.withDomain D).holds p s) (y:c.wfByText s=true) (e:∀ D∈n,(c.withDomain D).wfByText s=true)
  (g:c.laidByTextAt l p kinds a)
  (i:c.start=.entering) (k:c.noBlocks=false/\c.again=false) (u:p.checked.prog.mainIs=some (b.1,b.2.toList)) (z:(!b.1&&b.2.isEmpty&&!d)=false)
  (v:∀ f fn,p.checked.prog.funcNamed c.func=some f->p.checked.prog.funcs[f]?=some fn->d=p.checked.prog.looks []/\∀ (j:Nat) t,fn.params[j]?=some t->p.checked.prog.wantsStandIn t=false)
  (x:true=c.goesBy p.checked.prog) :
  Claim7.holds p (.plain s) { stood:={ row:=c,standIns:=[],harness:=b,looks:=d },kinds:=[],alts:=n,goes:=true,laidByText:=true,laidKinds:=kinds,laidTests:=a,laidLooks:=l }:=by
 have q:∀ r:OpenClaim,Claim7.isSixth { stood:={ row:=r,standIns:=[],harness:=b,looks:=d },kinds:=[] }=false:=λr=>by simpa[Claim7.isSixth] using z
 refine⟨Claim7.tied_new_at l kinds a (Claim7.new_of_sixth w b d i k u (q c) v) y,λD o=>?_,g,(λh=>by cases h),x⟩
 exact Claim7.tied_new_at l kinds a (Claim7.new_of_sixth (m D o) b d i k u (q _) v) (e D o)
theorem yt{P:Program}{w:World}{r:Reach}{base:Nat}{t:TypeId}{v:Value}{fs:Array Field}(a:P.underlying t=some (.struct fs))(h:Value.okWide P w r base t v):∃ vs:List Value,v=.agg vs.toArray:=by
 simp only[Value.okWide,a] at h;obtain⟨cs,rfl,_⟩:=h;exact⟨cs.toList,by simp⟩
end Go.AM
