/- The row. -/
import Derived.Test.YtcdlknpnfnggfaaGreatDoorA8
import Derived.Test.YtcdlknpnfnggfaaGreatDoorTie
import Derived.Test.YtcdlknpnfnggfaaGreatDoorCards
import Derived.ProofKit
import Derived.OpenShut
import Derived.OpenVars
import Derived.LaidMore
import Derived.Lay
import Derived.SevenTiedAt
import Derived.Below
set_option linter.unusedVariables false
set_option linter.unusedSimpArgs false
set_option linter.defProp false
set_option linter.deprecated false
namespace Go.Proofs.YtcdlknpnfnggfaaGreatDoor
open Go.ChangeShapes Go.WideShapes Go.ChangeAt Go.RowKit
open Go.AM (cd Rd St.top)
theorem own:ownKnob Tryz.prog.godebug=none:=by kernel_rfl
theorem laidOut:laidOutB Tryz.prog=true:=by kernel_rfl
theorem He{w:World}{a:Addr}{v:Value}(h:w.cell? (a.add 0)=some v):a=⟨a.block,a.off,none⟩:=by
 obtain⟨b,o,s⟩:=a;cases s with
 |none=>rfl
 |some q =>
  simp only[Addr.add,aX,World.cell?] at h;split at h
  ·simp at h
  ·cases h
theorem JP{w:World}{a:Addr}{n:Nat}{v:Value}(h:w.cell? (a.add n)=some v):w.cell? ⟨a.block,a.off+n,none⟩=some v:=by
 by_cases e:n=0
 ·subst e;have c:=He h;obtain⟨b,o,s⟩:=a;simp only[Addr.mk.injEq,af] at c;subst c;exact h
 ·simpa only[Addr.add,ak e] using h
theorem PI{n:Int}(h:(Lit.int .u8 n).wf=true):0<=n/\n<=255:=by
 simp only[Lit.wf,IntKind.min,IntKind.max,IntKind.signed,IntKind.bits] at h;simp at h;omega
set_option maxRecDepth 100000 in
theorem wq{H:Type}{enc:TypeId×Value->H}{W:World}{a:Option Addr}{len cap:Nat}{d:DataW H}{p:List MemPlace}(h:DataW.Trod enc Tryz.prog W 0 (λ_=>true) true 22 (.slice a len cap) d p) :
  ∃ b:Nat->Int,Go.AM.R1.Bytes b/\len<=9223372036854775807/\cd [] (St.top W) (.slice a len cap) (.e (.one (.c (.sl false 1 len (Go.AM.R1.Cm b))))):=by
 obtain⟨fuel,v⟩:=h;rcases open_ints Tryz.underlying22 Tryz.underlying5 (by kernel_rfl) v with⟨g,_⟩|⟨x,n,c,f,g,_,B,A,w,_,l,m⟩
 ·simp[Value.cells] at g;obtain⟨rfl,rfl,rfl⟩:=g;exact⟨λ_=>0,λ_=>⟨pI 0,show (0:Int)<=255 by decide⟩,by omega,Rd.jv⟩
 ·simp[Value.cells] at g;obtain⟨rfl,rfl,rfl⟩:=g;simp only[aX] at w;simp only[maxLen] at A;refine⟨λi=>f.getD i 0,λi=>?_,by omega,?_⟩
  ·by_cases hi:i<f.length
   ·have:=m (f.getD i 0) (by rw[List.getD_eq_getElem?_getD,ai hi];exact bJ hi)
    exact PI this
   ·simp[List.getD_eq_getElem?_getD,eQ (by omega:f.length<=i)]
  ·show Rd _ _ _;refine Rd.ny (k:=1) (n:=len) (vs:=(f.take len).map λz=>.int .u8 z) (a:=some x) (b:=x.block) (off:=x.off) (cap:=cap) (t:=false) ⟨by simp;omega,λi hi=>rfl,λi hi j c r=>?_⟩ (λD=>?_) B (by omega) (by simp) (λp u o=>?_)
   ·have q:j=0:=by
     have:=(aD.1 r).1;simp[Go.AM.R1.Cm] at this;omega
    subst q;have C:c=.int .u8 (f.getD i 0):=by
     simp only[Go.AM.R1.Cm,l8,bO] at r;exact r.symm
    subst C;have y:=PI (m (f.getD i 0) (by rw[List.getD_eq_getElem?_getD,ai (by omega:i<f.length)];exact bJ _))
    refine⟨.int .u8 (f.getD i 0),?_,Rd.int y⟩;simp[de,hi,List.getD_eq_getElem?_getD,ai (by omega:i<f.length)]
   ·exact cn some (He (l 0 (by omega)))
   ·have s:p<len:=by
     have:=(aD.1 o).1;simp at this;omega
    have:u=.int .u8 (f.getD p 0):=by
     simp[de,s,ai (by omega:p<f.length)] at o
     rw[<-o];simp[List.getD_eq_getElem?_getD,ai (by omega:p<f.length)]
    subst this;exact JP (l p (by omega))
theorem zj{H:Type}{enc:TypeId×Value->H}{a:Assume}{C:Checked}{os:Os}{f:FuncId}{fn:Func}{s:ChangeSpec}{g:List PathCond}{apart fresh handsOn again:Bool}{X:World->Array Value->Prop}
  (I:∀ (w w':World) (args:Array Value),w.heap=w'.heap->X w args->X w' args)
  (own:ownKnob C.prog.godebug=none) (d:os.Started) (u:C.prog.funcs[f]?=some fn)
  (h:∃ (w:World) (b:Tape) (i:Input),w.os=os/\(w.forCall b i).Shaped C.prog/\i.vars=[]/\Input.okWide C.prog (w.forCall b i) .any w.heap.size f i /\
   ((s.pre enc C.prog fn g apart (w.forCall b i).memory i.args/\X (w.forCall b i).memory i.args)/\sizedMet enc C.prog fn (OpenSpec.ofChange s) apart (w.forCall b i).memory i.args)/\a.holds C.prog (lone (Frame.enter C.prog f i.args .normal) [] (w.forCall b i)))
  (n:∀ (W:World) (base:Nat) (args:Array Value) (ds gs:List (DataW H)) (c:List MemPlace),
   (∀ (j:Nat) t v,fn.params[j]?=some t->args[j]?=some v->Value.okWide C.prog W .any base t v) ->
   DataW.Whole enc C.prog fn.params.toList s.vars apart W args.toList ds gs c ->
   ∃ M last o w' t',runNT C.prog (M+1) (Conc.solo (Conc.G (Frame.enter C.prog f args .normal) []) W) #[]=(.ended o w',t')/\runN C.prog M (Conc.solo (Conc.G (Frame.enter C.prog f args .normal) []) W)=.next last /\
    step C.prog last=.ended o w'/\Conc.Good C.prog (λv z=>s.post enc C.prog fn apart fresh handsOn again W args v z) last o w' t') :
  ReturnsInLeavingWide a C os f .any (λw args=>(s.pre enc C.prog fn g apart w args/\X w args)/\sizedMet enc C.prog fn (OpenSpec.ofChange s) apart w args) (s.post enc C.prog fn apart fresh handsOn again):=by
 refine returnsInLeavingWide_of_good own d h ?_;intro w b i _ _ _ x l p;obtain⟨_,_,_,q,k,_,_,_,_,m⟩:=x;have e:q=fn:=lA (k.symm.trans u);subst e;obtain⟨⟨⟨ds,gs,c,F,L⟩,J⟩,K⟩:=l;have r:=DataW.Whole.of_heap (w':=w.forCall b i) (by rfl) F
 obtain⟨M,last,o,w',t',D,E,y,A⟩:=n (w.forCall b i) w.heap.size i.args ds gs c m r;exact⟨M,last,o,w',t',D,E,y,A.mono λv B=>ChangeSpec.post_blind B⟩
set_option maxRecDepth 100000 in
theorem lifted(os:Os)(a:os.Started)(H:Type)(enc:TypeId×Value->H) :
  ReturnsInLeavingWide {} Tryz.checked os 3 .any (λw args=>(Rows.fnLieKeySpec.pre enc Tryz.prog Tryz.f3 Rows.fnLieKeyRow.domain false w args/\laidMetH Tryz.prog Rows.fnLieKeyRow.laid w)/\sizedMet enc Tryz.prog Tryz.f3 (OpenSpec.ofChange Rows.fnLieKeySpec) false w args)
   (Rows.fnLieKeySpec.post enc Tryz.prog Tryz.f3 false true false false):=by
 refine zj (C:=Tryz.checked) (X:=λw _=>laidMetH Tryz.prog Rows.fnLieKeyRow.laid w) (λ_ _ _ V h=>h.of_heap V) own a Tryz.func3
  (ChangeSpec.witness_shaped (enc:=enc) (C:=Tryz.checked) (os:=os) (X:=λw _=>laidMetH Tryz.prog Rows.fnLieKeyRow.laid w) false (World.laidAll Tryz.prog os Rows.fnLieKeyRow.laid) #[.slice none 0 0,.slice none 0 0] 8 (World.laidAll_os _ _ _)
   (World.shaped_of_ZipB (by kernel_rfl) (by kernel_rfl)) (by kernel_rfl) (by kernel_rfl) (by kernel_rfl)
   (by rw[MakeChecks.laidMetH_plain _ _ _ (by kernel_rfl)];exact laidMet_laidAll _ (by kernel_rfl) (by kernel_rfl))) ?_
 intro W base args ds gs before K6 hW;have c:∀ (j:Nat) t v,Tryz.f3.params[j]?=some t->args[j]?=some v->Value.okWide Tryz.prog W .any base t v:=K6;have D:=hW;obtain⟨p,q,k,O,rfl,_,_⟩:=hW;have Q:DataW.TrodAll enc Tryz.prog W 0 (λ_=>true) true Tryz.f3.params.toList args.toList ds p:=k
 rw[Tryz.params3] at Q c;obtain⟨v0,Z,d0,Y0,S,q0,E,rfl,rfl,N,r0⟩:=trodAll_cons Q;obtain⟨v1,T,d1,Y,U,q1,rfl,rfl,rfl,P,r1⟩:=trodAll_cons r0;obtain⟨rfl,rfl,rfl⟩:=trodAll_nil r1;obtain rfl:args=#[v0,v1]:=by cases args;simp_all
 obtain⟨a0,g,o,rfl⟩:=okWide_slice Tryz.underlying22 (c 0 22 v0 rfl rfl);obtain⟨a1,f,l,rfl⟩:=okWide_slice Tryz.underlying22 (c 1 22 v1 rfl rfl);have R:=N;have I:∀ x∈S,x.block<W.heap.size:=by obtain⟨m,u⟩:=R;exact DataW.trod_lt m _ _ _ u
 have k1:=P;have F:∀ x∈U,x.block<W.heap.size:=by obtain⟨m,u⟩:=k1;exact DataW.trod_lt m _ _ _ u
 clear k K6;obtain⟨b0,z,J,y⟩:=wq N;obtain⟨b1,K,G,A⟩:=wq P;refine Go.AM.cf.Sm (vs:=[.slice a0 g o,.slice a1 f l]) (Go.AM.R1.M0 g f b0 b1 z K J G).EM (by kernel_rfl) ⟨y,A,ab⟩ λ_ v s' hv _ s d=>?_
 have B:Rd s'.M v (.bool true):=hv;cases B;have e:Below W.heap.size W (s'.w.at d):=⟨s.os,s.tape,s.output,s.size,s.block⟩;obtain⟨n,g2,rfl⟩:∃ n g2,gs=[n,g2]:=by
  have i:=O;rcases gs with _|⟨n,_|⟨g2,_|⟨g3,r⟩⟩⟩
  ·exact i.elim
  ·obtain⟨_,_,_,_,_,_,_,_,_,_,h,_⟩:=i;exact h.elim
  ·exact⟨n,g2,rfl⟩
  ·obtain⟨_,_,_,_,_,_,_,_,_,_,h,_⟩:=i;obtain⟨_,_,_,_,_,_,_,_,_,_,h,_⟩:=h;exact h.elim
 have L:DataW.TrodVars enc Tryz.prog (s'.w.at d) (λb=>decide (b<W.heap.size)) Rows.fnLieKeySpec.vars [n,g2] q:=Below.trodVars laidOut e (by kernel_rfl) O
 exact⟨_,_,_,[],_,_,D,trodAll_mk1 (shut_bool Tryz.underlying4 _),(trodAll_cons_mk (Below.trod laidOut (by kernel_rfl) (mf (by kernel_rfl)) R e I) (trodAll_cons_mk (Below.trod laidOut (by kernel_rfl) (mf (by kernel_rfl)) k1 e F) trodAll_mk0)),L,e.frame _,λh=>by cases h⟩
theorem over:Rows.FnLieKeySaid :=
 OpenClaim.holds_of_wide_leaving 3 Tryz.f3 rfl rfl rfl rfl rfl rfl rfl ⟨rfl,rfl,rfl,rfl,rfl⟩ rfl rfl rfl rfl rfl (by kernel_rfl) Tryz.func3 (by kernel_rfl)
  (mf (by kernel_rfl)) (by unfold Func.isWrapper;first|(rw[an (by decide +kernel)];kernel_rfl)|(rw[ak (by decide +kernel)];exact⟨rfl,rfl⟩))
  (λos started H enc _=>lifted os started H enc)
theorem DZ(l:Looks){p:Pinned}{s:OpenSpec}{c:OpenClaim}(m:List (List PathCond))(kinds:List LaidKind)(a:Bool)(b:Bool×String)(d:Bool)
  (y:c.holds p s) (n:∀ D∈m,(c.withDomain D).holds p s) (z:c.wfByText s=true) (g:∀ D∈m,(c.withDomain D).wfByText s=true)
  (e:c.laidByTextAt l p kinds a)
  (k:c.start=.entering) (i:c.noBlocks=false/\c.again=false) (q:p.checked.prog.mainIs=some (b.1,b.2.toList)) (x:(!b.1&&b.2.isEmpty&&!d)=false)
  (v:∀ f fn,p.checked.prog.funcNamed c.func=some f->p.checked.prog.funcs[f]?=some fn->d=p.checked.prog.looks []/\∀ (j:Nat) t,fn.params[j]?=some t->p.checked.prog.wantsStandIn t=false)
  (w:true=c.goesBy p.checked.prog) :
  Claim7.holds p (.plain s) { stood:={ row:=c,standIns:=[],harness:=b,looks:=d },kinds:=[],alts:=m,goes:=true,laidByText:=true,laidKinds:=kinds,laidTests:=a,laidLooks:=l }:=by
 have u:∀ r:OpenClaim,Claim7.isSixth { stood:={ row:=r,standIns:=[],harness:=b,looks:=d },kinds:=[] }=false:=λr=>by simpa[Claim7.isSixth] using x
 refine⟨Claim7.tied_new_at l kinds a (Claim7.new_of_sixth y b d k i q (u c) v) z,λD o=>?_,e,(λh=>by cases h),w⟩
 exact Claim7.tied_new_at l kinds a (Claim7.new_of_sixth (n D o) b d k i q (u _) v) (g D o)
theorem fnLieKey_proved:Rows.FnLieKeyCardSaid :=
 DZ .later [] [.data,.sentinel,.sentinel,.pinned] true (true,"aa1ce13d317d273ea12f2c18bacf10c94ea1d9430e3d23bf173a3667a1ff2921") false over (λ_ h=>by cases h) (by kernel_rfl) (λ_ h=>by cases h) fnLieKey_row_tie rfl ⟨rfl,rfl⟩ (by kernel_rfl) rfl
  (λf fn hf Nt=>by
   obtain rfl:f=3:=lA ((show Tryz.prog.funcNamed "loop.example/depositary/laws.FnLieKey"=some 3 by kernel_rfl).symm.trans hf) |>.symm
   obtain rfl:fn=Tryz.f3:=(lA (Tryz.func3.symm.trans Nt)).symm;exact⟨by kernel_rfl,λj t b=>by
    rw[Tryz.params3] at b;have c:t∈[22]:=by
     have:=sh b;simp at this ⊢;exact this
    have a:([22].all λu=>!Tryz.prog.wantsStandIn u)=true:=by kernel_rfl
    exact(show Tryz.prog.wantsStandIn t=false by simpa using eR.1 a t c)⟩)
  (by kernel_rfl)
#print axioms fnLieKey_proved
end Go.Proofs.YtcdlknpnfnggfaaGreatDoor

